/- The walks of functions of the program, laid by a program of this session over the translation: each '.calls' says that the Go function comes to what its Lean function tells. Conditions: as each theorem's head says. -/
import Derived.Test.YtpdmiookdmncpaaDoorX0
import Derived.Test.YtpdmiookdmncpaaDoorX9
import Derived.Test.YtpdmiookdmncpaaDoorX10
namespace Go.Proofs.YtpdmiookdmncpaaDoor.X
open Go.RowKit Go.Proofs.YtpdmiookdmncpaaDoorW.PrintWords Go.Proofs.YtpdmiookdmncpaaDoorW.PrintLast Go.Proofs.YtpdmiookdmncpaaDoorW.PrintMore
attribute [local go_sem] max2_int min2_int max_two min_two max_three min_three max_four min_four   -- for this text's walks alone
set_option linter.unusedVariables false
set_option linter.unusedSimpArgs false

/-! ### carrefourlaw12_WebsterNext: function 6 -/
def carrefourlaw12_WebsterNext.j0 : Nat → Int → Int → Bool → Bool → Int → Int → Int → Int → Int → List (S55) → List (S120) → Int → Int → Option (Bool)
  | 0, _, _, _, _, _, _, _, _, _, _, _, _, _ => none
  | k + 1, x1, x5, x6, x73, x290000, x290001, x290002, x290003, x290004, x290005, x290006, x290007, x290008 => if x73 = true then (some false) else (if x6 = true then (if x5 = x290000 then ((carrefourlaw12_awake.f k).bind fun t297 => (some t297)) else (if (wrap64 (x5 - x290002)) < x1 then ((carrefourlaw12_awake.f k).bind fun t298 => (some t298)) else (some false))) else (if x290002 > (wrap64 (x290001 - x5)) then ((carrefourlaw12_awake.f k).bind fun t299 => (some t299)) else (some false)))
def carrefourlaw12_WebsterNext.f (k : Nat) (a0_0 : Int) (a0_1 : Int) (a0_2 : Int) (a0_3 : Int) (a0_4 : Int) (l0_5 : List (S55)) (l0_6 : List (S120)) (a0_7 : Int) (a0_8 : Int) (a1 : Int) : Option (Bool) := (webster_Allowed.f a0_0 a0_1 a0_2 a0_3 a0_4 l0_5 l0_6 a0_7 a0_8 a1).bind fun bt290 => ((carrefourref12_Cycles.f a0_0 a0_1 a0_2 a0_3 a0_4 l0_5 l0_6 a0_7 a0_8).bind fun t292 => (if t292 = true then ((webster_Allowed.f a0_0 a0_1 a0_2 a0_3 a0_4 l0_5 l0_6 a0_7 a0_8 bt290.1).bind fun bt295 => (if bt295.1 = bt290.1 then (if bt295.2 = true then (if bt290.1 < a0_0 then (carrefourlaw12_WebsterNext.j0 k a1 bt290.1 bt290.2 true a0_0 a0_1 a0_2 a0_3 a0_4 l0_5 l0_6 a0_7 a0_8) else (if bt290.1 > a0_1 then (carrefourlaw12_WebsterNext.j0 k a1 bt290.1 bt290.2 true a0_0 a0_1 a0_2 a0_3 a0_4 l0_5 l0_6 a0_7 a0_8) else (if a0_2 = 0 then (none) else (if (Int.tmod (wrap64 (bt290.1 - a0_0)) a0_2) = 0 then (carrefourlaw12_WebsterNext.j0 k a1 bt290.1 bt290.2 (bt290.2 != (decide (bt290.1 ≥ a1))) a0_0 a0_1 a0_2 a0_3 a0_4 l0_5 l0_6 a0_7 a0_8) else (carrefourlaw12_WebsterNext.j0 k a1 bt290.1 bt290.2 true a0_0 a0_1 a0_2 a0_3 a0_4 l0_5 l0_6 a0_7 a0_8))))) else (carrefourlaw12_WebsterNext.j0 k a1 bt290.1 bt290.2 true a0_0 a0_1 a0_2 a0_3 a0_4 l0_5 l0_6 a0_7 a0_8)) else (carrefourlaw12_WebsterNext.j0 k a1 bt290.1 bt290.2 true a0_0 a0_1 a0_2 a0_3 a0_4 l0_5 l0_6 a0_7 a0_8))) else (if bt290.1 = 0 then (if bt290.2 = true then (some false) else ((webster_Count.f a0_0 a0_1 a0_2 a0_3 a0_4 l0_5 l0_6 a0_7 a0_8).bind fun t293 => (if t293 = 0 then ((carrefourlaw12_awake.f k).bind fun t294 => (some t294)) else (some false)))) else (some false))))
theorem carrefourlaw12_WebsterNext.mono_l : ∀ k, (∀ y0 y1 y2 y3 y4 y5 y6 y7 y8 y9 y10 y11 y12, LeO (carrefourlaw12_WebsterNext.j0 k y0 y1 y2 y3 y4 y5 y6 y7 y8 y9 y10 y11 y12) (carrefourlaw12_WebsterNext.j0 (k + 1) y0 y1 y2 y3 y4 y5 y6 y7 y8 y9 y10 y11 y12))
  | 0 => fun _ _ _ _ _ _ _ _ _ _ _ _ _ r h => by simp [carrefourlaw12_WebsterNext.j0] at h
  | k + 1 => by
    have ih0 := carrefourlaw12_WebsterNext.mono_l k
    · intro y0 y1 y2 y3 y4 y5 y6 y7 y8 y9 y10 y11 y12
      unfold carrefourlaw12_WebsterNext.j0
      repeat' first
      | (with_reducible exact ih0 _ _ _ _ _ _ _ _ _ _ _ _ _)
      | (with_reducible exact carrefourlaw12_awake.mono _)
      | (with_reducible exact LeO.refl _)
      | (with_reducible exact LeO.none _)
      | (with_reducible refine LeO.ite ?_ ?_)
      | (with_reducible refine LeO.bind ?_ (fun _ => ?_))
      | exact ih0 _ _ _ _ _ _ _ _ _ _ _ _ _
      | exact carrefourlaw12_awake.mono _
      | exact LeO.none _
      | refine LeO.ite ?_ ?_
      | refine LeO.bind ?_ (fun _ => ?_)
theorem carrefourlaw12_WebsterNext.mono : ∀ a0 a1 a2 a3 a4 a5 a6 a7 a8 a9 k, LeO (carrefourlaw12_WebsterNext.f k a0 a1 a2 a3 a4 a5 a6 a7 a8 a9) (carrefourlaw12_WebsterNext.f (k + 1) a0 a1 a2 a3 a4 a5 a6 a7 a8 a9) := by
  intro a0 a1 a2 a3 a4 a5 a6 a7 a8 a9 k
  have ih0 := carrefourlaw12_WebsterNext.mono_l k
  unfold carrefourlaw12_WebsterNext.f
  repeat' first
      | (with_reducible exact ih0 _ _ _ _ _ _ _ _ _ _ _ _ _)
      | (with_reducible exact carrefourlaw12_awake.mono _)
      | (with_reducible exact LeO.refl _)
      | (with_reducible exact LeO.none _)
      | (with_reducible refine LeO.ite ?_ ?_)
      | (with_reducible refine LeO.bind ?_ (fun _ => ?_))
      | exact ih0 _ _ _ _ _ _ _ _ _ _ _ _ _
      | exact carrefourlaw12_awake.mono _
      | exact LeO.none _
      | refine LeO.ite ?_ ?_
      | refine LeO.bind ?_ (fun _ => ?_)
set_option maxHeartbeats 8000000 in
set_option maxRecDepth 100000 in
theorem carrefourlaw12_WebsterNext.calls (k : Nat) (a0_0 : Int) (a0_1 : Int) (a0_2 : Int) (a0_3 : Int) (a0_4 : Int) (A0_5 : Option Addr) (c0_5 : Nat) (l0_5 : List (S55)) (A0_6 : Option Addr) (c0_6 : Nat) (l0_6 : List (S120)) (a0_7 : Int) (a0_8 : Int) (a1 : Int) (r : Bool) (w : World) (hr0_5 : Kd.C k55 w A0_5 l0_5.length l0_5) (hc0_5 : l0_5.length ≤ c0_5) (hr0_6 : Kd.C k120 w A0_6 l0_6.length l0_6) (hc0_6 : l0_6.length ≤ c0_6) (h : carrefourlaw12_WebsterNext.f k a0_0 a0_1 a0_2 a0_3 a0_4 l0_5 l0_6 a0_7 a0_8 a1 = some r) (hT : TabOK w) :
    Calls Tryd.prog 6 #[.agg #[.int .i64 a0_0, .int .i64 a0_1, .int .i64 a0_2, .int .i64 a0_3, .int .i64 a0_4, .slice A0_5 l0_5.length c0_5, .slice A0_6 l0_6.length c0_6, .int .i64 a0_7, .int .i64 a0_8], .int .i64 a1] w fun e w' => e = .returned (.bool r) ∧ Below w.heap.size w w' := by
  have GT := Aside0.mk hT
  clear hT
  have hu32 := Tryd.underlying32
  have HR0_5 := Aside0.mk hr0_5
  have HC0_5 := Aside0.mk hc0_5
  clear hr0_5 hc0_5
  have HR0_6 := Aside0.mk hr0_6
  have HC0_6 := Aside0.mk hc0_6
  clear hr0_6 hc0_6
  have HB := Aside0.mk (Below.refl w.heap.size w)
  have H : ((webster_Allowed.f a0_0 a0_1 a0_2 a0_3 a0_4 l0_5 l0_6 a0_7 a0_8 a1).bind fun bt290 => ((carrefourref12_Cycles.f a0_0 a0_1 a0_2 a0_3 a0_4 l0_5 l0_6 a0_7 a0_8).bind fun t292 => (if t292 = true then ((webster_Allowed.f a0_0 a0_1 a0_2 a0_3 a0_4 l0_5 l0_6 a0_7 a0_8 bt290.1).bind fun bt295 => (if bt295.1 = bt290.1 then (if bt295.2 = true then (if bt290.1 < a0_0 then (carrefourlaw12_WebsterNext.j0 k a1 bt290.1 bt290.2 true a0_0 a0_1 a0_2 a0_3 a0_4 l0_5 l0_6 a0_7 a0_8) else (if bt290.1 > a0_1 then (carrefourlaw12_WebsterNext.j0 k a1 bt290.1 bt290.2 true a0_0 a0_1 a0_2 a0_3 a0_4 l0_5 l0_6 a0_7 a0_8) else (if a0_2 = 0 then (none) else (if (Int.tmod (wrap64 (bt290.1 - a0_0)) a0_2) = 0 then (carrefourlaw12_WebsterNext.j0 k a1 bt290.1 bt290.2 (bt290.2 != (decide (bt290.1 ≥ a1))) a0_0 a0_1 a0_2 a0_3 a0_4 l0_5 l0_6 a0_7 a0_8) else (carrefourlaw12_WebsterNext.j0 k a1 bt290.1 bt290.2 true a0_0 a0_1 a0_2 a0_3 a0_4 l0_5 l0_6 a0_7 a0_8))))) else (carrefourlaw12_WebsterNext.j0 k a1 bt290.1 bt290.2 true a0_0 a0_1 a0_2 a0_3 a0_4 l0_5 l0_6 a0_7 a0_8)) else (carrefourlaw12_WebsterNext.j0 k a1 bt290.1 bt290.2 true a0_0 a0_1 a0_2 a0_3 a0_4 l0_5 l0_6 a0_7 a0_8))) else (if bt290.1 = 0 then (if bt290.2 = true then (some false) else ((webster_Count.f a0_0 a0_1 a0_2 a0_3 a0_4 l0_5 l0_6 a0_7 a0_8).bind fun t293 => (if t293 = 0 then ((carrefourlaw12_awake.f k).bind fun t294 => (some t294)) else (some false)))) else (some false))))) = some r := h
  clear h
  replace H := Option.bind_eq_some_iff.mp H
  obtain ⟨⟨t290, t291⟩, A30, H⟩ := H
  replace H : ((carrefourref12_Cycles.f a0_0 a0_1 a0_2 a0_3 a0_4 l0_5 l0_6 a0_7 a0_8).bind fun t292 => (if t292 = true then ((webster_Allowed.f a0_0 a0_1 a0_2 a0_3 a0_4 l0_5 l0_6 a0_7 a0_8 t290).bind fun bt295 => (if bt295.1 = t290 then (if bt295.2 = true then (if t290 < a0_0 then (carrefourlaw12_WebsterNext.j0 k a1 t290 t291 true a0_0 a0_1 a0_2 a0_3 a0_4 l0_5 l0_6 a0_7 a0_8) else (if t290 > a0_1 then (carrefourlaw12_WebsterNext.j0 k a1 t290 t291 true a0_0 a0_1 a0_2 a0_3 a0_4 l0_5 l0_6 a0_7 a0_8) else (if a0_2 = 0 then (none) else (if (Int.tmod (wrap64 (t290 - a0_0)) a0_2) = 0 then (carrefourlaw12_WebsterNext.j0 k a1 t290 t291 (t291 != (decide (t290 ≥ a1))) a0_0 a0_1 a0_2 a0_3 a0_4 l0_5 l0_6 a0_7 a0_8) else (carrefourlaw12_WebsterNext.j0 k a1 t290 t291 true a0_0 a0_1 a0_2 a0_3 a0_4 l0_5 l0_6 a0_7 a0_8))))) else (carrefourlaw12_WebsterNext.j0 k a1 t290 t291 true a0_0 a0_1 a0_2 a0_3 a0_4 l0_5 l0_6 a0_7 a0_8)) else (carrefourlaw12_WebsterNext.j0 k a1 t290 t291 true a0_0 a0_1 a0_2 a0_3 a0_4 l0_5 l0_6 a0_7 a0_8))) else (if t290 = 0 then (if t291 = true then (some false) else ((webster_Count.f a0_0 a0_1 a0_2 a0_3 a0_4 l0_5 l0_6 a0_7 a0_8).bind fun t293 => (if t293 = 0 then ((carrefourlaw12_awake.f k).bind fun t294 => (some t294)) else (some false)))) else (some false)))) = some r := H
  have A3 := Aside0.mk A30
  clear A30
  replace H := Option.bind_eq_some_iff.mp H
  obtain ⟨t292, A40, H⟩ := H
  replace H : (if t292 = true then ((webster_Allowed.f a0_0 a0_1 a0_2 a0_3 a0_4 l0_5 l0_6 a0_7 a0_8 t290).bind fun bt295 => (if bt295.1 = t290 then (if bt295.2 = true then (if t290 < a0_0 then (carrefourlaw12_WebsterNext.j0 k a1 t290 t291 true a0_0 a0_1 a0_2 a0_3 a0_4 l0_5 l0_6 a0_7 a0_8) else (if t290 > a0_1 then (carrefourlaw12_WebsterNext.j0 k a1 t290 t291 true a0_0 a0_1 a0_2 a0_3 a0_4 l0_5 l0_6 a0_7 a0_8) else (if a0_2 = 0 then (none) else (if (Int.tmod (wrap64 (t290 - a0_0)) a0_2) = 0 then (carrefourlaw12_WebsterNext.j0 k a1 t290 t291 (t291 != (decide (t290 ≥ a1))) a0_0 a0_1 a0_2 a0_3 a0_4 l0_5 l0_6 a0_7 a0_8) else (carrefourlaw12_WebsterNext.j0 k a1 t290 t291 true a0_0 a0_1 a0_2 a0_3 a0_4 l0_5 l0_6 a0_7 a0_8))))) else (carrefourlaw12_WebsterNext.j0 k a1 t290 t291 true a0_0 a0_1 a0_2 a0_3 a0_4 l0_5 l0_6 a0_7 a0_8)) else (carrefourlaw12_WebsterNext.j0 k a1 t290 t291 true a0_0 a0_1 a0_2 a0_3 a0_4 l0_5 l0_6 a0_7 a0_8))) else (if t290 = 0 then (if t291 = true then (some false) else ((webster_Count.f a0_0 a0_1 a0_2 a0_3 a0_4 l0_5 l0_6 a0_7 a0_8).bind fun t293 => (if t293 = 0 then ((carrefourlaw12_awake.f k).bind fun t294 => (some t294)) else (some false)))) else (some false))) = some r := H
  have A4 := Aside0.mk A40
  clear A40
  by_cases c5 : t292 = true
  · subst c5
    have H1 : ((webster_Allowed.f a0_0 a0_1 a0_2 a0_3 a0_4 l0_5 l0_6 a0_7 a0_8 t290).bind fun bt295 => (if bt295.1 = t290 then (if bt295.2 = true then (if t290 < a0_0 then (carrefourlaw12_WebsterNext.j0 k a1 t290 t291 true a0_0 a0_1 a0_2 a0_3 a0_4 l0_5 l0_6 a0_7 a0_8) else (if t290 > a0_1 then (carrefourlaw12_WebsterNext.j0 k a1 t290 t291 true a0_0 a0_1 a0_2 a0_3 a0_4 l0_5 l0_6 a0_7 a0_8) else (if a0_2 = 0 then (none) else (if (Int.tmod (wrap64 (t290 - a0_0)) a0_2) = 0 then (carrefourlaw12_WebsterNext.j0 k a1 t290 t291 (t291 != (decide (t290 ≥ a1))) a0_0 a0_1 a0_2 a0_3 a0_4 l0_5 l0_6 a0_7 a0_8) else (carrefourlaw12_WebsterNext.j0 k a1 t290 t291 true a0_0 a0_1 a0_2 a0_3 a0_4 l0_5 l0_6 a0_7 a0_8))))) else (carrefourlaw12_WebsterNext.j0 k a1 t290 t291 true a0_0 a0_1 a0_2 a0_3 a0_4 l0_5 l0_6 a0_7 a0_8)) else (carrefourlaw12_WebsterNext.j0 k a1 t290 t291 true a0_0 a0_1 a0_2 a0_3 a0_4 l0_5 l0_6 a0_7 a0_8))) = some r := by rw [if_pos rfl] at H; exact H
    clear H
    have H := H1
    clear H1
    replace H := Option.bind_eq_some_iff.mp H
    obtain ⟨⟨t295, t296⟩, A60, H⟩ := H
    replace H : (if t295 = t290 then (if t296 = true then (if t290 < a0_0 then (carrefourlaw12_WebsterNext.j0 k a1 t290 t291 true a0_0 a0_1 a0_2 a0_3 a0_4 l0_5 l0_6 a0_7 a0_8) else (if t290 > a0_1 then (carrefourlaw12_WebsterNext.j0 k a1 t290 t291 true a0_0 a0_1 a0_2 a0_3 a0_4 l0_5 l0_6 a0_7 a0_8) else (if a0_2 = 0 then (none) else (if (Int.tmod (wrap64 (t290 - a0_0)) a0_2) = 0 then (carrefourlaw12_WebsterNext.j0 k a1 t290 t291 (t291 != (decide (t290 ≥ a1))) a0_0 a0_1 a0_2 a0_3 a0_4 l0_5 l0_6 a0_7 a0_8) else (carrefourlaw12_WebsterNext.j0 k a1 t290 t291 true a0_0 a0_1 a0_2 a0_3 a0_4 l0_5 l0_6 a0_7 a0_8))))) else (carrefourlaw12_WebsterNext.j0 k a1 t290 t291 true a0_0 a0_1 a0_2 a0_3 a0_4 l0_5 l0_6 a0_7 a0_8)) else (carrefourlaw12_WebsterNext.j0 k a1 t290 t291 true a0_0 a0_1 a0_2 a0_3 a0_4 l0_5 l0_6 a0_7 a0_8)) = some r := H
    have A6 := Aside0.mk A60
    clear A60
    have HC7 := Aside0.mk H
    clear H
    go_enter Tryd.func6, Tryd.ntmps6
    go_upto_region 5 with (first | ((with_reducible refine gate_dst (N := 2) rfl ?_); refine box_event ?hg (N := 2) ?hd (cs := #[.int .i64 a0_0, .int .i64 a0_1, .int .i64 a0_2, .int .i64 a0_3, .int .i64 a0_4, .slice A0_5 l0_5.length c0_5, .slice A0_6 l0_6.length c0_6, .int .i64 a0_7, .int .i64 a0_8]) (t := 32) ?hr ?_; (case hd => rfl); (case hg => rfl); (case hr => first | (go_simp; done) | (go_simp; rfl)); intro gb289 hg w8 hbox hb; have BK289 := Aside0.mk (hbox); have GW289 := bz HB hg; have GE289 := bz HB hg; replace HB := bs HB hb; clear hb hbox hg; have hcz9_0 := bc (v := .int .i64 a0_0) BK289 0 rfl; have hcz9_1 := bc (v := .int .i64 a0_1) BK289 1 rfl; have hcz9_2 := bc (v := .int .i64 a0_2) BK289 2 rfl; have hcz9_3 := bc (v := .int .i64 a0_3) BK289 3 rfl; have hcz9_4 := bc (v := .int .i64 a0_4) BK289 4 rfl; have hcz9_5 := bc (v := .slice A0_5 l0_5.length c0_5) BK289 5 rfl; have hcz9_6 := bc (v := .slice A0_6 l0_6.length c0_6) BK289 6 rfl; have hcz9_7 := bc (v := .int .i64 a0_7) BK289 7 rfl; have hcz9_8 := bc (v := .int .i64 a0_8) BK289 8 rfl; have hfz9_0 := blk_frozen BK289.out 0; have hfz9_1 := blk_frozen BK289.out 1; have hfz9_2 := blk_frozen BK289.out 2; have hfz9_3 := blk_frozen BK289.out 3; have hfz9_4 := blk_frozen BK289.out 4; have hfz9_5 := blk_frozen BK289.out 5; have hfz9_6 := blk_frozen BK289.out 6; have hfz9_7 := blk_frozen BK289.out 7; have hfz9_8 := blk_frozen BK289.out 8) | ((with_reducible refine gate_callee (f := 13) rfl ?_); refine goesL_ (some 12) rfl rfl Tryd.func13 (by kernel_rfl) rfl #[.agg #[.int .i64 a0_0, .int .i64 a0_1, .int .i64 a0_2, .int .i64 a0_3, .int .i64 a0_4, .slice A0_5 l0_5.length c0_5, .slice A0_6 l0_6.length c0_6, .int .i64 a0_7, .int .i64 a0_8], .int .i64 a1] rfl (by (try simp only [List.map_toArray, List.map_cons, List.map_nil]); first | done | rfl | (simp only [List.length_drop, List.length_take]; rfl)) ?_; (with_reducible refine (webster_Allowed.calls a0_0 a0_1 a0_2 a0_3 a0_4 _ _ l0_5 _ _ l0_6 a0_7 a0_8 a1 t290 t291 _ ?side1 ?side2 ?side3 ?side4 A3.out).mono ?_); (case side1 => repeat (first | exact (Kd.C_below HR0_5.out HB.out) | (with_reducible refine Kd.C_alloc ?_ _) | (with_reducible refine Kd.C_drewN ?_ _) | (with_reducible refine Kd.C_drew ?_))); (case side2 => exact HC0_5.out); (case side3 => repeat (first | exact (Kd.C_below HR0_6.out HB.out) | (with_reducible refine Kd.C_alloc ?_ _) | (with_reducible refine Kd.C_drewN ?_ _) | (with_reducible refine Kd.C_drew ?_))); (case side4 => exact HC0_6.out); rintro e w10 ⟨rfl, hb⟩; refine ⟨_, rfl, ?_⟩; replace BK289 := bb BK289 hb; replace HB := bs HB hb; (try clear hb); (try clear hb2); (try clear hk); (try clear hi); have hcz11_0 := bc (v := .int .i64 a0_0) BK289 0 rfl; have hcz11_1 := bc (v := .int .i64 a0_1) BK289 1 rfl; have hcz11_2 := bc (v := .int .i64 a0_2) BK289 2 rfl; have hcz11_3 := bc (v := .int .i64 a0_3) BK289 3 rfl; have hcz11_4 := bc (v := .int .i64 a0_4) BK289 4 rfl; have hcz11_5 := bc (v := .slice A0_5 l0_5.length c0_5) BK289 5 rfl; have hcz11_6 := bc (v := .slice A0_6 l0_6.length c0_6) BK289 6 rfl; have hcz11_7 := bc (v := .int .i64 a0_7) BK289 7 rfl; have hcz11_8 := bc (v := .int .i64 a0_8) BK289 8 rfl; have hfz11_0 := blk_frozen BK289.out 0; have hfz11_1 := blk_frozen BK289.out 1; have hfz11_2 := blk_frozen BK289.out 2; have hfz11_3 := blk_frozen BK289.out 3; have hfz11_4 := blk_frozen BK289.out 4; have hfz11_5 := blk_frozen BK289.out 5; have hfz11_6 := blk_frozen BK289.out 6; have hfz11_7 := blk_frozen BK289.out 7; have hfz11_8 := blk_frozen BK289.out 8) | ((with_reducible refine gate_callee (f := 20) rfl ?_); refine goesL_ (some 16) rfl rfl Tryd.func20 (by kernel_rfl) rfl #[.agg #[.int .i64 a0_0, .int .i64 a0_1, .int .i64 a0_2, .int .i64 a0_3, .int .i64 a0_4, .slice A0_5 l0_5.length c0_5, .slice A0_6 l0_6.length c0_6, .int .i64 a0_7, .int .i64 a0_8]] rfl (by (try simp only [List.map_toArray, List.map_cons, List.map_nil]); first | done | rfl | (simp only [List.length_drop, List.length_take]; rfl)) ?_; (with_reducible refine (carrefourref12_Cycles.calls a0_0 a0_1 a0_2 a0_3 a0_4 _ _ l0_5 _ _ l0_6 a0_7 a0_8 true _ ?side1 ?side2 ?side3 ?side4 A4.out).mono ?_); (case side1 => repeat (first | exact (Kd.C_below HR0_5.out HB.out) | (with_reducible refine Kd.C_alloc ?_ _) | (with_reducible refine Kd.C_drewN ?_ _) | (with_reducible refine Kd.C_drew ?_))); (case side2 => exact HC0_5.out); (case side3 => repeat (first | exact (Kd.C_below HR0_6.out HB.out) | (with_reducible refine Kd.C_alloc ?_ _) | (with_reducible refine Kd.C_drewN ?_ _) | (with_reducible refine Kd.C_drew ?_))); (case side4 => exact HC0_6.out); rintro e w12 ⟨rfl, hb⟩; refine ⟨_, rfl, ?_⟩; replace BK289 := bb BK289 hb; replace HB := bs HB hb; (try clear hb); (try clear hb2); (try clear hk); (try clear hi); have hcz13_0 := bc (v := .int .i64 a0_0) BK289 0 rfl; have hcz13_1 := bc (v := .int .i64 a0_1) BK289 1 rfl; have hcz13_2 := bc (v := .int .i64 a0_2) BK289 2 rfl; have hcz13_3 := bc (v := .int .i64 a0_3) BK289 3 rfl; have hcz13_4 := bc (v := .int .i64 a0_4) BK289 4 rfl; have hcz13_5 := bc (v := .slice A0_5 l0_5.length c0_5) BK289 5 rfl; have hcz13_6 := bc (v := .slice A0_6 l0_6.length c0_6) BK289 6 rfl; have hcz13_7 := bc (v := .int .i64 a0_7) BK289 7 rfl; have hcz13_8 := bc (v := .int .i64 a0_8) BK289 8 rfl; have hfz13_0 := blk_frozen BK289.out 0; have hfz13_1 := blk_frozen BK289.out 1; have hfz13_2 := blk_frozen BK289.out 2; have hfz13_3 := blk_frozen BK289.out 3; have hfz13_4 := blk_frozen BK289.out 4; have hfz13_5 := blk_frozen BK289.out 5; have hfz13_6 := blk_frozen BK289.out 6; have hfz13_7 := blk_frozen BK289.out 7; have hfz13_8 := blk_frozen BK289.out 8) | ((with_reducible refine gate_callee (f := 13) rfl ?_); refine goesL_ (some 35) rfl rfl Tryd.func13 (by kernel_rfl) rfl #[.agg #[.int .i64 a0_0, .int .i64 a0_1, .int .i64 a0_2, .int .i64 a0_3, .int .i64 a0_4, .slice A0_5 l0_5.length c0_5, .slice A0_6 l0_6.length c0_6, .int .i64 a0_7, .int .i64 a0_8], .int .i64 t290] rfl (by (try simp only [List.map_toArray, List.map_cons, List.map_nil]); first | done | rfl | (simp only [List.length_drop, List.length_take]; rfl)) ?_; (with_reducible refine (webster_Allowed.calls a0_0 a0_1 a0_2 a0_3 a0_4 _ _ l0_5 _ _ l0_6 a0_7 a0_8 t290 t295 t296 _ ?side1 ?side2 ?side3 ?side4 A6.out).mono ?_); (case side1 => repeat (first | exact (Kd.C_below HR0_5.out HB.out) | (with_reducible refine Kd.C_alloc ?_ _) | (with_reducible refine Kd.C_drewN ?_ _) | (with_reducible refine Kd.C_drew ?_))); (case side2 => exact HC0_5.out); (case side3 => repeat (first | exact (Kd.C_below HR0_6.out HB.out) | (with_reducible refine Kd.C_alloc ?_ _) | (with_reducible refine Kd.C_drewN ?_ _) | (with_reducible refine Kd.C_drew ?_))); (case side4 => exact HC0_6.out); rintro e w14 ⟨rfl, hb⟩; refine ⟨_, rfl, ?_⟩; replace BK289 := bb BK289 hb; replace HB := bs HB hb; (try clear hb); (try clear hb2); (try clear hk); (try clear hi)))
    (try simp only [Act.put, List.setIfInBounds_toArray, List.set_cons_zero, List.set_cons_succ])
    go_cut [73] (fun v73 wc => ∃ (kq : Nat) (x73_6 : Bool), v73 = .bool x73_6 ∧ Aside0 (carrefourlaw12_WebsterNext.j0 kq a1 t290 t291 x73_6 a0_0 a0_1 a0_2 a0_3 a0_4 l0_5 l0_6 a0_7 a0_8 = some r) ∧ Aside0 (kq ≤ k) ∧ Aside0 (wc.heap[gb289]? = some (.cells #[.int .i64 a0_0, .int .i64 a0_1, .int .i64 a0_2, .int .i64 a0_3, .int .i64 a0_4, (.slice A0_5 l0_5.length c0_5), (.slice A0_6 l0_6.length c0_6), .int .i64 a0_7, .int .i64 a0_8] 32 (0, 0))) ∧ Aside0 (Below w.heap.size w wc))
    case first =>
      have H := HC7.out
      clear HC7
      by_cases c15 : t295 = t290
      · rw [if_pos c15] at H
        have c15b0 : (t295 == t290) = true := beq_iff_eq.mpr c15
        have c15b1 : (t295 != t290) = false := bne_eq_false_iff_eq.mpr c15
        clear c15
        (first | rw [c15b0] | (simp only [i64_w, i32_w]; rw [c15b0]) | skip)
        by_cases c16 : t296 = true
        · subst c16
          have H1 : (if t290 < a0_0 then (carrefourlaw12_WebsterNext.j0 k a1 t290 t291 true a0_0 a0_1 a0_2 a0_3 a0_4 l0_5 l0_6 a0_7 a0_8) else (if t290 > a0_1 then (carrefourlaw12_WebsterNext.j0 k a1 t290 t291 true a0_0 a0_1 a0_2 a0_3 a0_4 l0_5 l0_6 a0_7 a0_8) else (if a0_2 = 0 then (none) else (if (Int.tmod (wrap64 (t290 - a0_0)) a0_2) = 0 then (carrefourlaw12_WebsterNext.j0 k a1 t290 t291 (t291 != (decide (t290 ≥ a1))) a0_0 a0_1 a0_2 a0_3 a0_4 l0_5 l0_6 a0_7 a0_8) else (carrefourlaw12_WebsterNext.j0 k a1 t290 t291 true a0_0 a0_1 a0_2 a0_3 a0_4 l0_5 l0_6 a0_7 a0_8))))) = some r := by rw [if_pos rfl] at H; exact H
          clear H
          have H := H1
          clear H1
          by_cases c17 : t290 < a0_0
          · rw [if_pos c17] at H
            have c17b0 : decide (t290 < a0_0) = true := decide_eq_true c17
            clear c17
            have H' := Aside0.mk H
            clear H
            have hcz18_0 := bc (v := .int .i64 a0_0) BK289 0 rfl
            have hcz18_1 := bc (v := .int .i64 a0_1) BK289 1 rfl
            have hcz18_2 := bc (v := .int .i64 a0_2) BK289 2 rfl
            have hcz18_3 := bc (v := .int .i64 a0_3) BK289 3 rfl
            have hcz18_4 := bc (v := .int .i64 a0_4) BK289 4 rfl
            have hcz18_5 := bc (v := .slice A0_5 l0_5.length c0_5) BK289 5 rfl
            have hcz18_6 := bc (v := .slice A0_6 l0_6.length c0_6) BK289 6 rfl
            have hcz18_7 := bc (v := .int .i64 a0_7) BK289 7 rfl
            have hcz18_8 := bc (v := .int .i64 a0_8) BK289 8 rfl
            have hfz18_0 := blk_frozen BK289.out 0
            have hfz18_1 := blk_frozen BK289.out 1
            have hfz18_2 := blk_frozen BK289.out 2
            have hfz18_3 := blk_frozen BK289.out 3
            have hfz18_4 := blk_frozen BK289.out 4
            have hfz18_5 := blk_frozen BK289.out 5
            have hfz18_6 := blk_frozen BK289.out 6
            have hfz18_7 := blk_frozen BK289.out 7
            have hfz18_8 := blk_frozen BK289.out 8
            go_wp2
            go_meet
            case rel => exact ⟨_, (true), (by first | rfl | (simp; done) | (simp [*]; done)), H', ⟨by first | omega | exact Nat.le_refl _⟩, ⟨by (with_reducible repeat (first | refine blk_drewN ?_ _ | refine blk_drew ?_ | refine blk_alloc ?_ _)); exact BK289.out⟩, ⟨by repeat (first | (with_reducible first | exact HB.out | apply below_alloc | apply pw_below_drewN | apply below_drew1 | refine below_set ?_ GE289.out) | exact HB.out)⟩⟩
          · rw [if_neg c17] at H
            have c17b0 : decide (t290 < a0_0) = false := decide_eq_false c17
            clear c17
            by_cases c19 : t290 > a0_1
            · rw [if_pos c19] at H
              have c19b0 : decide (a0_1 < t290) = true := decide_eq_true c19
              clear c19
              have H' := Aside0.mk H
              clear H
              have hcz20_0 := bc (v := .int .i64 a0_0) BK289 0 rfl
              have hcz20_1 := bc (v := .int .i64 a0_1) BK289 1 rfl
              have hcz20_2 := bc (v := .int .i64 a0_2) BK289 2 rfl
              have hcz20_3 := bc (v := .int .i64 a0_3) BK289 3 rfl
              have hcz20_4 := bc (v := .int .i64 a0_4) BK289 4 rfl
              have hcz20_5 := bc (v := .slice A0_5 l0_5.length c0_5) BK289 5 rfl
              have hcz20_6 := bc (v := .slice A0_6 l0_6.length c0_6) BK289 6 rfl
              have hcz20_7 := bc (v := .int .i64 a0_7) BK289 7 rfl
              have hcz20_8 := bc (v := .int .i64 a0_8) BK289 8 rfl
              have hfz20_0 := blk_frozen BK289.out 0
              have hfz20_1 := blk_frozen BK289.out 1
              have hfz20_2 := blk_frozen BK289.out 2
              have hfz20_3 := blk_frozen BK289.out 3
              have hfz20_4 := blk_frozen BK289.out 4
              have hfz20_5 := blk_frozen BK289.out 5
              have hfz20_6 := blk_frozen BK289.out 6
              have hfz20_7 := blk_frozen BK289.out 7
              have hfz20_8 := blk_frozen BK289.out 8
              go_wp2
              go_meet
              case rel => exact ⟨_, (true), (by first | rfl | (simp; done) | (simp [*]; done)), H', ⟨by first | omega | exact Nat.le_refl _⟩, ⟨by (with_reducible repeat (first | refine blk_drewN ?_ _ | refine blk_drew ?_ | refine blk_alloc ?_ _)); exact BK289.out⟩, ⟨by repeat (first | (with_reducible first | exact HB.out | apply below_alloc | apply pw_below_drewN | apply below_drew1 | refine below_set ?_ GE289.out) | exact HB.out)⟩⟩
            · rw [if_neg c19] at H
              have c19b0 : decide (a0_1 < t290) = false := decide_eq_false c19
              clear c19
              by_cases c21 : a0_2 = 0
              · rw [if_pos c21] at H
                exact absurd H (by simp)
              · rw [if_neg c21] at H
                have c21b0 : (a0_2 == 0) = false := beq_eq_false_iff_ne.mpr c21
                have c21b1 : (a0_2 != 0) = true := bne_iff_ne.mpr c21
                by_cases c22 : (Int.tmod (wrap64 (t290 - a0_0)) a0_2) = 0
                · rw [if_pos c22] at H
                  have c22b0 : ((Int.tmod (wrap64 (t290 - a0_0)) a0_2) == 0) = true := beq_iff_eq.mpr c22
                  have c22b1 : ((Int.tmod (wrap64 (t290 - a0_0)) a0_2) != 0) = false := bne_eq_false_iff_eq.mpr c22
                  clear c22
                  have H' := Aside0.mk H
                  clear H
                  have hcz23_0 := bc (v := .int .i64 a0_0) BK289 0 rfl
                  have hcz23_1 := bc (v := .int .i64 a0_1) BK289 1 rfl
                  have hcz23_2 := bc (v := .int .i64 a0_2) BK289 2 rfl
                  have hcz23_3 := bc (v := .int .i64 a0_3) BK289 3 rfl
                  have hcz23_4 := bc (v := .int .i64 a0_4) BK289 4 rfl
                  have hcz23_5 := bc (v := .slice A0_5 l0_5.length c0_5) BK289 5 rfl
                  have hcz23_6 := bc (v := .slice A0_6 l0_6.length c0_6) BK289 6 rfl
                  have hcz23_7 := bc (v := .int .i64 a0_7) BK289 7 rfl
                  have hcz23_8 := bc (v := .int .i64 a0_8) BK289 8 rfl
                  have hfz23_0 := blk_frozen BK289.out 0
                  have hfz23_1 := blk_frozen BK289.out 1
                  have hfz23_2 := blk_frozen BK289.out 2
                  have hfz23_3 := blk_frozen BK289.out 3
                  have hfz23_4 := blk_frozen BK289.out 4
                  have hfz23_5 := blk_frozen BK289.out 5
                  have hfz23_6 := blk_frozen BK289.out 6
                  have hfz23_7 := blk_frozen BK289.out 7
                  have hfz23_8 := blk_frozen BK289.out 8
                  go_wp2
                  go_meet
                  case rel => exact ⟨_, ((t291 != (decide (t290 ≥ a1)))), (by first | rfl | (simp; done) | (simp [*]; done)), H', ⟨by first | omega | exact Nat.le_refl _⟩, ⟨by (with_reducible repeat (first | refine blk_drewN ?_ _ | refine blk_drew ?_ | refine blk_alloc ?_ _)); exact BK289.out⟩, ⟨by repeat (first | (with_reducible first | exact HB.out | apply below_alloc | apply pw_below_drewN | apply below_drew1 | refine below_set ?_ GE289.out) | exact HB.out)⟩⟩
                · rw [if_neg c22] at H
                  have c22b0 : ((Int.tmod (wrap64 (t290 - a0_0)) a0_2) == 0) = false := beq_eq_false_iff_ne.mpr c22
                  have c22b1 : ((Int.tmod (wrap64 (t290 - a0_0)) a0_2) != 0) = true := bne_iff_ne.mpr c22
                  have H' := Aside0.mk H
                  clear H
                  have hcz24_0 := bc (v := .int .i64 a0_0) BK289 0 rfl
                  have hcz24_1 := bc (v := .int .i64 a0_1) BK289 1 rfl
                  have hcz24_2 := bc (v := .int .i64 a0_2) BK289 2 rfl
                  have hcz24_3 := bc (v := .int .i64 a0_3) BK289 3 rfl
                  have hcz24_4 := bc (v := .int .i64 a0_4) BK289 4 rfl
                  have hcz24_5 := bc (v := .slice A0_5 l0_5.length c0_5) BK289 5 rfl
                  have hcz24_6 := bc (v := .slice A0_6 l0_6.length c0_6) BK289 6 rfl
                  have hcz24_7 := bc (v := .int .i64 a0_7) BK289 7 rfl
                  have hcz24_8 := bc (v := .int .i64 a0_8) BK289 8 rfl
                  have hfz24_0 := blk_frozen BK289.out 0
                  have hfz24_1 := blk_frozen BK289.out 1
                  have hfz24_2 := blk_frozen BK289.out 2
                  have hfz24_3 := blk_frozen BK289.out 3
                  have hfz24_4 := blk_frozen BK289.out 4
                  have hfz24_5 := blk_frozen BK289.out 5
                  have hfz24_6 := blk_frozen BK289.out 6
                  have hfz24_7 := blk_frozen BK289.out 7
                  have hfz24_8 := blk_frozen BK289.out 8
                  go_wp2
                  go_meet
                  case rel => exact ⟨_, (true), (by first | rfl | (simp; done) | (simp [*]; done)), H', ⟨by first | omega | exact Nat.le_refl _⟩, ⟨by (with_reducible repeat (first | refine blk_drewN ?_ _ | refine blk_drew ?_ | refine blk_alloc ?_ _)); exact BK289.out⟩, ⟨by repeat (first | (with_reducible first | exact HB.out | apply below_alloc | apply pw_below_drewN | apply below_drew1 | refine below_set ?_ GE289.out) | exact HB.out)⟩⟩
        · replace c16 := Bool.eq_false_iff.mpr c16
          subst c16
          have H1 : (carrefourlaw12_WebsterNext.j0 k a1 t290 t291 true a0_0 a0_1 a0_2 a0_3 a0_4 l0_5 l0_6 a0_7 a0_8) = some r := by rw [if_neg (show ¬ (false = true) by decide)] at H; exact H
          clear H
          have H := H1
          clear H1
          have H' := Aside0.mk H
          clear H
          go_wp2
          go_meet
          case rel => exact ⟨_, (true), (by first | rfl | (simp; done) | (simp [*]; done)), H', ⟨by first | omega | exact Nat.le_refl _⟩, ⟨by (with_reducible repeat (first | refine blk_drewN ?_ _ | refine blk_drew ?_ | refine blk_alloc ?_ _)); exact BK289.out⟩, ⟨by repeat (first | (with_reducible first | exact HB.out | apply below_alloc | apply pw_below_drewN | apply below_drew1 | refine below_set ?_ GE289.out) | exact HB.out)⟩⟩
      · rw [if_neg c15] at H
        have c15b0 : (t295 == t290) = false := beq_eq_false_iff_ne.mpr c15
        have c15b1 : (t295 != t290) = true := bne_iff_ne.mpr c15
        (first | rw [c15b0] | (simp only [i64_w, i32_w]; rw [c15b0]) | skip)
        have H' := Aside0.mk H
        clear H
        go_wp2
        go_meet
        case rel => exact ⟨_, (true), (by first | rfl | (simp; done) | (simp [*]; done)), H', ⟨by first | omega | exact Nat.le_refl _⟩, ⟨by (with_reducible repeat (first | refine blk_drewN ?_ _ | refine blk_drew ?_ | refine blk_alloc ?_ _)); exact BK289.out⟩, ⟨by repeat (first | (with_reducible first | exact HB.out | apply below_alloc | apply pw_below_drewN | apply below_drew1 | refine below_set ?_ GE289.out) | exact HB.out)⟩⟩
    case rest =>
      clear HC7
      try clear c1
      try clear c2
      try clear p2
      try clear c5
      try clear c6
      try clear p6
      try clear c13
      try clear c15
      try clear c15b0
      try clear c15b1
      try clear c16
      try clear c17
      try clear c17b0
      try clear c19
      try clear c19b0
      try clear c20
      try clear c21
      try clear c21b0
      try clear c21b1
      try clear c22
      try clear c22b0
      try clear c22b1
      try clear hcz11_0
      try clear hcz11_1
      try clear hcz11_2
      try clear hcz11_3
      try clear hcz11_4
      try clear hcz11_5
      try clear hcz11_6
      try clear hcz11_7
      try clear hcz11_8
      try clear hcz13_0
      try clear hcz13_1
      try clear hcz13_2
      try clear hcz13_3
      try clear hcz13_4
      try clear hcz13_5
      try clear hcz13_6
      try clear hcz13_7
      try clear hcz13_8
      try clear hcz18_0
      try clear hcz18_1
      try clear hcz18_2
      try clear hcz18_3
      try clear hcz18_4
      try clear hcz18_5
      try clear hcz18_6
      try clear hcz18_7
      try clear hcz18_8
      try clear hcz20_0
      try clear hcz20_1
      try clear hcz20_2
      try clear hcz20_3
      try clear hcz20_4
      try clear hcz20_5
      try clear hcz20_6
      try clear hcz20_7
      try clear hcz20_8
      try clear hcz23_0
      try clear hcz23_1
      try clear hcz23_2
      try clear hcz23_3
      try clear hcz23_4
      try clear hcz23_5
      try clear hcz23_6
      try clear hcz23_7
      try clear hcz23_8
      try clear hcz24_0
      try clear hcz24_1
      try clear hcz24_2
      try clear hcz24_3
      try clear hcz24_4
      try clear hcz24_5
      try clear hcz24_6
      try clear hcz24_7
      try clear hcz24_8
      try clear hcz9_0
      try clear hcz9_1
      try clear hcz9_2
      try clear hcz9_3
      try clear hcz9_4
      try clear hcz9_5
      try clear hcz9_6
      try clear hcz9_7
      try clear hcz9_8
      try clear hfz11_0
      try clear hfz11_1
      try clear hfz11_2
      try clear hfz11_3
      try clear hfz11_4
      try clear hfz11_5
      try clear hfz11_6
      try clear hfz11_7
      try clear hfz11_8
      try clear hfz13_0
      try clear hfz13_1
      try clear hfz13_2
      try clear hfz13_3
      try clear hfz13_4
      try clear hfz13_5
      try clear hfz13_6
      try clear hfz13_7
      try clear hfz13_8
      try clear hfz18_0
      try clear hfz18_1
      try clear hfz18_2
      try clear hfz18_3
      try clear hfz18_4
      try clear hfz18_5
      try clear hfz18_6
      try clear hfz18_7
      try clear hfz18_8
      try clear hfz20_0
      try clear hfz20_1
      try clear hfz20_2
      try clear hfz20_3
      try clear hfz20_4
      try clear hfz20_5
      try clear hfz20_6
      try clear hfz20_7
      try clear hfz20_8
      try clear hfz23_0
      try clear hfz23_1
      try clear hfz23_2
      try clear hfz23_3
      try clear hfz23_4
      try clear hfz23_5
      try clear hfz23_6
      try clear hfz23_7
      try clear hfz23_8
      try clear hfz24_0
      try clear hfz24_1
      try clear hfz24_2
      try clear hfz24_3
      try clear hfz24_4
      try clear hfz24_5
      try clear hfz24_6
      try clear hfz24_7
      try clear hfz24_8
      try clear hfz9_0
      try clear hfz9_1
      try clear hfz9_2
      try clear hfz9_3
      try clear hfz9_4
      try clear hfz9_5
      try clear hfz9_6
      try clear hfz9_7
      try clear hfz9_8
      obtain ⟨kq, x73_6, rfl, HA, HJ6, BK289, HB⟩ := hcut
      cases kq with
      | zero => exact absurd HA.out (by simp [carrefourlaw12_WebsterNext.j0])
      | succ kj6 =>
        have H := HA.out
        clear HA
        simp only [carrefourlaw12_WebsterNext.j0] at H
        by_cases c25 : x73_6 = true
        · subst c25
          have H1 : (some false) = some r := by rw [if_pos rfl] at H; exact H
          clear H
          have H := H1
          clear H1
          obtain rfl := Option.some.inj H
          go_wp2
          go_ret
          exact ⟨by first | rfl | (simp [errW_none, errW_some] <;> rfl) | (simp [*, errW_none, errW_some] <;> rfl), by repeat (first | (with_reducible first | exact HB.out | apply below_alloc | apply pw_below_drewN | apply below_drew1 | refine below_set ?_ GE289.out) | exact HB.out)⟩
        · replace c25 := Bool.eq_false_iff.mpr c25
          subst c25
          have H1 : (if t291 = true then (if t290 = a0_0 then ((carrefourlaw12_awake.f kj6).bind fun t297 => (some t297)) else (if (wrap64 (t290 - a0_2)) < a1 then ((carrefourlaw12_awake.f kj6).bind fun t298 => (some t298)) else (some false))) else (if a0_2 > (wrap64 (a0_1 - t290)) then ((carrefourlaw12_awake.f kj6).bind fun t299 => (some t299)) else (some false))) = some r := by rw [if_neg (show ¬ (false = true) by decide)] at H; exact H
          clear H
          have H := H1
          clear H1
          by_cases c26 : t291 = true
          · subst c26
            have H1 : (if t290 = a0_0 then ((carrefourlaw12_awake.f kj6).bind fun t297 => (some t297)) else (if (wrap64 (t290 - a0_2)) < a1 then ((carrefourlaw12_awake.f kj6).bind fun t298 => (some t298)) else (some false))) = some r := by rw [if_pos rfl] at H; exact H
            clear H
            have H := H1
            clear H1
            by_cases c27 : t290 = a0_0
            · rw [if_pos c27] at H
              have c27b0 : (t290 == a0_0) = true := beq_iff_eq.mpr c27
              have c27b1 : (t290 != a0_0) = false := bne_eq_false_iff_eq.mpr c27
              clear c27
              replace H := Option.bind_eq_some_iff.mp H
              obtain ⟨t297, A280, H⟩ := H
              replace H : (some t297) = some r := H
              have A28 := Aside0.mk A280
              clear A280
              obtain rfl := Option.some.inj H
              have hcz29_0 := bc (v := .int .i64 a0_0) BK289 0 rfl
              have hcz29_1 := bc (v := .int .i64 a0_1) BK289 1 rfl
              have hcz29_2 := bc (v := .int .i64 a0_2) BK289 2 rfl
              have hcz29_3 := bc (v := .int .i64 a0_3) BK289 3 rfl
              have hcz29_4 := bc (v := .int .i64 a0_4) BK289 4 rfl
              have hcz29_5 := bc (v := .slice A0_5 l0_5.length c0_5) BK289 5 rfl
              have hcz29_6 := bc (v := .slice A0_6 l0_6.length c0_6) BK289 6 rfl
              have hcz29_7 := bc (v := .int .i64 a0_7) BK289 7 rfl
              have hcz29_8 := bc (v := .int .i64 a0_8) BK289 8 rfl
              have hfz29_0 := blk_frozen BK289.out 0
              have hfz29_1 := blk_frozen BK289.out 1
              have hfz29_2 := blk_frozen BK289.out 2
              have hfz29_3 := blk_frozen BK289.out 3
              have hfz29_4 := blk_frozen BK289.out 4
              have hfz29_5 := blk_frozen BK289.out 5
              have hfz29_6 := blk_frozen BK289.out 6
              have hfz29_7 := blk_frozen BK289.out 7
              have hfz29_8 := blk_frozen BK289.out 8
              go_wp2_with (first | (go_at_call 12; (with_reducible refine (carrefourlaw12_awake.calls kj6  t297 _ A28.out ?hT).mono ?_); (case hT => first | exact tb GT.out HB | exact tb0 GT.out); rintro e w30 ⟨rfl, hb⟩; replace BK289 := bb BK289 hb; replace HB := bs HB hb; (try clear hb); (try clear hb2); (try clear hk); (try clear hi)))
              go_ret
              exact ⟨by first | rfl | (simp [errW_none, errW_some] <;> rfl) | (simp [*, errW_none, errW_some] <;> rfl), by repeat (first | (with_reducible first | exact HB.out | apply below_alloc | apply pw_below_drewN | apply below_drew1 | refine below_set ?_ GE289.out) | exact HB.out)⟩
            · rw [if_neg c27] at H
              have c27b0 : (t290 == a0_0) = false := beq_eq_false_iff_ne.mpr c27
              have c27b1 : (t290 != a0_0) = true := bne_iff_ne.mpr c27
              by_cases c31 : (wrap64 (t290 - a0_2)) < a1
              · rw [if_pos c31] at H
                have c31b0 : decide ((wrap64 (t290 - a0_2)) < a1) = true := decide_eq_true c31
                clear c31
                replace H := Option.bind_eq_some_iff.mp H
                obtain ⟨t298, A320, H⟩ := H
                replace H : (some t298) = some r := H
                have A32 := Aside0.mk A320
                clear A320
                obtain rfl := Option.some.inj H
                have hcz33_0 := bc (v := .int .i64 a0_0) BK289 0 rfl
                have hcz33_1 := bc (v := .int .i64 a0_1) BK289 1 rfl
                have hcz33_2 := bc (v := .int .i64 a0_2) BK289 2 rfl
                have hcz33_3 := bc (v := .int .i64 a0_3) BK289 3 rfl
                have hcz33_4 := bc (v := .int .i64 a0_4) BK289 4 rfl
                have hcz33_5 := bc (v := .slice A0_5 l0_5.length c0_5) BK289 5 rfl
                have hcz33_6 := bc (v := .slice A0_6 l0_6.length c0_6) BK289 6 rfl
                have hcz33_7 := bc (v := .int .i64 a0_7) BK289 7 rfl
                have hcz33_8 := bc (v := .int .i64 a0_8) BK289 8 rfl
                have hfz33_0 := blk_frozen BK289.out 0
                have hfz33_1 := blk_frozen BK289.out 1
                have hfz33_2 := blk_frozen BK289.out 2
                have hfz33_3 := blk_frozen BK289.out 3
                have hfz33_4 := blk_frozen BK289.out 4
                have hfz33_5 := blk_frozen BK289.out 5
                have hfz33_6 := blk_frozen BK289.out 6
                have hfz33_7 := blk_frozen BK289.out 7
                have hfz33_8 := blk_frozen BK289.out 8
                go_wp2_with (first | (go_at_call 12; (with_reducible refine (carrefourlaw12_awake.calls kj6  t298 _ A32.out ?hT).mono ?_); (case hT => first | exact tb GT.out HB | exact tb0 GT.out); rintro e w34 ⟨rfl, hb⟩; replace BK289 := bb BK289 hb; replace HB := bs HB hb; (try clear hb); (try clear hb2); (try clear hk); (try clear hi)))
                go_ret
                exact ⟨by first | rfl | (simp [errW_none, errW_some] <;> rfl) | (simp [*, errW_none, errW_some] <;> rfl), by repeat (first | (with_reducible first | exact HB.out | apply below_alloc | apply pw_below_drewN | apply below_drew1 | refine below_set ?_ GE289.out) | exact HB.out)⟩
              · rw [if_neg c31] at H
                have c31b0 : decide ((wrap64 (t290 - a0_2)) < a1) = false := decide_eq_false c31
                clear c31
                obtain rfl := Option.some.inj H
                have hcz35_0 := bc (v := .int .i64 a0_0) BK289 0 rfl
                have hcz35_1 := bc (v := .int .i64 a0_1) BK289 1 rfl
                have hcz35_2 := bc (v := .int .i64 a0_2) BK289 2 rfl
                have hcz35_3 := bc (v := .int .i64 a0_3) BK289 3 rfl
                have hcz35_4 := bc (v := .int .i64 a0_4) BK289 4 rfl
                have hcz35_5 := bc (v := .slice A0_5 l0_5.length c0_5) BK289 5 rfl
                have hcz35_6 := bc (v := .slice A0_6 l0_6.length c0_6) BK289 6 rfl
                have hcz35_7 := bc (v := .int .i64 a0_7) BK289 7 rfl
                have hcz35_8 := bc (v := .int .i64 a0_8) BK289 8 rfl
                have hfz35_0 := blk_frozen BK289.out 0
                have hfz35_1 := blk_frozen BK289.out 1
                have hfz35_2 := blk_frozen BK289.out 2
                have hfz35_3 := blk_frozen BK289.out 3
                have hfz35_4 := blk_frozen BK289.out 4
                have hfz35_5 := blk_frozen BK289.out 5
                have hfz35_6 := blk_frozen BK289.out 6
                have hfz35_7 := blk_frozen BK289.out 7
                have hfz35_8 := blk_frozen BK289.out 8
                go_wp2
                go_ret
                exact ⟨by first | rfl | (simp [errW_none, errW_some] <;> rfl) | (simp [*, errW_none, errW_some] <;> rfl), by repeat (first | (with_reducible first | exact HB.out | apply below_alloc | apply pw_below_drewN | apply below_drew1 | refine below_set ?_ GE289.out) | exact HB.out)⟩
          · replace c26 := Bool.eq_false_iff.mpr c26
            subst c26
            have H1 : (if a0_2 > (wrap64 (a0_1 - t290)) then ((carrefourlaw12_awake.f kj6).bind fun t299 => (some t299)) else (some false)) = some r := by rw [if_neg (show ¬ (false = true) by decide)] at H; exact H
            clear H
            have H := H1
            clear H1
            by_cases c36 : a0_2 > (wrap64 (a0_1 - t290))
            · rw [if_pos c36] at H
              have c36b0 : decide ((wrap64 (a0_1 - t290)) < a0_2) = true := decide_eq_true c36
              clear c36
              replace H := Option.bind_eq_some_iff.mp H
              obtain ⟨t299, A370, H⟩ := H
              replace H : (some t299) = some r := H
              have A37 := Aside0.mk A370
              clear A370
              obtain rfl := Option.some.inj H
              have hcz38_0 := bc (v := .int .i64 a0_0) BK289 0 rfl
              have hcz38_1 := bc (v := .int .i64 a0_1) BK289 1 rfl
              have hcz38_2 := bc (v := .int .i64 a0_2) BK289 2 rfl
              have hcz38_3 := bc (v := .int .i64 a0_3) BK289 3 rfl
              have hcz38_4 := bc (v := .int .i64 a0_4) BK289 4 rfl
              have hcz38_5 := bc (v := .slice A0_5 l0_5.length c0_5) BK289 5 rfl
              have hcz38_6 := bc (v := .slice A0_6 l0_6.length c0_6) BK289 6 rfl
              have hcz38_7 := bc (v := .int .i64 a0_7) BK289 7 rfl
              have hcz38_8 := bc (v := .int .i64 a0_8) BK289 8 rfl
              have hfz38_0 := blk_frozen BK289.out 0
              have hfz38_1 := blk_frozen BK289.out 1
              have hfz38_2 := blk_frozen BK289.out 2
              have hfz38_3 := blk_frozen BK289.out 3
              have hfz38_4 := blk_frozen BK289.out 4
              have hfz38_5 := blk_frozen BK289.out 5
              have hfz38_6 := blk_frozen BK289.out 6
              have hfz38_7 := blk_frozen BK289.out 7
              have hfz38_8 := blk_frozen BK289.out 8
              go_wp2_with (first | (go_at_call 12; (with_reducible refine (carrefourlaw12_awake.calls kj6  t299 _ A37.out ?hT).mono ?_); (case hT => first | exact tb GT.out HB | exact tb0 GT.out); rintro e w39 ⟨rfl, hb⟩; replace BK289 := bb BK289 hb; replace HB := bs HB hb; (try clear hb); (try clear hb2); (try clear hk); (try clear hi)))
              go_ret
              exact ⟨by first | rfl | (simp [errW_none, errW_some] <;> rfl) | (simp [*, errW_none, errW_some] <;> rfl), by repeat (first | (with_reducible first | exact HB.out | apply below_alloc | apply pw_below_drewN | apply below_drew1 | refine below_set ?_ GE289.out) | exact HB.out)⟩
            · rw [if_neg c36] at H
              have c36b0 : decide ((wrap64 (a0_1 - t290)) < a0_2) = false := decide_eq_false c36
              clear c36
              obtain rfl := Option.some.inj H
              have hcz40_0 := bc (v := .int .i64 a0_0) BK289 0 rfl
              have hcz40_1 := bc (v := .int .i64 a0_1) BK289 1 rfl
              have hcz40_2 := bc (v := .int .i64 a0_2) BK289 2 rfl
              have hcz40_3 := bc (v := .int .i64 a0_3) BK289 3 rfl
              have hcz40_4 := bc (v := .int .i64 a0_4) BK289 4 rfl
              have hcz40_5 := bc (v := .slice A0_5 l0_5.length c0_5) BK289 5 rfl
              have hcz40_6 := bc (v := .slice A0_6 l0_6.length c0_6) BK289 6 rfl
              have hcz40_7 := bc (v := .int .i64 a0_7) BK289 7 rfl
              have hcz40_8 := bc (v := .int .i64 a0_8) BK289 8 rfl
              have hfz40_0 := blk_frozen BK289.out 0
              have hfz40_1 := blk_frozen BK289.out 1
              have hfz40_2 := blk_frozen BK289.out 2
              have hfz40_3 := blk_frozen BK289.out 3
              have hfz40_4 := blk_frozen BK289.out 4
              have hfz40_5 := blk_frozen BK289.out 5
              have hfz40_6 := blk_frozen BK289.out 6
              have hfz40_7 := blk_frozen BK289.out 7
              have hfz40_8 := blk_frozen BK289.out 8
              go_wp2
              go_ret
              exact ⟨by first | rfl | (simp [errW_none, errW_some] <;> rfl) | (simp [*, errW_none, errW_some] <;> rfl), by repeat (first | (with_reducible first | exact HB.out | apply below_alloc | apply pw_below_drewN | apply below_drew1 | refine below_set ?_ GE289.out) | exact HB.out)⟩
  · replace c5 := Bool.eq_false_iff.mpr c5
    subst c5
    have H1 : (if t290 = 0 then (if t291 = true then (some false) else ((webster_Count.f a0_0 a0_1 a0_2 a0_3 a0_4 l0_5 l0_6 a0_7 a0_8).bind fun t293 => (if t293 = 0 then ((carrefourlaw12_awake.f k).bind fun t294 => (some t294)) else (some false)))) else (some false)) = some r := by rw [if_neg (show ¬ (false = true) by decide)] at H; exact H
    clear H
    have H := H1
    clear H1
    by_cases c41 : t290 = 0
    · rw [if_pos c41] at H
      have c41b0 : (t290 == 0) = true := beq_iff_eq.mpr c41
      have c41b1 : (t290 != 0) = false := bne_eq_false_iff_eq.mpr c41
      clear c41
      by_cases c42 : t291 = true
      · subst c42
        have H1 : (some false) = some r := by rw [if_pos rfl] at H; exact H
        clear H
        have H := H1
        clear H1
        obtain rfl := Option.some.inj H
        go_enter Tryd.func6, Tryd.ntmps6
        go_wp2_with (first | ((with_reducible refine gate_dst (N := 2) rfl ?_); refine box_event ?hg (N := 2) ?hd (cs := #[.int .i64 a0_0, .int .i64 a0_1, .int .i64 a0_2, .int .i64 a0_3, .int .i64 a0_4, .slice A0_5 l0_5.length c0_5, .slice A0_6 l0_6.length c0_6, .int .i64 a0_7, .int .i64 a0_8]) (t := 32) ?hr ?_; (case hd => rfl); (case hg => rfl); (case hr => first | (go_simp; done) | (go_simp; rfl)); intro gb289 hg w43 hbox hb; have BK289 := Aside0.mk (hbox); have GW289 := bz HB hg; have GE289 := bz HB hg; replace HB := bs HB hb; clear hb hbox hg; have hcz44_0 := bc (v := .int .i64 a0_0) BK289 0 rfl; have hcz44_1 := bc (v := .int .i64 a0_1) BK289 1 rfl; have hcz44_2 := bc (v := .int .i64 a0_2) BK289 2 rfl; have hcz44_3 := bc (v := .int .i64 a0_3) BK289 3 rfl; have hcz44_4 := bc (v := .int .i64 a0_4) BK289 4 rfl; have hcz44_5 := bc (v := .slice A0_5 l0_5.length c0_5) BK289 5 rfl; have hcz44_6 := bc (v := .slice A0_6 l0_6.length c0_6) BK289 6 rfl; have hcz44_7 := bc (v := .int .i64 a0_7) BK289 7 rfl; have hcz44_8 := bc (v := .int .i64 a0_8) BK289 8 rfl; have hfz44_0 := blk_frozen BK289.out 0; have hfz44_1 := blk_frozen BK289.out 1; have hfz44_2 := blk_frozen BK289.out 2; have hfz44_3 := blk_frozen BK289.out 3; have hfz44_4 := blk_frozen BK289.out 4; have hfz44_5 := blk_frozen BK289.out 5; have hfz44_6 := blk_frozen BK289.out 6; have hfz44_7 := blk_frozen BK289.out 7; have hfz44_8 := blk_frozen BK289.out 8) | ((with_reducible refine gate_callee (f := 13) rfl ?_); refine goesL_ (some 12) rfl rfl Tryd.func13 (by kernel_rfl) rfl #[.agg #[.int .i64 a0_0, .int .i64 a0_1, .int .i64 a0_2, .int .i64 a0_3, .int .i64 a0_4, .slice A0_5 l0_5.length c0_5, .slice A0_6 l0_6.length c0_6, .int .i64 a0_7, .int .i64 a0_8], .int .i64 a1] rfl (by (try simp only [List.map_toArray, List.map_cons, List.map_nil]); first | done | rfl | (simp only [List.length_drop, List.length_take]; rfl)) ?_; (with_reducible refine (webster_Allowed.calls a0_0 a0_1 a0_2 a0_3 a0_4 _ _ l0_5 _ _ l0_6 a0_7 a0_8 a1 t290 true _ ?side1 ?side2 ?side3 ?side4 A3.out).mono ?_); (case side1 => repeat (first | exact (Kd.C_below HR0_5.out HB.out) | (with_reducible refine Kd.C_alloc ?_ _) | (with_reducible refine Kd.C_drewN ?_ _) | (with_reducible refine Kd.C_drew ?_))); (case side2 => exact HC0_5.out); (case side3 => repeat (first | exact (Kd.C_below HR0_6.out HB.out) | (with_reducible refine Kd.C_alloc ?_ _) | (with_reducible refine Kd.C_drewN ?_ _) | (with_reducible refine Kd.C_drew ?_))); (case side4 => exact HC0_6.out); rintro e w45 ⟨rfl, hb⟩; refine ⟨_, rfl, ?_⟩; replace BK289 := bb BK289 hb; replace HB := bs HB hb; (try clear hb); (try clear hb2); (try clear hk); (try clear hi); have hcz46_0 := bc (v := .int .i64 a0_0) BK289 0 rfl; have hcz46_1 := bc (v := .int .i64 a0_1) BK289 1 rfl; have hcz46_2 := bc (v := .int .i64 a0_2) BK289 2 rfl; have hcz46_3 := bc (v := .int .i64 a0_3) BK289 3 rfl; have hcz46_4 := bc (v := .int .i64 a0_4) BK289 4 rfl; have hcz46_5 := bc (v := .slice A0_5 l0_5.length c0_5) BK289 5 rfl; have hcz46_6 := bc (v := .slice A0_6 l0_6.length c0_6) BK289 6 rfl; have hcz46_7 := bc (v := .int .i64 a0_7) BK289 7 rfl; have hcz46_8 := bc (v := .int .i64 a0_8) BK289 8 rfl; have hfz46_0 := blk_frozen BK289.out 0; have hfz46_1 := blk_frozen BK289.out 1; have hfz46_2 := blk_frozen BK289.out 2; have hfz46_3 := blk_frozen BK289.out 3; have hfz46_4 := blk_frozen BK289.out 4; have hfz46_5 := blk_frozen BK289.out 5; have hfz46_6 := blk_frozen BK289.out 6; have hfz46_7 := blk_frozen BK289.out 7; have hfz46_8 := blk_frozen BK289.out 8) | ((with_reducible refine gate_callee (f := 20) rfl ?_); refine goesL_ (some 16) rfl rfl Tryd.func20 (by kernel_rfl) rfl #[.agg #[.int .i64 a0_0, .int .i64 a0_1, .int .i64 a0_2, .int .i64 a0_3, .int .i64 a0_4, .slice A0_5 l0_5.length c0_5, .slice A0_6 l0_6.length c0_6, .int .i64 a0_7, .int .i64 a0_8]] rfl (by (try simp only [List.map_toArray, List.map_cons, List.map_nil]); first | done | rfl | (simp only [List.length_drop, List.length_take]; rfl)) ?_; (with_reducible refine (carrefourref12_Cycles.calls a0_0 a0_1 a0_2 a0_3 a0_4 _ _ l0_5 _ _ l0_6 a0_7 a0_8 false _ ?side1 ?side2 ?side3 ?side4 A4.out).mono ?_); (case side1 => repeat (first | exact (Kd.C_below HR0_5.out HB.out) | (with_reducible refine Kd.C_alloc ?_ _) | (with_reducible refine Kd.C_drewN ?_ _) | (with_reducible refine Kd.C_drew ?_))); (case side2 => exact HC0_5.out); (case side3 => repeat (first | exact (Kd.C_below HR0_6.out HB.out) | (with_reducible refine Kd.C_alloc ?_ _) | (with_reducible refine Kd.C_drewN ?_ _) | (with_reducible refine Kd.C_drew ?_))); (case side4 => exact HC0_6.out); rintro e w47 ⟨rfl, hb⟩; refine ⟨_, rfl, ?_⟩; replace BK289 := bb BK289 hb; replace HB := bs HB hb; (try clear hb); (try clear hb2); (try clear hk); (try clear hi)))
        go_ret
        exact ⟨by first | rfl | (simp [errW_none, errW_some] <;> rfl) | (simp [*, errW_none, errW_some] <;> rfl), by repeat (first | (with_reducible first | exact HB.out | apply below_alloc | apply pw_below_drewN | apply below_drew1 | refine below_set ?_ GE289.out) | exact HB.out)⟩
      · replace c42 := Bool.eq_false_iff.mpr c42
        subst c42
        have H1 : ((webster_Count.f a0_0 a0_1 a0_2 a0_3 a0_4 l0_5 l0_6 a0_7 a0_8).bind fun t293 => (if t293 = 0 then ((carrefourlaw12_awake.f k).bind fun t294 => (some t294)) else (some false))) = some r := by rw [if_neg (show ¬ (false = true) by decide)] at H; exact H
        clear H
        have H := H1
        clear H1
        replace H := Option.bind_eq_some_iff.mp H
        obtain ⟨t293, A480, H⟩ := H
        replace H : (if t293 = 0 then ((carrefourlaw12_awake.f k).bind fun t294 => (some t294)) else (some false)) = some r := H
        have A48 := Aside0.mk A480
        clear A480
        by_cases c49 : t293 = 0
        · rw [if_pos c49] at H
          have c49b0 : (t293 == 0) = true := beq_iff_eq.mpr c49
          have c49b1 : (t293 != 0) = false := bne_eq_false_iff_eq.mpr c49
          clear c49
          replace H := Option.bind_eq_some_iff.mp H
          obtain ⟨t294, A500, H⟩ := H
          replace H : (some t294) = some r := H
          have A50 := Aside0.mk A500
          clear A500
          obtain rfl := Option.some.inj H
          go_enter Tryd.func6, Tryd.ntmps6
          go_wp2_with (first | ((with_reducible refine gate_dst (N := 2) rfl ?_); refine box_event ?hg (N := 2) ?hd (cs := #[.int .i64 a0_0, .int .i64 a0_1, .int .i64 a0_2, .int .i64 a0_3, .int .i64 a0_4, .slice A0_5 l0_5.length c0_5, .slice A0_6 l0_6.length c0_6, .int .i64 a0_7, .int .i64 a0_8]) (t := 32) ?hr ?_; (case hd => rfl); (case hg => rfl); (case hr => first | (go_simp; done) | (go_simp; rfl)); intro gb289 hg w51 hbox hb; have BK289 := Aside0.mk (hbox); have GW289 := bz HB hg; have GE289 := bz HB hg; replace HB := bs HB hb; clear hb hbox hg; have hcz52_0 := bc (v := .int .i64 a0_0) BK289 0 rfl; have hcz52_1 := bc (v := .int .i64 a0_1) BK289 1 rfl; have hcz52_2 := bc (v := .int .i64 a0_2) BK289 2 rfl; have hcz52_3 := bc (v := .int .i64 a0_3) BK289 3 rfl; have hcz52_4 := bc (v := .int .i64 a0_4) BK289 4 rfl; have hcz52_5 := bc (v := .slice A0_5 l0_5.length c0_5) BK289 5 rfl; have hcz52_6 := bc (v := .slice A0_6 l0_6.length c0_6) BK289 6 rfl; have hcz52_7 := bc (v := .int .i64 a0_7) BK289 7 rfl; have hcz52_8 := bc (v := .int .i64 a0_8) BK289 8 rfl; have hfz52_0 := blk_frozen BK289.out 0; have hfz52_1 := blk_frozen BK289.out 1; have hfz52_2 := blk_frozen BK289.out 2; have hfz52_3 := blk_frozen BK289.out 3; have hfz52_4 := blk_frozen BK289.out 4; have hfz52_5 := blk_frozen BK289.out 5; have hfz52_6 := blk_frozen BK289.out 6; have hfz52_7 := blk_frozen BK289.out 7; have hfz52_8 := blk_frozen BK289.out 8) | ((with_reducible refine gate_callee (f := 13) rfl ?_); refine goesL_ (some 12) rfl rfl Tryd.func13 (by kernel_rfl) rfl #[.agg #[.int .i64 a0_0, .int .i64 a0_1, .int .i64 a0_2, .int .i64 a0_3, .int .i64 a0_4, .slice A0_5 l0_5.length c0_5, .slice A0_6 l0_6.length c0_6, .int .i64 a0_7, .int .i64 a0_8], .int .i64 a1] rfl (by (try simp only [List.map_toArray, List.map_cons, List.map_nil]); first | done | rfl | (simp only [List.length_drop, List.length_take]; rfl)) ?_; (with_reducible refine (webster_Allowed.calls a0_0 a0_1 a0_2 a0_3 a0_4 _ _ l0_5 _ _ l0_6 a0_7 a0_8 a1 t290 false _ ?side1 ?side2 ?side3 ?side4 A3.out).mono ?_); (case side1 => repeat (first | exact (Kd.C_below HR0_5.out HB.out) | (with_reducible refine Kd.C_alloc ?_ _) | (with_reducible refine Kd.C_drewN ?_ _) | (with_reducible refine Kd.C_drew ?_))); (case side2 => exact HC0_5.out); (case side3 => repeat (first | exact (Kd.C_below HR0_6.out HB.out) | (with_reducible refine Kd.C_alloc ?_ _) | (with_reducible refine Kd.C_drewN ?_ _) | (with_reducible refine Kd.C_drew ?_))); (case side4 => exact HC0_6.out); rintro e w53 ⟨rfl, hb⟩; refine ⟨_, rfl, ?_⟩; replace BK289 := bb BK289 hb; replace HB := bs HB hb; (try clear hb); (try clear hb2); (try clear hk); (try clear hi); have hcz54_0 := bc (v := .int .i64 a0_0) BK289 0 rfl; have hcz54_1 := bc (v := .int .i64 a0_1) BK289 1 rfl; have hcz54_2 := bc (v := .int .i64 a0_2) BK289 2 rfl; have hcz54_3 := bc (v := .int .i64 a0_3) BK289 3 rfl; have hcz54_4 := bc (v := .int .i64 a0_4) BK289 4 rfl; have hcz54_5 := bc (v := .slice A0_5 l0_5.length c0_5) BK289 5 rfl; have hcz54_6 := bc (v := .slice A0_6 l0_6.length c0_6) BK289 6 rfl; have hcz54_7 := bc (v := .int .i64 a0_7) BK289 7 rfl; have hcz54_8 := bc (v := .int .i64 a0_8) BK289 8 rfl; have hfz54_0 := blk_frozen BK289.out 0; have hfz54_1 := blk_frozen BK289.out 1; have hfz54_2 := blk_frozen BK289.out 2; have hfz54_3 := blk_frozen BK289.out 3; have hfz54_4 := blk_frozen BK289.out 4; have hfz54_5 := blk_frozen BK289.out 5; have hfz54_6 := blk_frozen BK289.out 6; have hfz54_7 := blk_frozen BK289.out 7; have hfz54_8 := blk_frozen BK289.out 8) | ((with_reducible refine gate_callee (f := 20) rfl ?_); refine goesL_ (some 16) rfl rfl Tryd.func20 (by kernel_rfl) rfl #[.agg #[.int .i64 a0_0, .int .i64 a0_1, .int .i64 a0_2, .int .i64 a0_3, .int .i64 a0_4, .slice A0_5 l0_5.length c0_5, .slice A0_6 l0_6.length c0_6, .int .i64 a0_7, .int .i64 a0_8]] rfl (by (try simp only [List.map_toArray, List.map_cons, List.map_nil]); first | done | rfl | (simp only [List.length_drop, List.length_take]; rfl)) ?_; (with_reducible refine (carrefourref12_Cycles.calls a0_0 a0_1 a0_2 a0_3 a0_4 _ _ l0_5 _ _ l0_6 a0_7 a0_8 false _ ?side1 ?side2 ?side3 ?side4 A4.out).mono ?_); (case side1 => repeat (first | exact (Kd.C_below HR0_5.out HB.out) | (with_reducible refine Kd.C_alloc ?_ _) | (with_reducible refine Kd.C_drewN ?_ _) | (with_reducible refine Kd.C_drew ?_))); (case side2 => exact HC0_5.out); (case side3 => repeat (first | exact (Kd.C_below HR0_6.out HB.out) | (with_reducible refine Kd.C_alloc ?_ _) | (with_reducible refine Kd.C_drewN ?_ _) | (with_reducible refine Kd.C_drew ?_))); (case side4 => exact HC0_6.out); rintro e w55 ⟨rfl, hb⟩; refine ⟨_, rfl, ?_⟩; replace BK289 := bb BK289 hb; replace HB := bs HB hb; (try clear hb); (try clear hb2); (try clear hk); (try clear hi); have hcz56_0 := bc (v := .int .i64 a0_0) BK289 0 rfl; have hcz56_1 := bc (v := .int .i64 a0_1) BK289 1 rfl; have hcz56_2 := bc (v := .int .i64 a0_2) BK289 2 rfl; have hcz56_3 := bc (v := .int .i64 a0_3) BK289 3 rfl; have hcz56_4 := bc (v := .int .i64 a0_4) BK289 4 rfl; have hcz56_5 := bc (v := .slice A0_5 l0_5.length c0_5) BK289 5 rfl; have hcz56_6 := bc (v := .slice A0_6 l0_6.length c0_6) BK289 6 rfl; have hcz56_7 := bc (v := .int .i64 a0_7) BK289 7 rfl; have hcz56_8 := bc (v := .int .i64 a0_8) BK289 8 rfl; have hfz56_0 := blk_frozen BK289.out 0; have hfz56_1 := blk_frozen BK289.out 1; have hfz56_2 := blk_frozen BK289.out 2; have hfz56_3 := blk_frozen BK289.out 3; have hfz56_4 := blk_frozen BK289.out 4; have hfz56_5 := blk_frozen BK289.out 5; have hfz56_6 := blk_frozen BK289.out 6; have hfz56_7 := blk_frozen BK289.out 7; have hfz56_8 := blk_frozen BK289.out 8) | (go_at_call 15; (with_reducible refine (webster_Count.calls a0_0 a0_1 a0_2 a0_3 a0_4 _ _ l0_5 _ _ l0_6 a0_7 a0_8 t293 _ ?side1 ?side2 ?side3 ?side4 A48.out).mono ?_); (case side1 => repeat (first | exact (Kd.C_below HR0_5.out HB.out) | (with_reducible refine Kd.C_alloc ?_ _) | (with_reducible refine Kd.C_drewN ?_ _) | (with_reducible refine Kd.C_drew ?_))); (case side2 => exact HC0_5.out); (case side3 => repeat (first | exact (Kd.C_below HR0_6.out HB.out) | (with_reducible refine Kd.C_alloc ?_ _) | (with_reducible refine Kd.C_drewN ?_ _) | (with_reducible refine Kd.C_drew ?_))); (case side4 => exact HC0_6.out); rintro e w57 ⟨rfl, hb⟩; replace BK289 := bb BK289 hb; replace HB := bs HB hb; (try clear hb); (try clear hb2); (try clear hk); (try clear hi)) | (go_at_call 12; (with_reducible refine (carrefourlaw12_awake.calls k  t294 _ A50.out ?hT).mono ?_); (case hT => first | exact tb GT.out HB | exact tb0 GT.out); rintro e w58 ⟨rfl, hb⟩; replace BK289 := bb BK289 hb; replace HB := bs HB hb; (try clear hb); (try clear hb2); (try clear hk); (try clear hi)))
          go_ret
          exact ⟨by first | rfl | (simp [errW_none, errW_some] <;> rfl) | (simp [*, errW_none, errW_some] <;> rfl), by repeat (first | (with_reducible first | exact HB.out | apply below_alloc | apply pw_below_drewN | apply below_drew1 | refine below_set ?_ GE289.out) | exact HB.out)⟩
        · rw [if_neg c49] at H
          have c49b0 : (t293 == 0) = false := beq_eq_false_iff_ne.mpr c49
          have c49b1 : (t293 != 0) = true := bne_iff_ne.mpr c49
          obtain rfl := Option.some.inj H
          go_enter Tryd.func6, Tryd.ntmps6
          go_wp2_with (first | ((with_reducible refine gate_dst (N := 2) rfl ?_); refine box_event ?hg (N := 2) ?hd (cs := #[.int .i64 a0_0, .int .i64 a0_1, .int .i64 a0_2, .int .i64 a0_3, .int .i64 a0_4, .slice A0_5 l0_5.length c0_5, .slice A0_6 l0_6.length c0_6, .int .i64 a0_7, .int .i64 a0_8]) (t := 32) ?hr ?_; (case hd => rfl); (case hg => rfl); (case hr => first | (go_simp; done) | (go_simp; rfl)); intro gb289 hg w59 hbox hb; have BK289 := Aside0.mk (hbox); have GW289 := bz HB hg; have GE289 := bz HB hg; replace HB := bs HB hb; clear hb hbox hg; have hcz60_0 := bc (v := .int .i64 a0_0) BK289 0 rfl; have hcz60_1 := bc (v := .int .i64 a0_1) BK289 1 rfl; have hcz60_2 := bc (v := .int .i64 a0_2) BK289 2 rfl; have hcz60_3 := bc (v := .int .i64 a0_3) BK289 3 rfl; have hcz60_4 := bc (v := .int .i64 a0_4) BK289 4 rfl; have hcz60_5 := bc (v := .slice A0_5 l0_5.length c0_5) BK289 5 rfl; have hcz60_6 := bc (v := .slice A0_6 l0_6.length c0_6) BK289 6 rfl; have hcz60_7 := bc (v := .int .i64 a0_7) BK289 7 rfl; have hcz60_8 := bc (v := .int .i64 a0_8) BK289 8 rfl; have hfz60_0 := blk_frozen BK289.out 0; have hfz60_1 := blk_frozen BK289.out 1; have hfz60_2 := blk_frozen BK289.out 2; have hfz60_3 := blk_frozen BK289.out 3; have hfz60_4 := blk_frozen BK289.out 4; have hfz60_5 := blk_frozen BK289.out 5; have hfz60_6 := blk_frozen BK289.out 6; have hfz60_7 := blk_frozen BK289.out 7; have hfz60_8 := blk_frozen BK289.out 8) | ((with_reducible refine gate_callee (f := 13) rfl ?_); refine goesL_ (some 12) rfl rfl Tryd.func13 (by kernel_rfl) rfl #[.agg #[.int .i64 a0_0, .int .i64 a0_1, .int .i64 a0_2, .int .i64 a0_3, .int .i64 a0_4, .slice A0_5 l0_5.length c0_5, .slice A0_6 l0_6.length c0_6, .int .i64 a0_7, .int .i64 a0_8], .int .i64 a1] rfl (by (try simp only [List.map_toArray, List.map_cons, List.map_nil]); first | done | rfl | (simp only [List.length_drop, List.length_take]; rfl)) ?_; (with_reducible refine (webster_Allowed.calls a0_0 a0_1 a0_2 a0_3 a0_4 _ _ l0_5 _ _ l0_6 a0_7 a0_8 a1 t290 false _ ?side1 ?side2 ?side3 ?side4 A3.out).mono ?_); (case side1 => repeat (first | exact (Kd.C_below HR0_5.out HB.out) | (with_reducible refine Kd.C_alloc ?_ _) | (with_reducible refine Kd.C_drewN ?_ _) | (with_reducible refine Kd.C_drew ?_))); (case side2 => exact HC0_5.out); (case side3 => repeat (first | exact (Kd.C_below HR0_6.out HB.out) | (with_reducible refine Kd.C_alloc ?_ _) | (with_reducible refine Kd.C_drewN ?_ _) | (with_reducible refine Kd.C_drew ?_))); (case side4 => exact HC0_6.out); rintro e w61 ⟨rfl, hb⟩; refine ⟨_, rfl, ?_⟩; replace BK289 := bb BK289 hb; replace HB := bs HB hb; (try clear hb); (try clear hb2); (try clear hk); (try clear hi); have hcz62_0 := bc (v := .int .i64 a0_0) BK289 0 rfl; have hcz62_1 := bc (v := .int .i64 a0_1) BK289 1 rfl; have hcz62_2 := bc (v := .int .i64 a0_2) BK289 2 rfl; have hcz62_3 := bc (v := .int .i64 a0_3) BK289 3 rfl; have hcz62_4 := bc (v := .int .i64 a0_4) BK289 4 rfl; have hcz62_5 := bc (v := .slice A0_5 l0_5.length c0_5) BK289 5 rfl; have hcz62_6 := bc (v := .slice A0_6 l0_6.length c0_6) BK289 6 rfl; have hcz62_7 := bc (v := .int .i64 a0_7) BK289 7 rfl; have hcz62_8 := bc (v := .int .i64 a0_8) BK289 8 rfl; have hfz62_0 := blk_frozen BK289.out 0; have hfz62_1 := blk_frozen BK289.out 1; have hfz62_2 := blk_frozen BK289.out 2; have hfz62_3 := blk_frozen BK289.out 3; have hfz62_4 := blk_frozen BK289.out 4; have hfz62_5 := blk_frozen BK289.out 5; have hfz62_6 := blk_frozen BK289.out 6; have hfz62_7 := blk_frozen BK289.out 7; have hfz62_8 := blk_frozen BK289.out 8) | ((with_reducible refine gate_callee (f := 20) rfl ?_); refine goesL_ (some 16) rfl rfl Tryd.func20 (by kernel_rfl) rfl #[.agg #[.int .i64 a0_0, .int .i64 a0_1, .int .i64 a0_2, .int .i64 a0_3, .int .i64 a0_4, .slice A0_5 l0_5.length c0_5, .slice A0_6 l0_6.length c0_6, .int .i64 a0_7, .int .i64 a0_8]] rfl (by (try simp only [List.map_toArray, List.map_cons, List.map_nil]); first | done | rfl | (simp only [List.length_drop, List.length_take]; rfl)) ?_; (with_reducible refine (carrefourref12_Cycles.calls a0_0 a0_1 a0_2 a0_3 a0_4 _ _ l0_5 _ _ l0_6 a0_7 a0_8 false _ ?side1 ?side2 ?side3 ?side4 A4.out).mono ?_); (case side1 => repeat (first | exact (Kd.C_below HR0_5.out HB.out) | (with_reducible refine Kd.C_alloc ?_ _) | (with_reducible refine Kd.C_drewN ?_ _) | (with_reducible refine Kd.C_drew ?_))); (case side2 => exact HC0_5.out); (case side3 => repeat (first | exact (Kd.C_below HR0_6.out HB.out) | (with_reducible refine Kd.C_alloc ?_ _) | (with_reducible refine Kd.C_drewN ?_ _) | (with_reducible refine Kd.C_drew ?_))); (case side4 => exact HC0_6.out); rintro e w63 ⟨rfl, hb⟩; refine ⟨_, rfl, ?_⟩; replace BK289 := bb BK289 hb; replace HB := bs HB hb; (try clear hb); (try clear hb2); (try clear hk); (try clear hi); have hcz64_0 := bc (v := .int .i64 a0_0) BK289 0 rfl; have hcz64_1 := bc (v := .int .i64 a0_1) BK289 1 rfl; have hcz64_2 := bc (v := .int .i64 a0_2) BK289 2 rfl; have hcz64_3 := bc (v := .int .i64 a0_3) BK289 3 rfl; have hcz64_4 := bc (v := .int .i64 a0_4) BK289 4 rfl; have hcz64_5 := bc (v := .slice A0_5 l0_5.length c0_5) BK289 5 rfl; have hcz64_6 := bc (v := .slice A0_6 l0_6.length c0_6) BK289 6 rfl; have hcz64_7 := bc (v := .int .i64 a0_7) BK289 7 rfl; have hcz64_8 := bc (v := .int .i64 a0_8) BK289 8 rfl; have hfz64_0 := blk_frozen BK289.out 0; have hfz64_1 := blk_frozen BK289.out 1; have hfz64_2 := blk_frozen BK289.out 2; have hfz64_3 := blk_frozen BK289.out 3; have hfz64_4 := blk_frozen BK289.out 4; have hfz64_5 := blk_frozen BK289.out 5; have hfz64_6 := blk_frozen BK289.out 6; have hfz64_7 := blk_frozen BK289.out 7; have hfz64_8 := blk_frozen BK289.out 8) | (go_at_call 15; (with_reducible refine (webster_Count.calls a0_0 a0_1 a0_2 a0_3 a0_4 _ _ l0_5 _ _ l0_6 a0_7 a0_8 t293 _ ?side1 ?side2 ?side3 ?side4 A48.out).mono ?_); (case side1 => repeat (first | exact (Kd.C_below HR0_5.out HB.out) | (with_reducible refine Kd.C_alloc ?_ _) | (with_reducible refine Kd.C_drewN ?_ _) | (with_reducible refine Kd.C_drew ?_))); (case side2 => exact HC0_5.out); (case side3 => repeat (first | exact (Kd.C_below HR0_6.out HB.out) | (with_reducible refine Kd.C_alloc ?_ _) | (with_reducible refine Kd.C_drewN ?_ _) | (with_reducible refine Kd.C_drew ?_))); (case side4 => exact HC0_6.out); rintro e w65 ⟨rfl, hb⟩; replace BK289 := bb BK289 hb; replace HB := bs HB hb; (try clear hb); (try clear hb2); (try clear hk); (try clear hi)))
          go_ret
          exact ⟨by first | rfl | (simp [errW_none, errW_some] <;> rfl) | (simp [*, errW_none, errW_some] <;> rfl), by repeat (first | (with_reducible first | exact HB.out | apply below_alloc | apply pw_below_drewN | apply below_drew1 | refine below_set ?_ GE289.out) | exact HB.out)⟩
    · rw [if_neg c41] at H
      have c41b0 : (t290 == 0) = false := beq_eq_false_iff_ne.mpr c41
      have c41b1 : (t290 != 0) = true := bne_iff_ne.mpr c41
      obtain rfl := Option.some.inj H
      go_enter Tryd.func6, Tryd.ntmps6
      go_wp2_with (first | ((with_reducible refine gate_dst (N := 2) rfl ?_); refine box_event ?hg (N := 2) ?hd (cs := #[.int .i64 a0_0, .int .i64 a0_1, .int .i64 a0_2, .int .i64 a0_3, .int .i64 a0_4, .slice A0_5 l0_5.length c0_5, .slice A0_6 l0_6.length c0_6, .int .i64 a0_7, .int .i64 a0_8]) (t := 32) ?hr ?_; (case hd => rfl); (case hg => rfl); (case hr => first | (go_simp; done) | (go_simp; rfl)); intro gb289 hg w66 hbox hb; have BK289 := Aside0.mk (hbox); have GW289 := bz HB hg; have GE289 := bz HB hg; replace HB := bs HB hb; clear hb hbox hg; have hcz67_0 := bc (v := .int .i64 a0_0) BK289 0 rfl; have hcz67_1 := bc (v := .int .i64 a0_1) BK289 1 rfl; have hcz67_2 := bc (v := .int .i64 a0_2) BK289 2 rfl; have hcz67_3 := bc (v := .int .i64 a0_3) BK289 3 rfl; have hcz67_4 := bc (v := .int .i64 a0_4) BK289 4 rfl; have hcz67_5 := bc (v := .slice A0_5 l0_5.length c0_5) BK289 5 rfl; have hcz67_6 := bc (v := .slice A0_6 l0_6.length c0_6) BK289 6 rfl; have hcz67_7 := bc (v := .int .i64 a0_7) BK289 7 rfl; have hcz67_8 := bc (v := .int .i64 a0_8) BK289 8 rfl; have hfz67_0 := blk_frozen BK289.out 0; have hfz67_1 := blk_frozen BK289.out 1; have hfz67_2 := blk_frozen BK289.out 2; have hfz67_3 := blk_frozen BK289.out 3; have hfz67_4 := blk_frozen BK289.out 4; have hfz67_5 := blk_frozen BK289.out 5; have hfz67_6 := blk_frozen BK289.out 6; have hfz67_7 := blk_frozen BK289.out 7; have hfz67_8 := blk_frozen BK289.out 8) | ((with_reducible refine gate_callee (f := 13) rfl ?_); refine goesL_ (some 12) rfl rfl Tryd.func13 (by kernel_rfl) rfl #[.agg #[.int .i64 a0_0, .int .i64 a0_1, .int .i64 a0_2, .int .i64 a0_3, .int .i64 a0_4, .slice A0_5 l0_5.length c0_5, .slice A0_6 l0_6.length c0_6, .int .i64 a0_7, .int .i64 a0_8], .int .i64 a1] rfl (by (try simp only [List.map_toArray, List.map_cons, List.map_nil]); first | done | rfl | (simp only [List.length_drop, List.length_take]; rfl)) ?_; (with_reducible refine (webster_Allowed.calls a0_0 a0_1 a0_2 a0_3 a0_4 _ _ l0_5 _ _ l0_6 a0_7 a0_8 a1 t290 t291 _ ?side1 ?side2 ?side3 ?side4 A3.out).mono ?_); (case side1 => repeat (first | exact (Kd.C_below HR0_5.out HB.out) | (with_reducible refine Kd.C_alloc ?_ _) | (with_reducible refine Kd.C_drewN ?_ _) | (with_reducible refine Kd.C_drew ?_))); (case side2 => exact HC0_5.out); (case side3 => repeat (first | exact (Kd.C_below HR0_6.out HB.out) | (with_reducible refine Kd.C_alloc ?_ _) | (with_reducible refine Kd.C_drewN ?_ _) | (with_reducible refine Kd.C_drew ?_))); (case side4 => exact HC0_6.out); rintro e w68 ⟨rfl, hb⟩; refine ⟨_, rfl, ?_⟩; replace BK289 := bb BK289 hb; replace HB := bs HB hb; (try clear hb); (try clear hb2); (try clear hk); (try clear hi); have hcz69_0 := bc (v := .int .i64 a0_0) BK289 0 rfl; have hcz69_1 := bc (v := .int .i64 a0_1) BK289 1 rfl; have hcz69_2 := bc (v := .int .i64 a0_2) BK289 2 rfl; have hcz69_3 := bc (v := .int .i64 a0_3) BK289 3 rfl; have hcz69_4 := bc (v := .int .i64 a0_4) BK289 4 rfl; have hcz69_5 := bc (v := .slice A0_5 l0_5.length c0_5) BK289 5 rfl; have hcz69_6 := bc (v := .slice A0_6 l0_6.length c0_6) BK289 6 rfl; have hcz69_7 := bc (v := .int .i64 a0_7) BK289 7 rfl; have hcz69_8 := bc (v := .int .i64 a0_8) BK289 8 rfl; have hfz69_0 := blk_frozen BK289.out 0; have hfz69_1 := blk_frozen BK289.out 1; have hfz69_2 := blk_frozen BK289.out 2; have hfz69_3 := blk_frozen BK289.out 3; have hfz69_4 := blk_frozen BK289.out 4; have hfz69_5 := blk_frozen BK289.out 5; have hfz69_6 := blk_frozen BK289.out 6; have hfz69_7 := blk_frozen BK289.out 7; have hfz69_8 := blk_frozen BK289.out 8) | ((with_reducible refine gate_callee (f := 20) rfl ?_); refine goesL_ (some 16) rfl rfl Tryd.func20 (by kernel_rfl) rfl #[.agg #[.int .i64 a0_0, .int .i64 a0_1, .int .i64 a0_2, .int .i64 a0_3, .int .i64 a0_4, .slice A0_5 l0_5.length c0_5, .slice A0_6 l0_6.length c0_6, .int .i64 a0_7, .int .i64 a0_8]] rfl (by (try simp only [List.map_toArray, List.map_cons, List.map_nil]); first | done | rfl | (simp only [List.length_drop, List.length_take]; rfl)) ?_; (with_reducible refine (carrefourref12_Cycles.calls a0_0 a0_1 a0_2 a0_3 a0_4 _ _ l0_5 _ _ l0_6 a0_7 a0_8 false _ ?side1 ?side2 ?side3 ?side4 A4.out).mono ?_); (case side1 => repeat (first | exact (Kd.C_below HR0_5.out HB.out) | (with_reducible refine Kd.C_alloc ?_ _) | (with_reducible refine Kd.C_drewN ?_ _) | (with_reducible refine Kd.C_drew ?_))); (case side2 => exact HC0_5.out); (case side3 => repeat (first | exact (Kd.C_below HR0_6.out HB.out) | (with_reducible refine Kd.C_alloc ?_ _) | (with_reducible refine Kd.C_drewN ?_ _) | (with_reducible refine Kd.C_drew ?_))); (case side4 => exact HC0_6.out); rintro e w70 ⟨rfl, hb⟩; refine ⟨_, rfl, ?_⟩; replace BK289 := bb BK289 hb; replace HB := bs HB hb; (try clear hb); (try clear hb2); (try clear hk); (try clear hi)))
      go_ret
      exact ⟨by first | rfl | (simp [errW_none, errW_some] <;> rfl) | (simp [*, errW_none, errW_some] <;> rfl), by repeat (first | (with_reducible first | exact HB.out | apply below_alloc | apply pw_below_drewN | apply below_drew1 | refine below_set ?_ GE289.out) | exact HB.out)⟩

end Go.Proofs.YtpdmiookdmncpaaDoor.X
