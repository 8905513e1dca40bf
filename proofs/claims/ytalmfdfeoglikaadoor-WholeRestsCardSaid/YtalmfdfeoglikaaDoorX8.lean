/- The walks of functions of the program, laid by a program of this session over the translation: each '.calls' says that the Go function comes to what its Lean function tells. Conditions: as each theorem's head says. -/
import Derived.Test.YtalmfdfeoglikaaDoorX0
import Derived.Test.YtalmfdfeoglikaaDoorX2
import Derived.Test.YtalmfdfeoglikaaDoorX3
import Derived.Test.YtalmfdfeoglikaaDoorX5
import Derived.Test.YtalmfdfeoglikaaDoorX7
namespace Go.Proofs.YtalmfdfeoglikaaDoor.X
open Go.RowKit Go.Proofs.YtalmfdfeoglikaaDoorW.PrintWords Go.Proofs.YtalmfdfeoglikaaDoorW.PrintLast Go.Proofs.YtalmfdfeoglikaaDoorW.PrintMore
attribute [local go_sem] max2_int min2_int max_two min_two max_three min_three max_four min_four   -- for this text's walks alone
set_option linter.unusedVariables false
set_option linter.unusedSimpArgs false

/-! ### carrefourlaw01_WholeRests: function 4 -/
mutual
def carrefourlaw01_WholeRests.j0 : Nat → Int → Int → Int → Int → Option (Bool)
  | 0, _, _, _, _ => none
  | k + 1, x0, x1, x5, x6 => (whole_Neg.f x0).bind fun bt265 => ((whole_Ceil.f bt265.1 x1).bind fun bt267 => (if bt265.2 = 0 then (if x6 = 0 then (if x5 > (-9223372036854775808) then (if bt267.2 = 0 then (carrefourlaw01_WholeRests.j1 k x0 x1 (bt267.1 != (wrap64 (-x5)))) else (carrefourlaw01_WholeRests.j1 k x0 x1 true)) else (carrefourlaw01_WholeRests.j1 k x0 x1 false)) else (carrefourlaw01_WholeRests.j1 k x0 x1 false)) else (carrefourlaw01_WholeRests.j1 k x0 x1 false)))
def carrefourlaw01_WholeRests.j1 : Nat → Int → Int → Bool → Option (Bool)
  | 0, _, _, _ => none
  | k + 1, x0, x1, x85 => if x85 = true then (some false) else ((whole_Gcd.f k x0 x1).bind fun bt269 => ((whole_Lcm.f k x0 x1).bind fun bt271 => (if bt269.2 = 0 then (if bt271.2 = 0 then ((whole_Compare.f k bt269.1 bt271.1 x0 x1).bind fun t273 => (if t273 = 0 then (carrefourlaw01_WholeRests.j2 k x0 x1 bt269.1 bt269.2 false) else ((whole_Compare.f k bt269.1 bt271.1 (wrap64 (-x0)) x1).bind fun t274 => (carrefourlaw01_WholeRests.j2 k x0 x1 bt269.1 bt269.2 (t274 != 0))))) else (carrefourlaw01_WholeRests.j2 k x0 x1 bt269.1 bt269.2 false)) else (carrefourlaw01_WholeRests.j2 k x0 x1 bt269.1 bt269.2 false))))
def carrefourlaw01_WholeRests.j2 : Nat → Int → Int → Int → Int → Bool → Option (Bool)
  | 0, _, _, _, _, _ => none
  | k + 1, x0, x1, x13, x14, x120 => if x120 = true then (some false) else (if x14 = 0 then (if x13 > 0 then (if x13 = 0 then (none) else (if (Int.tmod x0 x13) = 0 then (if (Int.tmod x1 x13) = 0 then ((carrefourlaw01_awake.f k).bind fun t275 => (some t275)) else (some false)) else (some false))) else ((carrefourlaw01_awake.f k).bind fun t276 => (some t276))) else ((carrefourlaw01_awake.f k).bind fun t277 => (some t277)))
end
def carrefourlaw01_WholeRests.f (k : Nat) (a0 : Int) (a1 : Int) : Option (Bool) := (whole_Floor.f a0 a1).bind fun bt261 => ((whole_Mod.f a0 a1).bind fun bt263 => (if a1 ≥ 1 then (if bt261.2 = 0 then (if bt263.2 = 0 then (if bt263.1 < 0 then (some false) else (if bt263.1 ≥ a1 then (some false) else (if (wrap64 (a0 - bt263.1)) = (wrap64 (bt261.1 * a1)) then (carrefourlaw01_WholeRests.j0 k a0 a1 bt261.1 bt261.2) else (some false)))) else (some false)) else (some false)) else (carrefourlaw01_WholeRests.j0 k a0 a1 bt261.1 bt261.2)))
theorem carrefourlaw01_WholeRests.mono_l : ∀ k, (∀ y0 y1 y2 y3, LeO (carrefourlaw01_WholeRests.j0 k y0 y1 y2 y3) (carrefourlaw01_WholeRests.j0 (k + 1) y0 y1 y2 y3)) ∧ (∀ y0 y1 y2, LeO (carrefourlaw01_WholeRests.j1 k y0 y1 y2) (carrefourlaw01_WholeRests.j1 (k + 1) y0 y1 y2)) ∧ (∀ y0 y1 y2 y3 y4, LeO (carrefourlaw01_WholeRests.j2 k y0 y1 y2 y3 y4) (carrefourlaw01_WholeRests.j2 (k + 1) y0 y1 y2 y3 y4))
  | 0 => ⟨fun _ _ _ _ r h => by simp [carrefourlaw01_WholeRests.j0] at h, fun _ _ _ r h => by simp [carrefourlaw01_WholeRests.j1] at h, fun _ _ _ _ _ r h => by simp [carrefourlaw01_WholeRests.j2] at h⟩
  | k + 1 => by
    obtain ⟨ih0, ih1, ih2⟩ := carrefourlaw01_WholeRests.mono_l k
    refine ⟨?_, ?_, ?_⟩
    · intro y0 y1 y2 y3
      unfold carrefourlaw01_WholeRests.j0
      repeat' first
      | (with_reducible exact ih0 _ _ _ _)
      | (with_reducible exact ih1 _ _ _)
      | (with_reducible exact ih2 _ _ _ _ _)
      | (with_reducible exact carrefourlaw01_awake.mono _)
      | (with_reducible exact whole_Compare.mono _ _ _ _ _)
      | (with_reducible exact whole_Gcd.mono _ _ _)
      | (with_reducible exact whole_Lcm.mono _ _ _)
      | (with_reducible exact LeO.refl _)
      | (with_reducible exact LeO.none _)
      | (with_reducible refine LeO.ite ?_ ?_)
      | (with_reducible refine LeO.bind ?_ (fun _ => ?_))
      | exact ih0 _ _ _ _
      | exact ih1 _ _ _
      | exact ih2 _ _ _ _ _
      | exact carrefourlaw01_awake.mono _
      | exact whole_Compare.mono _ _ _ _ _
      | exact whole_Gcd.mono _ _ _
      | exact whole_Lcm.mono _ _ _
      | exact LeO.none _
      | refine LeO.ite ?_ ?_
      | refine LeO.bind ?_ (fun _ => ?_)
    · intro y0 y1 y2
      unfold carrefourlaw01_WholeRests.j1
      repeat' first
      | (with_reducible exact ih0 _ _ _ _)
      | (with_reducible exact ih1 _ _ _)
      | (with_reducible exact ih2 _ _ _ _ _)
      | (with_reducible exact carrefourlaw01_awake.mono _)
      | (with_reducible exact whole_Compare.mono _ _ _ _ _)
      | (with_reducible exact whole_Gcd.mono _ _ _)
      | (with_reducible exact whole_Lcm.mono _ _ _)
      | (with_reducible exact LeO.refl _)
      | (with_reducible exact LeO.none _)
      | (with_reducible refine LeO.ite ?_ ?_)
      | (with_reducible refine LeO.bind ?_ (fun _ => ?_))
      | exact ih0 _ _ _ _
      | exact ih1 _ _ _
      | exact ih2 _ _ _ _ _
      | exact carrefourlaw01_awake.mono _
      | exact whole_Compare.mono _ _ _ _ _
      | exact whole_Gcd.mono _ _ _
      | exact whole_Lcm.mono _ _ _
      | exact LeO.none _
      | refine LeO.ite ?_ ?_
      | refine LeO.bind ?_ (fun _ => ?_)
    · intro y0 y1 y2 y3 y4
      unfold carrefourlaw01_WholeRests.j2
      repeat' first
      | (with_reducible exact ih0 _ _ _ _)
      | (with_reducible exact ih1 _ _ _)
      | (with_reducible exact ih2 _ _ _ _ _)
      | (with_reducible exact carrefourlaw01_awake.mono _)
      | (with_reducible exact whole_Compare.mono _ _ _ _ _)
      | (with_reducible exact whole_Gcd.mono _ _ _)
      | (with_reducible exact whole_Lcm.mono _ _ _)
      | (with_reducible exact LeO.refl _)
      | (with_reducible exact LeO.none _)
      | (with_reducible refine LeO.ite ?_ ?_)
      | (with_reducible refine LeO.bind ?_ (fun _ => ?_))
      | exact ih0 _ _ _ _
      | exact ih1 _ _ _
      | exact ih2 _ _ _ _ _
      | exact carrefourlaw01_awake.mono _
      | exact whole_Compare.mono _ _ _ _ _
      | exact whole_Gcd.mono _ _ _
      | exact whole_Lcm.mono _ _ _
      | exact LeO.none _
      | refine LeO.ite ?_ ?_
      | refine LeO.bind ?_ (fun _ => ?_)
theorem carrefourlaw01_WholeRests.mono : ∀ a0 a1 k, LeO (carrefourlaw01_WholeRests.f k a0 a1) (carrefourlaw01_WholeRests.f (k + 1) a0 a1) := by
  intro a0 a1 k
  obtain ⟨ih0, ih1, ih2⟩ := carrefourlaw01_WholeRests.mono_l k
  unfold carrefourlaw01_WholeRests.f
  repeat' first
      | (with_reducible exact ih0 _ _ _ _)
      | (with_reducible exact ih1 _ _ _)
      | (with_reducible exact ih2 _ _ _ _ _)
      | (with_reducible exact carrefourlaw01_awake.mono _)
      | (with_reducible exact whole_Compare.mono _ _ _ _ _)
      | (with_reducible exact whole_Gcd.mono _ _ _)
      | (with_reducible exact whole_Lcm.mono _ _ _)
      | (with_reducible exact LeO.refl _)
      | (with_reducible exact LeO.none _)
      | (with_reducible refine LeO.ite ?_ ?_)
      | (with_reducible refine LeO.bind ?_ (fun _ => ?_))
      | exact ih0 _ _ _ _
      | exact ih1 _ _ _
      | exact ih2 _ _ _ _ _
      | exact carrefourlaw01_awake.mono _
      | exact whole_Compare.mono _ _ _ _ _
      | exact whole_Gcd.mono _ _ _
      | exact whole_Lcm.mono _ _ _
      | exact LeO.none _
      | refine LeO.ite ?_ ?_
      | refine LeO.bind ?_ (fun _ => ?_)
set_option maxHeartbeats 8000000 in
set_option maxRecDepth 100000 in
theorem carrefourlaw01_WholeRests.calls (k : Nat) (a0 : Int) (a1 : Int) (r : Bool) (w : World) (h : carrefourlaw01_WholeRests.f k a0 a1 = some r) (hT : TabOK w) :
    Calls Tryd.prog 4 #[.int .i64 a0, .int .i64 a1] w fun e w' => e = .returned (.bool r) ∧ Below w.heap.size w w' := by
  have GT := Aside0.mk hT
  clear hT
  have HB := Aside0.mk (Below.refl w.heap.size w)
  have H : ((whole_Floor.f a0 a1).bind fun bt261 => ((whole_Mod.f a0 a1).bind fun bt263 => (if a1 ≥ 1 then (if bt261.2 = 0 then (if bt263.2 = 0 then (if bt263.1 < 0 then (some false) else (if bt263.1 ≥ a1 then (some false) else (if (wrap64 (a0 - bt263.1)) = (wrap64 (bt261.1 * a1)) then (carrefourlaw01_WholeRests.j0 k a0 a1 bt261.1 bt261.2) else (some false)))) else (some false)) else (some false)) else (carrefourlaw01_WholeRests.j0 k a0 a1 bt261.1 bt261.2)))) = some r := h
  clear h
  replace H := Option.bind_eq_some_iff.mp H
  obtain ⟨⟨t261, t262⟩, A30, H⟩ := H
  replace H : ((whole_Mod.f a0 a1).bind fun bt263 => (if a1 ≥ 1 then (if t262 = 0 then (if bt263.2 = 0 then (if bt263.1 < 0 then (some false) else (if bt263.1 ≥ a1 then (some false) else (if (wrap64 (a0 - bt263.1)) = (wrap64 (t261 * a1)) then (carrefourlaw01_WholeRests.j0 k a0 a1 t261 t262) else (some false)))) else (some false)) else (some false)) else (carrefourlaw01_WholeRests.j0 k a0 a1 t261 t262))) = some r := H
  have A3 := Aside0.mk A30
  clear A30
  replace H := Option.bind_eq_some_iff.mp H
  obtain ⟨⟨t263, t264⟩, A40, H⟩ := H
  replace H : (if a1 ≥ 1 then (if t262 = 0 then (if t264 = 0 then (if t263 < 0 then (some false) else (if t263 ≥ a1 then (some false) else (if (wrap64 (a0 - t263)) = (wrap64 (t261 * a1)) then (carrefourlaw01_WholeRests.j0 k a0 a1 t261 t262) else (some false)))) else (some false)) else (some false)) else (carrefourlaw01_WholeRests.j0 k a0 a1 t261 t262)) = some r := H
  have A4 := Aside0.mk A40
  clear A40
  have HC5 := Aside0.mk H
  clear H
  go_enter Tryd.func4, Tryd.ntmps4
  go_upto_if 30 with (first | ((with_reducible refine gate_callee (f := 11) rfl ?_); refine goesL_ (some 20) rfl rfl Tryd.func11 (by kernel_rfl) rfl #[.int .i64 a0, .int .i64 a1] rfl (by (try simp only [List.map_toArray, List.map_cons, List.map_nil]); first | done | rfl | (simp only [List.length_drop, List.length_take]; rfl)) ?_; (with_reducible refine (whole_Floor.calls a0 a1 t261 t262 _ A3.out).mono ?_); rintro e w' ⟨rfl, ⟨nd, rfl⟩⟩; refine ⟨_, rfl, ?_⟩) | ((with_reducible refine gate_callee (f := 12) rfl ?_); refine goesL_ (some 26) rfl rfl Tryd.func12 (by kernel_rfl) rfl #[.int .i64 a0, .int .i64 a1] rfl (by (try simp only [List.map_toArray, List.map_cons, List.map_nil]); first | done | rfl | (simp only [List.length_drop, List.length_take]; rfl)) ?_; (with_reducible refine (whole_Mod.calls a0 a1 t263 t264 _ A4.out).mono ?_); rintro e w' ⟨rfl, ⟨nd, rfl⟩⟩; refine ⟨_, rfl, ?_⟩))
  (try simp only [Act.put, List.setIfInBounds_toArray, List.set_cons_zero, List.set_cons_succ])
  go_cut [] (fun wc => ∃ (kq : Nat), Aside0 (carrefourlaw01_WholeRests.j0 kq a0 a1 t261 t262 = some r) ∧ Aside0 (kq ≤ k) ∧ Aside0 (Below w.heap.size w wc))
  case first =>
    have H := HC5.out
    clear HC5
    by_cases c6 : a1 ≥ 1
    · rw [if_pos c6] at H
      have c6b0 : decide (1 ≤ a1) = true := decide_eq_true c6
      clear c6
      (first | rw [c6b0] | (simp only [i64_w, i32_w]; rw [c6b0]) | skip)
      by_cases c7 : t262 = 0
      · rw [if_pos c7] at H
        have c7b0 : (t262 == 0) = true := beq_iff_eq.mpr c7
        have c7b1 : (t262 != 0) = false := bne_eq_false_iff_eq.mpr c7
        clear c7
        by_cases c8 : t264 = 0
        · rw [if_pos c8] at H
          have c8b0 : (t264 == 0) = true := beq_iff_eq.mpr c8
          have c8b1 : (t264 != 0) = false := bne_eq_false_iff_eq.mpr c8
          clear c8
          by_cases c9 : t263 < 0
          · rw [if_pos c9] at H
            have c9b0 : decide (t263 < 0) = true := decide_eq_true c9
            clear c9
            obtain rfl := Option.some.inj H
            go_wp2
            go_ret
            exact ⟨by first | rfl | (simp [errW_none, errW_some] <;> rfl) | (simp [*, errW_none, errW_some] <;> rfl), by repeat (first | (with_reducible first | exact HB.out | apply below_alloc | apply pw_below_drewN | apply below_drew1) | exact HB.out)⟩
          · rw [if_neg c9] at H
            have c9b0 : decide (t263 < 0) = false := decide_eq_false c9
            clear c9
            by_cases c10 : t263 ≥ a1
            · rw [if_pos c10] at H
              have c10b0 : decide (a1 ≤ t263) = true := decide_eq_true c10
              clear c10
              obtain rfl := Option.some.inj H
              go_wp2
              go_ret
              exact ⟨by first | rfl | (simp [errW_none, errW_some] <;> rfl) | (simp [*, errW_none, errW_some] <;> rfl), by repeat (first | (with_reducible first | exact HB.out | apply below_alloc | apply pw_below_drewN | apply below_drew1) | exact HB.out)⟩
            · rw [if_neg c10] at H
              have c10b0 : decide (a1 ≤ t263) = false := decide_eq_false c10
              clear c10
              by_cases c11 : (wrap64 (a0 - t263)) = (wrap64 (t261 * a1))
              · rw [if_pos c11] at H
                have c11b0 : ((wrap64 (a0 - t263)) == (wrap64 (t261 * a1))) = true := beq_iff_eq.mpr c11
                have c11b1 : ((wrap64 (a0 - t263)) != (wrap64 (t261 * a1))) = false := bne_eq_false_iff_eq.mpr c11
                clear c11
                have H' := Aside0.mk H
                clear H
                go_wp2
                go_meet
                case rel => exact ⟨_, H', ⟨by first | omega | exact Nat.le_refl _⟩, ⟨by repeat (first | (with_reducible first | exact HB.out | apply below_alloc | apply pw_below_drewN | apply below_drew1) | exact HB.out)⟩⟩
              · rw [if_neg c11] at H
                have c11b0 : ((wrap64 (a0 - t263)) == (wrap64 (t261 * a1))) = false := beq_eq_false_iff_ne.mpr c11
                have c11b1 : ((wrap64 (a0 - t263)) != (wrap64 (t261 * a1))) = true := bne_iff_ne.mpr c11
                obtain rfl := Option.some.inj H
                go_wp2
                go_ret
                exact ⟨by first | rfl | (simp [errW_none, errW_some] <;> rfl) | (simp [*, errW_none, errW_some] <;> rfl), by repeat (first | (with_reducible first | exact HB.out | apply below_alloc | apply pw_below_drewN | apply below_drew1) | exact HB.out)⟩
        · rw [if_neg c8] at H
          have c8b0 : (t264 == 0) = false := beq_eq_false_iff_ne.mpr c8
          have c8b1 : (t264 != 0) = true := bne_iff_ne.mpr c8
          obtain rfl := Option.some.inj H
          go_wp2
          go_ret
          exact ⟨by first | rfl | (simp [errW_none, errW_some] <;> rfl) | (simp [*, errW_none, errW_some] <;> rfl), by repeat (first | (with_reducible first | exact HB.out | apply below_alloc | apply pw_below_drewN | apply below_drew1) | exact HB.out)⟩
      · rw [if_neg c7] at H
        have c7b0 : (t262 == 0) = false := beq_eq_false_iff_ne.mpr c7
        have c7b1 : (t262 != 0) = true := bne_iff_ne.mpr c7
        obtain rfl := Option.some.inj H
        go_wp2
        go_ret
        exact ⟨by first | rfl | (simp [errW_none, errW_some] <;> rfl) | (simp [*, errW_none, errW_some] <;> rfl), by repeat (first | (with_reducible first | exact HB.out | apply below_alloc | apply pw_below_drewN | apply below_drew1) | exact HB.out)⟩
    · rw [if_neg c6] at H
      have c6b0 : decide (1 ≤ a1) = false := decide_eq_false c6
      clear c6
      (first | rw [c6b0] | (simp only [i64_w, i32_w]; rw [c6b0]) | skip)
      have H' := Aside0.mk H
      clear H
      go_wp2
      go_meet
      case rel => exact ⟨_, H', ⟨by first | omega | exact Nat.le_refl _⟩, ⟨by repeat (first | (with_reducible first | exact HB.out | apply below_alloc | apply pw_below_drewN | apply below_drew1) | exact HB.out)⟩⟩
  case rest =>
    clear HC5
    try clear c1
    try clear p2
    try clear c4
    try clear c6
    try clear c6b0
    try clear p6
    try clear c7
    try clear c7b0
    try clear c7b1
    try clear c8
    try clear c8b0
    try clear c8b1
    try clear c9
    try clear c9b0
    try clear c10
    try clear c10b0
    try clear c11
    try clear c11b0
    try clear c11b1
    obtain ⟨kq, HA, HJ4, HB⟩ := hcut
    cases kq with
    | zero => exact absurd HA.out (by simp [carrefourlaw01_WholeRests.j0])
    | succ kj4 =>
      have H := HA.out
      clear HA
      simp only [carrefourlaw01_WholeRests.j0] at H
      replace H := Option.bind_eq_some_iff.mp H
      obtain ⟨⟨t265, t266⟩, A120, H⟩ := H
      replace H : ((whole_Ceil.f t265 a1).bind fun bt267 => (if t266 = 0 then (if t262 = 0 then (if t261 > (-9223372036854775808) then (if bt267.2 = 0 then (carrefourlaw01_WholeRests.j1 kj4 a0 a1 (bt267.1 != (wrap64 (-t261)))) else (carrefourlaw01_WholeRests.j1 kj4 a0 a1 true)) else (carrefourlaw01_WholeRests.j1 kj4 a0 a1 false)) else (carrefourlaw01_WholeRests.j1 kj4 a0 a1 false)) else (carrefourlaw01_WholeRests.j1 kj4 a0 a1 false))) = some r := H
      have A12 := Aside0.mk A120
      clear A120
      replace H := Option.bind_eq_some_iff.mp H
      obtain ⟨⟨t267, t268⟩, A130, H⟩ := H
      replace H : (if t266 = 0 then (if t262 = 0 then (if t261 > (-9223372036854775808) then (if t268 = 0 then (carrefourlaw01_WholeRests.j1 kj4 a0 a1 (t267 != (wrap64 (-t261)))) else (carrefourlaw01_WholeRests.j1 kj4 a0 a1 true)) else (carrefourlaw01_WholeRests.j1 kj4 a0 a1 false)) else (carrefourlaw01_WholeRests.j1 kj4 a0 a1 false)) else (carrefourlaw01_WholeRests.j1 kj4 a0 a1 false)) = some r := H
      have A13 := Aside0.mk A130
      clear A130
      have HC14 := Aside0.mk H
      clear H
      go_upto_region 8 with (first | ((with_reducible refine gate_callee (f := 13) rfl ?_); refine goesL_ (some 57) rfl rfl Tryd.func13 (by kernel_rfl) rfl #[.int .i64 a0] rfl (by (try simp only [List.map_toArray, List.map_cons, List.map_nil]); first | done | rfl | (simp only [List.length_drop, List.length_take]; rfl)) ?_; (with_reducible refine (whole_Neg.calls a0 t265 t266 _ A12.out).mono ?_); rintro e w' ⟨rfl, ⟨nd, rfl⟩⟩; refine ⟨_, rfl, ?_⟩) | ((with_reducible refine gate_callee (f := 14) rfl ?_); refine goesL_ (some 63) rfl rfl Tryd.func14 (by kernel_rfl) rfl #[.int .i64 t265, .int .i64 a1] rfl (by (try simp only [List.map_toArray, List.map_cons, List.map_nil]); first | done | rfl | (simp only [List.length_drop, List.length_take]; rfl)) ?_; (with_reducible refine (whole_Ceil.calls t265 a1 t267 t268 _ A13.out).mono ?_); rintro e w' ⟨rfl, ⟨nd, rfl⟩⟩; refine ⟨_, rfl, ?_⟩))
      (try simp only [Act.put, List.setIfInBounds_toArray, List.set_cons_zero, List.set_cons_succ])
      go_cut [85] (fun v85 wc => ∃ (kq : Nat) (x85_13 : Bool), v85 = .bool x85_13 ∧ Aside0 (carrefourlaw01_WholeRests.j1 kq a0 a1 x85_13 = some r) ∧ Aside0 (kq ≤ kj4) ∧ Aside0 (Below w.heap.size w wc))
      case first =>
        have H := HC14.out
        clear HC14
        by_cases c15 : t266 = 0
        · rw [if_pos c15] at H
          have c15b0 : (t266 == 0) = true := beq_iff_eq.mpr c15
          have c15b1 : (t266 != 0) = false := bne_eq_false_iff_eq.mpr c15
          clear c15
          (first | rw [c15b0] | (simp only [i64_w, i32_w]; rw [c15b0]) | skip)
          by_cases c16 : t262 = 0
          · rw [if_pos c16] at H
            have c16b0 : (t262 == 0) = true := beq_iff_eq.mpr c16
            have c16b1 : (t262 != 0) = false := bne_eq_false_iff_eq.mpr c16
            clear c16
            by_cases c17 : t261 > (-9223372036854775808)
            · rw [if_pos c17] at H
              have c17b0 : decide ((-9223372036854775808) < t261) = true := decide_eq_true c17
              clear c17
              by_cases c18 : t268 = 0
              · rw [if_pos c18] at H
                have c18b0 : (t268 == 0) = true := beq_iff_eq.mpr c18
                have c18b1 : (t268 != 0) = false := bne_eq_false_iff_eq.mpr c18
                clear c18
                have H' := Aside0.mk H
                clear H
                go_wp2
                go_meet
                case rel => exact ⟨_, ((t267 != (wrap64 (-t261)))), (by first | rfl | (simp; done) | (simp [*]; done)), H', ⟨by have := HJ4.out; first | omega | exact Nat.le_refl _⟩, ⟨by repeat (first | (with_reducible first | exact HB.out | apply below_alloc | apply pw_below_drewN | apply below_drew1) | exact HB.out)⟩⟩
              · rw [if_neg c18] at H
                have c18b0 : (t268 == 0) = false := beq_eq_false_iff_ne.mpr c18
                have c18b1 : (t268 != 0) = true := bne_iff_ne.mpr c18
                have H' := Aside0.mk H
                clear H
                go_wp2
                go_meet
                case rel => exact ⟨_, (true), (by first | rfl | (simp; done) | (simp [*]; done)), H', ⟨by have := HJ4.out; first | omega | exact Nat.le_refl _⟩, ⟨by repeat (first | (with_reducible first | exact HB.out | apply below_alloc | apply pw_below_drewN | apply below_drew1) | exact HB.out)⟩⟩
            · rw [if_neg c17] at H
              have c17b0 : decide ((-9223372036854775808) < t261) = false := decide_eq_false c17
              clear c17
              have H' := Aside0.mk H
              clear H
              go_wp2
              go_meet
              case rel => exact ⟨_, (false), (by first | rfl | (simp; done) | (simp [*]; done)), H', ⟨by have := HJ4.out; first | omega | exact Nat.le_refl _⟩, ⟨by repeat (first | (with_reducible first | exact HB.out | apply below_alloc | apply pw_below_drewN | apply below_drew1) | exact HB.out)⟩⟩
          · rw [if_neg c16] at H
            have c16b0 : (t262 == 0) = false := beq_eq_false_iff_ne.mpr c16
            have c16b1 : (t262 != 0) = true := bne_iff_ne.mpr c16
            have H' := Aside0.mk H
            clear H
            go_wp2
            go_meet
            case rel => exact ⟨_, (false), (by first | rfl | (simp; done) | (simp [*]; done)), H', ⟨by have := HJ4.out; first | omega | exact Nat.le_refl _⟩, ⟨by repeat (first | (with_reducible first | exact HB.out | apply below_alloc | apply pw_below_drewN | apply below_drew1) | exact HB.out)⟩⟩
        · rw [if_neg c15] at H
          have c15b0 : (t266 == 0) = false := beq_eq_false_iff_ne.mpr c15
          have c15b1 : (t266 != 0) = true := bne_iff_ne.mpr c15
          (first | rw [c15b0] | (simp only [i64_w, i32_w]; rw [c15b0]) | skip)
          have H' := Aside0.mk H
          clear H
          go_wp2
          go_meet
          case rel => exact ⟨_, (false), (by first | rfl | (simp; done) | (simp [*]; done)), H', ⟨by have := HJ4.out; first | omega | exact Nat.le_refl _⟩, ⟨by repeat (first | (with_reducible first | exact HB.out | apply below_alloc | apply pw_below_drewN | apply below_drew1) | exact HB.out)⟩⟩
      case rest =>
        clear HC14
        try clear c1
        try clear p2
        try clear c4
        try clear c6
        try clear c6b0
        try clear p6
        try clear c7
        try clear c7b0
        try clear c7b1
        try clear c8
        try clear c8b0
        try clear c8b1
        try clear c9
        try clear c9b0
        try clear c10
        try clear c10b0
        try clear c11
        try clear c11b0
        try clear c11b1
        try clear c12
        try clear c13
        try clear c14
        try clear c15
        try clear c15b0
        try clear c15b1
        try clear c16
        try clear c16b0
        try clear c16b1
        try clear c17
        try clear c17b0
        try clear c18
        try clear c18b0
        try clear c18b1
        try clear p2
        try clear p6
        obtain ⟨kq, x85_13, rfl, HA, HJ13, HB⟩ := hcut
        cases kq with
        | zero => exact absurd HA.out (by simp [carrefourlaw01_WholeRests.j1])
        | succ kj13 =>
          have H := HA.out
          clear HA
          simp only [carrefourlaw01_WholeRests.j1] at H
          by_cases c19 : x85_13 = true
          · subst c19
            have H1 : (some false) = some r := by rw [if_pos rfl] at H; exact H
            clear H
            have H := H1
            clear H1
            obtain rfl := Option.some.inj H
            go_wp2
            go_ret
            exact ⟨by first | rfl | (simp [errW_none, errW_some] <;> rfl) | (simp [*, errW_none, errW_some] <;> rfl), by repeat (first | (with_reducible first | exact HB.out | apply below_alloc | apply pw_below_drewN | apply below_drew1) | exact HB.out)⟩
          · replace c19 := Bool.eq_false_iff.mpr c19
            subst c19
            have H1 : ((whole_Gcd.f kj13 a0 a1).bind fun bt269 => ((whole_Lcm.f kj13 a0 a1).bind fun bt271 => (if bt269.2 = 0 then (if bt271.2 = 0 then ((whole_Compare.f kj13 bt269.1 bt271.1 a0 a1).bind fun t273 => (if t273 = 0 then (carrefourlaw01_WholeRests.j2 kj13 a0 a1 bt269.1 bt269.2 false) else ((whole_Compare.f kj13 bt269.1 bt271.1 (wrap64 (-a0)) a1).bind fun t274 => (carrefourlaw01_WholeRests.j2 kj13 a0 a1 bt269.1 bt269.2 (t274 != 0))))) else (carrefourlaw01_WholeRests.j2 kj13 a0 a1 bt269.1 bt269.2 false)) else (carrefourlaw01_WholeRests.j2 kj13 a0 a1 bt269.1 bt269.2 false)))) = some r := by rw [if_neg (show ¬ (false = true) by decide)] at H; exact H
            clear H
            have H := H1
            clear H1
            replace H := Option.bind_eq_some_iff.mp H
            obtain ⟨⟨t269, t270⟩, A200, H⟩ := H
            replace H : ((whole_Lcm.f kj13 a0 a1).bind fun bt271 => (if t270 = 0 then (if bt271.2 = 0 then ((whole_Compare.f kj13 t269 bt271.1 a0 a1).bind fun t273 => (if t273 = 0 then (carrefourlaw01_WholeRests.j2 kj13 a0 a1 t269 t270 false) else ((whole_Compare.f kj13 t269 bt271.1 (wrap64 (-a0)) a1).bind fun t274 => (carrefourlaw01_WholeRests.j2 kj13 a0 a1 t269 t270 (t274 != 0))))) else (carrefourlaw01_WholeRests.j2 kj13 a0 a1 t269 t270 false)) else (carrefourlaw01_WholeRests.j2 kj13 a0 a1 t269 t270 false))) = some r := H
            have A20 := Aside0.mk A200
            clear A200
            replace H := Option.bind_eq_some_iff.mp H
            obtain ⟨⟨t271, t272⟩, A210, H⟩ := H
            replace H : (if t270 = 0 then (if t272 = 0 then ((whole_Compare.f kj13 t269 t271 a0 a1).bind fun t273 => (if t273 = 0 then (carrefourlaw01_WholeRests.j2 kj13 a0 a1 t269 t270 false) else ((whole_Compare.f kj13 t269 t271 (wrap64 (-a0)) a1).bind fun t274 => (carrefourlaw01_WholeRests.j2 kj13 a0 a1 t269 t270 (t274 != 0))))) else (carrefourlaw01_WholeRests.j2 kj13 a0 a1 t269 t270 false)) else (carrefourlaw01_WholeRests.j2 kj13 a0 a1 t269 t270 false)) = some r := H
            have A21 := Aside0.mk A210
            clear A210
            have HC22 := Aside0.mk H
            clear H
            go_upto_region 12 with (first | ((with_reducible refine gate_callee (f := 5) rfl ?_); refine goesL_ (some 89) rfl rfl Tryd.func5 (by kernel_rfl) rfl #[.int .i64 a0, .int .i64 a1] rfl (by (try simp only [List.map_toArray, List.map_cons, List.map_nil]); first | done | rfl | (simp only [List.length_drop, List.length_take]; rfl)) ?_; (with_reducible refine (whole_Gcd.calls kj13 a0 a1 t269 t270 _ A20.out ?hT).mono ?_); (case hT => exact TabOK.below GT.out (by repeat (first | (with_reducible first | exact HB.out | exact Below.refl _ _ | apply below_alloc | apply pw_below_drewN | apply below_drew1) | exact HB.out))); rintro e w' ⟨rfl, ⟨nd, rfl⟩⟩; refine ⟨_, rfl, ?_⟩) | ((with_reducible refine gate_callee (f := 7) rfl ?_); refine goesL_ (some 95) rfl rfl Tryd.func7 (by kernel_rfl) rfl #[.int .i64 a0, .int .i64 a1] rfl (by (try simp only [List.map_toArray, List.map_cons, List.map_nil]); first | done | rfl | (simp only [List.length_drop, List.length_take]; rfl)) ?_; (with_reducible refine (whole_Lcm.calls kj13 a0 a1 t271 t272 _ A21.out ?hT).mono ?_); (case hT => exact TabOK.below GT.out (by repeat (first | (with_reducible first | exact HB.out | exact Below.refl _ _ | apply below_alloc | apply pw_below_drewN | apply below_drew1) | exact HB.out))); rintro e w' ⟨rfl, ⟨nd, rfl⟩⟩; refine ⟨_, rfl, ?_⟩))
            (try simp only [Act.put, List.setIfInBounds_toArray, List.set_cons_zero, List.set_cons_succ])
            go_cut [120] (fun v120 wc => ∃ (kq : Nat) (x120_21 : Bool), v120 = .bool x120_21 ∧ Aside0 (carrefourlaw01_WholeRests.j2 kq a0 a1 t269 t270 x120_21 = some r) ∧ Aside0 (kq ≤ kj13) ∧ Aside0 (Below w.heap.size w wc))
            case first =>
              have H := HC22.out
              clear HC22
              by_cases c23 : t270 = 0
              · rw [if_pos c23] at H
                have c23b0 : (t270 == 0) = true := beq_iff_eq.mpr c23
                have c23b1 : (t270 != 0) = false := bne_eq_false_iff_eq.mpr c23
                clear c23
                (first | rw [c23b0] | (simp only [i64_w, i32_w]; rw [c23b0]) | skip)
                by_cases c24 : t272 = 0
                · rw [if_pos c24] at H
                  have c24b0 : (t272 == 0) = true := beq_iff_eq.mpr c24
                  have c24b1 : (t272 != 0) = false := bne_eq_false_iff_eq.mpr c24
                  clear c24
                  replace H := Option.bind_eq_some_iff.mp H
                  obtain ⟨t273, A250, H⟩ := H
                  replace H : (if t273 = 0 then (carrefourlaw01_WholeRests.j2 kj13 a0 a1 t269 t270 false) else ((whole_Compare.f kj13 t269 t271 (wrap64 (-a0)) a1).bind fun t274 => (carrefourlaw01_WholeRests.j2 kj13 a0 a1 t269 t270 (t274 != 0)))) = some r := H
                  have A25 := Aside0.mk A250
                  clear A250
                  by_cases c26 : t273 = 0
                  · rw [if_pos c26] at H
                    have c26b0 : (t273 == 0) = true := beq_iff_eq.mpr c26
                    have c26b1 : (t273 != 0) = false := bne_eq_false_iff_eq.mpr c26
                    clear c26
                    have H' := Aside0.mk H
                    clear H
                    go_wp2_with (first | (go_at_call 15; (with_reducible refine (whole_Compare.calls kj13 t269 t271 a0 a1 t273 _ A25.out).mono ?_); rintro e w27 ⟨rfl, hb⟩; have n0_ := Aside0.mk (below_step (by repeat (first | (with_reducible first | exact HB.out | apply below_alloc | apply pw_below_drewN | apply below_drew1) | exact HB.out)) hb); clear HB; have HB := n0_; clear n0_; (try clear hb); (try clear hb2); (try clear hk); (try clear hi)))
                    go_meet
                    case rel => exact ⟨_, (false), (by first | rfl | (simp; done) | (simp [*]; done)), H', ⟨by have := HJ4.out; have := HJ13.out; first | omega | exact Nat.le_refl _⟩, ⟨by repeat (first | (with_reducible first | exact HB.out | apply below_alloc | apply pw_below_drewN | apply below_drew1) | exact HB.out)⟩⟩
                  · rw [if_neg c26] at H
                    have c26b0 : (t273 == 0) = false := beq_eq_false_iff_ne.mpr c26
                    have c26b1 : (t273 != 0) = true := bne_iff_ne.mpr c26
                    replace H := Option.bind_eq_some_iff.mp H
                    obtain ⟨t274, A280, H⟩ := H
                    replace H : (carrefourlaw01_WholeRests.j2 kj13 a0 a1 t269 t270 (t274 != 0)) = some r := H
                    have A28 := Aside0.mk A280
                    clear A280
                    have H' := Aside0.mk H
                    clear H
                    go_wp2_with (first | (go_at_call 15; (with_reducible refine (whole_Compare.calls kj13 t269 t271 a0 a1 t273 _ A25.out).mono ?_); rintro e w29 ⟨rfl, hb⟩; have n0_ := Aside0.mk (below_step (by repeat (first | (with_reducible first | exact HB.out | apply below_alloc | apply pw_below_drewN | apply below_drew1) | exact HB.out)) hb); clear HB; have HB := n0_; clear n0_; (try clear hb); (try clear hb2); (try clear hk); (try clear hi)) | (go_at_call 15; (with_reducible refine (whole_Compare.calls kj13 t269 t271 (wrap64 (-a0)) a1 t274 _ A28.out).mono ?_); rintro e w30 ⟨rfl, hb⟩; have n0_ := Aside0.mk (below_step (by repeat (first | (with_reducible first | exact HB.out | apply below_alloc | apply pw_below_drewN | apply below_drew1) | exact HB.out)) hb); clear HB; have HB := n0_; clear n0_; (try clear hb); (try clear hb2); (try clear hk); (try clear hi)))
                    go_meet
                    case rel => exact ⟨_, ((t274 != 0)), (by first | rfl | (simp; done) | (simp [*]; done)), H', ⟨by have := HJ4.out; have := HJ13.out; first | omega | exact Nat.le_refl _⟩, ⟨by repeat (first | (with_reducible first | exact HB.out | apply below_alloc | apply pw_below_drewN | apply below_drew1) | exact HB.out)⟩⟩
                · rw [if_neg c24] at H
                  have c24b0 : (t272 == 0) = false := beq_eq_false_iff_ne.mpr c24
                  have c24b1 : (t272 != 0) = true := bne_iff_ne.mpr c24
                  have H' := Aside0.mk H
                  clear H
                  go_wp2
                  go_meet
                  case rel => exact ⟨_, (false), (by first | rfl | (simp; done) | (simp [*]; done)), H', ⟨by have := HJ4.out; have := HJ13.out; first | omega | exact Nat.le_refl _⟩, ⟨by repeat (first | (with_reducible first | exact HB.out | apply below_alloc | apply pw_below_drewN | apply below_drew1) | exact HB.out)⟩⟩
              · rw [if_neg c23] at H
                have c23b0 : (t270 == 0) = false := beq_eq_false_iff_ne.mpr c23
                have c23b1 : (t270 != 0) = true := bne_iff_ne.mpr c23
                (first | rw [c23b0] | (simp only [i64_w, i32_w]; rw [c23b0]) | skip)
                have H' := Aside0.mk H
                clear H
                go_wp2
                go_meet
                case rel => exact ⟨_, (false), (by first | rfl | (simp; done) | (simp [*]; done)), H', ⟨by have := HJ4.out; have := HJ13.out; first | omega | exact Nat.le_refl _⟩, ⟨by repeat (first | (with_reducible first | exact HB.out | apply below_alloc | apply pw_below_drewN | apply below_drew1) | exact HB.out)⟩⟩
            case rest =>
              clear HC22
              try clear c1
              try clear c2
              try clear p2
              try clear c4
              try clear c5
              try clear c6
              try clear c6b0
              try clear p6
              try clear c7
              try clear c7b0
              try clear c7b1
              try clear c8
              try clear c8b0
              try clear c8b1
              try clear c9
              try clear c9b0
              try clear c10
              try clear c10b0
              try clear c11
              try clear c11b0
              try clear c11b1
              try clear c12
              try clear c13
              try clear c14
              try clear c15
              try clear c15b0
              try clear c15b1
              try clear c16
              try clear c16b0
              try clear c16b1
              try clear c17
              try clear c17b0
              try clear c18
              try clear c18b0
              try clear c18b1
              try clear c19
              try clear c23
              try clear c23b0
              try clear c23b1
              try clear c24
              try clear c24b0
              try clear c24b1
              try clear c26
              try clear c26b0
              try clear c26b1
              try clear p2
              try clear p6
              obtain ⟨kq, x120_21, rfl, HA, HJ21, HB⟩ := hcut
              cases kq with
              | zero => exact absurd HA.out (by simp [carrefourlaw01_WholeRests.j2])
              | succ kj21 =>
                have H := HA.out
                clear HA
                simp only [carrefourlaw01_WholeRests.j2] at H
                by_cases c31 : x120_21 = true
                · subst c31
                  have H1 : (some false) = some r := by rw [if_pos rfl] at H; exact H
                  clear H
                  have H := H1
                  clear H1
                  obtain rfl := Option.some.inj H
                  go_wp2
                  go_ret
                  exact ⟨by first | rfl | (simp [errW_none, errW_some] <;> rfl) | (simp [*, errW_none, errW_some] <;> rfl), by repeat (first | (with_reducible first | exact HB.out | apply below_alloc | apply pw_below_drewN | apply below_drew1) | exact HB.out)⟩
                · replace c31 := Bool.eq_false_iff.mpr c31
                  subst c31
                  have H1 : (if t270 = 0 then (if t269 > 0 then (if t269 = 0 then (none) else (if (Int.tmod a0 t269) = 0 then (if (Int.tmod a1 t269) = 0 then ((carrefourlaw01_awake.f kj21).bind fun t275 => (some t275)) else (some false)) else (some false))) else ((carrefourlaw01_awake.f kj21).bind fun t276 => (some t276))) else ((carrefourlaw01_awake.f kj21).bind fun t277 => (some t277))) = some r := by rw [if_neg (show ¬ (false = true) by decide)] at H; exact H
                  clear H
                  have H := H1
                  clear H1
                  by_cases c32 : t270 = 0
                  · rw [if_pos c32] at H
                    have c32b0 : (t270 == 0) = true := beq_iff_eq.mpr c32
                    have c32b1 : (t270 != 0) = false := bne_eq_false_iff_eq.mpr c32
                    clear c32
                    by_cases c33 : t269 > 0
                    · rw [if_pos c33] at H
                      have c33b0 : decide (0 < t269) = true := decide_eq_true c33
                      clear c33
                      by_cases c34 : t269 = 0
                      · rw [if_pos c34] at H
                        exact absurd H (by simp)
                      · rw [if_neg c34] at H
                        have c34b0 : (t269 == 0) = false := beq_eq_false_iff_ne.mpr c34
                        have c34b1 : (t269 != 0) = true := bne_iff_ne.mpr c34
                        by_cases c35 : (Int.tmod a0 t269) = 0
                        · rw [if_pos c35] at H
                          have c35b0 : ((Int.tmod a0 t269) == 0) = true := beq_iff_eq.mpr c35
                          have c35b1 : ((Int.tmod a0 t269) != 0) = false := bne_eq_false_iff_eq.mpr c35
                          clear c35
                          by_cases c36 : (Int.tmod a1 t269) = 0
                          · rw [if_pos c36] at H
                            have c36b0 : ((Int.tmod a1 t269) == 0) = true := beq_iff_eq.mpr c36
                            have c36b1 : ((Int.tmod a1 t269) != 0) = false := bne_eq_false_iff_eq.mpr c36
                            clear c36
                            replace H := Option.bind_eq_some_iff.mp H
                            obtain ⟨t275, A370, H⟩ := H
                            replace H : (some t275) = some r := H
                            have A37 := Aside0.mk A370
                            clear A370
                            obtain rfl := Option.some.inj H
                            go_wp2_with (first | ((with_reducible refine gate_callee (f := 10) rfl ?_); refine goesL_ (some 139) rfl rfl Tryd.func10 (by kernel_rfl) rfl #[] rfl (by (try simp only [List.map_toArray, List.map_cons, List.map_nil]); first | done | rfl | (simp only [List.length_drop, List.length_take]; rfl)) ?_; (with_reducible refine (carrefourlaw01_awake.calls kj21  t275 _ A37.out).mono ?_); rintro e w38 ⟨rfl, hb⟩; refine ⟨_, rfl, ?_⟩; have n0_ := Aside0.mk (below_step (by repeat (first | (with_reducible first | exact HB.out | apply below_alloc | apply pw_below_drewN | apply below_drew1) | exact HB.out)) hb); clear HB; have HB := n0_; clear n0_; (try clear hb); (try clear hb2); (try clear hk); (try clear hi)))
                            go_ret
                            exact ⟨by first | rfl | (simp [errW_none, errW_some] <;> rfl) | (simp [*, errW_none, errW_some] <;> rfl), by repeat (first | (with_reducible first | exact HB.out | apply below_alloc | apply pw_below_drewN | apply below_drew1) | exact HB.out)⟩
                          · rw [if_neg c36] at H
                            have c36b0 : ((Int.tmod a1 t269) == 0) = false := beq_eq_false_iff_ne.mpr c36
                            have c36b1 : ((Int.tmod a1 t269) != 0) = true := bne_iff_ne.mpr c36
                            obtain rfl := Option.some.inj H
                            go_wp2
                            go_ret
                            exact ⟨by first | rfl | (simp [errW_none, errW_some] <;> rfl) | (simp [*, errW_none, errW_some] <;> rfl), by repeat (first | (with_reducible first | exact HB.out | apply below_alloc | apply pw_below_drewN | apply below_drew1) | exact HB.out)⟩
                        · rw [if_neg c35] at H
                          have c35b0 : ((Int.tmod a0 t269) == 0) = false := beq_eq_false_iff_ne.mpr c35
                          have c35b1 : ((Int.tmod a0 t269) != 0) = true := bne_iff_ne.mpr c35
                          obtain rfl := Option.some.inj H
                          go_wp2
                          go_ret
                          exact ⟨by first | rfl | (simp [errW_none, errW_some] <;> rfl) | (simp [*, errW_none, errW_some] <;> rfl), by repeat (first | (with_reducible first | exact HB.out | apply below_alloc | apply pw_below_drewN | apply below_drew1) | exact HB.out)⟩
                    · rw [if_neg c33] at H
                      have c33b0 : decide (0 < t269) = false := decide_eq_false c33
                      clear c33
                      replace H := Option.bind_eq_some_iff.mp H
                      obtain ⟨t276, A390, H⟩ := H
                      replace H : (some t276) = some r := H
                      have A39 := Aside0.mk A390
                      clear A390
                      obtain rfl := Option.some.inj H
                      go_wp2_with (first | ((with_reducible refine gate_callee (f := 10) rfl ?_); refine goesL_ (some 139) rfl rfl Tryd.func10 (by kernel_rfl) rfl #[] rfl (by (try simp only [List.map_toArray, List.map_cons, List.map_nil]); first | done | rfl | (simp only [List.length_drop, List.length_take]; rfl)) ?_; (with_reducible refine (carrefourlaw01_awake.calls kj21  t276 _ A39.out).mono ?_); rintro e w40 ⟨rfl, hb⟩; refine ⟨_, rfl, ?_⟩; have n0_ := Aside0.mk (below_step (by repeat (first | (with_reducible first | exact HB.out | apply below_alloc | apply pw_below_drewN | apply below_drew1) | exact HB.out)) hb); clear HB; have HB := n0_; clear n0_; (try clear hb); (try clear hb2); (try clear hk); (try clear hi)))
                      go_ret
                      exact ⟨by first | rfl | (simp [errW_none, errW_some] <;> rfl) | (simp [*, errW_none, errW_some] <;> rfl), by repeat (first | (with_reducible first | exact HB.out | apply below_alloc | apply pw_below_drewN | apply below_drew1) | exact HB.out)⟩
                  · rw [if_neg c32] at H
                    have c32b0 : (t270 == 0) = false := beq_eq_false_iff_ne.mpr c32
                    have c32b1 : (t270 != 0) = true := bne_iff_ne.mpr c32
                    replace H := Option.bind_eq_some_iff.mp H
                    obtain ⟨t277, A410, H⟩ := H
                    replace H : (some t277) = some r := H
                    have A41 := Aside0.mk A410
                    clear A410
                    obtain rfl := Option.some.inj H
                    go_wp2_with (first | ((with_reducible refine gate_callee (f := 10) rfl ?_); refine goesL_ (some 139) rfl rfl Tryd.func10 (by kernel_rfl) rfl #[] rfl (by (try simp only [List.map_toArray, List.map_cons, List.map_nil]); first | done | rfl | (simp only [List.length_drop, List.length_take]; rfl)) ?_; (with_reducible refine (carrefourlaw01_awake.calls kj21  t277 _ A41.out).mono ?_); rintro e w42 ⟨rfl, hb⟩; refine ⟨_, rfl, ?_⟩; have n0_ := Aside0.mk (below_step (by repeat (first | (with_reducible first | exact HB.out | apply below_alloc | apply pw_below_drewN | apply below_drew1) | exact HB.out)) hb); clear HB; have HB := n0_; clear n0_; (try clear hb); (try clear hb2); (try clear hk); (try clear hi)))
                    go_ret
                    exact ⟨by first | rfl | (simp [errW_none, errW_some] <;> rfl) | (simp [*, errW_none, errW_some] <;> rfl), by repeat (first | (with_reducible first | exact HB.out | apply below_alloc | apply pw_below_drewN | apply below_drew1) | exact HB.out)⟩

/-- THE ONE PURE STATEMENT of carrefourlaw01_WholeRests: yours. -/
def carrefourlaw01_WholeRests.Pure : Prop := ∀ (a0 : Int) (a1 : Int), (Lit.int .i64 a0).wf = true → (Lit.int .i64 a1).wf = true → ∃ k, carrefourlaw01_WholeRests.f k a0 a1 = some true
theorem carrefourlaw01_WholeRests.walk (P : carrefourlaw01_WholeRests.Pure) (a0 : Int) (a1 : Int) (w : World) (w0 : (Lit.int .i64 a0).wf = true) (w1 : (Lit.int .i64 a1).wf = true) (hT : TabOK w) :
    Calls Tryd.prog 4 #[.int .i64 a0, .int .i64 a1] w fun e w' => e = .returned (.bool true) ∧ Below w.heap.size w w' := by
  have GT := Aside0.mk hT
  clear hT
  obtain ⟨k, h⟩ := P a0 a1 w0 w1
  refine (carrefourlaw01_WholeRests.calls k a0 a1 true w h (GT.out)).mono ?_
  rintro e w' ⟨rfl, hd⟩
  exact ⟨rfl, hd⟩

end Go.Proofs.YtalmfdfeoglikaaDoor.X
