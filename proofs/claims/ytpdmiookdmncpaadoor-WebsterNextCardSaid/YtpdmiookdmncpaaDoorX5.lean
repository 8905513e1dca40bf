/- The walks of functions of the program, laid by a program of this session over the translation: each '.calls' says that the Go function comes to what its Lean function tells. Conditions: as each theorem's head says. -/
import Derived.Test.YtpdmiookdmncpaaDoorX0
import Derived.Test.YtpdmiookdmncpaaDoorX2
import Derived.Test.YtpdmiookdmncpaaDoorX3
import Derived.Test.YtpdmiookdmncpaaDoorX4
namespace Go.Proofs.YtpdmiookdmncpaaDoor.X
open Go.RowKit Go.Proofs.YtpdmiookdmncpaaDoorW.PrintWords Go.Proofs.YtpdmiookdmncpaaDoorW.PrintLast Go.Proofs.YtpdmiookdmncpaaDoorW.PrintMore
attribute [local go_sem] max2_int min2_int max_two min_two max_three min_three max_four min_four   -- for this text's walks alone
set_option linter.unusedVariables false
set_option linter.unusedSimpArgs false

/-! ### frac_wide_over: function 88 -/
def frac_wide_over.l0 : Nat → Int → Int → Int → Int → Int → Int → Int → Option (Int × Int)
  | 0, _, _, _, _, _, _, _ => none
  | k + 1, x6, x154000, x154001, x155000, x155001, x157000, x157001 => if x6 ≥ 0 then ((frac_wide_up.f x157000 x157001 1).bind fun bt159 => ((frac_wide_up.f x155000 x155001 x6).bind fun bt161 => ((frac_wide_cmp.f bt161.1 bt161.2 x154000 x154001).bind fun t164 => (if t164 ≤ 0 then ((frac_wide_minus.f x154000 x154001 bt161.1 bt161.2).bind fun bt165 => (frac_wide_over.l0 k (wrap64 (x6 - 1)) bt165.1 bt165.2 x155000 x155001 bt159.1 (Go.bits .or .u64 bt159.2 1))) else (frac_wide_over.l0 k (wrap64 (x6 - 1)) x154000 x154001 x155000 x155001 bt159.1 bt159.2))))) else (some (x157000, x157001))
def frac_wide_over.f (k : Nat) (a0_0 : Int) (a0_1 : Int) (a1_0 : Int) (a1_1 : Int) : Option (Int × Int) := (frac_wide_long.f a0_0 a0_1).bind fun t157 => ((frac_wide_long.f a1_0 a1_1).bind fun t158 => (frac_wide_over.l0 k (wrap64 (t157 - t158)) a0_0 a0_1 a1_0 a1_1 0 0))
theorem frac_wide_over.mono_l : ∀ k, (∀ y0 y1 y2 y3 y4 y5 y6, LeO (frac_wide_over.l0 k y0 y1 y2 y3 y4 y5 y6) (frac_wide_over.l0 (k + 1) y0 y1 y2 y3 y4 y5 y6))
  | 0 => fun _ _ _ _ _ _ _ r h => by simp [frac_wide_over.l0] at h
  | k + 1 => by
    have ih0 := frac_wide_over.mono_l k
    · intro y0 y1 y2 y3 y4 y5 y6
      unfold frac_wide_over.l0
      repeat' first
      | (with_reducible exact ih0 _ _ _ _ _ _ _)
      | (with_reducible exact LeO.refl _)
      | (with_reducible exact LeO.none _)
      | (with_reducible refine LeO.ite ?_ ?_)
      | (with_reducible refine LeO.bind ?_ (fun _ => ?_))
      | exact ih0 _ _ _ _ _ _ _
      | exact LeO.none _
      | refine LeO.ite ?_ ?_
      | refine LeO.bind ?_ (fun _ => ?_)
theorem frac_wide_over.mono : ∀ a0 a1 a2 a3 k, LeO (frac_wide_over.f k a0 a1 a2 a3) (frac_wide_over.f (k + 1) a0 a1 a2 a3) := by
  intro a0 a1 a2 a3 k
  have ih0 := frac_wide_over.mono_l k
  unfold frac_wide_over.f
  repeat' first
      | (with_reducible exact ih0 _ _ _ _ _ _ _)
      | (with_reducible exact LeO.refl _)
      | (with_reducible exact LeO.none _)
      | (with_reducible refine LeO.ite ?_ ?_)
      | (with_reducible refine LeO.bind ?_ (fun _ => ?_))
      | exact ih0 _ _ _ _ _ _ _
      | exact LeO.none _
      | refine LeO.ite ?_ ?_
      | refine LeO.bind ?_ (fun _ => ?_)
set_option maxHeartbeats 8000000 in
set_option maxRecDepth 100000 in
theorem frac_wide_over.calls (k : Nat) (a0_0 : Int) (a0_1 : Int) (a1_0 : Int) (a1_1 : Int) (r1 : Int) (r2 : Int) (w : World) (h : frac_wide_over.f k a0_0 a0_1 a1_0 a1_1 = some (r1, r2)) :
    Calls Tryd.prog 88 #[.agg #[.int .u64 a0_0, .int .u64 a0_1], .agg #[.int .u64 a1_0, .int .u64 a1_1]] w fun e w' => e = .returned (.agg #[.int .u64 r1, .int .u64 r2]) ∧ Below w.heap.size w w' := by
  have hu104 := Tryd.underlying104
  have HB := Aside0.mk (Below.refl w.heap.size w)
  have H : ((frac_wide_long.f a0_0 a0_1).bind fun t157 => ((frac_wide_long.f a1_0 a1_1).bind fun t158 => (frac_wide_over.l0 k (wrap64 (t157 - t158)) a0_0 a0_1 a1_0 a1_1 0 0))) = some (r1, r2) := h
  clear h
  replace H := Option.bind_eq_some_iff.mp H
  obtain ⟨t157, A30, H⟩ := H
  replace H : ((frac_wide_long.f a1_0 a1_1).bind fun t158 => (frac_wide_over.l0 k (wrap64 (t157 - t158)) a0_0 a0_1 a1_0 a1_1 0 0)) = some (r1, r2) := H
  have A3 := Aside0.mk A30
  clear A30
  replace H := Option.bind_eq_some_iff.mp H
  obtain ⟨t158, A40, H⟩ := H
  replace H : (frac_wide_over.l0 k (wrap64 (t157 - t158)) a0_0 a0_1 a1_0 a1_1 0 0) = some (r1, r2) := H
  have A4 := Aside0.mk A40
  clear A40
  have H' := Aside0.mk H
  clear H
  go_enter Tryd.func88, Tryd.ntmps88
  try go_wp2_with (first | ((with_reducible refine gate_dst (N := 2) rfl ?_); refine box_event ?hg (N := 2) ?hd (cs := #[.int .u64 a0_0, .int .u64 a0_1]) (t := 104) ?hr ?_; (case hd => rfl); (case hg => rfl); (case hr => first | (go_simp; done) | (go_simp; rfl)); intro gb153 hg w5 hbox hb; have BK153 := Aside0.mk (hbox); have GW153 := bz HB hg; have GE153 := bz HB hg; replace HB := bs HB hb; clear hb hbox hg) | ((with_reducible refine gate_dst (N := 3) rfl ?_); refine box_event ?hg (N := 3) ?hd (cs := #[.int .u64 a1_0, .int .u64 a1_1]) (t := 104) ?hr ?_; (case hd => rfl); (case hg => rfl); (case hr => first | (go_simp; done) | (go_simp; rfl)); intro gb154 hg w6 hbox hb; have BK154 := Aside0.mk (hbox); have GW154 := bz HB hg; have GE154 := bz HB hg; have NB153_154 := bl BK153 hg; have NB154_153 := bg BK153 hg; replace BK153 := bb BK153 hb; replace HB := bs HB hb; clear hb hbox hg) | ((with_reducible refine gate_dst (N := 4) rfl ?_); refine box_event ?hg (N := 4) ?hd (cs := #[.int .u64 0, .int .u64 0]) (t := 104) ?hr ?_; (case hd => rfl); (case hg => rfl); (case hr => first | (go_simp; done) | (go_simp; rfl)); intro gb155 hg w7 hbox hb; have BK155 := Aside0.mk (hbox); have GW155 := bz HB hg; have GE155 := bz HB hg; have NB153_155 := bl BK153 hg; have NB155_153 := bg BK153 hg; have NB154_155 := bl BK154 hg; have NB155_154 := bg BK154 hg; replace BK153 := bb BK153 hb; replace BK154 := bb BK154 hb; replace HB := bs HB hb; clear hb hbox hg) | ((with_reducible refine gate_dst (N := 5) rfl ?_); refine box_event ?hg (N := 5) ?hd (cs := #[.int .u64 0, .int .u64 0]) (t := 104) ?hr ?_; (case hd => rfl); (case hg => rfl); (case hr => first | (go_simp; done) | (go_simp; rfl)); intro gb156 hg w8 hbox hb; have BK156 := Aside0.mk (hbox); have GW156 := bz HB hg; have GE156 := bz HB hg; have NB153_156 := bl BK153 hg; have NB156_153 := bg BK153 hg; have NB154_156 := bl BK154 hg; have NB156_154 := bg BK154 hg; have NB155_156 := bl BK155 hg; have NB156_155 := bg BK155 hg; replace BK153 := bb BK153 hb; replace BK154 := bb BK154 hb; replace BK155 := bb BK155 hb; replace HB := bs HB hb; clear hb hbox hg))
  replace BK153 := Aside0.mk (blk_drew BK153.out)
  replace BK154 := Aside0.mk (blk_drew BK154.out)
  replace BK155 := Aside0.mk (blk_drew BK155.out)
  replace BK156 := Aside0.mk (blk_drew BK156.out)
  replace HB := Aside0.mk (below_drew1 HB.out)
  refine start_ (n := 6) (S := fun w' => w'.cell? ⟨gb153, 0, none⟩ = some (.int .u64 a0_0) ∧ w'.cell? ⟨gb153, 1, none⟩ = some (.int .u64 a0_1) ∧ w'.cell? ⟨gb154, 0, none⟩ = some (.int .u64 a1_0) ∧ w'.cell? ⟨gb154, 1, none⟩ = some (.int .u64 a1_1)) (ds := []) #[false, false, false, false, false, false] (by kernel_rfl) rfl rfl ⟨(blk_cell BK153.out 0).trans rfl, (blk_cell BK153.out 1).trans rfl, (blk_cell BK154.out 0).trans rfl, (blk_cell BK154.out 1).trans rfl⟩ (fun hHeld => ?_)
  generalize w8.drew = w9 at BK153 BK154 BK155 BK156 HB hHeld ⊢
  refine take_ (i := 0) (N := some 8) (v := ?_) (a' := ?_) #[true, false, false, false, false, false] rfl rfl (by kernel_rfl) (fun _ _ _ h => h) (Or.inl ⟨by rfl, ?_⟩) hHeld ?_ ?_
  rotate_left
  · rintro w' ⟨s0, s1, s2, s3⟩
    go_simp
    with_reducible rfl
  rotate_left
  · simp only [Act.put, List.setIfInBounds_toArray, List.set_cons_zero, List.set_cons_succ, i64_w, i32_w]
    rfl
  refine take_ (i := 2) (N := some 10) (v := ?_) (a' := ?_) #[true, false, true, false, false, false] rfl rfl (by kernel_rfl) (fun _ _ _ h => h) (Or.inl ⟨by rfl, ?_⟩) hHeld ?_ ?_
  rotate_left
  · rintro w' ⟨s0, s1, s2, s3⟩
    go_simp
    with_reducible rfl
  rotate_left
  · simp only [Act.put, List.setIfInBounds_toArray, List.set_cons_zero, List.set_cons_succ, i64_w, i32_w]
    rfl
  refine one_ (i := 1) (N := some 9) #[true, true, true, false, false, false] rfl rfl (by kernel_rfl) (by decide) (fun K hK => ?_)
  refine goes_ Tryd.func106 (by kernel_rfl) rfl #[.agg #[.int .u64 a0_0, .int .u64 a0_1]] (by rfl) rfl rfl (by (try simp only [List.map_toArray, List.map_cons, List.map_nil]); first | done | rfl | (simp only [List.length_drop, List.length_take]; rfl)) ?_
  with_reducible refine (frac_wide_long.calls a0_0 a0_1 t157 _ A3.out).mono ?_
  rintro e w10 ⟨rfl, hb⟩
  refine ⟨_, rfl, ?_⟩
  replace BK153 := bb BK153 hb
  replace BK154 := bb BK154 hb
  replace BK155 := bb BK155 hb
  replace BK156 := bb BK156 hb
  replace HB := bs HB hb
  (try clear hb)
  (try clear hb2)
  (try clear hk)
  (try clear hi)
  refine hK.out _ _ ⟨(blk_cell BK153.out 0).trans rfl, (blk_cell BK153.out 1).trans rfl, (blk_cell BK154.out 0).trans rfl, (blk_cell BK154.out 1).trans rfl⟩ (fun hHeld => ?_)
  clear hK K
  refine norm_ (a' := ?_) ?_ ?_
  rotate_left
  · show Act.put _ (some 9) _ = _
    simp only [Act.put, List.setIfInBounds_toArray, List.set_cons_zero, List.set_cons_succ, i64_w, i32_w]
    rfl
  refine one_ (i := 3) (N := some 11) #[true, true, true, true, false, false] rfl rfl (by kernel_rfl) (by decide) (fun K hK => ?_)
  refine goes_ Tryd.func106 (by kernel_rfl) rfl #[.agg #[.int .u64 a1_0, .int .u64 a1_1]] (by rfl) rfl rfl (by (try simp only [List.map_toArray, List.map_cons, List.map_nil]); first | done | rfl | (simp only [List.length_drop, List.length_take]; rfl)) ?_
  with_reducible refine (frac_wide_long.calls a1_0 a1_1 t158 _ A4.out).mono ?_
  rintro e w11 ⟨rfl, hb⟩
  refine ⟨_, rfl, ?_⟩
  replace BK153 := bb BK153 hb
  replace BK154 := bb BK154 hb
  replace BK155 := bb BK155 hb
  replace BK156 := bb BK156 hb
  replace HB := bs HB hb
  (try clear hb)
  (try clear hb2)
  (try clear hk)
  (try clear hi)
  refine hK.out _ _ ⟨(blk_cell BK153.out 0).trans rfl, (blk_cell BK153.out 1).trans rfl, (blk_cell BK154.out 0).trans rfl, (blk_cell BK154.out 1).trans rfl⟩ (fun hHeld => ?_)
  clear hK K
  refine norm_ (a' := ?_) ?_ ?_
  rotate_left
  · show Act.put _ (some 11) _ = _
    simp only [Act.put, List.setIfInBounds_toArray, List.set_cons_zero, List.set_cons_succ, i64_w, i32_w]
    rfl
  refine pure_ (i := 4) (N := some 12) (v := ?_) (a' := ?_) #[true, true, true, true, true, false] rfl rfl (by kernel_rfl) (fun _ _ _ h => h) (Or.inl ⟨by rfl, ?_⟩) ?_ ?_
  rotate_left
  · intro w'
    go_simp
    with_reducible rfl
  rotate_left
  · simp only [Act.put, List.setIfInBounds_toArray, List.set_cons_zero, List.set_cons_succ, i64_w, i32_w]
    rfl
  refine pure_ (i := 5) (N := some 6) (v := ?_) (a' := ?_) #[true, true, true, true, true, true] rfl rfl (by kernel_rfl) (fun _ _ _ h => h) (Or.inl ⟨by rfl, ?_⟩) ?_ ?_
  rotate_left
  · intro w'
    go_simp
    with_reducible rfl
  rotate_left
  · simp only [Act.put, List.setIfInBounds_toArray, List.set_cons_zero, List.set_cons_succ, i64_w, i32_w]
    rfl
  refine done_ (by kernel_rfl) ?_
  try go_wp2
  go_loopg [6] k (fun kq v6 w' => ∃ (x6_1 : Int) (x154000_1 : Int) (x154001_1 : Int) (x157000_1 : Int) (x157001_1 : Int), v6 = .int .i64 x6_1 ∧ Aside0 (frac_wide_over.l0 kq x6_1 x154000_1 x154001_1 a1_0 a1_1 x157000_1 x157001_1 = some (r1, r2)) ∧ Aside0 (kq ≤ k) ∧ Aside0 (w'.heap[gb153]? = some (.cells #[.int .u64 x154000_1, .int .u64 x154001_1] 104 (0, 0))) ∧ Aside0 (w'.heap[gb154]? = some (.cells #[.int .u64 a1_0, .int .u64 a1_1] 104 (0, 0))) ∧ Aside0 (w'.heap[gb155]? = some (.cells #[.int .u64 0, .int .u64 0] 104 (0, 0))) ∧ Aside0 (w'.heap[gb156]? = some (.cells #[.int .u64 x157000_1, .int .u64 x157001_1] 104 (0, 0))) ∧ Aside0 (Below w.heap.size w w'))
  case atStart => exact ⟨(wrap64 (t157 - t158)), (a0_0), (a0_1), (0), (0), (by first | rfl | (simp; done) | (simp [*]; done)), H', ⟨Nat.le_refl _⟩, ⟨by (with_reducible repeat (first | refine blk_drewN ?_ _ | refine blk_drew ?_ | refine blk_alloc ?_ _)); exact BK153.out⟩, ⟨by (with_reducible repeat (first | refine blk_drewN ?_ _ | refine blk_drew ?_ | refine blk_alloc ?_ _)); exact BK154.out⟩, ⟨by (with_reducible repeat (first | refine blk_drewN ?_ _ | refine blk_drew ?_ | refine blk_alloc ?_ _)); exact BK155.out⟩, ⟨by (with_reducible repeat (first | refine blk_drewN ?_ _ | refine blk_drew ?_ | refine blk_alloc ?_ _)); exact BK156.out⟩, ⟨by repeat (first | (with_reducible first | exact HB.out | apply below_alloc | apply pw_below_drewN | apply below_drew1 | refine below_set ?_ GE153.out | refine below_set ?_ GE154.out | refine below_set ?_ GE155.out | refine below_set ?_ GE156.out) | exact HB.out)⟩⟩
  case round =>
    clear H'
    try clear c1
    try clear p2
    try clear p6
    try clear c8
    try clear c10
    obtain ⟨x6_1, x154000_1, x154001_1, x157000_1, x157001_1, rfl, HA, HK1, BK153, BK154, BK155, BK156, HB⟩ := hrel
    cases gk with
    | zero => exact absurd HA.out (by simp [frac_wide_over.l0])
    | succ k1 =>
      have H := HA.out
      clear HA
      simp only [frac_wide_over.l0] at H
      by_cases c12 : x6_1 ≥ 0
      · rw [if_pos c12] at H
        have c12b0 : decide (0 ≤ x6_1) = true := decide_eq_true c12
        clear c12
        replace H := Option.bind_eq_some_iff.mp H
        obtain ⟨⟨t159, t160⟩, A130, H⟩ := H
        replace H : ((frac_wide_up.f a1_0 a1_1 x6_1).bind fun bt161 => ((frac_wide_cmp.f bt161.1 bt161.2 x154000_1 x154001_1).bind fun t164 => (if t164 ≤ 0 then ((frac_wide_minus.f x154000_1 x154001_1 bt161.1 bt161.2).bind fun bt165 => (frac_wide_over.l0 k1 (wrap64 (x6_1 - 1)) bt165.1 bt165.2 a1_0 a1_1 t159 (Go.bits .or .u64 t160 1))) else (frac_wide_over.l0 k1 (wrap64 (x6_1 - 1)) x154000_1 x154001_1 a1_0 a1_1 t159 t160)))) = some (r1, r2) := H
        have A13 := Aside0.mk A130
        clear A130
        replace H := Option.bind_eq_some_iff.mp H
        obtain ⟨⟨t161, t162⟩, A140, H⟩ := H
        replace H : ((frac_wide_cmp.f t161 t162 x154000_1 x154001_1).bind fun t164 => (if t164 ≤ 0 then ((frac_wide_minus.f x154000_1 x154001_1 t161 t162).bind fun bt165 => (frac_wide_over.l0 k1 (wrap64 (x6_1 - 1)) bt165.1 bt165.2 a1_0 a1_1 t159 (Go.bits .or .u64 t160 1))) else (frac_wide_over.l0 k1 (wrap64 (x6_1 - 1)) x154000_1 x154001_1 a1_0 a1_1 t159 t160))) = some (r1, r2) := H
        have A14 := Aside0.mk A140
        clear A140
        replace H := Option.bind_eq_some_iff.mp H
        obtain ⟨t164, A150, H⟩ := H
        replace H : (if t164 ≤ 0 then ((frac_wide_minus.f x154000_1 x154001_1 t161 t162).bind fun bt165 => (frac_wide_over.l0 k1 (wrap64 (x6_1 - 1)) bt165.1 bt165.2 a1_0 a1_1 t159 (Go.bits .or .u64 t160 1))) else (frac_wide_over.l0 k1 (wrap64 (x6_1 - 1)) x154000_1 x154001_1 a1_0 a1_1 t159 t160)) = some (r1, r2) := H
        have A15 := Aside0.mk A150
        clear A150
        by_cases c16 : t164 ≤ 0
        · rw [if_pos c16] at H
          have c16b0 : decide (t164 ≤ 0) = true := decide_eq_true c16
          clear c16
          replace H := Option.bind_eq_some_iff.mp H
          obtain ⟨⟨t165, t166⟩, A170, H⟩ := H
          replace H : (frac_wide_over.l0 k1 (wrap64 (x6_1 - 1)) t165 t166 a1_0 a1_1 t159 (Go.bits .or .u64 t160 1)) = some (r1, r2) := H
          have A17 := Aside0.mk A170
          clear A170
          have H' := Aside0.mk H
          clear H
          have hnb18 := NB156_153.out
          have hnc18 := NB153_156.out
          have hnb19 := NB156_154.out
          have hnc19 := NB154_156.out
          have hnb20 := NB156_155.out
          have hnc20 := NB155_156.out
          have hcz21_0 := bc (v := .int .u64 x157000_1) BK156 0 rfl
          have hcz21_1 := bc (v := .int .u64 x157001_1) BK156 1 rfl
          have hfz21_0 := blk_frozen BK156.out 0
          have hfz21_1 := blk_frozen BK156.out 1
          go_wp2_with (first | ((with_reducible refine gate_callee (f := 105) rfl ?_); refine goesL_ (some 18) rfl rfl Tryd.func105 (by kernel_rfl) rfl #[.agg #[.int .u64 x157000_1, .int .u64 x157001_1], .int .i64 1] rfl (by (try simp only [List.map_toArray, List.map_cons, List.map_nil]); first | done | rfl | (simp only [List.length_drop, List.length_take]; rfl)) ?_; (with_reducible refine (frac_wide_up.calls x157000_1 x157001_1 1 t159 t160 _ A13.out).mono ?_); rintro e w22 ⟨rfl, hb⟩; refine ⟨_, rfl, ?_⟩; replace BK153 := bb BK153 hb; replace BK154 := bb BK154 hb; replace BK155 := bb BK155 hb; replace BK156 := bb BK156 hb; replace HB := bs HB hb; (try clear hb); (try clear hb2); (try clear hk); (try clear hi); have hcz23_0 := bc (v := .int .u64 x157000_1) BK156 0 rfl; have hcz23_1 := bc (v := .int .u64 x157001_1) BK156 1 rfl; have hfz23_0 := blk_frozen BK156.out 0; have hfz23_1 := blk_frozen BK156.out 1; have hnb24 := NB154_153.out; have hnc24 := NB153_154.out; have hnb25 := NB154_155.out; have hnc25 := NB155_154.out; have hcz26_0 := bc (v := .int .u64 a1_0) BK154 0 rfl; have hcz26_1 := bc (v := .int .u64 a1_1) BK154 1 rfl; have hfz26_0 := blk_frozen BK154.out 0; have hfz26_1 := blk_frozen BK154.out 1) | ((with_reducible refine gate_callee (f := 105) rfl ?_); refine goesL_ (some 21) rfl rfl Tryd.func105 (by kernel_rfl) rfl #[.agg #[.int .u64 a1_0, .int .u64 a1_1], .int .i64 x6_1] rfl (by (try simp only [List.map_toArray, List.map_cons, List.map_nil]); first | done | rfl | (simp only [List.length_drop, List.length_take]; rfl)) ?_; (with_reducible refine (frac_wide_up.calls a1_0 a1_1 x6_1 t161 t162 _ A14.out).mono ?_); rintro e w27 ⟨rfl, hb⟩; refine ⟨_, rfl, ?_⟩; replace BK153 := Aside0.mk (blk_below (g := gb153) (o := .cells #[.int .u64 x154000_1, .int .u64 x154001_1] 104 (0, 0)) (by (with_reducible repeat (first | refine blk_drewN ?_ _ | refine blk_drew ?_ | refine blk_alloc ?_ _)); refine blk_far ?_ NB153_156.out _; (with_reducible repeat (first | refine blk_drewN ?_ _ | refine blk_drew ?_ | refine blk_alloc ?_ _)); refine blk_far ?_ NB153_156.out _; (with_reducible repeat (first | refine blk_drewN ?_ _ | refine blk_drew ?_ | refine blk_alloc ?_ _)); exact BK153.out) hb); replace BK154 := Aside0.mk (blk_below (g := gb154) (o := .cells #[.int .u64 a1_0, .int .u64 a1_1] 104 (0, 0)) (by (with_reducible repeat (first | refine blk_drewN ?_ _ | refine blk_drew ?_ | refine blk_alloc ?_ _)); refine blk_far ?_ NB154_156.out _; (with_reducible repeat (first | refine blk_drewN ?_ _ | refine blk_drew ?_ | refine blk_alloc ?_ _)); refine blk_far ?_ NB154_156.out _; (with_reducible repeat (first | refine blk_drewN ?_ _ | refine blk_drew ?_ | refine blk_alloc ?_ _)); exact BK154.out) hb); replace BK155 := Aside0.mk (blk_below (g := gb155) (o := .cells #[.int .u64 0, .int .u64 0] 104 (0, 0)) (by (with_reducible repeat (first | refine blk_drewN ?_ _ | refine blk_drew ?_ | refine blk_alloc ?_ _)); refine blk_far ?_ NB155_156.out _; (with_reducible repeat (first | refine blk_drewN ?_ _ | refine blk_drew ?_ | refine blk_alloc ?_ _)); refine blk_far ?_ NB155_156.out _; (with_reducible repeat (first | refine blk_drewN ?_ _ | refine blk_drew ?_ | refine blk_alloc ?_ _)); exact BK155.out) hb); replace BK156 := Aside0.mk (blk_below (g := gb156) (o := .cells #[.int .u64 t159, .int .u64 t160] 104 (0, 0)) (by (with_reducible repeat (first | refine blk_drewN ?_ _ | refine blk_drew ?_ | refine blk_alloc ?_ _)); refine blk_put (cs := #[.int .u64 t159, .int .u64 x157001_1]) ?_ 1 _ rfl; (with_reducible repeat (first | refine blk_drewN ?_ _ | refine blk_drew ?_ | refine blk_alloc ?_ _)); refine blk_put (cs := #[.int .u64 x157000_1, .int .u64 x157001_1]) ?_ 0 _ rfl; (with_reducible repeat (first | refine blk_drewN ?_ _ | refine blk_drew ?_ | refine blk_alloc ?_ _)); exact BK156.out) hb); replace HB := bs HB hb; (try clear hb); (try clear hb2); (try clear hk); (try clear hi)) | ((with_reducible refine gate_dst (N := 7) rfl ?_); refine box_event ?hg (N := 7) ?hd (cs := #[.int .u64 0, .int .u64 0]) (t := 104) ?hr ?_; (case hd => rfl); (case hg => rfl); (case hr => first | (go_simp; done) | (go_simp; rfl)); intro gb163 hg w28 hbox hb; have BK163 := Aside0.mk (hbox); have GW163 := bz HB hg; have GE163 := bz HB hg; have NB153_163 := bl BK153 hg; have NB163_153 := bg BK153 hg; have NB154_163 := bl BK154 hg; have NB163_154 := bg BK154 hg; have NB155_163 := bl BK155 hg; have NB163_155 := bg BK155 hg; have NB156_163 := bl BK156 hg; have NB163_156 := bg BK156 hg; replace BK153 := bb BK153 hb; replace BK154 := bb BK154 hb; replace BK155 := bb BK155 hb; replace BK156 := bb BK156 hb; replace HB := bs HB hb; clear hb hbox hg; have hnb29 := NB163_153.out; have hnc29 := NB153_163.out; have hnb30 := NB163_154.out; have hnc30 := NB154_163.out; have hnb31 := NB163_155.out; have hnc31 := NB155_163.out; have hnb32 := NB163_156.out; have hnc32 := NB156_163.out; have hcz33_0 := bc (v := .int .u64 0) BK163 0 rfl; have hcz33_1 := bc (v := .int .u64 0) BK163 1 rfl; have hfz33_0 := blk_frozen BK163.out 0; have hfz33_1 := blk_frozen BK163.out 1; have hnb34 := NB153_155.out; have hnc34 := NB155_153.out; have hcz35_0 := bc (v := .int .u64 x154000_1) BK153 0 rfl; have hcz35_1 := bc (v := .int .u64 x154001_1) BK153 1 rfl; have hfz35_0 := blk_frozen BK153.out 0; have hfz35_1 := blk_frozen BK153.out 1) | ((with_reducible refine gate_callee (f := 103) rfl ?_); refine goesL_ (some 24) rfl rfl Tryd.func103 (by kernel_rfl) rfl #[.agg #[.int .u64 t161, .int .u64 t162], .agg #[.int .u64 x154000_1, .int .u64 x154001_1]] rfl (by (try simp only [List.map_toArray, List.map_cons, List.map_nil]); first | done | rfl | (simp only [List.length_drop, List.length_take]; rfl)) ?_; (with_reducible refine (frac_wide_cmp.calls t161 t162 x154000_1 x154001_1 t164 _ A15.out).mono ?_); rintro e w36 ⟨rfl, hb⟩; refine ⟨_, rfl, ?_⟩; replace BK153 := Aside0.mk (blk_below (g := gb153) (o := .cells #[.int .u64 x154000_1, .int .u64 x154001_1] 104 (0, 0)) (by (with_reducible repeat (first | refine blk_drewN ?_ _ | refine blk_drew ?_ | refine blk_alloc ?_ _)); refine blk_far ?_ NB153_163.out _; (with_reducible repeat (first | refine blk_drewN ?_ _ | refine blk_drew ?_ | refine blk_alloc ?_ _)); refine blk_far ?_ NB153_163.out _; (with_reducible repeat (first | refine blk_drewN ?_ _ | refine blk_drew ?_ | refine blk_alloc ?_ _)); exact BK153.out) hb); replace BK154 := Aside0.mk (blk_below (g := gb154) (o := .cells #[.int .u64 a1_0, .int .u64 a1_1] 104 (0, 0)) (by (with_reducible repeat (first | refine blk_drewN ?_ _ | refine blk_drew ?_ | refine blk_alloc ?_ _)); refine blk_far ?_ NB154_163.out _; (with_reducible repeat (first | refine blk_drewN ?_ _ | refine blk_drew ?_ | refine blk_alloc ?_ _)); refine blk_far ?_ NB154_163.out _; (with_reducible repeat (first | refine blk_drewN ?_ _ | refine blk_drew ?_ | refine blk_alloc ?_ _)); exact BK154.out) hb); replace BK155 := Aside0.mk (blk_below (g := gb155) (o := .cells #[.int .u64 0, .int .u64 0] 104 (0, 0)) (by (with_reducible repeat (first | refine blk_drewN ?_ _ | refine blk_drew ?_ | refine blk_alloc ?_ _)); refine blk_far ?_ NB155_163.out _; (with_reducible repeat (first | refine blk_drewN ?_ _ | refine blk_drew ?_ | refine blk_alloc ?_ _)); refine blk_far ?_ NB155_163.out _; (with_reducible repeat (first | refine blk_drewN ?_ _ | refine blk_drew ?_ | refine blk_alloc ?_ _)); exact BK155.out) hb); replace BK156 := Aside0.mk (blk_below (g := gb156) (o := .cells #[.int .u64 t159, .int .u64 t160] 104 (0, 0)) (by (with_reducible repeat (first | refine blk_drewN ?_ _ | refine blk_drew ?_ | refine blk_alloc ?_ _)); refine blk_far ?_ NB156_163.out _; (with_reducible repeat (first | refine blk_drewN ?_ _ | refine blk_drew ?_ | refine blk_alloc ?_ _)); refine blk_far ?_ NB156_163.out _; (with_reducible repeat (first | refine blk_drewN ?_ _ | refine blk_drew ?_ | refine blk_alloc ?_ _)); exact BK156.out) hb); replace BK163 := Aside0.mk (blk_below (g := gb163) (o := .cells #[.int .u64 t161, .int .u64 t162] 104 (0, 0)) (by (with_reducible repeat (first | refine blk_drewN ?_ _ | refine blk_drew ?_ | refine blk_alloc ?_ _)); refine blk_put (cs := #[.int .u64 t161, .int .u64 0]) ?_ 1 _ rfl; (with_reducible repeat (first | refine blk_drewN ?_ _ | refine blk_drew ?_ | refine blk_alloc ?_ _)); refine blk_put (cs := #[.int .u64 0, .int .u64 0]) ?_ 0 _ rfl; (with_reducible repeat (first | refine blk_drewN ?_ _ | refine blk_drew ?_ | refine blk_alloc ?_ _)); exact BK163.out) hb); replace HB := bs HB hb; (try clear hb); (try clear hb2); (try clear hk); (try clear hi); have hcz37_0 := bc (v := .int .u64 x154000_1) BK153 0 rfl; have hcz37_1 := bc (v := .int .u64 x154001_1) BK153 1 rfl; have hfz37_0 := blk_frozen BK153.out 0; have hfz37_1 := blk_frozen BK153.out 1; have hcz38_0 := bc (v := .int .u64 t161) BK163 0 rfl; have hcz38_1 := bc (v := .int .u64 t162) BK163 1 rfl; have hfz38_0 := blk_frozen BK163.out 0; have hfz38_1 := blk_frozen BK163.out 1) | ((with_reducible refine gate_callee (f := 104) rfl ?_); refine goesL_ (some 28) rfl rfl Tryd.func104 (by kernel_rfl) rfl #[.agg #[.int .u64 x154000_1, .int .u64 x154001_1], .agg #[.int .u64 t161, .int .u64 t162]] rfl (by (try simp only [List.map_toArray, List.map_cons, List.map_nil]); first | done | rfl | (simp only [List.length_drop, List.length_take]; rfl)) ?_; (with_reducible refine (frac_wide_minus.calls x154000_1 x154001_1 t161 t162 t165 t166 _ A17.out).mono ?_); rintro e w39 ⟨rfl, hb⟩; refine ⟨_, rfl, ?_⟩; replace BK153 := bb BK153 hb; replace BK154 := bb BK154 hb; replace BK155 := bb BK155 hb; replace BK156 := bb BK156 hb; replace BK163 := bb BK163 hb; replace HB := bs HB hb; (try clear hb); (try clear hb2); (try clear hk); (try clear hi); have hcz40_0 := bc (v := .int .u64 x154000_1) BK153 0 rfl; have hcz40_1 := bc (v := .int .u64 x154001_1) BK153 1 rfl; have hfz40_0 := blk_frozen BK153.out 0; have hfz40_1 := blk_frozen BK153.out 1; have hcz41_0 := bc (v := .int .u64 t159) BK156 0 rfl; have hcz41_1 := bc (v := .int .u64 t160) BK156 1 rfl; have hfz41_0 := blk_frozen BK156.out 0; have hfz41_1 := blk_frozen BK156.out 1))
          go_roundg k1
          case measure => have := HK1.out; omega
          case rel => exact ⟨(wrap64 (x6_1 - 1)), (t165), (t166), (t159), (Go.bits .or .u64 t160 1), (by first | rfl | (simp; done) | (simp [*]; done)), H', ⟨by have := HK1.out; omega⟩, ⟨by (with_reducible repeat (first | refine blk_drewN ?_ _ | refine blk_drew ?_ | refine blk_alloc ?_ _)); refine blk_far ?_ NB153_156.out _; (with_reducible repeat (first | refine blk_drewN ?_ _ | refine blk_drew ?_ | refine blk_alloc ?_ _)); refine blk_put (cs := #[.int .u64 t165, .int .u64 x154001_1]) ?_ 1 _ rfl; (with_reducible repeat (first | refine blk_drewN ?_ _ | refine blk_drew ?_ | refine blk_alloc ?_ _)); refine blk_put (cs := #[.int .u64 x154000_1, .int .u64 x154001_1]) ?_ 0 _ rfl; (with_reducible repeat (first | refine blk_drewN ?_ _ | refine blk_drew ?_ | refine blk_alloc ?_ _)); exact BK153.out⟩, ⟨by (with_reducible repeat (first | refine blk_drewN ?_ _ | refine blk_drew ?_ | refine blk_alloc ?_ _)); refine blk_far ?_ NB154_156.out _; (with_reducible repeat (first | refine blk_drewN ?_ _ | refine blk_drew ?_ | refine blk_alloc ?_ _)); refine blk_far ?_ NB154_153.out _; (with_reducible repeat (first | refine blk_drewN ?_ _ | refine blk_drew ?_ | refine blk_alloc ?_ _)); refine blk_far ?_ NB154_153.out _; (with_reducible repeat (first | refine blk_drewN ?_ _ | refine blk_drew ?_ | refine blk_alloc ?_ _)); exact BK154.out⟩, ⟨by (with_reducible repeat (first | refine blk_drewN ?_ _ | refine blk_drew ?_ | refine blk_alloc ?_ _)); refine blk_far ?_ NB155_156.out _; (with_reducible repeat (first | refine blk_drewN ?_ _ | refine blk_drew ?_ | refine blk_alloc ?_ _)); refine blk_far ?_ NB155_153.out _; (with_reducible repeat (first | refine blk_drewN ?_ _ | refine blk_drew ?_ | refine blk_alloc ?_ _)); refine blk_far ?_ NB155_153.out _; (with_reducible repeat (first | refine blk_drewN ?_ _ | refine blk_drew ?_ | refine blk_alloc ?_ _)); exact BK155.out⟩, ⟨by (with_reducible repeat (first | refine blk_drewN ?_ _ | refine blk_drew ?_ | refine blk_alloc ?_ _)); refine blk_put (cs := #[.int .u64 t159, .int .u64 t160]) ?_ 1 _ rfl; (with_reducible repeat (first | refine blk_drewN ?_ _ | refine blk_drew ?_ | refine blk_alloc ?_ _)); refine blk_far ?_ NB156_153.out _; (with_reducible repeat (first | refine blk_drewN ?_ _ | refine blk_drew ?_ | refine blk_alloc ?_ _)); refine blk_far ?_ NB156_153.out _; (with_reducible repeat (first | refine blk_drewN ?_ _ | refine blk_drew ?_ | refine blk_alloc ?_ _)); exact BK156.out⟩, ⟨by repeat (first | (with_reducible first | exact HB.out | apply below_alloc | apply pw_below_drewN | apply below_drew1 | refine below_set ?_ GE153.out | refine below_set ?_ GE154.out | refine below_set ?_ GE155.out | refine below_set ?_ GE156.out | refine below_set ?_ GE163.out) | exact HB.out)⟩⟩
        · rw [if_neg c16] at H
          have c16b0 : decide (t164 ≤ 0) = false := decide_eq_false c16
          clear c16
          have H' := Aside0.mk H
          clear H
          have hnb42 := NB156_153.out
          have hnc42 := NB153_156.out
          have hnb43 := NB156_154.out
          have hnc43 := NB154_156.out
          have hnb44 := NB156_155.out
          have hnc44 := NB155_156.out
          have hcz45_0 := bc (v := .int .u64 x157000_1) BK156 0 rfl
          have hcz45_1 := bc (v := .int .u64 x157001_1) BK156 1 rfl
          have hfz45_0 := blk_frozen BK156.out 0
          have hfz45_1 := blk_frozen BK156.out 1
          go_wp2_with (first | ((with_reducible refine gate_callee (f := 105) rfl ?_); refine goesL_ (some 18) rfl rfl Tryd.func105 (by kernel_rfl) rfl #[.agg #[.int .u64 x157000_1, .int .u64 x157001_1], .int .i64 1] rfl (by (try simp only [List.map_toArray, List.map_cons, List.map_nil]); first | done | rfl | (simp only [List.length_drop, List.length_take]; rfl)) ?_; (with_reducible refine (frac_wide_up.calls x157000_1 x157001_1 1 t159 t160 _ A13.out).mono ?_); rintro e w46 ⟨rfl, hb⟩; refine ⟨_, rfl, ?_⟩; replace BK153 := bb BK153 hb; replace BK154 := bb BK154 hb; replace BK155 := bb BK155 hb; replace BK156 := bb BK156 hb; replace HB := bs HB hb; (try clear hb); (try clear hb2); (try clear hk); (try clear hi); have hcz47_0 := bc (v := .int .u64 x157000_1) BK156 0 rfl; have hcz47_1 := bc (v := .int .u64 x157001_1) BK156 1 rfl; have hfz47_0 := blk_frozen BK156.out 0; have hfz47_1 := blk_frozen BK156.out 1; have hnb48 := NB154_153.out; have hnc48 := NB153_154.out; have hnb49 := NB154_155.out; have hnc49 := NB155_154.out; have hcz50_0 := bc (v := .int .u64 a1_0) BK154 0 rfl; have hcz50_1 := bc (v := .int .u64 a1_1) BK154 1 rfl; have hfz50_0 := blk_frozen BK154.out 0; have hfz50_1 := blk_frozen BK154.out 1) | ((with_reducible refine gate_callee (f := 105) rfl ?_); refine goesL_ (some 21) rfl rfl Tryd.func105 (by kernel_rfl) rfl #[.agg #[.int .u64 a1_0, .int .u64 a1_1], .int .i64 x6_1] rfl (by (try simp only [List.map_toArray, List.map_cons, List.map_nil]); first | done | rfl | (simp only [List.length_drop, List.length_take]; rfl)) ?_; (with_reducible refine (frac_wide_up.calls a1_0 a1_1 x6_1 t161 t162 _ A14.out).mono ?_); rintro e w51 ⟨rfl, hb⟩; refine ⟨_, rfl, ?_⟩; replace BK153 := Aside0.mk (blk_below (g := gb153) (o := .cells #[.int .u64 x154000_1, .int .u64 x154001_1] 104 (0, 0)) (by (with_reducible repeat (first | refine blk_drewN ?_ _ | refine blk_drew ?_ | refine blk_alloc ?_ _)); refine blk_far ?_ NB153_156.out _; (with_reducible repeat (first | refine blk_drewN ?_ _ | refine blk_drew ?_ | refine blk_alloc ?_ _)); refine blk_far ?_ NB153_156.out _; (with_reducible repeat (first | refine blk_drewN ?_ _ | refine blk_drew ?_ | refine blk_alloc ?_ _)); exact BK153.out) hb); replace BK154 := Aside0.mk (blk_below (g := gb154) (o := .cells #[.int .u64 a1_0, .int .u64 a1_1] 104 (0, 0)) (by (with_reducible repeat (first | refine blk_drewN ?_ _ | refine blk_drew ?_ | refine blk_alloc ?_ _)); refine blk_far ?_ NB154_156.out _; (with_reducible repeat (first | refine blk_drewN ?_ _ | refine blk_drew ?_ | refine blk_alloc ?_ _)); refine blk_far ?_ NB154_156.out _; (with_reducible repeat (first | refine blk_drewN ?_ _ | refine blk_drew ?_ | refine blk_alloc ?_ _)); exact BK154.out) hb); replace BK155 := Aside0.mk (blk_below (g := gb155) (o := .cells #[.int .u64 0, .int .u64 0] 104 (0, 0)) (by (with_reducible repeat (first | refine blk_drewN ?_ _ | refine blk_drew ?_ | refine blk_alloc ?_ _)); refine blk_far ?_ NB155_156.out _; (with_reducible repeat (first | refine blk_drewN ?_ _ | refine blk_drew ?_ | refine blk_alloc ?_ _)); refine blk_far ?_ NB155_156.out _; (with_reducible repeat (first | refine blk_drewN ?_ _ | refine blk_drew ?_ | refine blk_alloc ?_ _)); exact BK155.out) hb); replace BK156 := Aside0.mk (blk_below (g := gb156) (o := .cells #[.int .u64 t159, .int .u64 t160] 104 (0, 0)) (by (with_reducible repeat (first | refine blk_drewN ?_ _ | refine blk_drew ?_ | refine blk_alloc ?_ _)); refine blk_put (cs := #[.int .u64 t159, .int .u64 x157001_1]) ?_ 1 _ rfl; (with_reducible repeat (first | refine blk_drewN ?_ _ | refine blk_drew ?_ | refine blk_alloc ?_ _)); refine blk_put (cs := #[.int .u64 x157000_1, .int .u64 x157001_1]) ?_ 0 _ rfl; (with_reducible repeat (first | refine blk_drewN ?_ _ | refine blk_drew ?_ | refine blk_alloc ?_ _)); exact BK156.out) hb); replace HB := bs HB hb; (try clear hb); (try clear hb2); (try clear hk); (try clear hi)) | ((with_reducible refine gate_dst (N := 7) rfl ?_); refine box_event ?hg (N := 7) ?hd (cs := #[.int .u64 0, .int .u64 0]) (t := 104) ?hr ?_; (case hd => rfl); (case hg => rfl); (case hr => first | (go_simp; done) | (go_simp; rfl)); intro gb163 hg w52 hbox hb; have BK163 := Aside0.mk (hbox); have GW163 := bz HB hg; have GE163 := bz HB hg; have NB153_163 := bl BK153 hg; have NB163_153 := bg BK153 hg; have NB154_163 := bl BK154 hg; have NB163_154 := bg BK154 hg; have NB155_163 := bl BK155 hg; have NB163_155 := bg BK155 hg; have NB156_163 := bl BK156 hg; have NB163_156 := bg BK156 hg; replace BK153 := bb BK153 hb; replace BK154 := bb BK154 hb; replace BK155 := bb BK155 hb; replace BK156 := bb BK156 hb; replace HB := bs HB hb; clear hb hbox hg; have hnb53 := NB163_153.out; have hnc53 := NB153_163.out; have hnb54 := NB163_154.out; have hnc54 := NB154_163.out; have hnb55 := NB163_155.out; have hnc55 := NB155_163.out; have hnb56 := NB163_156.out; have hnc56 := NB156_163.out; have hcz57_0 := bc (v := .int .u64 0) BK163 0 rfl; have hcz57_1 := bc (v := .int .u64 0) BK163 1 rfl; have hfz57_0 := blk_frozen BK163.out 0; have hfz57_1 := blk_frozen BK163.out 1; have hnb58 := NB153_155.out; have hnc58 := NB155_153.out; have hcz59_0 := bc (v := .int .u64 x154000_1) BK153 0 rfl; have hcz59_1 := bc (v := .int .u64 x154001_1) BK153 1 rfl; have hfz59_0 := blk_frozen BK153.out 0; have hfz59_1 := blk_frozen BK153.out 1) | ((with_reducible refine gate_callee (f := 103) rfl ?_); refine goesL_ (some 24) rfl rfl Tryd.func103 (by kernel_rfl) rfl #[.agg #[.int .u64 t161, .int .u64 t162], .agg #[.int .u64 x154000_1, .int .u64 x154001_1]] rfl (by (try simp only [List.map_toArray, List.map_cons, List.map_nil]); first | done | rfl | (simp only [List.length_drop, List.length_take]; rfl)) ?_; (with_reducible refine (frac_wide_cmp.calls t161 t162 x154000_1 x154001_1 t164 _ A15.out).mono ?_); rintro e w60 ⟨rfl, hb⟩; refine ⟨_, rfl, ?_⟩; replace BK153 := Aside0.mk (blk_below (g := gb153) (o := .cells #[.int .u64 x154000_1, .int .u64 x154001_1] 104 (0, 0)) (by (with_reducible repeat (first | refine blk_drewN ?_ _ | refine blk_drew ?_ | refine blk_alloc ?_ _)); refine blk_far ?_ NB153_163.out _; (with_reducible repeat (first | refine blk_drewN ?_ _ | refine blk_drew ?_ | refine blk_alloc ?_ _)); refine blk_far ?_ NB153_163.out _; (with_reducible repeat (first | refine blk_drewN ?_ _ | refine blk_drew ?_ | refine blk_alloc ?_ _)); exact BK153.out) hb); replace BK154 := Aside0.mk (blk_below (g := gb154) (o := .cells #[.int .u64 a1_0, .int .u64 a1_1] 104 (0, 0)) (by (with_reducible repeat (first | refine blk_drewN ?_ _ | refine blk_drew ?_ | refine blk_alloc ?_ _)); refine blk_far ?_ NB154_163.out _; (with_reducible repeat (first | refine blk_drewN ?_ _ | refine blk_drew ?_ | refine blk_alloc ?_ _)); refine blk_far ?_ NB154_163.out _; (with_reducible repeat (first | refine blk_drewN ?_ _ | refine blk_drew ?_ | refine blk_alloc ?_ _)); exact BK154.out) hb); replace BK155 := Aside0.mk (blk_below (g := gb155) (o := .cells #[.int .u64 0, .int .u64 0] 104 (0, 0)) (by (with_reducible repeat (first | refine blk_drewN ?_ _ | refine blk_drew ?_ | refine blk_alloc ?_ _)); refine blk_far ?_ NB155_163.out _; (with_reducible repeat (first | refine blk_drewN ?_ _ | refine blk_drew ?_ | refine blk_alloc ?_ _)); refine blk_far ?_ NB155_163.out _; (with_reducible repeat (first | refine blk_drewN ?_ _ | refine blk_drew ?_ | refine blk_alloc ?_ _)); exact BK155.out) hb); replace BK156 := Aside0.mk (blk_below (g := gb156) (o := .cells #[.int .u64 t159, .int .u64 t160] 104 (0, 0)) (by (with_reducible repeat (first | refine blk_drewN ?_ _ | refine blk_drew ?_ | refine blk_alloc ?_ _)); refine blk_far ?_ NB156_163.out _; (with_reducible repeat (first | refine blk_drewN ?_ _ | refine blk_drew ?_ | refine blk_alloc ?_ _)); refine blk_far ?_ NB156_163.out _; (with_reducible repeat (first | refine blk_drewN ?_ _ | refine blk_drew ?_ | refine blk_alloc ?_ _)); exact BK156.out) hb); replace BK163 := Aside0.mk (blk_below (g := gb163) (o := .cells #[.int .u64 t161, .int .u64 t162] 104 (0, 0)) (by (with_reducible repeat (first | refine blk_drewN ?_ _ | refine blk_drew ?_ | refine blk_alloc ?_ _)); refine blk_put (cs := #[.int .u64 t161, .int .u64 0]) ?_ 1 _ rfl; (with_reducible repeat (first | refine blk_drewN ?_ _ | refine blk_drew ?_ | refine blk_alloc ?_ _)); refine blk_put (cs := #[.int .u64 0, .int .u64 0]) ?_ 0 _ rfl; (with_reducible repeat (first | refine blk_drewN ?_ _ | refine blk_drew ?_ | refine blk_alloc ?_ _)); exact BK163.out) hb); replace HB := bs HB hb; (try clear hb); (try clear hb2); (try clear hk); (try clear hi)))
          go_roundg k1
          case measure => have := HK1.out; omega
          case rel => exact ⟨(wrap64 (x6_1 - 1)), (x154000_1), (x154001_1), (t159), (t160), (by first | rfl | (simp; done) | (simp [*]; done)), H', ⟨by have := HK1.out; omega⟩, ⟨by (with_reducible repeat (first | refine blk_drewN ?_ _ | refine blk_drew ?_ | refine blk_alloc ?_ _)); exact BK153.out⟩, ⟨by (with_reducible repeat (first | refine blk_drewN ?_ _ | refine blk_drew ?_ | refine blk_alloc ?_ _)); exact BK154.out⟩, ⟨by (with_reducible repeat (first | refine blk_drewN ?_ _ | refine blk_drew ?_ | refine blk_alloc ?_ _)); exact BK155.out⟩, ⟨by (with_reducible repeat (first | refine blk_drewN ?_ _ | refine blk_drew ?_ | refine blk_alloc ?_ _)); exact BK156.out⟩, ⟨by repeat (first | (with_reducible first | exact HB.out | apply below_alloc | apply pw_below_drewN | apply below_drew1 | refine below_set ?_ GE153.out | refine below_set ?_ GE154.out | refine below_set ?_ GE155.out | refine below_set ?_ GE156.out | refine below_set ?_ GE163.out) | exact HB.out)⟩⟩
      · rw [if_neg c12] at H
        have c12b0 : decide (0 ≤ x6_1) = false := decide_eq_false c12
        clear c12
        simp only [Option.some.injEq, Prod.mk.injEq] at H
        obtain ⟨rfl, rfl⟩ := H
        have hnb61 := NB156_153.out
        have hnc61 := NB153_156.out
        have hnb62 := NB156_154.out
        have hnc62 := NB154_156.out
        have hnb63 := NB156_155.out
        have hnc63 := NB155_156.out
        have hcz64_0 := bc (v := .int .u64 x157000_1) BK156 0 rfl
        have hcz64_1 := bc (v := .int .u64 x157001_1) BK156 1 rfl
        have hfz64_0 := blk_frozen BK156.out 0
        have hfz64_1 := blk_frozen BK156.out 1
        have hnb65 := NB155_153.out
        have hnc65 := NB153_155.out
        have hnb66 := NB155_154.out
        have hnc66 := NB154_155.out
        have hcz67_0 := bc (v := .int .u64 0) BK155 0 rfl
        have hcz67_1 := bc (v := .int .u64 0) BK155 1 rfl
        have hfz67_0 := blk_frozen BK155.out 0
        have hfz67_1 := blk_frozen BK155.out 1
        go_wp2
        refine bodyPost_ret (results_cell_row rfl _ _ gb155 104 #[.int .u64 x157000_1, .int .u64 x157001_1] (0, 0) _ rfl (by (with_reducible repeat (first | refine blk_drewN ?_ _ | refine blk_drew ?_ | refine blk_alloc ?_ _)); refine blk_put (cs := #[.int .u64 x157000_1, .int .u64 0]) ?_ 1 _ rfl; (with_reducible repeat (first | refine blk_drewN ?_ _ | refine blk_drew ?_ | refine blk_alloc ?_ _)); refine blk_put (cs := #[.int .u64 0, .int .u64 0]) ?_ 0 _ rfl; (with_reducible repeat (first | refine blk_drewN ?_ _ | refine blk_drew ?_ | refine blk_alloc ?_ _)); exact BK155.out) Tryd.underlying104 rfl (by kernel_rfl)) rfl ?_
        exact ⟨by first | rfl | (simp [errW_none, errW_some] <;> rfl) | (simp [*, errW_none, errW_some] <;> rfl), by repeat (first | (with_reducible first | exact HB.out | apply below_alloc | apply pw_below_drewN | apply below_drew1 | refine below_set ?_ GE153.out | refine below_set ?_ GE154.out | refine below_set ?_ GE155.out | refine below_set ?_ GE156.out) | exact HB.out)⟩

/-! ### frac_signed_whole: function 89 -/
def frac_signed_whole.f (a0_0 : Bool) (a0_1 : Int) (a0_2 : Int) : Option (Int × Bool) := if a0_1 = 0 then (if a0_0 = true then (some (wrap64 (IntKind.u64.wrap (-a0_2)), decide (a0_2 ≤ 9223372036854775808))) else (some (wrap64 (a0_2), decide (a0_2 < 9223372036854775808)))) else (some (0, false))
set_option maxHeartbeats 8000000 in
set_option maxRecDepth 100000 in
theorem frac_signed_whole.calls (a0_0 : Bool) (a0_1 : Int) (a0_2 : Int) (r1 : Int) (r2 : Bool) (w : World) (h : frac_signed_whole.f a0_0 a0_1 a0_2 = some (r1, r2)) :
    Calls Tryd.prog 89 #[.agg #[.bool a0_0, .int .u64 a0_1, .int .u64 a0_2]] w fun e w' => e = .returned (.tuple #[.int .i64 r1, .bool r2]) ∧ Below w.heap.size w w' := by
  have hu106 := Tryd.underlying106
  have HB := Aside0.mk (Below.refl w.heap.size w)
  have H : (if a0_1 = 0 then (if a0_0 = true then (some (wrap64 (IntKind.u64.wrap (-a0_2)), decide (a0_2 ≤ 9223372036854775808))) else (some (wrap64 (a0_2), decide (a0_2 < 9223372036854775808)))) else (some (0, false))) = some (r1, r2) := h
  clear h
  by_cases c2 : a0_1 = 0
  · rw [if_pos c2] at H
    have c2b0 : (a0_1 == 0) = true := beq_iff_eq.mpr c2
    have c2b1 : (a0_1 != 0) = false := bne_eq_false_iff_eq.mpr c2
    clear c2
    by_cases c3 : a0_0 = true
    · subst c3
      have H1 : (some (wrap64 (IntKind.u64.wrap (-a0_2)), decide (a0_2 ≤ 9223372036854775808))) = some (r1, r2) := by rw [if_pos rfl] at H; exact H
      clear H
      have H := H1
      clear H1
      simp only [Option.some.injEq, Prod.mk.injEq] at H
      obtain ⟨rfl, rfl⟩ := H
      go_enter Tryd.func89, Tryd.ntmps89
      go_wp2_with (first | ((with_reducible refine gate_dst (N := 1) rfl ?_); refine box_event ?hg (N := 1) ?hd (cs := #[.bool true, .int .u64 a0_1, .int .u64 a0_2]) (t := 106) ?hr ?_; (case hd => rfl); (case hg => rfl); (case hr => first | (go_simp; done) | (go_simp; rfl)); intro gb167 hg w4 hbox hb; have BK167 := Aside0.mk (hbox); have GW167 := bz HB hg; have GE167 := bz HB hg; replace HB := bs HB hb; clear hb hbox hg; have hcz5_0 := bc (v := .bool true) BK167 0 rfl; have hcz5_1 := bc (v := .int .u64 a0_1) BK167 1 rfl; have hcz5_2 := bc (v := .int .u64 a0_2) BK167 2 rfl; have hfz5_0 := blk_frozen BK167.out 0; have hfz5_1 := blk_frozen BK167.out 1; have hfz5_2 := blk_frozen BK167.out 2))
      repeat (go_quiet (first | ((with_reducible refine gate_dst (N := 1) rfl ?_); refine box_event ?hg (N := 1) ?hd (cs := #[.bool true, .int .u64 a0_1, .int .u64 a0_2]) (t := 106) ?hr ?_; (case hd => rfl); (case hg => rfl); (case hr => first | (go_simp; done) | (go_simp; rfl)); intro gb167 hg w4 hbox hb; have BK167 := Aside0.mk (hbox); have GW167 := bz HB hg; have GE167 := bz HB hg; replace HB := bs HB hb; clear hb hbox hg; have hcz5_0 := bc (v := .bool true) BK167 0 rfl; have hcz5_1 := bc (v := .int .u64 a0_1) BK167 1 rfl; have hcz5_2 := bc (v := .int .u64 a0_2) BK167 2 rfl; have hfz5_0 := blk_frozen BK167.out 0; have hfz5_1 := blk_frozen BK167.out 1; have hfz5_2 := blk_frozen BK167.out 2)); try go_wp2_with (first | ((with_reducible refine gate_dst (N := 1) rfl ?_); refine box_event ?hg (N := 1) ?hd (cs := #[.bool true, .int .u64 a0_1, .int .u64 a0_2]) (t := 106) ?hr ?_; (case hd => rfl); (case hg => rfl); (case hr => first | (go_simp; done) | (go_simp; rfl)); intro gb167 hg w4 hbox hb; have BK167 := Aside0.mk (hbox); have GW167 := bz HB hg; have GE167 := bz HB hg; replace HB := bs HB hb; clear hb hbox hg; have hcz5_0 := bc (v := .bool true) BK167 0 rfl; have hcz5_1 := bc (v := .int .u64 a0_1) BK167 1 rfl; have hcz5_2 := bc (v := .int .u64 a0_2) BK167 2 rfl; have hfz5_0 := blk_frozen BK167.out 0; have hfz5_1 := blk_frozen BK167.out 1; have hfz5_2 := blk_frozen BK167.out 2)))
      go_ret2
      exact ⟨by first | rfl | (simp [errW_none, errW_some] <;> rfl) | (simp [*, errW_none, errW_some] <;> rfl), by repeat (first | (with_reducible first | exact HB.out | apply below_alloc | apply pw_below_drewN | apply below_drew1 | refine below_set ?_ GE167.out) | exact HB.out)⟩
    · replace c3 := Bool.eq_false_iff.mpr c3
      subst c3
      have H1 : (some (wrap64 (a0_2), decide (a0_2 < 9223372036854775808))) = some (r1, r2) := by rw [if_neg (show ¬ (false = true) by decide)] at H; exact H
      clear H
      have H := H1
      clear H1
      simp only [Option.some.injEq, Prod.mk.injEq] at H
      obtain ⟨rfl, rfl⟩ := H
      go_enter Tryd.func89, Tryd.ntmps89
      go_wp2_with (first | ((with_reducible refine gate_dst (N := 1) rfl ?_); refine box_event ?hg (N := 1) ?hd (cs := #[.bool false, .int .u64 a0_1, .int .u64 a0_2]) (t := 106) ?hr ?_; (case hd => rfl); (case hg => rfl); (case hr => first | (go_simp; done) | (go_simp; rfl)); intro gb167 hg w6 hbox hb; have BK167 := Aside0.mk (hbox); have GW167 := bz HB hg; have GE167 := bz HB hg; replace HB := bs HB hb; clear hb hbox hg; have hcz7_0 := bc (v := .bool false) BK167 0 rfl; have hcz7_1 := bc (v := .int .u64 a0_1) BK167 1 rfl; have hcz7_2 := bc (v := .int .u64 a0_2) BK167 2 rfl; have hfz7_0 := blk_frozen BK167.out 0; have hfz7_1 := blk_frozen BK167.out 1; have hfz7_2 := blk_frozen BK167.out 2))
      repeat (go_quiet (first | ((with_reducible refine gate_dst (N := 1) rfl ?_); refine box_event ?hg (N := 1) ?hd (cs := #[.bool false, .int .u64 a0_1, .int .u64 a0_2]) (t := 106) ?hr ?_; (case hd => rfl); (case hg => rfl); (case hr => first | (go_simp; done) | (go_simp; rfl)); intro gb167 hg w6 hbox hb; have BK167 := Aside0.mk (hbox); have GW167 := bz HB hg; have GE167 := bz HB hg; replace HB := bs HB hb; clear hb hbox hg; have hcz7_0 := bc (v := .bool false) BK167 0 rfl; have hcz7_1 := bc (v := .int .u64 a0_1) BK167 1 rfl; have hcz7_2 := bc (v := .int .u64 a0_2) BK167 2 rfl; have hfz7_0 := blk_frozen BK167.out 0; have hfz7_1 := blk_frozen BK167.out 1; have hfz7_2 := blk_frozen BK167.out 2)); try go_wp2_with (first | ((with_reducible refine gate_dst (N := 1) rfl ?_); refine box_event ?hg (N := 1) ?hd (cs := #[.bool false, .int .u64 a0_1, .int .u64 a0_2]) (t := 106) ?hr ?_; (case hd => rfl); (case hg => rfl); (case hr => first | (go_simp; done) | (go_simp; rfl)); intro gb167 hg w6 hbox hb; have BK167 := Aside0.mk (hbox); have GW167 := bz HB hg; have GE167 := bz HB hg; replace HB := bs HB hb; clear hb hbox hg; have hcz7_0 := bc (v := .bool false) BK167 0 rfl; have hcz7_1 := bc (v := .int .u64 a0_1) BK167 1 rfl; have hcz7_2 := bc (v := .int .u64 a0_2) BK167 2 rfl; have hfz7_0 := blk_frozen BK167.out 0; have hfz7_1 := blk_frozen BK167.out 1; have hfz7_2 := blk_frozen BK167.out 2)))
      go_ret2
      exact ⟨by first | rfl | (simp [errW_none, errW_some] <;> rfl) | (simp [*, errW_none, errW_some] <;> rfl), by repeat (first | (with_reducible first | exact HB.out | apply below_alloc | apply pw_below_drewN | apply below_drew1 | refine below_set ?_ GE167.out) | exact HB.out)⟩
  · rw [if_neg c2] at H
    have c2b0 : (a0_1 == 0) = false := beq_eq_false_iff_ne.mpr c2
    have c2b1 : (a0_1 != 0) = true := bne_iff_ne.mpr c2
    simp only [Option.some.injEq, Prod.mk.injEq] at H
    obtain ⟨rfl, rfl⟩ := H
    go_enter Tryd.func89, Tryd.ntmps89
    go_wp2_with (first | ((with_reducible refine gate_dst (N := 1) rfl ?_); refine box_event ?hg (N := 1) ?hd (cs := #[.bool a0_0, .int .u64 a0_1, .int .u64 a0_2]) (t := 106) ?hr ?_; (case hd => rfl); (case hg => rfl); (case hr => first | (go_simp; done) | (go_simp; rfl)); intro gb167 hg w8 hbox hb; have BK167 := Aside0.mk (hbox); have GW167 := bz HB hg; have GE167 := bz HB hg; replace HB := bs HB hb; clear hb hbox hg; have hcz9_0 := bc (v := .bool a0_0) BK167 0 rfl; have hcz9_1 := bc (v := .int .u64 a0_1) BK167 1 rfl; have hcz9_2 := bc (v := .int .u64 a0_2) BK167 2 rfl; have hfz9_0 := blk_frozen BK167.out 0; have hfz9_1 := blk_frozen BK167.out 1; have hfz9_2 := blk_frozen BK167.out 2))
    repeat (go_quiet (first | ((with_reducible refine gate_dst (N := 1) rfl ?_); refine box_event ?hg (N := 1) ?hd (cs := #[.bool a0_0, .int .u64 a0_1, .int .u64 a0_2]) (t := 106) ?hr ?_; (case hd => rfl); (case hg => rfl); (case hr => first | (go_simp; done) | (go_simp; rfl)); intro gb167 hg w8 hbox hb; have BK167 := Aside0.mk (hbox); have GW167 := bz HB hg; have GE167 := bz HB hg; replace HB := bs HB hb; clear hb hbox hg; have hcz9_0 := bc (v := .bool a0_0) BK167 0 rfl; have hcz9_1 := bc (v := .int .u64 a0_1) BK167 1 rfl; have hcz9_2 := bc (v := .int .u64 a0_2) BK167 2 rfl; have hfz9_0 := blk_frozen BK167.out 0; have hfz9_1 := blk_frozen BK167.out 1; have hfz9_2 := blk_frozen BK167.out 2)); try go_wp2_with (first | ((with_reducible refine gate_dst (N := 1) rfl ?_); refine box_event ?hg (N := 1) ?hd (cs := #[.bool a0_0, .int .u64 a0_1, .int .u64 a0_2]) (t := 106) ?hr ?_; (case hd => rfl); (case hg => rfl); (case hr => first | (go_simp; done) | (go_simp; rfl)); intro gb167 hg w8 hbox hb; have BK167 := Aside0.mk (hbox); have GW167 := bz HB hg; have GE167 := bz HB hg; replace HB := bs HB hb; clear hb hbox hg; have hcz9_0 := bc (v := .bool a0_0) BK167 0 rfl; have hcz9_1 := bc (v := .int .u64 a0_1) BK167 1 rfl; have hcz9_2 := bc (v := .int .u64 a0_2) BK167 2 rfl; have hfz9_0 := blk_frozen BK167.out 0; have hfz9_1 := blk_frozen BK167.out 1; have hfz9_2 := blk_frozen BK167.out 2)))
    go_ret2
    exact ⟨by first | rfl | (simp [errW_none, errW_some] <;> rfl) | (simp [*, errW_none, errW_some] <;> rfl), by repeat (first | (with_reducible first | exact HB.out | apply below_alloc | apply pw_below_drewN | apply below_drew1 | refine below_set ?_ GE167.out) | exact HB.out)⟩

end Go.Proofs.YtpdmiookdmncpaaDoor.X
