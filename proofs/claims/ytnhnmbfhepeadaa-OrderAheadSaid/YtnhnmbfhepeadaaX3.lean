/- Walks: each '.calls' says that the Go function comes to what its Lean function tells. Conditions: as each theorem's head says. -/
import Derived.Test.YtnhnmbfhepeadaaXD
import Derived.Test.YtnhnmbfhepeadaaX0
import Derived.Test.YtnhnmbfhepeadaaX1
import Derived.Test.YtnhnmbfhepeadaaX2
namespace Go.Proofs.Ytnhnmbfhepeadaa.X
open Go.RowKit Go.Proofs.YtnhnmbfhepeadaaW.PrintWords Go.Proofs.YtnhnmbfhepeadaaW.PrintLast Go.Proofs.YtnhnmbfhepeadaaW.PrintMore
attribute [local go_sem] max2_int min2_int max_two min_two max_three min_three max_four min_four   -- for this text's walks alone
set_option linter.unusedVariables false
set_option maxHeartbeats 8000000
set_option maxRecDepth 100000
set_option linter.unusedSimpArgs false

/-! ### carrefourlaw13_OrderAhead: function 4 -/
def carrefourlaw13_OrderAhead.T7 : Bool × List (List Nat × List Nat) := (true, [([], []), ([], []), ([0, 1], [0, 1]), ([2], [2]), ([], []), ([], []), ([4, 5], [4, 5]), ([6], [6]), ([3, 7], [3, 7])])
def carrefourlaw13_OrderAhead.B7 : List Nat := [0, 0, 3, 7, 0, 0, 48, 112, 255]
theorem carrefourlaw13_OrderAhead.tab7 : rtab .any (opsOf Try.f4 7) = carrefourlaw13_OrderAhead.T7 := by kernel_rfl
theorem carrefourlaw13_OrderAhead.bits7 : waitsOk carrefourlaw13_OrderAhead.T7.2 carrefourlaw13_OrderAhead.B7 = true := by kernel_rfl
def carrefourlaw13_OrderAhead.T8 : Bool × List (List Nat × List Nat) := (true, [([], []), ([], []), ([0, 1], [0, 1]), ([2], [2]), ([], []), ([], []), ([4, 5], [4, 5]), ([6], [6]), ([3, 7], [3, 7]), ([], []), ([], []), ([9, 10], [9, 10]), ([8, 11], [8, 11]), ([12], [12]), ([13, 13], [13]), ([13, 14], [13, 14]), ([15, 14, 0, 1, 2, 3, 4, 5, 6, 7, 8, 9, 10, 11, 12, 13, 14, 15], [15])])
def carrefourlaw13_OrderAhead.B8 : List Nat := [0, 0, 3, 7, 0, 0, 48, 112, 255, 0, 0, 1536, 4095, 8191, 16383, 32767, 65535]
theorem carrefourlaw13_OrderAhead.tab8 : rtab .any (opsOf Try.f4 8) = carrefourlaw13_OrderAhead.T8 := by kernel_rfl
theorem carrefourlaw13_OrderAhead.bits8 : waitsOk carrefourlaw13_OrderAhead.T8.2 carrefourlaw13_OrderAhead.B8 = true := by kernel_rfl
theorem carrefourlaw13_OrderAhead.calls (k : Nat) (a0 : Int) (a1 : Int) (a2 : Int) (r : Bool) (w : World) (h : carrefourlaw13_OrderAhead.f k a0 a1 a2 = some r) :
    Calls Try.prog 4 #[.int .i64 a0, .int .i64 a1, .int .i64 a2] w fun e w' => e = .returned (.bool r) ∧ Below w.heap.size w w' := by
  have HB := Aside0.mk (Below.refl w.heap.size w)
  have H : ((order_Nth.f k a0 a1).bind fun t136 => ((order_Nth.f k a0 a2).bind fun t139 => (if a1 < 0 then (carrefourlaw13_OrderAhead.j0 k a0 a1 a2 t136 t139 true) else (if a2 < 0 then (carrefourlaw13_OrderAhead.j0 k a0 a1 a2 t136 t139 true) else ((order_Count.f k a0).bind fun t142 => (if a1 ≥ t142 then (carrefourlaw13_OrderAhead.j0 k a0 a1 a2 t136 t139 true) else (if a2 ≥ t142 then (carrefourlaw13_OrderAhead.j0 k a0 a1 a2 t136 t139 true) else (if (t136.length : Int) = a0 then (carrefourlaw13_OrderAhead.j0 k a0 a1 a2 t136 t139 ((t139.length : Int) != a0)) else (carrefourlaw13_OrderAhead.j0 k a0 a1 a2 t136 t139 true))))))))) = some r := h
  clear h
  replace H := bi_ H; obtain ⟨t136, A4, H⟩ := H
  (try dsimp only at H)
  replace H := bi_ H; obtain ⟨t139, A5, H⟩ := H
  (try dsimp only at H)
  have HC6 := Aside0.mk H
  clear H
  go_enter Try.func4, Try.ntmps4
  go_upto_region 2 with (first | ((with_reducible refine gc 12 rfl ?_); refine gl_ (some 12) rfl rfl Try.func12 ((order_Nth.calls _ _ _ _ _ A4.out).mono ?_) ag; rintro e w7 ⟨v137, rfl, ho0, hb⟩; refine ⟨_, rfl, ?_⟩; have HO138 := Aside0.mk (Kd.R_lower ho0 (below_size (bf HB))); replace HB := bs HB hb; (try clear hb); (try clear ho0)) | ((with_reducible refine gc 12 rfl ?_); refine gl_ (some 15) rfl rfl Try.func12 ((order_Nth.calls _ _ _ _ _ A5.out).mono ?_) ag; rintro e w8 ⟨v140, rfl, ho0, hb⟩; refine ⟨_, rfl, ?_⟩; have HO141 := Aside0.mk (Kd.R_lower (Kd.R_new' ho0 (rl HO138)) (below_size (bf HB))); replace HO138 := re_ HO138 (Kd.R_base ho0) hb; replace HB := bs HB hb; (try clear hb); (try clear ho0)))
  (try simp only [Act.put, si, s0, s1])
  go_cut [45] (fun v45 wc => ∃ (kq : Nat) (x45_5 : Bool), v45 = .bool x45_5 ∧ Aside0 (carrefourlaw13_OrderAhead.j0 kq a0 a1 a2 t136 t139 x45_5 = some r) ∧ Aside0 (kq ≤ k) ∧ Aside0 (Kd.R (Kd.int .i64) 3 wc w.heap.size (fun k_ => some k_ ≠ (v140 : Value).ownBlock) v137 t136) ∧ Aside0 (Kd.R (Kd.int .i64) 3 wc w.heap.size (fun k_ => some k_ ≠ (v137 : Value).ownBlock) v140 t139) ∧ Aside0 (Below w.heap.size w wc))
  case first =>
    have H := HC6.out
    clear HC6
    by_cases c9 : a1 < 0
    · rw [if_pos c9] at H
      have c9b0 : decide (a1 < 0) = true := decide_eq_true c9
      clear c9
      (first | rw [c9b0] | (simp only [i64_w, i32_w]; rw [c9b0]) | skip)
      have H' := Aside0.mk H
      clear H
      go_wp2
      go_meet
      case rel => exact ⟨_, (true), (aq), H', ⟨by first | omega | exact Nat.le_refl _⟩, ⟨by (with_reducible repeat (first | apply Kd.R_alloc | apply Kd.R_drewN | apply Kd.R_drew)); exact Kd.R_mono HO138.out (fun _ hk => hk.2)⟩, ⟨by (with_reducible repeat (first | apply Kd.R_alloc | apply Kd.R_drewN | apply Kd.R_drew)); exact Kd.R_mono HO141.out (fun _ hk => hk.2)⟩, ⟨bf HB⟩⟩
    · rw [if_neg c9] at H
      have c9b0 : decide (a1 < 0) = false := decide_eq_false c9
      clear c9
      (first | rw [c9b0] | (simp only [i64_w, i32_w]; rw [c9b0]) | skip)
      by_cases c10 : a2 < 0
      · rw [if_pos c10] at H
        have c10b0 : decide (a2 < 0) = true := decide_eq_true c10
        clear c10
        have H' := Aside0.mk H
        clear H
        go_wp2
        go_meet
        case rel => exact ⟨_, (true), (aq), H', ⟨by first | omega | exact Nat.le_refl _⟩, ⟨by (with_reducible repeat (first | apply Kd.R_alloc | apply Kd.R_drewN | apply Kd.R_drew)); exact Kd.R_mono HO138.out (fun _ hk => hk.2)⟩, ⟨by (with_reducible repeat (first | apply Kd.R_alloc | apply Kd.R_drewN | apply Kd.R_drew)); exact Kd.R_mono HO141.out (fun _ hk => hk.2)⟩, ⟨bf HB⟩⟩
      · rw [if_neg c10] at H
        have c10b0 : decide (a2 < 0) = false := decide_eq_false c10
        clear c10
        replace H := bi_ H; obtain ⟨t142, A11, H⟩ := H
        (try dsimp only at H)
        by_cases c12 : a1 ≥ t142
        · rw [if_pos c12] at H
          have c12b0 : decide (t142 ≤ a1) = true := decide_eq_true c12
          clear c12
          have H' := Aside0.mk H
          clear H
          go_wp2_with (first | (go_at_call 8; (with_reducible refine (order_Count.calls _ _ _ _ A11.out).mono ?_); rintro e w' ⟨rfl, ⟨nd, rfl⟩⟩))
          go_meet
          case rel => exact ⟨_, (true), (aq), H', ⟨by first | omega | exact Nat.le_refl _⟩, ⟨by (with_reducible repeat (first | apply Kd.R_alloc | apply Kd.R_drewN | apply Kd.R_drew)); exact Kd.R_mono HO138.out (fun _ hk => hk.2)⟩, ⟨by (with_reducible repeat (first | apply Kd.R_alloc | apply Kd.R_drewN | apply Kd.R_drew)); exact Kd.R_mono HO141.out (fun _ hk => hk.2)⟩, ⟨bf HB⟩⟩
        · rw [if_neg c12] at H
          have c12b0 : decide (t142 ≤ a1) = false := decide_eq_false c12
          clear c12
          by_cases c13 : a2 ≥ t142
          · rw [if_pos c13] at H
            have c13b0 : decide (t142 ≤ a2) = true := decide_eq_true c13
            clear c13
            have H' := Aside0.mk H
            clear H
            go_wp2_with (first | (go_at_call 8; (with_reducible refine (order_Count.calls _ _ _ _ A11.out).mono ?_); rintro e w' ⟨rfl, ⟨nd, rfl⟩⟩))
            go_meet
            case rel => exact ⟨_, (true), (aq), H', ⟨by first | omega | exact Nat.le_refl _⟩, ⟨by (with_reducible repeat (first | apply Kd.R_alloc | apply Kd.R_drewN | apply Kd.R_drew)); exact Kd.R_mono HO138.out (fun _ hk => hk.2)⟩, ⟨by (with_reducible repeat (first | apply Kd.R_alloc | apply Kd.R_drewN | apply Kd.R_drew)); exact Kd.R_mono HO141.out (fun _ hk => hk.2)⟩, ⟨bf HB⟩⟩
          · rw [if_neg c13] at H
            have c13b0 : decide (t142 ≤ a2) = false := decide_eq_false c13
            clear c13
            by_cases c14 : (t136.length : Int) = a0
            · rw [if_pos c14] at H
              have c14b0 : ((t136.length : Int) == a0) = true := beq_iff_eq.mpr c14
              have c14b1 : ((t136.length : Int) != a0) = false := bne_eq_false_iff_eq.mpr c14
              clear c14
              have H' := Aside0.mk H
              clear H
              go_wp2_with (first | (go_at_call 8; (with_reducible refine (order_Count.calls _ _ _ _ A11.out).mono ?_); rintro e w' ⟨rfl, ⟨nd, rfl⟩⟩; (try (obtain ⟨Ao15, co15, eo15⟩ := Kd.R_slice HO138.out; subst eo15)); (try (obtain ⟨Ao16, co16, eo16⟩ := Kd.R_slice HO141.out; subst eo16))))
              go_meet
              case rel => exact ⟨_, (((t139.length : Int) != a0)), (aq), H', ⟨by first | omega | exact Nat.le_refl _⟩, ⟨by (with_reducible repeat (first | apply Kd.R_alloc | apply Kd.R_drewN | apply Kd.R_drew)); exact Kd.R_mono HO138.out (fun _ hk => hk.2)⟩, ⟨by (with_reducible repeat (first | apply Kd.R_alloc | apply Kd.R_drewN | apply Kd.R_drew)); exact Kd.R_mono HO141.out (fun _ hk => hk.2)⟩, ⟨bf HB⟩⟩
            · rw [if_neg c14] at H
              have c14b0 : ((t136.length : Int) == a0) = false := beq_eq_false_iff_ne.mpr c14
              have c14b1 : ((t136.length : Int) != a0) = true := bne_iff_ne.mpr c14
              have H' := Aside0.mk H
              clear H
              go_wp2_with (first | (go_at_call 8; (with_reducible refine (order_Count.calls _ _ _ _ A11.out).mono ?_); rintro e w' ⟨rfl, ⟨nd, rfl⟩⟩; (try (obtain ⟨Ao17, co17, eo17⟩ := Kd.R_slice HO138.out; subst eo17))))
              go_meet
              case rel => exact ⟨_, (true), (aq), H', ⟨by first | omega | exact Nat.le_refl _⟩, ⟨by (with_reducible repeat (first | apply Kd.R_alloc | apply Kd.R_drewN | apply Kd.R_drew)); exact Kd.R_mono HO138.out (fun _ hk => hk.2)⟩, ⟨by (with_reducible repeat (first | apply Kd.R_alloc | apply Kd.R_drewN | apply Kd.R_drew)); exact Kd.R_mono HO141.out (fun _ hk => hk.2)⟩, ⟨bf HB⟩⟩
  case rest =>
    clear HC6
    try clear c1
    try clear p2
    try clear c4
    try clear c9
    try clear c9b0
    try clear c10
    try clear c10b0
    try clear c12
    try clear c12b0
    try clear c13
    try clear c13b0
    try clear c14
    try clear c14b0
    try clear c14b1
    obtain ⟨kq, x45_5, rfl, HA, HJ5, HO_7, HO_8, HB⟩ := hcut
    cases kq with
    | zero => exact absurd HA.out (by simp [carrefourlaw13_OrderAhead.j0])
    | succ kj5 =>
      have H := HA.out
      clear HA
      simp only [carrefourlaw13_OrderAhead.j0] at H
      by_cases c18 : x45_5 = true
      · subst c18
        have H1 : ((carrefourlaw13_awake.f kj5).bind fun t143 => (if t143 = true then (if a1 < 0 then (some true) else (if a2 < 0 then (some true) else ((order_Count.f kj5 a0).bind fun t144 => (if a1 ≥ t144 then (some true) else (some (decide (a2 ≥ t144))))))) else (some false))) = some r := by rw [if_pos rfl] at H; exact H
        clear H
        have H := H1
        clear H1
        replace H := bi_ H; obtain ⟨t143, A19, H⟩ := H
        (try dsimp only at H)
        by_cases c20 : t143 = true
        · subst c20
          have H1 : (if a1 < 0 then (some true) else (if a2 < 0 then (some true) else ((order_Count.f kj5 a0).bind fun t144 => (if a1 ≥ t144 then (some true) else (some (decide (a2 ≥ t144))))))) = some r := by rw [if_pos rfl] at H; exact H
          clear H
          have H := H1
          clear H1
          by_cases c21 : a1 < 0
          · rw [if_pos c21] at H
            have c21b0 : decide (a1 < 0) = true := decide_eq_true c21
            clear c21
            obtain rfl := Option.some.inj H
            go_wp2_with (first | ((with_reducible refine gc 10 rfl ?_); refine gm_ (some 46) rfl rfl Try.func10 (carrefourlaw13_awake.calls kj5 _ _ A19.out) ag ?_; intro w22 hb; replace HO_7 := Aside0.mk (Kd.R_below (by (with_reducible repeat (first | apply Kd.R_alloc | apply Kd.R_drewN | apply Kd.R_drew)); exact HO_7.out) hb); replace HO_8 := Aside0.mk (Kd.R_below (by (with_reducible repeat (first | apply Kd.R_alloc | apply Kd.R_drewN | apply Kd.R_drew)); exact HO_8.out) hb); replace HB := bs HB hb; (try clear hb)))
            go_ret
            exact ⟨ae, bf HB⟩
          · rw [if_neg c21] at H
            have c21b0 : decide (a1 < 0) = false := decide_eq_false c21
            clear c21
            by_cases c23 : a2 < 0
            · rw [if_pos c23] at H
              have c23b0 : decide (a2 < 0) = true := decide_eq_true c23
              clear c23
              obtain rfl := Option.some.inj H
              go_wp2_with (first | ((with_reducible refine gc 10 rfl ?_); refine gm_ (some 46) rfl rfl Try.func10 (carrefourlaw13_awake.calls kj5 _ _ A19.out) ag ?_; intro w24 hb; replace HO_7 := Aside0.mk (Kd.R_below (by (with_reducible repeat (first | apply Kd.R_alloc | apply Kd.R_drewN | apply Kd.R_drew)); exact HO_7.out) hb); replace HO_8 := Aside0.mk (Kd.R_below (by (with_reducible repeat (first | apply Kd.R_alloc | apply Kd.R_drewN | apply Kd.R_drew)); exact HO_8.out) hb); replace HB := bs HB hb; (try clear hb)))
              go_ret
              exact ⟨ae, bf HB⟩
            · rw [if_neg c23] at H
              have c23b0 : decide (a2 < 0) = false := decide_eq_false c23
              clear c23
              replace H := bi_ H; obtain ⟨t144, A25, H⟩ := H
              (try dsimp only at H)
              by_cases c26 : a1 ≥ t144
              · rw [if_pos c26] at H
                have c26b0 : decide (t144 ≤ a1) = true := decide_eq_true c26
                clear c26
                obtain rfl := Option.some.inj H
                go_wp2_with (first | ((with_reducible refine gc 10 rfl ?_); refine gm_ (some 46) rfl rfl Try.func10 (carrefourlaw13_awake.calls kj5 _ _ A19.out) ag ?_; intro w27 hb; replace HO_7 := Aside0.mk (Kd.R_below (by (with_reducible repeat (first | apply Kd.R_alloc | apply Kd.R_drewN | apply Kd.R_drew)); exact HO_7.out) hb); replace HO_8 := Aside0.mk (Kd.R_below (by (with_reducible repeat (first | apply Kd.R_alloc | apply Kd.R_drewN | apply Kd.R_drew)); exact HO_8.out) hb); replace HB := bs HB hb; (try clear hb)) | (go_at_call 8; (with_reducible refine (order_Count.calls kj5 _ _ _ A25.out).mono ?_); rintro e w' ⟨rfl, ⟨nd, rfl⟩⟩))
                go_ret
                exact ⟨ae, bf HB⟩
              · rw [if_neg c26] at H
                have c26b0 : decide (t144 ≤ a1) = false := decide_eq_false c26
                clear c26
                obtain rfl := Option.some.inj H
                go_wp2_with (first | ((with_reducible refine gc 10 rfl ?_); refine gm_ (some 46) rfl rfl Try.func10 (carrefourlaw13_awake.calls kj5 _ _ A19.out) ag ?_; intro w28 hb; replace HO_7 := Aside0.mk (Kd.R_below (by (with_reducible repeat (first | apply Kd.R_alloc | apply Kd.R_drewN | apply Kd.R_drew)); exact HO_7.out) hb); replace HO_8 := Aside0.mk (Kd.R_below (by (with_reducible repeat (first | apply Kd.R_alloc | apply Kd.R_drewN | apply Kd.R_drew)); exact HO_8.out) hb); replace HB := bs HB hb; (try clear hb)) | (go_at_call 8; (with_reducible refine (order_Count.calls kj5 _ _ _ A25.out).mono ?_); rintro e w' ⟨rfl, ⟨nd, rfl⟩⟩))
                go_ret
                exact ⟨ae, bf HB⟩
        · replace c20 := Bool.eq_false_iff.mpr c20
          subst c20
          have H1 : (some false) = some r := by rw [if_neg (show ¬ (false = true) by decide)] at H; exact H
          clear H
          have H := H1
          clear H1
          obtain rfl := Option.some.inj H
          go_wp2_with (first | ((with_reducible refine gc 10 rfl ?_); refine gm_ (some 46) rfl rfl Try.func10 (carrefourlaw13_awake.calls kj5 _ _ A19.out) ag ?_; intro w29 hb; replace HO_7 := Aside0.mk (Kd.R_below (by (with_reducible repeat (first | apply Kd.R_alloc | apply Kd.R_drewN | apply Kd.R_drew)); exact HO_7.out) hb); replace HO_8 := Aside0.mk (Kd.R_below (by (with_reducible repeat (first | apply Kd.R_alloc | apply Kd.R_drewN | apply Kd.R_drew)); exact HO_8.out) hb); replace HB := bs HB hb; (try clear hb)))
          go_ret
          exact ⟨ae, bf HB⟩
      · replace c18 := Bool.eq_false_iff.mpr c18
        subst c18
        have H1 : (carrefourlaw13_OrderAhead.l0 kj5 a0 a1 a2 t136 t139 0) = some r := by rw [if_neg (show ¬ (false = true) by decide)] at H; exact H
        clear H
        have H := H1
        clear H1
        have H' := Aside0.mk H
        clear H
        go_wp2
        go_loopg [9] kj5 (fun kq v9 w' => ∃ (x9_2 : Int), v9 = .int .i64 x9_2 ∧ Aside0 (carrefourlaw13_OrderAhead.l0 kq a0 a1 a2 t136 t139 x9_2 = some r) ∧ Aside0 (kq ≤ kj5) ∧ Aside0 (Kd.R (Kd.int .i64) 3 w' w.heap.size (fun k_ => some k_ ≠ (v140 : Value).ownBlock) v137 t136) ∧ Aside0 (Kd.R (Kd.int .i64) 3 w' w.heap.size (fun k_ => some k_ ≠ (v137 : Value).ownBlock) v140 t139) ∧ Aside0 (Below w.heap.size w w'))
        case atStart => exact ⟨(0), (aq), H', ⟨Nat.le_refl _⟩, ⟨by (with_reducible repeat (first | apply Kd.R_alloc | apply Kd.R_drewN | apply Kd.R_drew)); exact HO_7.out⟩, ⟨by (with_reducible repeat (first | apply Kd.R_alloc | apply Kd.R_drewN | apply Kd.R_drew)); exact HO_8.out⟩, ⟨bf HB⟩⟩
        case round =>
          clear H'
          try clear c1
          try clear c2
          try clear p2
          try clear c4
          try clear c9
          try clear c9b0
          try clear c10
          try clear c10b0
          try clear c12
          try clear c12b0
          try clear c13
          try clear c13b0
          try clear c14
          try clear c14b0
          try clear c14b1
          try clear c18
          try clear c20
          try clear c21
          try clear c21b0
          try clear c23
          try clear c23b0
          try clear c26
          try clear c26b0
          try clear p2
          obtain ⟨x9_2, rfl, HA, HK2, HO_7, HO_8, HB⟩ := hrel
          cases gk with
          | zero => exact absurd HA.out (by simp [carrefourlaw13_OrderAhead.l0])
          | succ k2 =>
            have H := HA.out
            clear HA
            simp only [carrefourlaw13_OrderAhead.l0] at H
            by_cases c30 : x9_2 < a0
            · rw [if_pos c30] at H
              have c30b0 : decide (x9_2 < a0) = true := decide_eq_true c30
              clear c30
              by_cases c31 : 0 ≤ x9_2
              · rw [if_pos c31] at H
                have c31b0 : decide (0 ≤ x9_2) = true := decide_eq_true c31
                clear c31
                by_cases c32 : x9_2 < (t136.length : Int)
                · rw [if_pos c32] at H
                  have c32b0 : decide (x9_2 < (t136.length : Int)) = true := decide_eq_true c32
                  clear c32
                  by_cases c33 : x9_2 < (t139.length : Int)
                  · rw [if_pos c33] at H
                    have c33b0 : decide (x9_2 < (t139.length : Int)) = true := decide_eq_true c33
                    clear c33
                    by_cases c34 : (rd t136 x9_2) = (rd t139 x9_2)
                    · rw [if_pos c34] at H
                      have c34b0 : ((rd t136 x9_2) == (rd t139 x9_2)) = true := beq_iff_eq.mpr c34
                      have c34b1 : ((rd t136 x9_2) != (rd t139 x9_2)) = false := bne_eq_false_iff_eq.mpr c34
                      clear c34
                      have H' := Aside0.mk H
                      clear H
                      try go_wp2
                      replace HO_7 := Aside0.mk (Kd.R_drew HO_7.out)
                      replace HO_8 := Aside0.mk (Kd.R_drew HO_8.out)
                      replace HB := Aside0.mk (below_drew1 HB.out)
                      obtain ⟨Ao36, co36, eo36⟩ := Kd.R_slice HO_7.out
                      (first | subst eo36 | (injection eo36 with f1_ f2_ f3_; have f4_ := f1_.symm; have f5_ := f3_.symm; clear f1_ f2_ f3_; subst f4_; subst f5_))
                      have p145 : 0 ≤ (x9_2 : Int) := of_decide_eq_true (by first | (with_reducible assumption) | assumption)
                      have q145 : x9_2 < (t136.length : Int) := of_decide_eq_true (by first | (with_reducible assumption) | assumption)
                      obtain ⟨ad145, e145, hx145_0⟩ := Kd.at_int (Kd.R_reads' HO_7.out).2.2 x9_2 p145 q145
                      cases e145
                      replace p145 := eq_true p145
                      replace q145 := eq_true q145
                      obtain ⟨Ao37, co37, eo37⟩ := Kd.R_slice HO_8.out
                      (first | subst eo37 | (injection eo37 with f1_ f2_ f3_; have f4_ := f1_.symm; have f5_ := f3_.symm; clear f1_ f2_ f3_; subst f4_; subst f5_))
                      have p146 : 0 ≤ (x9_2 : Int) := of_decide_eq_true (by first | (with_reducible assumption) | assumption)
                      have q146 : x9_2 < (t139.length : Int) := of_decide_eq_true (by first | (with_reducible assumption) | assumption)
                      obtain ⟨ad146, e146, hx146_0⟩ := Kd.at_int (Kd.R_reads' HO_8.out).2.2 x9_2 p146 q146
                      cases e146
                      replace p146 := eq_true p146
                      replace q146 := eq_true q146
                      refine start_ (n := 9) (S := fun w' => w'.cell? (ad145.add (x9_2).toNat) = some (.int .i64 (rd t136 x9_2)) ∧ w'.cell? (ad146.add (x9_2).toNat) = some (.int .i64 (rd t139 x9_2))) (ds := []) (m_ 9 0) (by kernel_rfl) rfl rfl ⟨hx145_0, hx146_0⟩ (fun hHeld => ?_); refine with_tabW carrefourlaw13_OrderAhead.tab7 carrefourlaw13_OrderAhead.bits7 (fun HT_ HW_ => ?_)
                      generalize wr.drew = w35 at HO_7 HO_8 HB hx145_0 hx146_0 hHeld ⊢
                      refine pu_ 0 (some 72) (m_ 9 1) rfl rfl (ao HT_) ?_
                      refine pu_ 1 (some 73) (m_ 9 3) rfl rfl (ao HT_) ?_
                      refine pu_ 2 (some 74) (m_ 9 7) rfl rfl (ao HT_) ?_
                      refine pu_ 4 (some 76) (m_ 9 23) rfl rfl (ao HT_) ?_
                      refine pu_ 5 (some 77) (m_ 9 55) rfl rfl (ao HT_) ?_
                      refine pu_ 6 (some 78) (m_ 9 119) rfl rfl (ao HT_) ?_
                      refine tk_ 3 (some 75) (m_ 9 127) rfl rfl (tw HT_ HW_) hHeld ?_
                      refine tk_ 7 (some 79) (m_ 9 255) rfl rfl (tw HT_ HW_) hHeld ?_
                      refine pu_ 8 (some 80) (m_ 9 511) rfl rfl (ao HT_) ?_
                      refine done_ (done_of HT_.out (by kernel_rfl)) ?_
                      try go_wp2
                      go_roundg k2
                      case measure => have := HJ5.out; have := HK2.out; omega
                      case rel => exact ⟨(wrap64 (x9_2 + 1)), (aq), H', ⟨by have := HJ5.out; have := HK2.out; omega⟩, ⟨by (with_reducible repeat (first | apply Kd.R_alloc | apply Kd.R_drewN | apply Kd.R_drew)); exact HO_7.out⟩, ⟨by (with_reducible repeat (first | apply Kd.R_alloc | apply Kd.R_drewN | apply Kd.R_drew)); exact HO_8.out⟩, ⟨bf HB⟩⟩
                    · rw [if_neg c34] at H
                      have c34b0 : ((rd t136 x9_2) == (rd t139 x9_2)) = false := beq_eq_false_iff_ne.mpr c34
                      have c34b1 : ((rd t136 x9_2) != (rd t139 x9_2)) = true := bne_iff_ne.mpr c34
                      by_cases c38 : ((decide ((rd t136 x9_2) < (rd t139 x9_2))) == (decide (a1 < a2))) = true
                      · rw [if_pos c38] at H
                        have c38b0 : ((decide ((rd t136 x9_2) < (rd t139 x9_2))) == (decide (a1 < a2))) = true := c38
                        (try (have c38b1 : decide ((decide ((rd t136 x9_2) < (rd t139 x9_2))) = (decide (a1 < a2))) = true := by simpa using c38))
                        (try (have c38b2 : ((decide ((rd t136 x9_2) < (rd t139 x9_2))) == (decide (a1 < a2))) = true := by simpa using c38))
                        clear c38
                        replace H := bi_ H; obtain ⟨t149, A39, H⟩ := H
                        (try dsimp only at H)
                        obtain rfl := Option.some.inj H
                        try go_wp2
                        replace HO_7 := Aside0.mk (Kd.R_drew HO_7.out)
                        replace HO_8 := Aside0.mk (Kd.R_drew HO_8.out)
                        replace HB := Aside0.mk (below_drew1 HB.out)
                        obtain ⟨Ao41, co41, eo41⟩ := Kd.R_slice HO_7.out
                        (first | subst eo41 | (injection eo41 with f1_ f2_ f3_; have f4_ := f1_.symm; have f5_ := f3_.symm; clear f1_ f2_ f3_; subst f4_; subst f5_))
                        have p145 : 0 ≤ (x9_2 : Int) := of_decide_eq_true (by first | (with_reducible assumption) | assumption)
                        have q145 : x9_2 < (t136.length : Int) := of_decide_eq_true (by first | (with_reducible assumption) | assumption)
                        obtain ⟨ad145, e145, hx145_0⟩ := Kd.at_int (Kd.R_reads' HO_7.out).2.2 x9_2 p145 q145
                        cases e145
                        replace p145 := eq_true p145
                        replace q145 := eq_true q145
                        obtain ⟨Ao42, co42, eo42⟩ := Kd.R_slice HO_8.out
                        (first | subst eo42 | (injection eo42 with f1_ f2_ f3_; have f4_ := f1_.symm; have f5_ := f3_.symm; clear f1_ f2_ f3_; subst f4_; subst f5_))
                        have p146 : 0 ≤ (x9_2 : Int) := of_decide_eq_true (by first | (with_reducible assumption) | assumption)
                        have q146 : x9_2 < (t139.length : Int) := of_decide_eq_true (by first | (with_reducible assumption) | assumption)
                        obtain ⟨ad146, e146, hx146_0⟩ := Kd.at_int (Kd.R_reads' HO_8.out).2.2 x9_2 p146 q146
                        cases e146
                        replace p146 := eq_true p146
                        replace q146 := eq_true q146
                        refine start_ (n := 9) (S := fun w' => w'.cell? (ad145.add (x9_2).toNat) = some (.int .i64 (rd t136 x9_2)) ∧ w'.cell? (ad146.add (x9_2).toNat) = some (.int .i64 (rd t139 x9_2))) (ds := []) (m_ 9 0) (by kernel_rfl) rfl rfl ⟨hx145_0, hx146_0⟩ (fun hHeld => ?_); refine with_tabW carrefourlaw13_OrderAhead.tab7 carrefourlaw13_OrderAhead.bits7 (fun HT_ HW_ => ?_)
                        generalize wr.drew = w40 at HO_7 HO_8 HB hx145_0 hx146_0 hHeld ⊢
                        refine pu_ 0 (some 72) (m_ 9 1) rfl rfl (ao HT_) ?_
                        refine pu_ 1 (some 73) (m_ 9 3) rfl rfl (ao HT_) ?_
                        refine pu_ 2 (some 74) (m_ 9 7) rfl rfl (ao HT_) ?_
                        refine pu_ 4 (some 76) (m_ 9 23) rfl rfl (ao HT_) ?_
                        refine pu_ 5 (some 77) (m_ 9 55) rfl rfl (ao HT_) ?_
                        refine pu_ 6 (some 78) (m_ 9 119) rfl rfl (ao HT_) ?_
                        refine tk_ 3 (some 75) (m_ 9 127) rfl rfl (tw HT_ HW_) hHeld ?_
                        refine tk_ 7 (some 79) (m_ 9 255) rfl rfl (tw HT_ HW_) hHeld ?_
                        refine pu_ 8 (some 80) (m_ 9 511) rfl rfl (ao HT_) ?_
                        refine done_ (done_of HT_.out (by kernel_rfl)) ?_
                        try go_wp2
                        replace HO_7 := Aside0.mk (Kd.R_drew HO_7.out)
                        replace HO_8 := Aside0.mk (Kd.R_drew HO_8.out)
                        replace HB := Aside0.mk (below_drew1 HB.out)
                        have p147 : 0 ≤ (x9_2 : Int) := of_decide_eq_true (by first | (with_reducible assumption) | assumption)
                        have q147 : x9_2 < (t136.length : Int) := of_decide_eq_true (by first | (with_reducible assumption) | assumption)
                        obtain ⟨ad147, e147, hx147_0⟩ := Kd.at_int (Kd.R_reads' HO_7.out).2.2 x9_2 p147 q147
                        obtain rfl : ad145 = ad147 := (by injection e147)
                        replace p147 := eq_true p147
                        replace q147 := eq_true q147
                        have p148 : 0 ≤ (x9_2 : Int) := of_decide_eq_true (by first | (with_reducible assumption) | assumption)
                        have q148 : x9_2 < (t139.length : Int) := of_decide_eq_true (by first | (with_reducible assumption) | assumption)
                        obtain ⟨ad148, e148, hx148_0⟩ := Kd.at_int (Kd.R_reads' HO_8.out).2.2 x9_2 p148 q148
                        obtain rfl : ad146 = ad148 := (by injection e148)
                        replace p148 := eq_true p148
                        replace q148 := eq_true q148
                        refine start_ (n := 17) (S := fun w' => w'.cell? (ad145.add (x9_2).toNat) = some (.int .i64 (rd t136 x9_2)) ∧ w'.cell? (ad146.add (x9_2).toNat) = some (.int .i64 (rd t139 x9_2))) (ds := []) (m_ 17 0) (by kernel_rfl) rfl rfl ⟨hx147_0, hx148_0⟩ (fun hHeld => ?_); refine with_tabW carrefourlaw13_OrderAhead.tab8 carrefourlaw13_OrderAhead.bits8 (fun HT_ HW_ => ?_)
                        generalize w40.drew = w43 at HO_7 HO_8 HB hx147_0 hx148_0 hHeld ⊢
                        refine pu_ 0 (some 81) (m_ 17 1) rfl rfl (ao HT_) ?_
                        refine pu_ 1 (some 82) (m_ 17 3) rfl rfl (ao HT_) ?_
                        refine pu_ 2 (some 83) (m_ 17 7) rfl rfl (ao HT_) ?_
                        refine pu_ 4 (some 85) (m_ 17 23) rfl rfl (ao HT_) ?_
                        refine pu_ 5 (some 86) (m_ 17 55) rfl rfl (ao HT_) ?_
                        refine pu_ 6 (some 87) (m_ 17 119) rfl rfl (ao HT_) ?_
                        refine pu_ 9 (some 90) (m_ 17 631) rfl rfl (ao HT_) ?_
                        refine pu_ 10 (some 91) (m_ 17 1655) rfl rfl (ao HT_) ?_
                        refine pu_ 11 (some 92) (m_ 17 3703) rfl rfl (ao HT_) ?_
                        refine tk_ 3 (some 84) (m_ 17 3711) rfl rfl (tw HT_ HW_) hHeld ?_
                        refine tk_ 7 (some 88) (m_ 17 3839) rfl rfl (tw HT_ HW_) hHeld ?_
                        refine pu_ 8 (some 89) (m_ 17 4095) rfl rfl (ao HT_) ?_
                        refine pu_ 12 (some 93) (m_ 17 8191) rfl rfl (ao HT_) ?_
                        refine pu_ 13 (some 94) (m_ 17 16383) rfl rfl (ao HT_) ?_
                        refine o1_ 14 (some 95) (m_ 17 32767) rfl rfl (oo HT_) (fun K hK => ?_)
                        refine goes_ Try.func10 (by kernel_rfl) rfl #[] (by rfl) rfl rfl ag ?_
                        with_reducible refine (carrefourlaw13_awake.calls _ _ _ A39.out).mono ?_
                        rintro e w44 ⟨rfl, hb⟩
                        have HS0_ := (hb.cell (World.block_lt_of_cell? _ _ (hHeld.1))).trans (hHeld.1)
                        have HS1_ := (hb.cell (World.block_lt_of_cell? _ _ (hHeld.2))).trans (hHeld.2)
                        refine ⟨_, rfl, ?_⟩
                        replace HO_7 := Aside0.mk (Kd.R_below (by (with_reducible repeat (first | apply Kd.R_alloc | apply Kd.R_drewN | apply Kd.R_drew)); exact HO_7.out) hb)
                        replace HO_8 := Aside0.mk (Kd.R_below (by (with_reducible repeat (first | apply Kd.R_alloc | apply Kd.R_drewN | apply Kd.R_drew)); exact HO_8.out) hb)
                        replace HB := bs HB hb
                        (try clear hb)
                        refine hK.out _ _ ⟨HS0_, HS1_⟩ (fun hHeld => ?_)
                        clear hK K
                        refine nr_ (some 95) ?_
                        refine pu_ 15 (some 96) (m_ 17 65535) rfl rfl (ao HT_) ?_
                        refine pu_ 16 (some 6) (m_ 17 131071) rfl rfl (ao HT_) ?_
                        refine done_ (done_of HT_.out (by kernel_rfl)) ?_
                        try go_wp2
                        go_ret
                        exact ⟨ae, bf HB⟩
                      · rw [if_neg c38] at H
                        have c38b0 : ((decide ((rd t136 x9_2) < (rd t139 x9_2))) == (decide (a1 < a2))) = false := by simpa using c38
                        (try (have c38b1 : decide ((decide ((rd t136 x9_2) < (rd t139 x9_2))) = (decide (a1 < a2))) = false := by simpa using c38))
                        (try (have c38b2 : ((decide ((rd t136 x9_2) < (rd t139 x9_2))) == (decide (a1 < a2))) = false := by simpa using c38))
                        (try (have c38b3 : ¬ ((decide ((rd t136 x9_2) < (rd t139 x9_2))) = (decide (a1 < a2))) := by simpa using c38))
                        clear c38
                        obtain rfl := Option.some.inj H
                        try go_wp2
                        replace HO_7 := Aside0.mk (Kd.R_drew HO_7.out)
                        replace HO_8 := Aside0.mk (Kd.R_drew HO_8.out)
                        replace HB := Aside0.mk (below_drew1 HB.out)
                        obtain ⟨Ao46, co46, eo46⟩ := Kd.R_slice HO_7.out
                        (first | subst eo46 | (injection eo46 with f1_ f2_ f3_; have f4_ := f1_.symm; have f5_ := f3_.symm; clear f1_ f2_ f3_; subst f4_; subst f5_))
                        have p145 : 0 ≤ (x9_2 : Int) := of_decide_eq_true (by first | (with_reducible assumption) | assumption)
                        have q145 : x9_2 < (t136.length : Int) := of_decide_eq_true (by first | (with_reducible assumption) | assumption)
                        obtain ⟨ad145, e145, hx145_0⟩ := Kd.at_int (Kd.R_reads' HO_7.out).2.2 x9_2 p145 q145
                        cases e145
                        replace p145 := eq_true p145
                        replace q145 := eq_true q145
                        obtain ⟨Ao47, co47, eo47⟩ := Kd.R_slice HO_8.out
                        (first | subst eo47 | (injection eo47 with f1_ f2_ f3_; have f4_ := f1_.symm; have f5_ := f3_.symm; clear f1_ f2_ f3_; subst f4_; subst f5_))
                        have p146 : 0 ≤ (x9_2 : Int) := of_decide_eq_true (by first | (with_reducible assumption) | assumption)
                        have q146 : x9_2 < (t139.length : Int) := of_decide_eq_true (by first | (with_reducible assumption) | assumption)
                        obtain ⟨ad146, e146, hx146_0⟩ := Kd.at_int (Kd.R_reads' HO_8.out).2.2 x9_2 p146 q146
                        cases e146
                        replace p146 := eq_true p146
                        replace q146 := eq_true q146
                        refine start_ (n := 9) (S := fun w' => w'.cell? (ad145.add (x9_2).toNat) = some (.int .i64 (rd t136 x9_2)) ∧ w'.cell? (ad146.add (x9_2).toNat) = some (.int .i64 (rd t139 x9_2))) (ds := []) (m_ 9 0) (by kernel_rfl) rfl rfl ⟨hx145_0, hx146_0⟩ (fun hHeld => ?_); refine with_tabW carrefourlaw13_OrderAhead.tab7 carrefourlaw13_OrderAhead.bits7 (fun HT_ HW_ => ?_)
                        generalize wr.drew = w45 at HO_7 HO_8 HB hx145_0 hx146_0 hHeld ⊢
                        refine pu_ 0 (some 72) (m_ 9 1) rfl rfl (ao HT_) ?_
                        refine pu_ 1 (some 73) (m_ 9 3) rfl rfl (ao HT_) ?_
                        refine pu_ 2 (some 74) (m_ 9 7) rfl rfl (ao HT_) ?_
                        refine pu_ 4 (some 76) (m_ 9 23) rfl rfl (ao HT_) ?_
                        refine pu_ 5 (some 77) (m_ 9 55) rfl rfl (ao HT_) ?_
                        refine pu_ 6 (some 78) (m_ 9 119) rfl rfl (ao HT_) ?_
                        refine tk_ 3 (some 75) (m_ 9 127) rfl rfl (tw HT_ HW_) hHeld ?_
                        refine tk_ 7 (some 79) (m_ 9 255) rfl rfl (tw HT_ HW_) hHeld ?_
                        refine pu_ 8 (some 80) (m_ 9 511) rfl rfl (ao HT_) ?_
                        refine done_ (done_of HT_.out (by kernel_rfl)) ?_
                        try go_wp2
                        replace HO_7 := Aside0.mk (Kd.R_drew HO_7.out)
                        replace HO_8 := Aside0.mk (Kd.R_drew HO_8.out)
                        replace HB := Aside0.mk (below_drew1 HB.out)
                        have p147 : 0 ≤ (x9_2 : Int) := of_decide_eq_true (by first | (with_reducible assumption) | assumption)
                        have q147 : x9_2 < (t136.length : Int) := of_decide_eq_true (by first | (with_reducible assumption) | assumption)
                        obtain ⟨ad147, e147, hx147_0⟩ := Kd.at_int (Kd.R_reads' HO_7.out).2.2 x9_2 p147 q147
                        obtain rfl : ad145 = ad147 := (by injection e147)
                        replace p147 := eq_true p147
                        replace q147 := eq_true q147
                        have p148 : 0 ≤ (x9_2 : Int) := of_decide_eq_true (by first | (with_reducible assumption) | assumption)
                        have q148 : x9_2 < (t139.length : Int) := of_decide_eq_true (by first | (with_reducible assumption) | assumption)
                        obtain ⟨ad148, e148, hx148_0⟩ := Kd.at_int (Kd.R_reads' HO_8.out).2.2 x9_2 p148 q148
                        obtain rfl : ad146 = ad148 := (by injection e148)
                        replace p148 := eq_true p148
                        replace q148 := eq_true q148
                        refine start_ (n := 17) (S := fun w' => w'.cell? (ad145.add (x9_2).toNat) = some (.int .i64 (rd t136 x9_2)) ∧ w'.cell? (ad146.add (x9_2).toNat) = some (.int .i64 (rd t139 x9_2))) (ds := []) (m_ 17 0) (by kernel_rfl) rfl rfl ⟨hx147_0, hx148_0⟩ (fun hHeld => ?_); refine with_tabW carrefourlaw13_OrderAhead.tab8 carrefourlaw13_OrderAhead.bits8 (fun HT_ HW_ => ?_)
                        generalize w45.drew = w48 at HO_7 HO_8 HB hx147_0 hx148_0 hHeld ⊢
                        refine pu_ 0 (some 81) (m_ 17 1) rfl rfl (ao HT_) ?_
                        refine pu_ 1 (some 82) (m_ 17 3) rfl rfl (ao HT_) ?_
                        refine pu_ 2 (some 83) (m_ 17 7) rfl rfl (ao HT_) ?_
                        refine pu_ 4 (some 85) (m_ 17 23) rfl rfl (ao HT_) ?_
                        refine pu_ 5 (some 86) (m_ 17 55) rfl rfl (ao HT_) ?_
                        refine pu_ 6 (some 87) (m_ 17 119) rfl rfl (ao HT_) ?_
                        refine pu_ 9 (some 90) (m_ 17 631) rfl rfl (ao HT_) ?_
                        refine pu_ 10 (some 91) (m_ 17 1655) rfl rfl (ao HT_) ?_
                        refine pu_ 11 (some 92) (m_ 17 3703) rfl rfl (ao HT_) ?_
                        refine tk_ 3 (some 84) (m_ 17 3711) rfl rfl (tw HT_ HW_) hHeld ?_
                        refine tk_ 7 (some 88) (m_ 17 3839) rfl rfl (tw HT_ HW_) hHeld ?_
                        refine pu_ 8 (some 89) (m_ 17 4095) rfl rfl (ao HT_) ?_
                        refine pu_ 12 (some 93) (m_ 17 8191) rfl rfl (ao HT_) ?_
                        refine pu_ 13 (some 94) (m_ 17 16383) rfl rfl (ao HT_) ?_
                        refine pv_ 14 (some 95) (m_ 17 32767) rfl rfl (ao HT_) ?_
                        refine pu_ 15 (some 96) (m_ 17 65535) rfl rfl (ao HT_) ?_
                        refine pu_ 16 (some 6) (m_ 17 131071) rfl rfl (ao HT_) ?_
                        refine done_ (done_of HT_.out (by kernel_rfl)) ?_
                        try go_wp2
                        go_ret
                        exact ⟨ae, bf HB⟩
                  · rw [if_neg c33] at H
                    exact absurd H (by simp)
                · rw [if_neg c32] at H
                  exact absurd H (by simp)
              · rw [if_neg c31] at H
                exact absurd H (by simp)
            · rw [if_neg c30] at H
              have c30b0 : decide (x9_2 < a0) = false := decide_eq_false c30
              clear c30
              by_cases c49 : a1 = a2
              · rw [if_pos c49] at H
                have c49b0 : (a1 == a2) = true := beq_iff_eq.mpr c49
                have c49b1 : (a1 != a2) = false := bne_eq_false_iff_eq.mpr c49
                clear c49
                replace H := bi_ H; obtain ⟨t150, A50, H⟩ := H
                (try dsimp only at H)
                obtain rfl := Option.some.inj H
                go_wp2_with (first | (go_at_call 10; (with_reducible refine (carrefourlaw13_awake.calls _ _ _ A50.out).mono ?_); rintro e w51 ⟨rfl, hb⟩; replace HO_7 := Aside0.mk (Kd.R_below (by (with_reducible repeat (first | apply Kd.R_alloc | apply Kd.R_drewN | apply Kd.R_drew)); exact HO_7.out) hb); replace HO_8 := Aside0.mk (Kd.R_below (by (with_reducible repeat (first | apply Kd.R_alloc | apply Kd.R_drewN | apply Kd.R_drew)); exact HO_8.out) hb); replace HB := bs HB hb; (try clear hb)))
                go_ret
                exact ⟨ae, bf HB⟩
              · rw [if_neg c49] at H
                have c49b0 : (a1 == a2) = false := beq_eq_false_iff_ne.mpr c49
                have c49b1 : (a1 != a2) = true := bne_iff_ne.mpr c49
                obtain rfl := Option.some.inj H
                go_wp2
                go_ret
                exact ⟨ae, bf HB⟩

/-- THE ONE PURE STATEMENT of carrefourlaw13_OrderAhead: yours. -/
def carrefourlaw13_OrderAhead.Pure : Prop := ∀ (a0 : Int) (a1 : Int) (a2 : Int), (Lit.int .i64 a0).wf = true → (Lit.int .i64 a1).wf = true → (Lit.int .i64 a2).wf = true → ∃ k, carrefourlaw13_OrderAhead.f k a0 a1 a2 = some true
theorem carrefourlaw13_OrderAhead.walk (P : carrefourlaw13_OrderAhead.Pure) (a0 : Int) (a1 : Int) (a2 : Int) (w : World) (w0 : (Lit.int .i64 a0).wf = true) (w1 : (Lit.int .i64 a1).wf = true) (w2 : (Lit.int .i64 a2).wf = true) :
    Calls Try.prog 4 #[.int .i64 a0, .int .i64 a1, .int .i64 a2] w fun e w' => e = .returned (.bool true) ∧ Below w.heap.size w w' := by
  obtain ⟨k, h⟩ := P a0 a1 a2 w0 w1 w2
  refine (carrefourlaw13_OrderAhead.calls k a0 a1 a2 true w h).mono ?_
  rintro e w' ⟨rfl, hd⟩
  exact ⟨rfl, hd⟩

end Go.Proofs.Ytnhnmbfhepeadaa.X
