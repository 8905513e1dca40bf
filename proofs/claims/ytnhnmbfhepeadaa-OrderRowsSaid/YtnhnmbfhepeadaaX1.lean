/- Walks: each '.calls' says that the Go function comes to what its Lean function tells. Conditions: as each theorem's head says. -/
import Derived.Test.YtnhnmbfhepeadaaXD
import Derived.Test.YtnhnmbfhepeadaaX0
namespace Go.Proofs.Ytnhnmbfhepeadaa.X
open Go.RowKit Go.Proofs.YtnhnmbfhepeadaaW.PrintWords Go.Proofs.YtnhnmbfhepeadaaW.PrintLast Go.Proofs.YtnhnmbfhepeadaaW.PrintMore
attribute [local go_sem] max2_int min2_int max_two min_two max_three min_three max_four min_four   -- for this text's walks alone
set_option linter.unusedVariables false
set_option maxHeartbeats 8000000
set_option maxRecDepth 100000
set_option linter.unusedSimpArgs false

/-! ### order_within: function 23 -/
theorem order_within.calls (a0 : Int) (r : Bool) (w : World) (h : order_within.f a0 = some r) :
    Calls Try.prog 23 #[.int .i64 a0] w fun e w' => e = .returned (.bool r) ∧ Drawn0 w w' := by
  have H : (if 0 ≤ a0 then (some (decide (a0 ≤ 8))) else (some false)) = some r := h
  clear h
  by_cases c2 : 0 ≤ a0
  · rw [if_pos c2] at H
    have c2b0 : decide (0 ≤ a0) = true := decide_eq_true c2
    clear c2
    obtain rfl := Option.some.inj H
    go_enter Try.func23, Try.ntmps23
    go_wp2
    go_ret
    exact ⟨aq, dr⟩
  · rw [if_neg c2] at H
    have c2b0 : decide (0 ≤ a0) = false := decide_eq_false c2
    clear c2
    obtain rfl := Option.some.inj H
    go_enter Try.func23, Try.ntmps23
    go_wp2
    go_ret
    exact ⟨aq, dr⟩

/-! ### order_Count: function 8 -/
theorem order_Count.calls (k : Nat) (a0 : Int) (r : Int) (w : World) (h : order_Count.f k a0 = some r) :
    Calls Try.prog 8 #[.int .i64 a0] w fun e w' => e = .returned (.int .i64 r) ∧ Drawn0 w w' := by
  have H : ((order_within.f a0).bind fun t101 => (if t101 = true then (order_Count.l0 k 1 a0 0) else (some 0))) = some r := h
  clear h
  replace H := bi_ H; obtain ⟨t101, A2, H⟩ := H
  (try dsimp only at H)
  by_cases c3 : t101 = true
  · subst c3
    have H1 : (order_Count.l0 k 1 a0 0) = some r := by rw [if_pos rfl] at H; exact H
    clear H
    have H := H1
    clear H1
    have H' := Aside0.mk H
    clear H
    go_enter Try.func8, Try.ntmps8
    go_wp2_with (first | ((with_reducible refine gc 23 rfl ?_); refine gm_ (some 6) rfl rfl Try.func23 (order_within.calls _ _ _ A2.out) ag ?_; rintro w' ⟨nd, rfl⟩))
    go_loopg [3, 9] k (fun kq v3 v9 w' => ∃ (x3_1 : Int) (x9_1 : Int), v3 = .int .i64 x3_1 ∧ v9 = .int .i64 x9_1 ∧ Aside0 (order_Count.l0 kq x3_1 a0 x9_1 = some r) ∧ Aside0 (kq ≤ k) ∧ Drawn0 w w')
    case atStart => exact ⟨(1), (0), (aq), (aq), H', ⟨Nat.le_refl _⟩, dr⟩
    case round =>
      clear H'
      try clear c2
      try clear p2
      try clear c3
      obtain ⟨x3_1, x9_1, rfl, rfl, HA, HK1, ⟨m1, rfl⟩⟩ := hrel
      cases gk with
      | zero => exact absurd HA.out (by simp [order_Count.l0])
      | succ k1 =>
        have H := HA.out
        clear HA
        simp only [order_Count.l0] at H
        by_cases c4 : x9_1 < a0
        · rw [if_pos c4] at H
          have c4b0 : decide (x9_1 < a0) = true := decide_eq_true c4
          clear c4
          have H' := Aside0.mk H
          clear H
          go_wp2
          go_roundg k1
          case measure => have := HK1.out; omega
          case rel => exact ⟨(wrap64 (x3_1 * (wrap64 (x9_1 + 1)))), (wrap64 (x9_1 + 1)), (aq), (aq), H', ⟨by have := HK1.out; omega⟩, dr⟩
        · rw [if_neg c4] at H
          have c4b0 : decide (x9_1 < a0) = false := decide_eq_false c4
          clear c4
          obtain rfl := Option.some.inj H
          go_wp2
          go_ret
          exact ⟨aq, dr⟩
  · replace c3 := Bool.eq_false_iff.mpr c3
    subst c3
    have H1 : (some 0) = some r := by rw [if_neg (show ¬ (false = true) by decide)] at H; exact H
    clear H
    have H := H1
    clear H1
    obtain rfl := Option.some.inj H
    go_enter Try.func8, Try.ntmps8
    go_wp2_with (first | ((with_reducible refine gc 23 rfl ?_); refine gm_ (some 6) rfl rfl Try.func23 (order_within.calls _ _ _ A2.out) ag ?_; rintro w' ⟨nd, rfl⟩))
    go_ret
    exact ⟨aq, dr⟩

/-! ### carrefourref13_Same: function 11 -/
theorem carrefourref13_Same.calls (k : Nat) (A0 : Option Addr) (c0 : Nat) (l0 : List Int) (A1 : Option Addr) (c1 : Nat) (l1 : List Int) (r : Bool) (w : World) (hr0 : Kd.C (Kd.int .i64) w A0 l0.length l0) (hc0 : l0.length ≤ c0) (hr1 : Kd.C (Kd.int .i64) w A1 l1.length l1) (hc1 : l1.length ≤ c1) (h : carrefourref13_Same.f k l0 l1 = some r) :
    Calls Try.prog 11 #[.slice A0 l0.length c0, .slice A1 l1.length c1] w fun e w' => e = .returned (.bool r) ∧ Drawn0 w w' := by
  have HR0 := Aside0.mk hr0
  have HC0 := Aside0.mk hc0
  clear hr0 hc0
  have HR1 := Aside0.mk hr1
  have HC1 := Aside0.mk hc1
  clear hr1 hc1
  have H : (if (l0.length : Int) = (l1.length : Int) then (carrefourref13_Same.l0 k l0 l1 0) else (some false)) = some r := h
  clear h
  by_cases c3 : (l0.length : Int) = (l1.length : Int)
  · rw [if_pos c3] at H
    have c3b0 : ((l0.length : Int) == (l1.length : Int)) = true := beq_iff_eq.mpr c3
    have c3b1 : ((l0.length : Int) != (l1.length : Int)) = false := bne_eq_false_iff_eq.mpr c3
    have c3b2 : (l0.length == l1.length) = true := by first | simpa using c3 | (simp at c3 ⊢; omega)
    clear c3
    have H' := Aside0.mk H
    clear H
    go_enter Try.func11, Try.ntmps11
    go_wp2
    repeat (go_quiet (fail); try go_wp2)
    go_loopg [5] k (fun kq v5 w' => ∃ (x5_1 : Int), v5 = .int .i64 x5_1 ∧ Aside0 (carrefourref13_Same.l0 kq l0 l1 x5_1 = some r) ∧ Aside0 (kq ≤ k) ∧ Drawn0 w w')
    case atStart => exact ⟨(0), (aq), H', ⟨Nat.le_refl _⟩, dr⟩
    case round =>
      clear H'
      try clear c1
      try clear p2
      try clear c3
      try clear c3b0
      try clear c3b1
      try clear c3b2
      obtain ⟨x5_1, rfl, HA, HK1, ⟨m1, rfl⟩⟩ := hrel
      cases gk with
      | zero => exact absurd HA.out (by simp [carrefourref13_Same.l0])
      | succ k1 =>
        have H := HA.out
        clear HA
        simp only [carrefourref13_Same.l0] at H
        by_cases c4 : x5_1 < (l0.length : Int)
        · rw [if_pos c4] at H
          have c4b0 : decide (x5_1 < (l0.length : Int)) = true := decide_eq_true c4
          clear c4
          by_cases c5 : 0 ≤ x5_1
          · rw [if_pos c5] at H
            have c5b0 : decide (0 ≤ x5_1) = true := decide_eq_true c5
            clear c5
            by_cases c6 : x5_1 < (l1.length : Int)
            · rw [if_pos c6] at H
              have c6b0 : decide (x5_1 < (l1.length : Int)) = true := decide_eq_true c6
              clear c6
              by_cases c7 : (rd l0 x5_1) = (rd l1 x5_1)
              · rw [if_pos c7] at H
                have c7b0 : ((rd l0 x5_1) == (rd l1 x5_1)) = true := beq_iff_eq.mpr c7
                have c7b1 : ((rd l0 x5_1) != (rd l1 x5_1)) = false := bne_eq_false_iff_eq.mpr c7
                clear c7
                have H' := Aside0.mk H
                clear H
                have p102 : 0 ≤ (x5_1 : Int) := of_decide_eq_true (by first | (with_reducible assumption) | assumption)
                have q102 : x5_1 < (l0.length : Int) := of_decide_eq_true (by first | (with_reducible assumption) | assumption)
                obtain ⟨ad102, e102, hx102_0⟩ := Kd.at_int HR0.out x5_1 p102 q102
                cases e102
                replace p102 := eq_true p102
                replace q102 := eq_true q102
                have p103 : 0 ≤ (x5_1 : Int) := of_decide_eq_true (by first | (with_reducible assumption) | assumption)
                have q103 : x5_1 < (l1.length : Int) := of_decide_eq_true (by first | (with_reducible assumption) | assumption)
                obtain ⟨ad103, e103, hx103_0⟩ := Kd.at_int HR1.out x5_1 p103 q103
                cases e103
                replace p103 := eq_true p103
                replace q103 := eq_true q103
                go_wp2
                repeat (go_quiet (fail); try go_wp2)
                go_roundg k1
                case measure => have := HK1.out; omega
                case rel => exact ⟨(wrap64 (x5_1 + 1)), (aq), H', ⟨by have := HK1.out; omega⟩, dr⟩
              · rw [if_neg c7] at H
                have c7b0 : ((rd l0 x5_1) == (rd l1 x5_1)) = false := beq_eq_false_iff_ne.mpr c7
                have c7b1 : ((rd l0 x5_1) != (rd l1 x5_1)) = true := bne_iff_ne.mpr c7
                obtain rfl := Option.some.inj H
                have p102 : 0 ≤ (x5_1 : Int) := of_decide_eq_true (by first | (with_reducible assumption) | assumption)
                have q102 : x5_1 < (l0.length : Int) := of_decide_eq_true (by first | (with_reducible assumption) | assumption)
                obtain ⟨ad102, e102, hx102_0⟩ := Kd.at_int HR0.out x5_1 p102 q102
                cases e102
                replace p102 := eq_true p102
                replace q102 := eq_true q102
                have p103 : 0 ≤ (x5_1 : Int) := of_decide_eq_true (by first | (with_reducible assumption) | assumption)
                have q103 : x5_1 < (l1.length : Int) := of_decide_eq_true (by first | (with_reducible assumption) | assumption)
                obtain ⟨ad103, e103, hx103_0⟩ := Kd.at_int HR1.out x5_1 p103 q103
                cases e103
                replace p103 := eq_true p103
                replace q103 := eq_true q103
                go_wp2
                repeat (go_quiet (fail); try go_wp2)
                go_ret
                exact ⟨aq, dr⟩
            · rw [if_neg c6] at H
              exact absurd H (by simp)
          · rw [if_neg c5] at H
            exact absurd H (by simp)
        · rw [if_neg c4] at H
          have c4b0 : decide (x5_1 < (l0.length : Int)) = false := decide_eq_false c4
          clear c4
          obtain rfl := Option.some.inj H
          go_wp2
          repeat (go_quiet (fail); try go_wp2)
          go_ret
          exact ⟨aq, dr⟩
  · rw [if_neg c3] at H
    have c3b0 : ((l0.length : Int) == (l1.length : Int)) = false := beq_eq_false_iff_ne.mpr c3
    have c3b1 : ((l0.length : Int) != (l1.length : Int)) = true := bne_iff_ne.mpr c3
    have c3b2 : (l0.length == l1.length) = false := by first | simpa using c3 | (simp at c3 ⊢; omega)
    obtain rfl := Option.some.inj H
    go_enter Try.func11, Try.ntmps11
    go_wp2
    repeat (go_quiet (fail); try go_wp2)
    go_ret
    exact ⟨aq, dr⟩

/-! ### order_rising: function 24 -/
theorem order_rising.calls (k : Nat) (a0 : Int) (r : List Int) (w : World) (h : order_rising.f k a0 = some r) :
    Calls Try.prog 24 #[.int .i64 a0] w fun e w' => ∃ v0_ : Value, e = .returned (v0_) ∧ Kd.R (Kd.int .i64) 3 w' w.heap.size (fun _ => True) v0_ r ∧ Below w.heap.size w w' := by
  have HB := Aside0.mk (Below.refl w.heap.size w)
  have H : (if 0 ≤ a0 then (if (a0 : Int).toNat ≤ 35184372088832 then (order_rising.l0 k (List.replicate (a0 : Int).toNat 0) a0 0) else (none)) else (none)) = some r := h
  clear h
  by_cases c2 : 0 ≤ a0
  · rw [if_pos c2] at H
    have c2b0 := eq_true c2
    have c2b1 : decide (0 ≤ a0) = true := decide_eq_true c2
    clear c2
    by_cases c3 : (a0 : Int).toNat ≤ 35184372088832
    · rw [if_pos c3] at H
      have c3b0 := eq_true c3
      have c3b1 : decide ((a0 : Int).toNat ≤ 35184372088832) = true := decide_eq_true c3
      clear c3
      obtain ⟨y104, hy104⟩ : ∃ y_ : List Int, y_ = (List.replicate (a0 : Int).toNat 0) := ⟨_, rfl⟩
      replace H : (order_rising.l0 k y104 a0 0) = some r := by first | (rw [hy104]; with_reducible exact H) | (have H2_ := (Option.bind_some _ _).symm.trans H; rw [hy104]; with_reducible exact H2_) | (have H2_ := (Option.bind_some _ _).symm.trans H; with_reducible exact H2_) | with_reducible exact H | (rw [hy104]; exact H) | exact H
      have Ny104 := Aside0.mk hy104
      clear hy104
      have H' := Aside0.mk H
      clear H
      go_enter Try.func24, Try.ntmps24
      go_wp2_with (first | ((with_reducible refine gate_dst (N := 6) rfl ?_); refine Kd.R_make (Kd.int .i64) _ 3 rfl (N := 6) rfl 25 _ _ rfl a0 rfl rfl Try.underlying25 (.int .i64 0) 8 info3 rfl (by decide) (by omega) 0 (ok := fun _ => True) (okp := fun _ => True) rfl (fun _ hk => hk) trivial (of_decide_eq_true (by first | (with_reducible assumption) | assumption)) (Nat.le_trans (Nat.mul_le_mul_right _ (of_decide_eq_true (by first | (with_reducible assumption) | assumption) : a0.toNat ≤ 35184372088832)) (by omega)) (Below.refl _ _) (Nat.le_refl _) ?_; intro v105 w4 ho5 hb hg_ hnew_; clear hg_ hnew_; (first | rw [← Ny104.out] at ho5 | (simp only [Int.reduceToNat] at ho5; rw [← Ny104.out] at ho5)); have HO106 := Aside0.mk (Kd.R_lower ho5 (below_size (bf HB))); replace HB := bs HB hb; clear hb ho5))
      go_loopg [8] k (fun kq v8 w' => ∃ (x3_1 : List Int) (x8_1 : Int), v8 = .int .i64 x8_1 ∧ Aside0 (order_rising.l0 kq x3_1 a0 x8_1 = some r) ∧ Aside0 (kq ≤ k) ∧ Aside0 (Kd.R (Kd.int .i64) 3 w' w.heap.size (fun _ => True) v105 x3_1) ∧ Aside0 (Below w.heap.size w w'))
      case atStart => exact ⟨(y104), (0), (aq), H', ⟨Nat.le_refl _⟩, ⟨by (with_reducible repeat (first | apply Kd.R_alloc | apply Kd.R_drewN | apply Kd.R_drew)); exact HO106.out⟩, ⟨bf HB⟩⟩
      case round =>
        clear H'
        try clear c2
        try clear c2b0
        try clear c2b1
        try clear p2
        try clear c3
        try clear c3b0
        try clear c3b1
        obtain ⟨x3_1, x8_1, rfl, HA, HK1, HO_3, HB⟩ := hrel
        cases gk with
        | zero => exact absurd HA.out (by simp [order_rising.l0])
        | succ k1 =>
          have H := HA.out
          clear HA
          simp only [order_rising.l0] at H
          by_cases c6 : x8_1 < a0
          · rw [if_pos c6] at H
            have c6b0 : decide (x8_1 < a0) = true := decide_eq_true c6
            clear c6
            by_cases c7 : 0 ≤ x8_1
            · rw [if_pos c7] at H
              have c7b0 : decide (0 ≤ x8_1) = true := decide_eq_true c7
              clear c7
              by_cases c8 : x8_1 < (x3_1.length : Int)
              · rw [if_pos c8] at H
                have c8b0 : decide (x8_1 < (x3_1.length : Int)) = true := decide_eq_true c8
                clear c8
                obtain ⟨y107, hy107⟩ : ∃ y_ : List Int, y_ = (x3_1.set (x8_1 : Int).toNat x8_1) := ⟨_, rfl⟩
                replace H : (order_rising.l0 k1 y107 a0 (wrap64 (x8_1 + 1))) = some r := by first | (rw [hy107]; with_reducible exact H) | (have H2_ := (Option.bind_some _ _).symm.trans H; rw [hy107]; with_reducible exact H2_) | (have H2_ := (Option.bind_some _ _).symm.trans H; with_reducible exact H2_) | with_reducible exact H | (rw [hy107]; exact H) | exact H
                have Ny107 := Aside0.mk hy107
                clear hy107
                have H' := Aside0.mk H
                clear H
                have p9 : 0 ≤ (x8_1 : Int) := of_decide_eq_true (by first | (with_reducible assumption) | assumption)
                have q9 : (x8_1 : Int) < ((x3_1.length : Int) : Int) := of_decide_eq_true (by first | (with_reducible assumption) | assumption)
                obtain ⟨go9, co9, eo9, gb9, gl9, cl9, HG9⟩ := Kd.R_form HO_3.out (by omega)
                (first | cases eo9 | (injection eo9 with ea_ en_ ec_; (first | subst ea_ | (injection ea_ with ea_; subst ea_)); subst ec_; clear en_))
                have GB9 := Aside0.mk gb9
                have GG9 := Aside0.mk HG9
                clear gb9 gl9 HG9
                obtain ⟨hx9_0, hf9_0⟩ := Kd.R_celln 0 HO_3.out (x8_1 : Int) p9 q9
                replace p9 := eq_true p9
                replace q9 := eq_true q9
                have HP10 := Kd.R_putg HO_3.out (x8_1 : Int) x8_1
                go_wp2_with (first | ((with_reducible refine gate_store (t := 3) (p := 14) rfl ?_); refine store_event (t := 3) (p := 14) (v := ?vo_w11) (w1 := (wr.setCell ⟨go9, (x8_1 : Int).toNat, none⟩ (.int .i64 x8_1))) ?hg ?ho ?hn ?hr ?_; (case ho => rfl); (case hg => rfl); (case hn => rfl); (case hr => first | (go_simp; done) | (go_simp; rfl)); intro w11 hw; have hg : wr.grownBy w11 (some go9) := (by rw [hw]; exact HP10.2); have hp_ : Kd.R (Kd.int .i64) 3 w11 w.heap.size (fun _ => True) (.slice (some ⟨go9, 0, none⟩) x3_1.length co9) y107 := (by rw [hw, Ny107.out]; exact HP10.1); clear HP10; replace HO_3 := Aside0.mk (hp_); replace HB := Aside0.mk ((by rw [hw]; exact below_set (HB.out) GB9.out : Below w.heap.size w w11)); clear hg hw hp_))
                go_roundg k1
                case measure => have := HK1.out; omega
                case rel => exact ⟨(y107), (wrap64 (x8_1 + 1)), (aq), H', ⟨by have := HK1.out; omega⟩, ⟨by (with_reducible repeat (first | apply Kd.R_alloc | apply Kd.R_drewN | apply Kd.R_drew)); exact HO_3.out⟩, ⟨bf HB⟩⟩
              · rw [if_neg c8] at H
                exact absurd H (by simp)
            · rw [if_neg c7] at H
              exact absurd H (by simp)
          · rw [if_neg c6] at H
            have c6b0 : decide (x8_1 < a0) = false := decide_eq_false c6
            clear c6
            obtain rfl := Option.some.inj H
            go_wp2
            go_ret
            exact ⟨_, ae, by (with_reducible repeat (first | apply Kd.R_alloc | apply Kd.R_drewN | apply Kd.R_drew)); exact HO_3.out, bf HB⟩
    · rw [if_neg c3] at H
      exact absurd H (by simp)
  · rw [if_neg c2] at H
    exact absurd H (by simp)


/-! ### order_Nth: function 12 -/
theorem R_spliced {W W' : World} {g e cap base : Nat} {ok : Nat → Prop} {xs : List Int} {cur : List Value} {i : Nat} (h : Kd.R (Kd.int .i64) e W base ok (.slice (some ⟨g, 0, none⟩) xs.length cap) xs) (hc : W.heap[g]? = some (.cells cur.toArray e (0, 0))) (hi : i < xs.length)
    (hg : W'.heap[g]? = some (.cells (splice cur i ((xs.drop (i + 1)).map (Value.int .i64))).toArray e (0, 0))) : Kd.R (Kd.int .i64) e W' base ok (.slice (some ⟨g, 0, none⟩) (xs.length - 1) cap) (xs.eraseIdx i) := by
  have ho := Kd.own_of_R (enc := Value.int .i64) (h1 := fun _ => rfl) h
  have hl : (xs.eraseIdx i).length = xs.length - 1 := by rw [List.length_eraseIdx, if_pos hi]
  refine Kd.R_of_own (enc := Value.int .i64) (h1 := fun _ => rfl) ?_ h.1
  rw [hl]
  obtain ⟨hn, hr⟩ := ho
  rcases hr with ⟨hr, _⟩ | ⟨g', cap', cur', hv, hb, hg', h1, h2, h3, h4⟩
  · cases hr
  · have hv1 : g = g' ∧ cap = cap' := by injection hv with a b c; injection a with a; injection a with a; exact ⟨a, c⟩
    obtain ⟨rfl, rfl⟩ := hv1
    rw [hc] at hg'
    have hcc : cur.toArray = cur' := by injection hg' with hg'; injection hg'
    subst hcc
    have hcl : cur.length = cap := by simpa using h3
    have h4' : cur.take xs.length = xs.map (Value.int .i64) := by simpa [encs] using h4
    refine ⟨by rw [encs_length, hl]; omega, .inr ⟨g, cap, _, rfl, hb, hg, by omega, h2, ?_, ?_⟩⟩
    · rw [List.size_toArray, length_splice _ _ _ (by simp; omega), hcl]; omega
    · show (splice cur i ((xs.drop (i + 1)).map (Value.int .i64))).take ((xs.length - 1) * 1) = (xs.eraseIdx i).map (Value.int .i64)
      rw [List.eraseIdx_eq_take_drop_succ, List.map_append, List.map_take, ← h4']
      unfold splice
      rw [Nat.mul_one, ← List.append_assoc, List.take_append_of_le_length (by simp; omega), List.take_of_length_le (by simp; omega), List.take_take, Nat.min_eq_left (by omega)]
theorem R_made0 {P : Program} {ops : Array Oper} {rest : List Oper} {o : Oper} {a : Act} {Q : Exit → Act → World → Prop} {W : World} (base e : Nat) (hgd : o.guard = none) {N : Tmp} (_hd : o.dst = some N) (t : TypeId) (x y : Operand) (ho : o.op = .makeSlice t x y) (n : Int) (hx : a.eval x = .int .i64 0) (hy : a.eval y = .int .i64 n)
    (ht : P.underlying t = some (.slice e)) (hinfo : (P.info? e).map (fun i => (i.zero, i.size, i.bytes)) = some (some (.int .i64 0), 1, 8)) (h0 : 0 ≤ n) (hl : n ≤ 1000) (hbase : base ≤ W.heap.size)
    (h : ∀ w1 c, Kd.R (Kd.int .i64) e w1 base (fun k => W.heap.size ≤ k) (.slice (some ⟨W.heap.size, 0, none⟩) 0 c) [] → W.grownBy w1 none → wpList P ops Q rest (a.put o.dst (.slice (some ⟨W.heap.size, 0, none⟩) 0 c)) w1) : wpList P ops Q (o :: rest) a W := by
  obtain ⟨m, rfl⟩ := Int.eq_ofNat_of_zero_le h0
  obtain ⟨i0, hi, hzz⟩ := Option.map_eq_some_iff.1 hinfo
  simp only [Prod.mk.injEq] at hzz
  obtain ⟨hz0, hz1, hz2⟩ := hzz
  obtain ⟨w1, hr, hown, hgr⟩ := run_make_own (P := P) W base t e i0 (.int .i64 0) 1 ht hi hz0 hz1 .i64 .i64 m (by rw [hz2]; omega) (by simp [maxLen]; omega) hbase
  refine Kd.event_run hgd ?_ (h w1 m (Kd.R_of_own (enc := Value.int .i64) (h1 := fun _ => rfl) hown (fun k hk => by simp [Value.ownBlock] at hk; omega)) hgr)
  simp [execOp, ho, hx, hy, hr]
theorem cut_from0 {P : Program} {t e : TypeId} {i0 : TypeInfo} (ht : P.underlying t = some (.slice e)) (hi : P.info? e = some i0) (hsz : i0.size = 1) (g n c : Nat) (j : Int) (h0 : 0 ≤ j) (hj : j ≤ n) (hc : n ≤ c) :
    ∃ A : Option Addr, (j < n → A = some ⟨g, j.toNat, none⟩) ∧ ∀ W : World, (Instr.slice t (.slice (some ⟨g, 0, none⟩) n c) (some (.int .i64 j)) none none).run P W = .ok (.slice A (n - j.toNat) (c - j.toNat)) W := by
  obtain ⟨m, rfl⟩ := Int.eq_ofNat_of_zero_le h0
  have hel : P.elem t = e := by simp [Program.elem, ht]
  have hu : P.underlying t = some (.slice (P.elem t)) := by rw [hel]; exact ht
  refine ⟨if c = m then some ⟨g, 0, none⟩ else some ⟨g, m, none⟩, fun hm => ?_, fun W => ?_⟩
  · rw [if_neg (by omega)]; rfl
  · rw [run_slice_l W t (some ⟨g, 0, none⟩) n c hu .i64 (m : Int) (Int.natCast_nonneg _) (by omega), hel]
    simp [sizeOf, typeInfo, hi, hsz, sliced, Result.andThen, Addr.add]
    split
    · rfl
    · split <;> simp_all
theorem cut_to0 {P : Program} {t e : TypeId} {i0 : TypeInfo} (ht : P.underlying t = some (.slice e)) (hi : P.info? e = some i0) (hsz : i0.size = 1) (g n c : Nat) (j : Int) (h0 : 0 ≤ j) (hj : j < n) (hc : n ≤ c) :
    ∀ W : World, (Instr.slice t (.slice (some ⟨g, 0, none⟩) n c) none (some (.int .i64 j)) none).run P W = .ok (.slice (some ⟨g, 0, none⟩) j.toNat c) W := by
  obtain ⟨m, rfl⟩ := Int.eq_ofNat_of_zero_le h0
  have hel : P.elem t = e := by simp [Program.elem, ht]
  have hu : P.underlying t = some (.slice (P.elem t)) := by rw [hel]; exact ht
  intro W
  rw [run_slice_h W t (some ⟨g, 0, none⟩) n c hu .i64 (m : Int) (Int.natCast_nonneg _) (by omega), hel]
  simp [sizeOf, typeInfo, hi, hsz, sliced, Result.andThen, Addr.add]
theorem R_cells {W : World} {g e cap base : Nat} {ok : Nat → Prop} {xs : List Int} {cur : List Value} (h : Kd.R (Kd.int .i64) e W base ok (.slice (some ⟨g, 0, none⟩) xs.length cap) xs) (hc : W.heap[g]? = some (.cells cur.toArray e (0, 0))) : xs.length ≤ cur.length := by
  obtain ⟨hn, hr⟩ := Kd.own_of_R (enc := Value.int .i64) (h1 := fun _ => rfl) h
  rcases hr with ⟨hr, _⟩ | ⟨g', cap', cur', hv, hb, hg', h1, h2, h3, h4⟩
  · cases hr
  · have hv1 : g = g' ∧ cap = cap' := by injection hv with a b c; injection a with a; injection a with a; exact ⟨a, c⟩
    obtain ⟨rfl, rfl⟩ := hv1
    rw [hc] at hg'
    have hcc : cur.toArray = cur' := by injection hg' with hg'; injection hg'
    subst hcc
    have hcl : cur.length = cap := by simpa using h3
    omega
def order_Nth.T9 : Bool × List (List Nat × List Nat) := (true, [([], []), ([], []), ([0, 1], [0, 1]), ([], []), ([], []), ([4], [4]), ([3, 5], [3, 5]), ([2, 6], [2, 6])])
def order_Nth.B9 : List Nat := [0, 0, 3, 0, 0, 16, 56, 127]
theorem order_Nth.tab9 : rtab .any (opsOf Try.f12 9) = order_Nth.T9 := by kernel_rfl
theorem order_Nth.bits9 : waitsOk order_Nth.T9.2 order_Nth.B9 = true := by kernel_rfl
theorem step_copy_moved {P : Program} {ops : Array Oper} {o : Oper} {a : Act} {w : World} {K : Act → World → Prop} {Q : Exit → Act → World → Prop} {E : Prop} (hgd : o.guard = none) (d s : Operand) (dT sT : TypeId)
    (ho : o.op = .call { callee := .builtin .copy, args := #[d, s], argTypes := #[dT, sT] }) (elem : TypeId) (hu : P.underlying dT = some (.slice elem)) (hsz : (P.info? elem).map (·.size) = some 1)
    (sp : Option Addr) (dLen dCap sLen sCap : Nat) (g off : Nat) (hd : a.eval d = .slice (some ⟨g, off, none⟩) dLen dCap) (hs : a.eval s = .slice sp sLen sCap)
    (cur : List Value) (t : TypeId) (hg : w.heap[g]? = some (.cells cur.toArray t (0, 0))) (cs : List Value) (hn : cs.length = Nat.min sLen dLen)
    (hpos : 0 < cs.length → ∃ ad, sp = some ad ∧ ∀ j v, cs[j]? = some v → w.cell? (ad.add j) = some v)
    (hfit : off + cs.length ≤ cur.length) (h1 : ∀ v ∈ cs, v.oneCell' = true) (B : Nat) (w0 : World) (hb : Below B w0 w) (hBg : B ≤ g)
    (h : ∀ w', w'.heap[g]? = some (.cells (splice cur off cs).toArray t (0, 0)) → (∀ k, k ≠ g → w'.heap[k]? = w.heap[k]?) → Below B w0 w' → K (a.put o.dst (goInt cs.length)) w') :
    if Region.wanted o (yielded ops a.tmps) = true then Oper.wp P o a w K Q else E := by
  rw [if_pos (by simp [Region.wanted, hgd])]
  rcases Nat.eq_zero_or_pos cs.length with h0 | h0
  · obtain rfl : cs = [] := List.eq_nil_of_length_eq_zero h0
    have hrun := run_copy_none (P := P) w dT sT o.type elem (some ⟨g, off, none⟩) sp dLen dCap sLen sCap hu hsz (by simpa using hn.symm)
    have hK := h w (by rw [hg]; simp [splice]) (fun _ _ => rfl) hb
    unfold Oper.wp
    simp [execOp, ho, resolve, invoke, builtin, hd, hs, hrun, Result.andThen]
    exact hK
  · obtain ⟨ad, rfl, hsrc⟩ := hpos h0
    have hrun := run_copy_row (P := P) w dT sT o.type elem g off dLen dCap ad sLen sCap cur.toArray t cs hu hsz hg hn hsrc (by simpa using hfit) h1
    have hK := h _ (by rw [setRow_heap w g _ (cur.toArray.toList.take off ++ (cs ++ cur.toArray.toList.drop (off + cs.length))).toArray t _ hg]; simp [splice]) (fun k hk => setRow_other w g k _ hk) (below_setRow hb hBg _)
    unfold Oper.wp
    simp [execOp, ho, resolve, invoke, builtin, hd, hs, hrun, Result.andThen]
    exact hK
theorem R_self {W : World} {e base : Nat} {ok : Nat → Prop} {v : Value} {xs : List Int} (h : Kd.R (Kd.int .i64) e W base ok v xs) : Kd.R (Kd.int .i64) e W base (fun k => v.ownBlock = some k) v xs := Kd.R_of_own (enc := Value.int .i64) (h1 := fun _ => rfl) (Kd.own_of_R (enc := Value.int .i64) (h1 := fun _ => rfl) h) (fun _ hk => hk)
theorem order_Nth.calls (k : Nat) (a0 : Int) (a1 : Int) (r : List Int) (w : World) (h : order_Nth.f k a0 a1 = some r) :
    Calls Try.prog 12 #[.int .i64 a0, .int .i64 a1] w fun e w' => ∃ v0_ : Value, e = .returned (v0_) ∧ Kd.R (Kd.int .i64) 3 w' w.heap.size (fun _ => True) v0_ r ∧ Below w.heap.size w w' := by
  have HB := Aside0.mk (Below.refl w.heap.size w)
  have H : (if a1 < 0 then (some ([] : List Int)) else ((order_Count.f k a0).bind fun c => (if a1 ≥ c then (some ([] : List Int)) else ((order_rising.f k a0).bind fun l => (if 0 ≤ a0 then (if a0 ≤ 1000 then order_Nth.l0 k a1 l [] else none) else none))))) = some r := h
  clear h
  by_cases c1 : a1 < 0
  · rw [if_pos c1] at H
    have c1b0 : decide (a1 < 0) = true := decide_eq_true c1
    clear c1
    obtain rfl := Option.some.inj H
    go_enter Try.func12, Try.ntmps12
    go_wp2
    go_ret
    exact ⟨_, ae, Kd.R_nil _ _ _ _ _, bf HB⟩
  · rw [if_neg c1] at H
    have c1b0 : decide (a1 < 0) = false := decide_eq_false c1
    clear c1
    replace H := bi_ H; obtain ⟨t1, A1, H⟩ := H
    (try dsimp only at H)
    by_cases c2 : a1 ≥ t1
    · rw [if_pos c2] at H
      have c2b0 : decide (t1 ≤ a1) = true := decide_eq_true c2
      clear c2
      obtain rfl := Option.some.inj H
      go_enter Try.func12, Try.ntmps12
      go_wp2_with (first | (go_at_call 8; (with_reducible refine (order_Count.calls _ _ _ _ A1.out).mono ?_); rintro e w' ⟨rfl, ⟨nd, rfl⟩⟩))
      go_ret
      exact ⟨_, ae, Kd.R_nil _ _ _ _ _, bf HB⟩
    · rw [if_neg c2] at H
      have c2b0 : decide (t1 ≤ a1) = false := decide_eq_false c2
      clear c2
      replace H := bi_ H; obtain ⟨l1, A2, H⟩ := H
      (try dsimp only at H)
      by_cases c3 : 0 ≤ a0
      · rw [if_pos c3] at H
        by_cases c4 : a0 ≤ 1000
        · rw [if_pos c4] at H
          have H' := Aside0.mk H
          clear H
          have C3 := Aside0.mk c3
          have C4 := Aside0.mk c4
          clear c3 c4
          go_enter Try.func12, Try.ntmps12
          go_wp2_with (first | (go_at_call 8; (with_reducible refine (order_Count.calls _ _ _ _ A1.out).mono ?_); rintro e w' ⟨rfl, ⟨nd, rfl⟩⟩) | ((with_reducible refine gc 24 rfl ?_); refine gl_ (some 18) rfl rfl Try.func24 ((order_rising.calls _ _ _ _ A2.out).mono ?_) ag; rintro e w5 ⟨v5, rfl, ho0, hb⟩; refine ⟨_, rfl, ?_⟩; have HO5 := Aside0.mk (Kd.R_lower ho0 (below_size (bf HB))); replace HB := bs HB hb; (try clear hb); (try clear ho0)) | ((with_reducible refine gate_dst (N := 20) rfl ?_); refine R_made0 w.heap.size 3 rfl (N := 20) rfl 25 _ _ rfl a0 rfl rfl Try.underlying25 info3 C3.out C4.out (below_size (bf HB)) ?_; intro w6 c6 ho6 hg6))
          obtain ⟨A5, n5, e5⟩ := Kd.R_slice HO5.out
          subst e5
          have HA5 := Aside0.mk (Kd.R_lt HO5.out)
          have HN5 := Aside0.mk (R_self (show Kd.R (Kd.int .i64) 3 w6 w.heap.size (fun _ => True) (.slice A5 l1.length n5) l1 from Kd.R_mono (Kd.R_move (Kd.R_bound HO5.out) (fun k_ hk_ => hg6.block k_ hk_.2.2.1 (by simp))) (fun _ _ => trivial)))
          have HN6 := Aside0.mk (show Kd.R (Kd.int .i64) 3 w6 w.heap.size (fun k_ => some k_ ≠ Value.ownBlock (.slice A5 l1.length n5)) (.slice (some ⟨w5.heap.size, 0, none⟩) 0 c6) [] from Kd.R_mono ho6 (fun k_ hk_ he_ => by have := HA5.out k_ he_.symm; omega))
          have HB6 := Aside0.mk (show Below w.heap.size w w6 from HB.out.grown hg6 (below_size (bf HB)) (by simp))
          clear HO5 HB HA5
          go_loopg [1, 5, 6] k (fun kq v1 v5 v6 w' => ∃ (x1 : Int) (x5 x6 : List Int) (A5 : Option Addr) (c5 : Nat), v1 = .int .i64 x1 ∧ v5 = .slice A5 x5.length c5 ∧ Aside0 (order_Nth.l0 kq x1 x5 x6 = some r) ∧ Aside0 (kq ≤ k) ∧ Aside0 (Kd.R (Kd.int .i64) 3 w' w.heap.size (fun k_ => Value.ownBlock (.slice A5 x5.length c5) = some k_) (.slice A5 x5.length c5) x5) ∧ Aside0 (Kd.R (Kd.int .i64) 3 w' w.heap.size (fun k_ => some k_ ≠ Value.ownBlock (.slice A5 x5.length c5)) v6 x6) ∧ Aside0 (Below w.heap.size w w'))
          case atStart => exact ⟨a1, l1, [], A5, n5, rfl, rfl, H', ⟨Nat.le_refl _⟩, HN5, HN6, HB6⟩
          case round =>
            clear H' HN5 HN6 HB6
            obtain ⟨x1, x5, x6, A5, q5, rfl, rfl, HA, HK1, HO5, HO6, HB⟩ := hrel
            cases gk with
            | zero => exact absurd HA.out (by simp [order_Nth.l0])
            | succ k1 =>
              have H := HA.out
              clear HA
              simp only [order_Nth.l0] at H
              by_cases c5 : (x5.length : Int) > 0
              · rw [if_pos c5] at H
                have c5b0 : decide ((0 : Int) < (x5.length : Int)) = true := decide_eq_true c5
                have c5b1 : decide (0 < x5.length) = true := decide_eq_true (by omega)
                replace H := bi_ H; obtain ⟨b, A3, H⟩ := H
                (try dsimp only at H)
                by_cases c6 : 0 < b
                · rw [if_pos c6] at H
                  have c6b0 : ¬ b = 0 := by omega
                  have c6b1 : (b = 0) = False := eq_false c6b0
                  clear c6
                  obtain ⟨i, hi⟩ : ∃ i, i = wrap64 (Int.tdiv x1 b) := ⟨_, rfl⟩
                  rw [← hi] at H
                  have hi' : wrap64 (Int.tdiv x1 b) = i := hi.symm
                  have hi2 : IntKind.i64.wrap (Int.tdiv x1 b) = i := (i64_w _).trans hi'
                  clear hi
                  by_cases c7 : 0 ≤ i
                  · rw [if_pos c7] at H
                    by_cases c8 : i < (x5.length : Int)
                    · rw [if_pos c8] at H
                      by_cases c9 : x6.length < 17592186044416
                      · rw [if_pos c9] at H
                        have LM := Aside0.mk c9
                        clear c9
                        have H' := Aside0.mk H
                        clear H
                        obtain ⟨g5, co5, e5, gb5, gl5, cl5, HG5⟩ := Kd.R_form HO5.out (by omega)
                        injection e5 with ea_ en_ ec_
                        subst ea_
                        subst ec_
                        clear en_ HG5 cl5
                        have GB5 := Aside0.mk gb5
                        have GL5 := Aside0.mk gl5
                        have NE5 := Aside0.mk HO6.out.1
                        obtain ⟨hn5, hc5, hC5⟩ := Kd.R_reads' HO5.out
                        obtain ⟨ad5, e5, hx5⟩ := Kd.at_int hC5 i c7 c8
                        cases e5
                        simp only [add_plain] at hx5
                        have p7 := eq_true c7
                        have p8 := eq_true c8
                        have C5 := Aside0.mk c5
                        have C7 := Aside0.mk c7
                        have C8 := Aside0.mk c8
                        have HC5 := Aside0.mk hc5
                        obtain ⟨j, hj⟩ : ∃ j : Int, j = i + 1 := ⟨_, rfl⟩
                        have hM : (x5.length : Int) ≤ 9223372036854775807 := by have := hC5.2.1; omega
                        have hj' : wrap64 (i + 1) = j := by unfold wrap64; omega
                        have hj2 : IntKind.i64.wrap (i + 1) = j := (i64_w _).trans hj'
                        obtain ⟨m, hm⟩ : ∃ m : Int, m = (x5.length : Int) - 1 := ⟨_, rfl⟩
                        have hm' : wrap64 ((x5.length : Int) - 1) = m := by unfold wrap64; omega
                        have hm2 : IntKind.i64.wrap ((x5.length : Int) - 1) = m := (i64_w _).trans hm'
                        obtain ⟨i0, hi0, _, hsz0, _⟩ := info_parts info3
                        obtain ⟨AD, hAD, hcutD⟩ := cut_from0 (P := Try.prog) Try.underlying25 hi0 hsz0 g5 x5.length q5 i c7 (by omega) hc5
                        obtain rfl := hAD c8
                        clear hAD
                        obtain ⟨AS, hAS, hcutS⟩ := cut_from0 (P := Try.prog) Try.underlying25 hi0 hsz0 g5 x5.length q5 j (by omega) (by omega) hc5
                        have HAS := Aside0.mk hAS
                        have hcutT := cut_to0 (P := Try.prog) Try.underlying25 hi0 hsz0 g5 x5.length q5 m (by omega) (by omega) hc5
                        have HJ := Aside0.mk hj
                        have HM := Aside0.mk hm
                        rw [hm'] at A3
                        clear hAS hn5 hC5 hj hm hM hc5 gb5 gl5 c5 c7 c8
                        go_wp2_with (first | (go_at_call 8; (with_reducible refine (order_Count.calls _ _ _ _ A3.out).mono ?_); rintro e w' ⟨rfl, ⟨nd, rfl⟩⟩) | ((with_reducible refine gate_builtin (b := .append) (xs := #[.tmp 31, .tmp 36]) rfl ?_); at_builtin; refine Kd.R_append (Kd.int .i64) (w0 := w) w.heap.size rfl (.tmp 31) (.tmp 36) 25 3 (.int .i64 0) 8 rfl Try.underlying25 info3 rfl (by decide) (by omega) u6 x6 (rd x5 i) [.int .i64 (rd x5 i)] (fun k_ => some k_ ≠ Value.ownBlock (.slice (some ⟨g5, 0, none⟩) x5.length q5)) (fun _ => False) rfl rfl ?aP (fun _ hk => hk.elim) ?aF ?aO ?aB ?aS ?aL ?_; (case aP => exact rfl); (case aB => exact (bf HB)); (case aF => exact (fun k_ hk_ he_ => absurd (show wr.heap.size ≤ k_ from hk_) (by have h_ : k_ = g5 := (by simpa [Value.ownBlock] using he_); have := GL5.out; omega))); (case aO => exact (by (with_reducible repeat (first | apply Kd.R_alloc | apply Kd.R_drewN | apply Kd.R_drew)); exact HO6.out)); (case aS => exact (below_size (bf HB))); (case aL => have := LM.out; omega); intro v7 w7 ho hb hg hat))
                        have HP5 := Aside0.mk (show Kd.R (Kd.int .i64) 3 w7 w.heap.size (fun k_ => Value.ownBlock (.slice (some ⟨g5, 0, none⟩) x5.length q5) = some k_) (.slice (some ⟨g5, 0, none⟩) x5.length q5) x5 from R_self (Kd.R_mono (Kd.R_move (Kd.R_bound HO5.out) (fun k_ hk_ => hg.block k_ hk_.2.2.1 (fun he_ => NE5.out k_ he_.symm hk_.1.symm))) (fun _ hk_ => hk_.1)))
                        clear HB
                        have HB := Aside0.mk hb
                        have HO7 := Aside0.mk ho
                        obtain ⟨cells, hcells⟩ := Kd.R_typed HP5.out g5 rfl
                        obtain ⟨cur, rfl⟩ : ∃ cur : List Value, cells = cur.toArray := ⟨cells.toList, rfl⟩
                        have HCU := Aside0.mk hcells
                        have hcl : x5.length ≤ cur.length := R_cells HP5.out hcells
                        obtain ⟨cs, hcs⟩ : ∃ cs : List Value, cs = (x5.drop (i.toNat + 1)).map (Value.int .i64) := ⟨_, rfl⟩
                        have hlen : cs.length = x5.length - (i.toNat + 1) := by rw [hcs]; simp
                        have hjn : j.toNat = i.toNat + 1 := by have := HJ.out; have := C7.out; omega
                        have HN := Aside0.mk (show cs.length = Nat.min (x5.length - j.toNat) (x5.length - i.toNat) by rw [hlen, hjn]; exact (show Nat.min _ _ = _ from Nat.min_eq_left (by omega)).symm)
                        have HFIT := Aside0.mk (show i.toNat + cs.length ≤ cur.length by have := C8.out; have := C7.out; omega)
                        have HONE := Aside0.mk (show ∀ v ∈ cs, v.oneCell' = true by intro v hv; rw [hcs] at hv; obtain ⟨x, _, rfl⟩ := List.mem_map.1 hv; rfl)
                        have HPOS := Aside0.mk (show 0 < cs.length → ∃ ad, AS = some ad ∧ ∀ j v, cs[j]? = some v → w7.cell? (ad.add j) = some v by
                          intro h0
                          refine ⟨_, HAS.out (by have := HJ.out; have := C7.out; omega), fun n v hv => ?_⟩
                          have hn : n < x5.length - (i.toNat + 1) := by rw [← hlen]; exact (List.getElem?_eq_some_iff.1 hv).1
                          rw [hcs, List.getElem?_map, List.getElem?_drop, List.getElem?_eq_getElem (by omega)] at hv
                          obtain rfl := Option.some.inj hv
                          obtain ⟨ad', e', hx'⟩ := Kd.at_int (Kd.R_reads' HP5.out).2.2 ((i.toNat + 1 + n : Nat) : Int) (by omega) (by omega)
                          cases e'
                          simp only [Int.toNat_natCast, add_plain] at hx'
                          have he : Addr.add ⟨g5, j.toNat, none⟩ n = ⟨g5, i.toNat + 1 + n, none⟩ := by rw [hjn]; simp [Addr.add]
                          rw [he, hx']
                          unfold rd
                          rw [Int.toNat_natCast, List.getD_eq_getElem?_getD, List.getElem?_eq_getElem (show i.toNat + 1 + n < x5.length by omega)]
                          rfl)
                        have HSZ := Aside0.mk (show (Try.prog.info? 3).map (·.size) = some 1 by rw [hi0]; simp [hsz0])
                        clear HO5 HO6 ho hb hg hat hcells hlen hjn hcl hsz0
                        refine start_ (n := 8) (S := fun _ => True) (ds := [7]) (m_ 8 0) (by kernel_rfl) rfl rfl trivial (fun hHeld => ?_); refine with_tabW order_Nth.tab9 order_Nth.bits9 (fun HT_ HW_ => ?_)
                        replace HB := Aside0.mk (below_drew1 HB.out)
                        generalize hw7 : w7.drew = w8
                        refine pu_ 0 (some 38) (m_ 8 1) rfl rfl (ao HT_) ?_
                        refine pu_ 1 (some 39) (m_ 8 3) rfl rfl (ao HT_) ?_
                        refine pu_ 2 (some 40) (m_ 8 7) rfl rfl (ao HT_) ?_
                        refine pu_ 3 (some 41) (m_ 8 15) rfl rfl (ao HT_) ?_
                        refine pu_ 4 (some 42) (m_ 8 31) rfl rfl (ao HT_) ?_
                        refine pu_ 5 (some 43) (m_ 8 63) rfl rfl (ao HT_) ?_
                        refine pu_ 6 (some 44) (m_ 8 127) rfl rfl (ao HT_) ?_
                        subst hw7
                        refine last_ (i := 7) (N := some 45) (m_ 8 255) rfl rfl (one_of HT_.out (by kernel_rfl)) (by decide) (fun K hK => ?_)
                        refine step_copy_moved rfl (.tmp 40) (.tmp 44) 25 25 rfl 3 Try.underlying25 HSZ.out AS (x5.length - i.toNat) (q5 - i.toNat) (x5.length - j.toNat) (q5 - j.toNat) g5 i.toNat rfl rfl cur 3 HCU.out cs HN.out HPOS.out HFIT.out HONE.out w.heap.size w (bf HB) GB5.out ?_
                        intro w8 hg8 ho8 hb8
                        have hi9 : i.toNat < x5.length := by have := C8.out; have := C7.out; omega
                        rw [hcs] at hg8
                        have HQ5 := Aside0.mk (R_spliced HP5.out HCU.out hi9 hg8)
                        have HO8 := Aside0.mk (show Kd.R (Kd.int .i64) 3 w8 w.heap.size (fun k_ => some k_ ≠ Value.ownBlock (.slice (some ⟨g5, 0, none⟩) x5.length q5)) v7 (x6 ++ [rd x5 i]) from Kd.R_mono (Kd.R_move (Kd.R_bound HO7.out) (fun k_ hk_ => ho8 k_ (fun he_ => hk_.1 (by rw [he_]; rfl)))) (fun _ hk_ => hk_.1))
                        have hml : (x5.eraseIdx i.toNat).length = m.toNat := by rw [List.length_eraseIdx, if_pos hi9]; have := HM.out; omega
                        have hml2 : x5.length - 1 = m.toNat := by have := HM.out; omega
                        rw [hml2] at HQ5
                        refine hK.out _ _ ?_
                        clear hK K HB
                        have HB := Aside0.mk hb8
                        refine done_ (done_of HT_.out (by kernel_rfl)) ?_
                        clear HT_ HW_ hHeld hb8 hg8 ho8 HO7 HP5 HCU HPOS HN HFIT HONE hcs hx5 hcutS hcutD HAS
                        try go_wp2
                        repeat (go_quiet (fail); try go_wp2)
                        go_roundg k1
                        case measure => have := HK1.out; omega
                        case rel => exact ⟨(Int.tmod x1 b), x5.eraseIdx i.toNat, x6 ++ [rd x5 i], some ⟨g5, 0, none⟩, q5, (aq), by rw [hml], H', ⟨by have := HK1.out; omega⟩, ⟨by rw [hml]; (with_reducible repeat (first | apply Kd.R_alloc | apply Kd.R_drewN | apply Kd.R_drew)); exact HQ5.out⟩, ⟨by (with_reducible repeat (first | apply Kd.R_alloc | apply Kd.R_drewN | apply Kd.R_drew)); exact HO8.out⟩, ⟨bf HB⟩⟩
                      · rw [if_neg c9] at H
                        exact absurd H (by simp)
                    · rw [if_neg c8] at H
                      exact absurd H (by simp)
                  · rw [if_neg c7] at H
                    exact absurd H (by simp)
                · rw [if_neg c6] at H
                  exact absurd H (by simp)
              · rw [if_neg c5] at H
                have c5b0 : decide ((0 : Int) < (x5.length : Int)) = false := decide_eq_false c5
                have c5b1 : decide (0 < x5.length) = false := decide_eq_false (by omega)
                clear c5
                obtain rfl := Option.some.inj H
                go_wp2
                go_ret
                exact ⟨_, ae, by (with_reducible repeat (first | apply Kd.R_alloc | apply Kd.R_drewN | apply Kd.R_drew)); exact Kd.R_mono HO6.out (fun _ _ => trivial), bf HB⟩
        · rw [if_neg c4] at H
          exact absurd H (by simp)
      · rw [if_neg c3] at H
        exact absurd H (by simp)


/-! ### order_right: function 26 -/
theorem marks_cell {w : World} {g : Nat} {t : TypeId} {s : List Bool} (h : Aside0 (w.heap[g]? = some (.cells (s.map Value.bool).toArray t (0, 0)))) (i : Nat) (hi : i < s.length) : w.cell? ⟨g, i, none⟩ = some (.bool (s.getD i false)) := by
  rw [blk_cell h.out]
  simp [List.getD_eq_getElem?_getD, hi]
theorem marks_set {w : World} {g : Nat} {t : TypeId} {s : List Bool} (h : Aside0 (w.heap[g]? = some (.cells (s.map Value.bool).toArray t (0, 0)))) (i : Nat) : (w.setCell ⟨g, i, none⟩ (.bool true)).heap[g]? = some (.cells ((s.set i true).map Value.bool).toArray t (0, 0)) := by
  have := blk_set h.out i (.bool true)
  rw [this]
  simp [List.map_set]
theorem order_right.calls (k : Nat) (A0 : Option Addr) (c0 : Nat) (l0 : List Int) (r : Bool) (w : World) (hr0 : Kd.C (Kd.int .i64) w A0 l0.length l0) (hc0 : l0.length ≤ c0) (h : order_right.f k l0 = some r) :
    Calls Try.prog 26 #[.slice A0 l0.length c0] w fun e w' => e = .returned (.bool r) ∧ Below w.heap.size w w' := by
  have HR0 := Aside0.mk hr0
  have HC0 := Aside0.mk hc0
  clear hr0 hc0
  have HB := Aside0.mk (Below.refl w.heap.size w)
  have H' := Aside0.mk (show order_right.l0 k l0 [false, false, false, false, false, false, false, false] 0 = some r from h)
  clear h
  go_enter Try.func26, Try.ntmps26
  go_wp2_with (first | ((with_reducible refine gd 3 rfl ?_); refine bx_ 3 42 #[.bool false, .bool false, .bool false, .bool false, .bool false, .bool false, .bool false, .bool false] rfl rfl ?_; intro gb3 hg w4 BK3 hb; have GE3 := bz HB hg; replace HB := bs HB hb; clear hb hg))
  go_loopg [8] k (fun kq v8 w' => ∃ (s_1 : List Bool) (x8_1 : Int), v8 = .int .i64 x8_1 ∧ Aside0 (order_right.l0 kq l0 s_1 x8_1 = some r) ∧ Aside0 (kq ≤ k) ∧ Aside0 (s_1.length = 8) ∧ Aside0 (w'.heap[gb3]? = some (.cells (s_1.map Value.bool).toArray 42 (0, 0))) ∧ Aside0 (Below w.heap.size w w'))
  case atStart => exact ⟨[false, false, false, false, false, false, false, false], 0, (aq), H', ⟨Nat.le_refl _⟩, ⟨rfl⟩, ⟨bx BK3⟩, ⟨bf HB⟩⟩
  case round =>
    clear H' BK3 HB
    obtain ⟨s_1, x8_1, rfl, HA, HK1, HL, BK3, HB⟩ := hrel
    cases gk with
    | zero => exact absurd HA.out (by simp [order_right.l0])
    | succ k1 =>
      have H := HA.out
      clear HA
      simp only [order_right.l0] at H
      by_cases c3 : x8_1 < (l0.length : Int)
      · rw [if_pos c3] at H
        have c3b0 : decide (x8_1 < (l0.length : Int)) = true := decide_eq_true c3
        by_cases c4 : 0 ≤ x8_1
        · rw [if_pos c4] at H
          have HRw := Kd.C_below HR0.out HB.out
          obtain ⟨ad119, e119, hx119_0⟩ := Kd.at_int HRw x8_1 c4 c3
          cases e119
          clear HRw
          have c4b0 : decide (0 ≤ x8_1) = true := decide_eq_true c4
          have p119 := eq_true c4
          have q119 := eq_true c3
          by_cases c5 : (l0.length : Int) > 8
          · rw [if_pos c5] at H
            have c5b0 : decide ((8 : Int) < (l0.length : Int)) = true := decide_eq_true c5
            have c5b1 : decide (8 < l0.length) = true := decide_eq_true (by omega)
            clear c5
            obtain rfl := Option.some.inj H
            go_wp2
            go_ret
            exact ⟨aq, bf HB⟩
          · rw [if_neg c5] at H
            have c5b0 : decide ((8 : Int) < (l0.length : Int)) = false := decide_eq_false c5
            have c5b1 : decide (8 < l0.length) = false := decide_eq_false (by omega)
            obtain ⟨v, hv⟩ : ∃ v, v = rd l0 x8_1 := ⟨_, rfl⟩
            rw [← hv] at H hx119_0
            clear hv
            by_cases c6 : v < 0
            · rw [if_pos c6] at H
              have c6b0 : decide (v < 0) = true := decide_eq_true c6
              clear c5 c6
              obtain rfl := Option.some.inj H
              go_wp2
              go_ret
              exact ⟨aq, bf HB⟩
            · rw [if_neg c6] at H
              have c6b0 : decide (v < 0) = false := decide_eq_false c6
              by_cases c7 : v ≥ (l0.length : Int)
              · rw [if_pos c7] at H
                have c7b0 : decide ((l0.length : Int) ≤ v) = true := decide_eq_true c7
                clear c5 c6 c7
                obtain rfl := Option.some.inj H
                go_wp2
                go_ret
                exact ⟨aq, bf HB⟩
              · rw [if_neg c7] at H
                have c7b0 : decide ((l0.length : Int) ≤ v) = false := decide_eq_false c7
                have hm := marks_cell BK3 v.toNat (by rw [HL.out]; omega)
                have hz := blk_frozen BK3.out v.toNat
                have p7 : (0 ≤ v) = True := eq_true (by omega)
                have q7 : (v < 8) = True := eq_true (by omega)
                clear c5 c6 c7
                by_cases c8 : s_1.getD v.toNat false = true
                · rw [if_pos c8] at H
                  rw [c8] at hm
                  clear c8
                  obtain rfl := Option.some.inj H
                  go_wp2
                  go_ret
                  exact ⟨aq, bf HB⟩
                · rw [if_neg c8] at H
                  rw [Bool.eq_false_iff.mpr c8] at hm
                  clear c8
                  have H' := Aside0.mk H
                  clear H
                  go_wp2
                  go_roundg k1
                  case measure => have := HK1.out; omega
                  case rel => exact ⟨s_1.set v.toNat true, (wrap64 (x8_1 + 1)), (aq), H', ⟨by have := HK1.out; omega⟩, ⟨by rw [List.length_set]; exact HL.out⟩, ⟨marks_set BK3 _⟩, ⟨below_set HB.out GE3.out⟩⟩
        · rw [if_neg c4] at H
          exact absurd H (by simp)
      · rw [if_neg c3] at H
        have c3b0 : decide (x8_1 < (l0.length : Int)) = false := decide_eq_false c3
        clear c3
        obtain rfl := Option.some.inj H
        go_wp2
        go_ret
        exact ⟨aq, bf HB⟩


/-! ### slices_Clone_int_int: function 27 -/
theorem slices_Clone_int_int.calls (ad : Addr) (c0 : Nat) (l0 : List Int) (r : List Int) (w : World) (hr0 : Kd.C (Kd.int .i64) w (some ad) l0.length l0) (hc0 : l0.length ≤ c0) (h : slices_Clone_int_int.f l0 = some r) :
    Calls Try.prog 27 #[.slice (some ad) l0.length c0] w fun e w' => ∃ v0_ : Value, e = .returned (v0_) ∧ Kd.R (Kd.int .i64) 3 w' w.heap.size (fun _ => True) v0_ r ∧ Below w.heap.size w w' := by
  have HR0 := Aside0.mk hr0
  have HB := Aside0.mk (Below.refl w.heap.size w)
  clear hr0 hc0
  have H : (if l0.length < 17592186044416 then some l0 else none) = some r := h
  clear h
  by_cases c1 : l0.length < 17592186044416
  · rw [if_pos c1] at H
    obtain rfl := Option.some.inj H
    have LM := Aside0.mk c1
    clear c1 H
    have hq : ∀ W : World, (binOp .eql 25 (.slice (some ad) l0.length c0) (.slice none 0 0)).run Try.prog W = .ok (.bool false) W := fun W => by rw [Go.Lib.run_eql_slice_nil W 25 3 (some ad) l0.length c0 0 0 Try.underlying25]; rfl
    go_enter Try.func27, Try.ntmps27
    go_wp2_with (first | ((with_reducible refine gate_dst (N := 5) rfl ?_); refine Kd.R_lit (Kd.int .i64) _ 3 ?hg (N := 5) ?hd (xs := ([] : List Int)) (inner := []) (ok := fun _ => True) (okp := fun _ => True) ?hr ?hp (fun _ hk => hk) trivial (Below.refl _ _) (Nat.le_refl _) (by simp) ?_; (case hd => rfl); (case hg => rfl); (case hr => first | (go_simp; done) | (go_simp; rfl)); (case hp => exact (Reps.none _ _)); intro v5 w5 ho5 hb hg_ hnew_; clear hg_ hnew_; have HO5 := Aside0.mk (Kd.R_lower ho5 (below_size (bf HB))); replace HR0 := Aside0.mk (Kd.C_below HR0.out (below_step (bf HB) hb)); replace HB := bs HB hb; clear hb ho5) | ((with_reducible refine gate_builtin (b := .append) (xs := #[.tmp 5, .tmp 6]) rfl ?_); at_builtin; refine Kd.R_append_rows (Kd.int .i64) (w0 := w) w.heap.size rfl (.tmp 5) (.tmp 6) 25 3 (.int .i64 0) 8 rfl Try.underlying25 info3 rfl (by decide) (by omega) v5 [] l0 _ _ _ (fun _ => True) (fun _ => False) rfl rfl ?aO ?aR (fun _ _ h => h) (fun _ h => h.elim) ?aF ?aB ?aS ?aL ?_; (case aR => exact HR0.out); (case aB => exact (bf HB)); (case aF => exact (fun _ _ => trivial)); (case aO => exact (by (with_reducible repeat (first | apply Kd.R_alloc | apply Kd.R_drewN | apply Kd.R_drew)); exact HO5.out)); (case aS => exact (below_size (bf HB))); (case aL => have := LM.out; simp only [List.length_nil]; omega); intro v7 w7 ho hb hg hat; clear HB HO5; have HB := Aside0.mk hb; have HO7 := Aside0.mk ho; clear hb ho hg hat))
    go_ret
    exact ⟨_, ae, by (with_reducible repeat (first | apply Kd.R_alloc | apply Kd.R_drewN | apply Kd.R_drew)); exact HO7.out, bf HB⟩
  · rw [if_neg c1] at H
    exact absurd H (by simp)

end Go.Proofs.Ytnhnmbfhepeadaa.X
