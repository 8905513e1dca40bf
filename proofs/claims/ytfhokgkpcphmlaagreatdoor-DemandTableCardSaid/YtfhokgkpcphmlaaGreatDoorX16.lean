/- Walks: each '.calls' says that the Go function comes to what its Lean function tells. Conditions: as each theorem's head says. -/
import Derived.Test.YtfhokgkpcphmlaaGreatDoorXD
import Derived.Test.YtfhokgkpcphmlaaGreatDoorX0
import Derived.Test.YtfhokgkpcphmlaaGreatDoorX14
import Derived.Test.YtfhokgkpcphmlaaGreatDoorX15
namespace Go.Proofs.YtfhokgkpcphmlaaGreatDoor.X
open Go.RowKit Go.Proofs.YtfhokgkpcphmlaaGreatDoorW.PrintWords Go.Proofs.YtfhokgkpcphmlaaGreatDoorW.PrintLast Go.Proofs.YtfhokgkpcphmlaaGreatDoorW.PrintMore
attribute [local go_sem] max2_int min2_int max_two min_two max_three min_three max_four min_four   -- for this text's walks alone
set_option linter.unusedVariables false
set_option maxHeartbeats 8000000
set_option maxRecDepth 100000
set_option linter.unusedSimpArgs false

/-! ### carrefourref01_Order: function 72 -/
theorem carrefourref01_Order.calls (k : Nat) (A0 : Option Addr) (c0 : Nat) (l0 : List Int) (A1 : Option Addr) (c1 : Nat) (l1 : List Int) (r : Int) (w : World) (hr0 : Kd.C (Kd.int .u64) w A0 l0.length l0) (hc0 : l0.length ≤ c0) (hr1 : Kd.C (Kd.int .u64) w A1 l1.length l1) (hc1 : l1.length ≤ c1) (h : carrefourref01_Order.f k l0 l1 = some r) :
  Calls Tryz.prog 72 #[.slice A0 l0.length c0, .slice A1 l1.length c1] w fun e w' => e = .returned (.int .i64 r) ∧ Below w.heap.size w w' := by
 have HR0 := Aside0.mk hr0
 have HC0 := Aside0.mk hc0
 clear hr0 hc0
 have HR1 := Aside0.mk hr1
 have HC1 := Aside0.mk hc1
 clear hr1 hc1
 have HB := Aside0.mk (Below.refl w.heap.size w)
 have H : (carrefourref01_Order.l0 k l0 l1 (wrap64 ((mx (l0.length : Int) (l1.length : Int)) - 1))) = some r := h
 clear h
 obtain ⟨ji3, hji3⟩ : ∃ j_ : Int, (mx (l0.length : Int) (l1.length : Int)) = j_ := ⟨_, rfl⟩
 replace H : (carrefourref01_Order.l0 k l0 l1 (wrap64 ((ji3) - 1))) = some r := by first | (rw [hji3] at H; exact H) | (simp only [hji3] at H ⊢; exact H)
 (try (have hji3l : 0 ≤ ji3 := by (rw [← hji3]; unfold mx; (repeat' split) <;> omega)))
 (try (have hji3m : 0 ≤ ji3 := by omega))
 have hji3_ : (if (l0.length : Int) < (l1.length : Int) then (l1.length : Int) else (l0.length : Int)) = ji3 := hji3
 have hji3n : (if l0.length < l1.length then (l1.length : Int) else (l0.length : Int)) = ji3 := by rw [← hji3_]; split <;> split <;> omega
 have H' := Aside0.mk H
 clear H
 go_enter Tryz.func72, Tryz.ntmps72
 go_wp2
 go_loopg [6] k (fun kq v6 w' => ∃ (x6_1 : Int), v6 = .int .i64 x6_1 ∧ Aside0 (carrefourref01_Order.l0 kq l0 l1 x6_1 = some r) ∧ Aside0 (kq ≤ k) ∧ Aside0 (Below w.heap.size w w'))
 case atStart => exact ⟨(wrap64 ((ji3) - 1)), (by first | rfl | (simp; done) | (simp only [← hji3] <;> (first | rfl | simp)) | (simp [*]; done)), H', ⟨Nat.le_refl _⟩, ⟨bf HB⟩⟩
 case round =>
  clear H'
  (try clear c1); (try clear p2)
  obtain ⟨x6_1, rfl, HA, HK1, HB⟩ := hrel
  cases gk with
  | zero => exact absurd HA.out (by simp [carrefourref01_Order.l0])
  | succ k1 =>
   have H := HA.out
   clear HA
   simp only [carrefourref01_Order.l0] at H
   by_cases c4 : x6_1 ≥ 0
   ·rw [if_pos c4] at H
    have c4b0 : decide (0 ≤ x6_1) = true := decide_eq_true c4
    clear c4
    have HC5 := Aside0.mk H
    clear H
    go_upto_if 23 with (fail)
    go_cut [7] (fun v7 wc => ∃ (kq : Nat) (x7_4 : Int), v7 = .int .u64 x7_4 ∧ Aside0 (carrefourref01_Order.j1 kq l0 l1 x6_1 x7_4 0 = some r) ∧ Aside0 (kq ≤ k1) ∧ Aside0 (Below w.heap.size w wc))
    case first =>
     have H := HC5.out
     clear HC5
     by_cases c6 : x6_1 < (l0.length : Int)
     ·rw [if_pos c6] at H
      have c6b0 : decide (x6_1 < (l0.length : Int)) = true := decide_eq_true c6
      clear c6
      (first | rw [c6b0] | (simp only [i64_w, i32_w]; rw [c6b0]) | skip)
      by_cases c7 : 0 ≤ x6_1
      ·rw [if_pos c7] at H
       have c7b0 : decide (0 ≤ x6_1) = true := decide_eq_true c7
       clear c7
       have H' := Aside0.mk H
       clear H
       have p427 : 0 ≤ (x6_1 : Int) := od_
       have q427 : x6_1 < (l0.length : Int) := od_
       obtain ⟨ad427, e427, hx427_0⟩ := Kd.at_int HR0.out x6_1 p427 q427
       cases e427
       replace hx427_0 := hx_ HB hx427_0
       replace p427 := eq_true p427
       replace q427 := eq_true q427
       go_wp2
       go_meet
       case rel => exact ⟨_, (rd l0 x6_1), (aq), H', ⟨by have := HK1.out; first | omega | exact Nat.le_refl _⟩, ⟨bf HB⟩⟩
      ·rw [if_neg c7] at H
       exact absurd H (by simp)
     ·rw [if_neg c6] at H
      have c6b0 : decide (x6_1 < (l0.length : Int)) = false := decide_eq_false c6
      clear c6
      (first | rw [c6b0] | (simp only [i64_w, i32_w]; rw [c6b0]) | skip)
      have H' := Aside0.mk H
      clear H
      go_wp2
      go_meet
      case rel => exact ⟨_, (0), (aq), H', ⟨by have := HK1.out; first | omega | exact Nat.le_refl _⟩, ⟨bf HB⟩⟩
    case rest =>
     clear HC5
     (try clear c1); (try clear p2); (try clear c4); (try clear c4b0); (try clear p4); (try clear q4); (try clear hx4); (try clear c6); (try clear c6b0); (try clear p6); (try clear c7); (try clear c7b0); (try clear hx427_0); (try clear p2); (try clear p427); (try clear q427)
     obtain ⟨kq, x7_4, rfl, HA, HJ4, HB⟩ := hcut
     cases kq with
     | zero => exact absurd HA.out (by simp [carrefourref01_Order.j1])
     | succ kj4 =>
      have H := HA.out
      clear HA
      simp only [carrefourref01_Order.j1] at H
      have HC8 := Aside0.mk H
      clear H
      go_upto_if 31 with (fail)
      go_cut [8] (fun v8 wc => ∃ (kq : Nat) (x8_7 : Int), v8 = .int .u64 x8_7 ∧ Aside0 (carrefourref01_Order.j2 kq l0 l1 x6_1 x7_4 x8_7 = some r) ∧ Aside0 (kq ≤ kj4) ∧ Aside0 (Below w.heap.size w wc))
      case first =>
       have H := HC8.out
       clear HC8
       by_cases c9 : x6_1 < (l1.length : Int)
       ·rw [if_pos c9] at H
        have c9b0 : decide (x6_1 < (l1.length : Int)) = true := decide_eq_true c9
        clear c9
        (first | rw [c9b0] | (simp only [i64_w, i32_w]; rw [c9b0]) | skip)
        by_cases c10 : 0 ≤ x6_1
        ·rw [if_pos c10] at H
         have c10b0 : decide (0 ≤ x6_1) = true := decide_eq_true c10
         clear c10
         have H' := Aside0.mk H
         clear H
         have p428 : 0 ≤ (x6_1 : Int) := od_
         have q428 : x6_1 < (l1.length : Int) := od_
         obtain ⟨ad428, e428, hx428_0⟩ := Kd.at_int HR1.out x6_1 p428 q428
         cases e428
         replace hx428_0 := hx_ HB hx428_0
         replace p428 := eq_true p428
         replace q428 := eq_true q428
         go_wp2
         go_meet
         case rel => exact ⟨_, (rd l1 x6_1), (aq), H', ⟨by have := HK1.out; have := HJ4.out; first | omega | exact Nat.le_refl _⟩, ⟨bf HB⟩⟩
        ·rw [if_neg c10] at H
         exact absurd H (by simp)
       ·rw [if_neg c9] at H
        have c9b0 : decide (x6_1 < (l1.length : Int)) = false := decide_eq_false c9
        clear c9
        (first | rw [c9b0] | (simp only [i64_w, i32_w]; rw [c9b0]) | skip)
        have H' := Aside0.mk H
        clear H
        go_wp2
        go_meet
        case rel => exact ⟨_, (0), (aq), H', ⟨by have := HK1.out; have := HJ4.out; first | omega | exact Nat.le_refl _⟩, ⟨bf HB⟩⟩
      case rest =>
       clear HC8
       (try clear c1); (try clear p2); (try clear c4); (try clear c4b0); (try clear p4); (try clear q4); (try clear hx4); (try clear c6); (try clear c6b0); (try clear p6); (try clear c7); (try clear c7b0); (try clear c9); (try clear c9b0); (try clear c10); (try clear c10b0); (try clear hx427_0); (try clear hx428_0); (try clear p2); (try clear p4); (try clear p427); (try clear p428); (try clear p6); (try clear q4); (try clear q427); (try clear q428)
       obtain ⟨kq, x8_7, rfl, HA, HJ7, HB⟩ := hcut
       cases kq with
       | zero => exact absurd HA.out (by simp [carrefourref01_Order.j2])
       | succ kj7 =>
        have H := HA.out
        clear HA
        simp only [carrefourref01_Order.j2] at H
        by_cases c11 : x7_4 < x8_7
        ·rw [if_pos c11] at H
         have c11b0 : decide (x7_4 < x8_7) = true := decide_eq_true c11
         clear c11
         obtain rfl := Option.some.inj H
         go_wp2
         go_ret
         exact ⟨by first | rfl | (simp [errW_none, errW_some] <;> rfl) | (simp only [← hji3]; first | rfl | (simp [errW_none, errW_some] <;> rfl)) | (simp [*, errW_none, errW_some] <;> rfl), bf HB⟩
        ·rw [if_neg c11] at H
         have c11b0 : decide (x7_4 < x8_7) = false := decide_eq_false c11
         clear c11
         by_cases c12 : x7_4 > x8_7
         ·rw [if_pos c12] at H
          have c12b0 : decide (x8_7 < x7_4) = true := decide_eq_true c12
          clear c12
          obtain rfl := Option.some.inj H
          go_wp2
          go_ret
          exact ⟨by first | rfl | (simp [errW_none, errW_some] <;> rfl) | (simp only [← hji3]; first | rfl | (simp [errW_none, errW_some] <;> rfl)) | (simp [*, errW_none, errW_some] <;> rfl), bf HB⟩
         ·rw [if_neg c12] at H
          have c12b0 : decide (x8_7 < x7_4) = false := decide_eq_false c12
          clear c12
          have H' := Aside0.mk H
          clear H
          go_wp2
          go_roundg kj7
          case measure => have := HK1.out; have := HJ4.out; have := HJ7.out; omega
          case rel => exact ⟨(wrap64 (x6_1 - 1)), (aq), H', ⟨by have := HK1.out; have := HJ4.out; have := HJ7.out; omega⟩, ⟨bf HB⟩⟩
   ·rw [if_neg c4] at H
    have c4b0 : decide (0 ≤ x6_1) = false := decide_eq_false c4
    clear c4
    obtain rfl := Option.some.inj H
    go_wp2
    go_ret
    exact ⟨by first | rfl | (simp [errW_none, errW_some] <;> rfl) | (simp only [← hji3]; first | rfl | (simp [errW_none, errW_some] <;> rfl)) | (simp [*, errW_none, errW_some] <;> rfl), bf HB⟩

/-! ### carrefourref02_twice: function 94 -/
theorem carrefourref02_twice.calls (k : Nat) (A0 : Option Addr) (c0 : Nat) (l0 : List Int) (r : List Int) (w : World) (hr0 : Kd.C (Kd.int .u64) w A0 l0.length l0) (hc0 : l0.length ≤ c0) (h : carrefourref02_twice.f k l0 = some r) :
  Calls Tryz.prog 94 #[.slice A0 l0.length c0] w fun e w' => ∃ v0_ : Value, e = .returned (v0_) ∧ Kd.R (Kd.int .u64) 74 w' w.heap.size (fun _ => True) v0_ r ∧ Below w.heap.size w w' := by
 have HR0 := Aside0.mk hr0
 have HC0 := Aside0.mk hc0
 clear hr0 hc0
 have HB := Aside0.mk (Below.refl w.heap.size w)
 have H : ((carrefourref01_Plus.f k l0 l0).bind fun t429 => (some t429)) = some r := h
 clear h
 replace H := bi_ H; obtain ⟨t429, A2, H⟩ := H
 (try dsimp only at H)
 obtain rfl := Option.some.inj H
 go_enter Tryz.func94, Tryz.ntmps94
 go_wp2_with (first | ((with_reducible refine gc 71 rfl ?_); refine gl_ (some 5) rfl rfl Tryz.func71 ((carrefourref01_Plus.calls _ _ _ _ _ _ _ _ _ ?side1 ?side2 ?side3 ?side4 A2.out).mono ?_) ag; (case side1 => repeat (first | exact HR0.out | (with_reducible refine Kd.C_alloc ?_ _) | (with_reducible refine Kd.C_drewN ?_ _) | (with_reducible refine Kd.C_drew ?_))); (case side2 => exact HC0.out); (case side3 => repeat (first | exact HR0.out | (with_reducible refine Kd.C_alloc ?_ _) | (with_reducible refine Kd.C_drewN ?_ _) | (with_reducible refine Kd.C_drew ?_))); (case side4 => exact HC0.out); rintro e w3 ⟨v430, rfl, ho0, hb⟩; refine ⟨_, rfl, ?_⟩; have HO431 := Aside0.mk (Kd.R_lower ho0 (below_size (bf HB))); replace HB := bs HB hb; (try clear hb); (try clear ho0)))
 go_ret
 exact ⟨_, ae, by (with_reducible repeat (first | apply Kd.R_alloc | apply Kd.R_drewN | apply Kd.R_drew)); exact HO431.out, bf HB⟩

/-! ### carrefourref01_Minus: function 95 -/
theorem carrefourref01_Minus.calls (k : Nat) (A0 : Option Addr) (c0 : Nat) (l0 : List Int) (A1 : Option Addr) (c1 : Nat) (l1 : List Int) (r : List Int) (w : World) (hr0 : Kd.C (Kd.int .u64) w A0 l0.length l0) (hc0 : l0.length ≤ c0) (hr1 : Kd.C (Kd.int .u64) w A1 l1.length l1) (hc1 : l1.length ≤ c1) (h : carrefourref01_Minus.f k l0 l1 = some r) :
  Calls Tryz.prog 95 #[.slice A0 l0.length c0, .slice A1 l1.length c1] w fun e w' => ∃ v0_ : Value, e = .returned (v0_) ∧ Kd.R (Kd.int .u64) 74 w' w.heap.size (fun _ => True) v0_ r ∧ Below w.heap.size w w' := by
 have HR0 := Aside0.mk hr0
 have HC0 := Aside0.mk hc0
 clear hr0 hc0
 have HR1 := Aside0.mk hr1
 have HC1 := Aside0.mk hc1
 clear hr1 hc1
 have HB := Aside0.mk (Below.refl w.heap.size w)
 have H : (carrefourref01_Minus.l0 k l0 l1 ([] : List Int) 0 0) = some r := h
 clear h
 have H' := Aside0.mk H
 clear H
 go_enter Tryz.func95, Tryz.ntmps95
 go_wp2
 go_loopg [5, 6, 7] k (fun kq v5 v6 v7 w' => ∃ (x5_1 : List Int) (x6_1 : Int) (x7_1 : Int), v6 = .int .u64 x6_1 ∧ v7 = .int .i64 x7_1 ∧ Aside0 (carrefourref01_Minus.l0 kq l0 l1 x5_1 x6_1 x7_1 = some r) ∧ Aside0 (kq ≤ k) ∧ Aside0 (Kd.R (Kd.int .u64) 74 w' w.heap.size (fun _ => True) v5 x5_1) ∧ Aside0 (Below w.heap.size w w'))
 case atStart => exact ⟨(([] : List Int)), (0), (0), (aq), (aq), H', ⟨Nat.le_refl _⟩, ⟨by first | exact Kd.R_nil _ _ _ _ _ | exact Kd.N_nil _ _ _ _ _ | exact Kd.V_nil _ _ _ _ _ | exact Kd.Q_nil _ _ _ _ _ | exact Kd.S_nil _ _ _ _ _⟩, ⟨bf HB⟩⟩
 case round =>
  clear H'
  (try clear c1); (try clear p2)
  obtain ⟨x5_1, x6_1, x7_1, rfl, rfl, HA, HK1, HO_5, HB⟩ := hrel
  cases gk with
  | zero => exact absurd HA.out (by simp [carrefourref01_Minus.l0])
  | succ k1 =>
   have H := HA.out
   clear HA
   simp only [carrefourref01_Minus.l0] at H
   by_cases c3 : x7_1 < (l0.length : Int)
   ·rw [if_pos c3] at H
    have c3b0 : decide (x7_1 < (l0.length : Int)) = true := decide_eq_true c3
    clear c3
    by_cases c4 : x7_1 < (l1.length : Int)
    ·rw [if_pos c4] at H
     have c4b0 : decide (x7_1 < (l1.length : Int)) = true := decide_eq_true c4
     clear c4
     by_cases c5 : 0 ≤ x7_1
     ·rw [if_pos c5] at H
      have c5b0 : decide (0 ≤ x7_1) = true := decide_eq_true c5
      clear c5
      by_cases c6 : (rd l0 x7_1) ≥ (IntKind.u64.wrap (x6_1 + (rd l1 x7_1)))
      ·rw [if_pos c6] at H
       have c6b0 : decide ((IntKind.u64.wrap (x6_1 + (rd l1 x7_1))) ≤ (rd l0 x7_1)) = true := decide_eq_true c6
       clear c6
       by_cases c7 : x5_1.length < 17592186044416
       ·rw [if_pos c7] at H
        have LMc7 := Aside0.mk c7
        clear c7
        obtain ⟨y435, hy435⟩ : ∃ y_ : List Int, y_ = (x5_1 ++ [IntKind.u64.wrap ((rd l0 x7_1) - (IntKind.u64.wrap (x6_1 + (rd l1 x7_1))))]) := ⟨_, rfl⟩
        replace H : (carrefourref01_Minus.l0 k1 l0 l1 y435 0 (wrap64 (x7_1 + 1))) = some r := by first | (rw [hy435]; with_reducible exact H) | (have H2_ := (Option.bind_some _ _).symm.trans H; rw [hy435]; with_reducible exact H2_) | (have H2_ := (Option.bind_some _ _).symm.trans H; with_reducible exact H2_) | with_reducible exact H | (rw [hy435]; exact H) | exact H
        have Ny435 := Aside0.mk hy435
        clear hy435
        have H' := Aside0.mk H
        clear H
        have p432 : 0 ≤ (x7_1 : Int) := od_
        have q432 : x7_1 < (l1.length : Int) := od_
        obtain ⟨ad432, e432, hx432_0⟩ := Kd.at_int HR1.out x7_1 p432 q432
        cases e432
        replace hx432_0 := hx_ HB hx432_0
        replace p432 := eq_true p432
        replace q432 := eq_true q432
        have p433 : 0 ≤ (x7_1 : Int) := od_
        have q433 : x7_1 < (l0.length : Int) := od_
        obtain ⟨ad433, e433, hx433_0⟩ := Kd.at_int HR0.out x7_1 p433 q433
        cases e433
        replace hx433_0 := hx_ HB hx433_0
        replace p433 := eq_true p433
        replace q433 := eq_true q433
        have p434 : 0 ≤ (x7_1 : Int) := od_
        have q434 : x7_1 < (l0.length : Int) := od_
        obtain ⟨ad434, e434, hx434_0⟩ := Kd.at_int HR0.out x7_1 p434 q434
        obtain rfl : ad433 = ad434 := (by injection e434)
        replace hx434_0 := hx_ HB hx434_0
        replace p434 := eq_true p434
        replace q434 := eq_true q434
        go_wp2_with (first | ((with_reducible refine gate_builtin (b := .append) (xs := #[.tmp 32, .tmp 39]) rfl ?_); at_builtin; refine Kd.R_append (Kd.int .u64) (w0 := w) w.heap.size rfl (.tmp 32) (.tmp 39) 94 74 (.int .u64 0) 8 rfl Tryz.underlying94 info74 rfl (by decide) (by omega) u5 x5_1 (IntKind.u64.wrap ((rd l0 x7_1) - (IntKind.u64.wrap (x6_1 + (rd l1 x7_1))))) [.int .u64 (IntKind.u64.wrap ((rd l0 x7_1) - (IntKind.u64.wrap (x6_1 + (rd l1 x7_1)))))] (fun _ => True) (fun _ => False) rfl rfl ?aP (fun _ hk => hk.elim) ?aF ?aO ?aB ?aS ?aL ?_; (case aP => exact rfl); (case aB => exact (bf HB)); (case aF => exact (fun _ _ => trivial)); (case aO => exact (Rt_ HO_5.out)); (case aS => exact (below_size (bf HB))); (case aL => have := LMc7.out; omega); intro v436 w8 ho hb hg hat; rw [← Ny435.out] at ho; have n0_ := Aside0.mk (hb); have n1_ := Aside0.mk (ho); clear HB; clear HO_5; have HB := n0_; have HO437 := n1_; clear n0_ n1_; clear ho hb hg hat))
        go_roundg k1
        case measure => have := HK1.out; omega
        case rel => exact ⟨(y435), (0), (wrap64 (x7_1 + 1)), (aq), (aq), H', ⟨by have := HK1.out; omega⟩, ⟨Rt_ HO437.out⟩, ⟨bf HB⟩⟩
       ·rw [if_neg c7] at H
        exact absurd H (by simp)
      ·rw [if_neg c6] at H
       have c6b0 : decide ((IntKind.u64.wrap (x6_1 + (rd l1 x7_1))) ≤ (rd l0 x7_1)) = false := decide_eq_false c6
       clear c6
       by_cases c9 : x5_1.length < 17592186044416
       ·rw [if_pos c9] at H
        have LMc9 := Aside0.mk c9
        clear c9
        obtain ⟨y439, hy439⟩ : ∃ y_ : List Int, y_ = (x5_1 ++ [IntKind.u64.wrap ((IntKind.u64.wrap ((rd l0 x7_1) + 65536)) - (IntKind.u64.wrap (x6_1 + (rd l1 x7_1))))]) := ⟨_, rfl⟩
        replace H : (carrefourref01_Minus.l0 k1 l0 l1 y439 1 (wrap64 (x7_1 + 1))) = some r := by first | (rw [hy439]; with_reducible exact H) | (have H2_ := (Option.bind_some _ _).symm.trans H; rw [hy439]; with_reducible exact H2_) | (have H2_ := (Option.bind_some _ _).symm.trans H; with_reducible exact H2_) | with_reducible exact H | (rw [hy439]; exact H) | exact H
        have Ny439 := Aside0.mk hy439
        clear hy439
        have H' := Aside0.mk H
        clear H
        have p432 : 0 ≤ (x7_1 : Int) := od_
        have q432 : x7_1 < (l1.length : Int) := od_
        obtain ⟨ad432, e432, hx432_0⟩ := Kd.at_int HR1.out x7_1 p432 q432
        cases e432
        replace hx432_0 := hx_ HB hx432_0
        replace p432 := eq_true p432
        replace q432 := eq_true q432
        have p433 : 0 ≤ (x7_1 : Int) := od_
        have q433 : x7_1 < (l0.length : Int) := od_
        obtain ⟨ad433, e433, hx433_0⟩ := Kd.at_int HR0.out x7_1 p433 q433
        cases e433
        replace hx433_0 := hx_ HB hx433_0
        replace p433 := eq_true p433
        replace q433 := eq_true q433
        have p438 : 0 ≤ (x7_1 : Int) := od_
        have q438 : x7_1 < (l0.length : Int) := od_
        obtain ⟨ad438, e438, hx438_0⟩ := Kd.at_int HR0.out x7_1 p438 q438
        obtain rfl : ad433 = ad438 := (by injection e438)
        replace hx438_0 := hx_ HB hx438_0
        replace p438 := eq_true p438
        replace q438 := eq_true q438
        go_wp2_with (first | ((with_reducible refine gate_builtin (b := .append) (xs := #[.tmp 41, .tmp 49]) rfl ?_); at_builtin; refine Kd.R_append (Kd.int .u64) (w0 := w) w.heap.size rfl (.tmp 41) (.tmp 49) 94 74 (.int .u64 0) 8 rfl Tryz.underlying94 info74 rfl (by decide) (by omega) u5 x5_1 (IntKind.u64.wrap ((IntKind.u64.wrap ((rd l0 x7_1) + 65536)) - (IntKind.u64.wrap (x6_1 + (rd l1 x7_1))))) [.int .u64 (IntKind.u64.wrap ((IntKind.u64.wrap ((rd l0 x7_1) + 65536)) - (IntKind.u64.wrap (x6_1 + (rd l1 x7_1)))))] (fun _ => True) (fun _ => False) rfl rfl ?aP (fun _ hk => hk.elim) ?aF ?aO ?aB ?aS ?aL ?_; (case aP => exact rfl); (case aB => exact (bf HB)); (case aF => exact (fun _ _ => trivial)); (case aO => exact (Rt_ HO_5.out)); (case aS => exact (below_size (bf HB))); (case aL => have := LMc9.out; omega); intro v440 w10 ho hb hg hat; rw [← Ny439.out] at ho; have n0_ := Aside0.mk (hb); have n1_ := Aside0.mk (ho); clear HB; clear HO_5; have HB := n0_; have HO441 := n1_; clear n0_ n1_; clear ho hb hg hat))
        go_roundg k1
        case measure => have := HK1.out; omega
        case rel => exact ⟨(y439), (1), (wrap64 (x7_1 + 1)), (aq), (aq), H', ⟨by have := HK1.out; omega⟩, ⟨Rt_ HO441.out⟩, ⟨bf HB⟩⟩
       ·rw [if_neg c9] at H
        exact absurd H (by simp)
     ·rw [if_neg c5] at H
      exact absurd H (by simp)
    ·rw [if_neg c4] at H
     have c4b0 : decide (x7_1 < (l1.length : Int)) = false := decide_eq_false c4
     clear c4
     by_cases c11 : 0 ≤ x7_1
     ·rw [if_pos c11] at H
      have c11b0 : decide (0 ≤ x7_1) = true := decide_eq_true c11
      clear c11
      by_cases c12 : (rd l0 x7_1) ≥ x6_1
      ·rw [if_pos c12] at H
       have c12b0 : decide (x6_1 ≤ (rd l0 x7_1)) = true := decide_eq_true c12
       clear c12
       by_cases c13 : x5_1.length < 17592186044416
       ·rw [if_pos c13] at H
        have LMc13 := Aside0.mk c13
        clear c13
        obtain ⟨y444, hy444⟩ : ∃ y_ : List Int, y_ = (x5_1 ++ [IntKind.u64.wrap ((rd l0 x7_1) - x6_1)]) := ⟨_, rfl⟩
        replace H : (carrefourref01_Minus.l0 k1 l0 l1 y444 0 (wrap64 (x7_1 + 1))) = some r := by first | (rw [hy444]; with_reducible exact H) | (have H2_ := (Option.bind_some _ _).symm.trans H; rw [hy444]; with_reducible exact H2_) | (have H2_ := (Option.bind_some _ _).symm.trans H; with_reducible exact H2_) | with_reducible exact H | (rw [hy444]; exact H) | exact H
        have Ny444 := Aside0.mk hy444
        clear hy444
        have H' := Aside0.mk H
        clear H
        have p442 : 0 ≤ (x7_1 : Int) := od_
        have q442 : x7_1 < (l0.length : Int) := od_
        obtain ⟨ad442, e442, hx442_0⟩ := Kd.at_int HR0.out x7_1 p442 q442
        cases e442
        replace hx442_0 := hx_ HB hx442_0
        replace p442 := eq_true p442
        replace q442 := eq_true q442
        have p443 : 0 ≤ (x7_1 : Int) := od_
        have q443 : x7_1 < (l0.length : Int) := od_
        obtain ⟨ad443, e443, hx443_0⟩ := Kd.at_int HR0.out x7_1 p443 q443
        obtain rfl : ad442 = ad443 := (by injection e443)
        replace hx443_0 := hx_ HB hx443_0
        replace p443 := eq_true p443
        replace q443 := eq_true q443
        go_wp2_with (first | ((with_reducible refine gate_builtin (b := .append) (xs := #[.tmp 32, .tmp 39]) rfl ?_); at_builtin; refine Kd.R_append (Kd.int .u64) (w0 := w) w.heap.size rfl (.tmp 32) (.tmp 39) 94 74 (.int .u64 0) 8 rfl Tryz.underlying94 info74 rfl (by decide) (by omega) u5 x5_1 (IntKind.u64.wrap ((rd l0 x7_1) - x6_1)) [.int .u64 (IntKind.u64.wrap ((rd l0 x7_1) - x6_1))] (fun _ => True) (fun _ => False) rfl rfl ?aP (fun _ hk => hk.elim) ?aF ?aO ?aB ?aS ?aL ?_; (case aP => exact rfl); (case aB => exact (bf HB)); (case aF => exact (fun _ _ => trivial)); (case aO => exact (Rt_ HO_5.out)); (case aS => exact (below_size (bf HB))); (case aL => have := LMc13.out; omega); intro v445 w14 ho hb hg hat; rw [← Ny444.out] at ho; have n0_ := Aside0.mk (hb); have n1_ := Aside0.mk (ho); clear HB; clear HO_5; have HB := n0_; have HO446 := n1_; clear n0_ n1_; clear ho hb hg hat))
        go_roundg k1
        case measure => have := HK1.out; omega
        case rel => exact ⟨(y444), (0), (wrap64 (x7_1 + 1)), (aq), (aq), H', ⟨by have := HK1.out; omega⟩, ⟨Rt_ HO446.out⟩, ⟨bf HB⟩⟩
       ·rw [if_neg c13] at H
        exact absurd H (by simp)
      ·rw [if_neg c12] at H
       have c12b0 : decide (x6_1 ≤ (rd l0 x7_1)) = false := decide_eq_false c12
       clear c12
       by_cases c15 : x5_1.length < 17592186044416
       ·rw [if_pos c15] at H
        have LMc15 := Aside0.mk c15
        clear c15
        obtain ⟨y448, hy448⟩ : ∃ y_ : List Int, y_ = (x5_1 ++ [IntKind.u64.wrap ((IntKind.u64.wrap ((rd l0 x7_1) + 65536)) - x6_1)]) := ⟨_, rfl⟩
        replace H : (carrefourref01_Minus.l0 k1 l0 l1 y448 1 (wrap64 (x7_1 + 1))) = some r := by first | (rw [hy448]; with_reducible exact H) | (have H2_ := (Option.bind_some _ _).symm.trans H; rw [hy448]; with_reducible exact H2_) | (have H2_ := (Option.bind_some _ _).symm.trans H; with_reducible exact H2_) | with_reducible exact H | (rw [hy448]; exact H) | exact H
        have Ny448 := Aside0.mk hy448
        clear hy448
        have H' := Aside0.mk H
        clear H
        have p442 : 0 ≤ (x7_1 : Int) := od_
        have q442 : x7_1 < (l0.length : Int) := od_
        obtain ⟨ad442, e442, hx442_0⟩ := Kd.at_int HR0.out x7_1 p442 q442
        cases e442
        replace hx442_0 := hx_ HB hx442_0
        replace p442 := eq_true p442
        replace q442 := eq_true q442
        have p447 : 0 ≤ (x7_1 : Int) := od_
        have q447 : x7_1 < (l0.length : Int) := od_
        obtain ⟨ad447, e447, hx447_0⟩ := Kd.at_int HR0.out x7_1 p447 q447
        obtain rfl : ad442 = ad447 := (by injection e447)
        replace hx447_0 := hx_ HB hx447_0
        replace p447 := eq_true p447
        replace q447 := eq_true q447
        go_wp2_with (first | ((with_reducible refine gate_builtin (b := .append) (xs := #[.tmp 41, .tmp 49]) rfl ?_); at_builtin; refine Kd.R_append (Kd.int .u64) (w0 := w) w.heap.size rfl (.tmp 41) (.tmp 49) 94 74 (.int .u64 0) 8 rfl Tryz.underlying94 info74 rfl (by decide) (by omega) u5 x5_1 (IntKind.u64.wrap ((IntKind.u64.wrap ((rd l0 x7_1) + 65536)) - x6_1)) [.int .u64 (IntKind.u64.wrap ((IntKind.u64.wrap ((rd l0 x7_1) + 65536)) - x6_1))] (fun _ => True) (fun _ => False) rfl rfl ?aP (fun _ hk => hk.elim) ?aF ?aO ?aB ?aS ?aL ?_; (case aP => exact rfl); (case aB => exact (bf HB)); (case aF => exact (fun _ _ => trivial)); (case aO => exact (Rt_ HO_5.out)); (case aS => exact (below_size (bf HB))); (case aL => have := LMc15.out; omega); intro v449 w16 ho hb hg hat; rw [← Ny448.out] at ho; have n0_ := Aside0.mk (hb); have n1_ := Aside0.mk (ho); clear HB; clear HO_5; have HB := n0_; have HO450 := n1_; clear n0_ n1_; clear ho hb hg hat))
        go_roundg k1
        case measure => have := HK1.out; omega
        case rel => exact ⟨(y448), (1), (wrap64 (x7_1 + 1)), (aq), (aq), H', ⟨by have := HK1.out; omega⟩, ⟨Rt_ HO450.out⟩, ⟨bf HB⟩⟩
       ·rw [if_neg c15] at H
        exact absurd H (by simp)
     ·rw [if_neg c11] at H
      exact absurd H (by simp)
   ·rw [if_neg c3] at H
    have c3b0 : decide (x7_1 < (l0.length : Int)) = false := decide_eq_false c3
    clear c3
    obtain rfl := Option.some.inj H
    go_wp2
    go_ret
    exact ⟨_, ae, by (with_reducible repeat (first | apply Kd.R_alloc | apply Kd.R_drewN | apply Kd.R_drew)); exact HO_5.out, bf HB⟩

/-! ### carrefourref02_rest: function 73 -/
theorem carrefourref02_rest.calls (k : Nat) (P0_ : Nat → Prop) (A0 : Option Addr) (c0 : Nat) (l0 : List Int) (P1_ : Nat → Prop) (A1 : Option Addr) (c1 : Nat) (l1 : List Int) (r : List Int) (w : World) (hs0 : Kd.V (Kd.int .u64) 74 w w.heap.size (fun k_ => P0_ k_) (.slice A0 l0.length c0) l0) (hs1 : Kd.V (Kd.int .u64) 74 w w.heap.size (fun k_ => P1_ k_) (.slice A1 l1.length c1) l1) (h : carrefourref02_rest.f k l0 l1 = some r) :
  Calls Tryz.prog 73 #[.slice A0 l0.length c0, .slice A1 l1.length c1] w fun e w' => ∃ v0_ : Value, e = .returned (v0_) ∧ Kd.V (Kd.int .u64) 74 w' w.heap.size (fun k_ => ((P0_ k_ ∨ P1_ k_) ∨ w.heap.size ≤ k_)) v0_ r ∧ Below w.heap.size w w' := by
 have HO0 := Aside0.mk (show Kd.V (Kd.int .u64) 74 w w.heap.size (fun k_ => ((P0_ k_ ∨ P1_ k_) ∨ w.heap.size ≤ k_)) (.slice A0 l0.length c0) l0 from Kd.V_mono hs0 (fun k_ hk => .inl (.inl hk)))
 have HO1 := Aside0.mk (show Kd.V (Kd.int .u64) 74 w w.heap.size (fun k_ => ((P0_ k_ ∨ P1_ k_) ∨ w.heap.size ≤ k_)) (.slice A1 l1.length c1) l1 from Kd.V_mono hs1 (fun k_ hk => .inl (.inr hk)))
 have HB := Aside0.mk (Below.refl w.heap.size w)
 have H : (carrefourref02_rest.l0 k l0 ([] : List (List Int)) l1) = some r := h
 clear h
 have H' := Aside0.mk H
 clear H
 go_enter Tryz.func73, Tryz.ntmps73
 go_wp2
 go_loopg [5, 6] k (fun kq v5 v6 w' => ∃ (x5_1 : List (List Int)) (x6_1 : List Int), Aside0 (carrefourref02_rest.l0 kq l0 x5_1 x6_1 = some r) ∧ Aside0 (kq ≤ k) ∧ Aside0 (Kd.V (Kd.int .u64) 74 w' w.heap.size (fun k_ => ((P0_ k_ ∨ P1_ k_) ∨ w.heap.size ≤ k_) ∧ some k_ ≠ (v5 : Value).ownBlock) (.slice A0 l0.length c0) l0) ∧ Aside0 (Kd.N (Kd.slice 74 (Kd.int .u64)) 94 w' w.heap.size (fun k_ => ((P0_ k_ ∨ P1_ k_) ∨ w.heap.size ≤ k_)) v5 x5_1) ∧ Aside0 (Kd.V (Kd.int .u64) 74 w' w.heap.size (fun k_ => ((P0_ k_ ∨ P1_ k_) ∨ w.heap.size ≤ k_) ∧ some k_ ≠ (v5 : Value).ownBlock) v6 x6_1) ∧ Aside0 (Below w.heap.size w w'))
 case atStart => exact ⟨(([] : List (List Int))), (l1), H', ⟨Nat.le_refl _⟩, ⟨Vt_ (Kd.V_mono HO0.out (fun _ hk => ⟨hk, (by simp [Value.ownBlock])⟩))⟩, ⟨by first | exact Kd.S_nil _ _ _ _ _ | exact Kd.N_nil _ _ _ _ _ | exact Kd.V_nil _ _ _ _ _ | exact Kd.Q_nil _ _ _ _ _ | exact Kd.R_nil _ _ _ _ _⟩, ⟨Vt_ (Kd.V_mono HO1.out (fun _ hk => ⟨hk, (by simp [Value.ownBlock])⟩))⟩, ⟨bf HB⟩⟩
 case round =>
  clear H'
  (try clear c1); (try clear p2)
  obtain ⟨x5_1, x6_1, HA, HK1, HO_0, HO_5, HO_6, HB⟩ := hrel
  cases gk with
  | zero => exact absurd HA.out (by simp [carrefourref02_rest.l0])
  | succ k1 =>
   have H := HA.out
   clear HA
   simp only [carrefourref02_rest.l0] at H
   replace H := bi_ H; obtain ⟨t451, A3, H⟩ := H
   (try dsimp only at H)
   by_cases c4 : t451 ≤ 0
   ·rw [if_pos c4] at H
    have c4b0 : decide (t451 ≤ 0) = true := decide_eq_true c4
    clear c4
    by_cases c5 : x5_1.length < 5864062014805
    ·rw [if_pos c5] at H
     have LMc5 := Aside0.mk c5
     clear c5
     obtain ⟨y452, hy452⟩ : ∃ y_ : List (List Int), y_ = (x5_1 ++ [x6_1]) := ⟨_, rfl⟩
     replace H : ((carrefourref02_twice.f k1 x6_1).bind fun t455 => (carrefourref02_rest.l0 k1 l0 y452 t455)) = some r := by first | (rw [hy452]; with_reducible exact H) | (have H2_ := (Option.bind_some _ _).symm.trans H; rw [hy452]; with_reducible exact H2_) | (have H2_ := (Option.bind_some _ _).symm.trans H; with_reducible exact H2_) | with_reducible exact H | (rw [hy452]; exact H) | exact H
     have Ny452 := Aside0.mk hy452
     clear hy452
     replace H := bi_ H; obtain ⟨t455, A6, H⟩ := H
     (try dsimp only at H)
     have H' := Aside0.mk H
     clear H
     obtain ⟨Ao7, co7, eo7⟩ := Kd.V_slice HO_6.out
     subst eo7
     go_wp2_with (first | ((with_reducible refine gc 72 rfl ?_); refine gm_ (some 11) rfl rfl Tryz.func72 (carrefourref01_Order.calls _ _ _ _ _ _ _ _ _ ?side1 ?side2 ?side3 ?side4 A3.out) ag ?_; (case side1 => repeat (first | exact (Kd.V_reads' HO_6.out).2.2 | (with_reducible refine Kd.C_alloc ?_ _) | (with_reducible refine Kd.C_drewN ?_ _) | (with_reducible refine Kd.C_drew ?_))); (case side2 => exact (Kd.V_reads' HO_6.out).2.1); (case side3 => repeat (first | exact (Kd.V_reads' HO_0.out).2.2 | (with_reducible refine Kd.C_alloc ?_ _) | (with_reducible refine Kd.C_drewN ?_ _) | (with_reducible refine Kd.C_drew ?_))); (case side4 => exact (Kd.V_reads' HO_0.out).2.1); intro w8 hb; replace HO_0 := Aside0.mk (Kd.V_below (Vt_ HO_0.out) hb); replace HO_5 := Aside0.mk (Kd.N_below (Nt_ HO_5.out) hb); replace HO_6 := Aside0.mk (Kd.V_below (Vt_ HO_6.out) hb); replace HB := bs HB hb; (try clear hb)) | ((with_reducible refine gate_builtin (b := .append) (xs := #[.tmp 15, .tmp 17]) rfl ?_); at_builtin; refine Kd.N_append (Kd.slice 74 (Kd.int .u64)) (w0 := w) w.heap.size rfl (.tmp 15) (.tmp 17) 148 94 (.slice none 0 0) 24 rfl Tryz.underlying148 info94 rfl (by decide) (by omega) u5 x5_1 x6_1 [.slice Ao7 x6_1.length co7] (fun k_ => ((P0_ k_ ∨ P1_ k_) ∨ w.heap.size ≤ k_)) (fun k_ => ((fun k_ => ((P0_ k_ ∨ P1_ k_) ∨ w.heap.size ≤ k_))) k_ ∧ some k_ ≠ (u5 : Value).ownBlock) rfl rfl ?aP (fun _ hk => hk) ?aF ?aO ?aB ?aS ?aL ?_; (case aP => exact (Kd.FK_slice_mk (Kd.V_reads' (Kd.V_mono (ok' := (fun k_ => ((fun k_ => ((P0_ k_ ∨ P1_ k_) ∨ w.heap.size ≤ k_))) k_ ∧ some k_ ≠ (u5 : Value).ownBlock)) (HO_6.out) (fun k_ hk => ⟨hk.1, hk.2⟩))).2.1 (Kd.V_F (Kd.V_mono (ok' := (fun k_ => ((fun k_ => ((P0_ k_ ∨ P1_ k_) ∨ w.heap.size ≤ k_))) k_ ∧ some k_ ≠ (u5 : Value).ownBlock)) (HO_6.out) (fun k_ hk => ⟨hk.1, hk.2⟩))))); (case aB => exact (bf HB)); (case aF => exact (fun k_ hk => (.inr (Nat.le_trans (below_size (bf HB)) hk)))); (case aO => exact (Nt_ HO_5.out)); (case aS => exact (below_size (bf HB))); (case aL => have := LMc5.out; omega); intro v453 w9 ho hb hg hat; rw [← Ny452.out] at ho; have n0_ := Aside0.mk (Kd.V_afterv (ok := (fun k_ => ((P0_ k_ ∨ P1_ k_) ∨ w.heap.size ≤ k_))) (Vt_ HO_0.out) hg hat); have n1_ := Aside0.mk (Kd.V_afterv (ok := (fun k_ => ((P0_ k_ ∨ P1_ k_) ∨ w.heap.size ≤ k_))) (Vt_ HO_6.out) hg hat); have n2_ := Aside0.mk (hb); have n3_ := Aside0.mk (ho); clear HO_0; clear HO_6; clear HB; clear HO_5; have HO_0 := n0_; have HO_6 := n1_; have HB := n2_; have HO454 := n3_; clear n0_ n1_ n2_ n3_; clear ho hb hg hat) | ((with_reducible refine gc 94 rfl ?_); refine gl_ (some 14) rfl rfl Tryz.func94 ((carrefourref02_twice.calls _ _ _ _ _ _ ?side1 ?side2 A6.out).mono ?_) ag; (case side1 => repeat (first | exact (Kd.V_reads' HO_6.out).2.2 | (with_reducible refine Kd.C_alloc ?_ _) | (with_reducible refine Kd.C_drewN ?_ _) | (with_reducible refine Kd.C_drew ?_))); (case side2 => exact (Kd.V_reads' HO_6.out).2.1); rintro e w10 ⟨v456, rfl, ho0, hb⟩; refine ⟨_, rfl, ?_⟩; have HO457 := Aside0.mk (Kd.R_lower (Kd.R_newM (M := fun k_ => (w.heap.size ≤ k_)) ho0 (below_size (bf HB)) (fun k_ h_ => h_)) (below_size (bf HB))); replace HO_0 := Aside0.mk (Kd.V_elder' (Vt_ HO_0.out) (Kd.R_base ho0) hb); replace HO_6 := Aside0.mk (Kd.V_elder' (Vt_ HO_6.out) (Kd.R_base ho0) hb); replace HO454 := Aside0.mk (Kd.N_elder' (Nt_ HO454.out) (Kd.R_base ho0) hb); replace HB := bs HB hb; (try clear hb); (try clear ho0)))
     go_roundg k1
     case measure => have := HK1.out; omega
     case rel => exact ⟨(y452), (t455), H', ⟨by have := HK1.out; omega⟩, ⟨Vt_ (Kd.V_mono HO_0.out (fun _ hk => And.intro hk.1.1 hk.1.2))⟩, ⟨Nt_ (Kd.N_mono HO454.out (fun _ hk => hk.1))⟩, ⟨Kd.V_mono (Kd.R_V (Rt_ (Kd.R_mono (Kd.R_apart' HO457.out (Kd.N_typed HO454.out) (by decide)) (fun _ hk => And.intro hk.1.1 hk.2)))) (fun k_ hk => by first | exact ⟨(.inr (hk.1)), hk.2⟩ | exact (.inr (hk)))⟩, ⟨bf HB⟩⟩
    ·rw [if_neg c5] at H
     exact absurd H (by simp)
   ·rw [if_neg c4] at H
    have c4b0 : decide (t451 ≤ 0) = false := decide_eq_false c4
    clear c4
    have H' := Aside0.mk H
    clear H
    obtain ⟨Ao11, co11, eo11⟩ := Kd.V_slice HO_6.out
    subst eo11
    go_wp2_with (first | ((with_reducible refine gc 72 rfl ?_); refine gm_ (some 11) rfl rfl Tryz.func72 (carrefourref01_Order.calls _ _ _ _ _ _ _ _ _ ?side1 ?side2 ?side3 ?side4 A3.out) ag ?_; (case side1 => repeat (first | exact (Kd.V_reads' HO_6.out).2.2 | (with_reducible refine Kd.C_alloc ?_ _) | (with_reducible refine Kd.C_drewN ?_ _) | (with_reducible refine Kd.C_drew ?_))); (case side2 => exact (Kd.V_reads' HO_6.out).2.1); (case side3 => repeat (first | exact (Kd.V_reads' HO_0.out).2.2 | (with_reducible refine Kd.C_alloc ?_ _) | (with_reducible refine Kd.C_drewN ?_ _) | (with_reducible refine Kd.C_drew ?_))); (case side4 => exact (Kd.V_reads' HO_0.out).2.1); intro w12 hb; replace HO_0 := Aside0.mk (Kd.V_below (Vt_ HO_0.out) hb); replace HO_5 := Aside0.mk (Kd.N_below (Nt_ HO_5.out) hb); replace HO_6 := Aside0.mk (Kd.V_below (Vt_ HO_6.out) hb); replace HB := bs HB hb; (try clear hb); obtain ⟨Ao13, co13, eo13⟩ := Kd.N_slice HO_5.out; subst eo13))
    go_loopg [0, 7] k1 (fun kq v0 v7 w' => ∃ (x0_2 : List Int) (x7_2 : Int), v7 = .int .i64 x7_2 ∧ Aside0 (carrefourref02_rest.l1 kq x0_2 x5_1 x7_2 = some r) ∧ Aside0 (kq ≤ k1) ∧ Aside0 (Kd.V (Kd.int .u64) 74 w' w.heap.size (fun k_ => ((P0_ k_ ∨ P1_ k_) ∨ w.heap.size ≤ k_) ∧ some k_ ≠ ((.slice Ao13 x5_1.length co13) : Value).ownBlock) v0 x0_2) ∧ Aside0 (Kd.N (Kd.slice 74 (Kd.int .u64)) 94 w' w.heap.size (fun k_ => ((P0_ k_ ∨ P1_ k_) ∨ w.heap.size ≤ k_)) (.slice Ao13 x5_1.length co13) x5_1) ∧ Aside0 (Below w.heap.size w w'))
    case atStart => exact ⟨(l0), (wrap64 ((x5_1.length : Int) - 1)), (aq), H', ⟨Nat.le_refl _⟩, ⟨Vt_ HO_0.out⟩, ⟨Nt_ HO_5.out⟩, ⟨bf HB⟩⟩
    case round =>
     clear H'
     (try clear c1); (try clear p2); (try clear c4); (try clear c4b0); (try clear c5); (try clear p6); (try clear c7); (try clear c9); (try clear p2)
     obtain ⟨x0_2, x7_2, rfl, HA, HK2, HO_0, HO_5, HB⟩ := hrel
     cases gk with
     | zero => exact absurd HA.out (by simp [carrefourref02_rest.l1])
     | succ k2 =>
      have H := HA.out
      clear HA
      simp only [carrefourref02_rest.l1] at H
      by_cases c14 : x7_2 ≥ 0
      ·rw [if_pos c14] at H
       have c14b0 : decide (0 ≤ x7_2) = true := decide_eq_true c14
       clear c14
       by_cases c15 : 0 ≤ x7_2
       ·rw [if_pos c15] at H
        have c15b0 : decide (0 ≤ x7_2) = true := decide_eq_true c15
        clear c15
        by_cases c16 : x7_2 < (x5_1.length : Int)
        ·rw [if_pos c16] at H
         have c16b0 : decide (x7_2 < (x5_1.length : Int)) = true := decide_eq_true c16
         clear c16
         replace H := bi_ H; obtain ⟨t459, A17, H⟩ := H
         (try dsimp only at H)
         by_cases c18 : t459 ≤ 0
         ·rw [if_pos c18] at H
          have c18b0 : decide (t459 ≤ 0) = true := decide_eq_true c18
          clear c18
          replace H := bi_ H; obtain ⟨t461, A19, H⟩ := H
          (try dsimp only at H)
          replace H := bi_ H; obtain ⟨t464, A20, H⟩ := H
          (try dsimp only at H)
          have H' := Aside0.mk H
          clear H
          have p458 : 0 ≤ (x7_2 : Int) := od_
          have q458 : x7_2 < (x5_1.length : Int) := od_
          obtain ⟨ad458, A458_0, c458_0, e458, hx458_0, hl458_0, hi458_0⟩ := at_L21 (Kd.N_reads' HO_5.out).2.2 x7_2 p458 q458
          cases e458
          obtain ⟨ce458, hce458, hMe458, hcc458⟩ := Kd.N_get HO_5.out [] x7_2 p458 (by first | exact q458 | exact od_ | (have e_ := (Kd.N_reads' HO_5.out).1; omega))
          obtain ⟨ua458_0, uc458_0, rfl, ul458_0, ge458_0⟩ := Kd.FK_slice_open hMe458
          have hv458_0 := hcc458 0 _ rfl
          rw [Nat.add_zero, show ((Kd.slice 74 (Kd.int .u64))).sz = 1 from rfl, Nat.mul_one] at hv458_0
          replace hv458_0 := Option.some.inj (hv458_0.symm.trans hx458_0)
          injection hv458_0 with hva_ hvn_ hvc_
          rw [hva_] at ge458_0
          rw [hvc_] at ul458_0
          have HL458_0 := Aside0.mk (show Kd.V (Kd.int .u64) 74 _ w.heap.size _ _ (rd_L21 x5_1 x7_2) from Kd.V_mk ul458_0 ge458_0)
          clear hva_ hvn_ hvc_ ge458_0 ul458_0
          clear hcc458 hce458
          have HR458_0 := Aside0.mk hi458_0
          have HC458_0 := Aside0.mk hl458_0
          clear hi458_0 hl458_0
          replace p458 := eq_true p458
          replace q458 := eq_true q458
          obtain ⟨Ao21, co21, eo21⟩ := Kd.V_slice HO_0.out
          subst eo21
          go_wp2_with (first | ((with_reducible refine gc 72 rfl ?_); refine gm_ (some 31) rfl rfl Tryz.func72 (carrefourref01_Order.calls _ _ _ (rd_L21 x5_1 x7_2) _ _ _ _ _ ?side1 ?side2 ?side3 ?side4 A17.out) ag ?_; (case side1 => repeat (first | exact (by repeat (first | (with_reducible exact HR458_0.out) | (with_reducible refine Kd.C_alloc ?_ _) | (with_reducible refine Kd.C_drewN ?_ _) | (with_reducible refine Kd.C_drew ?_) | exact HR458_0.out)) | (with_reducible refine Kd.C_alloc ?_ _) | (with_reducible refine Kd.C_drewN ?_ _) | (with_reducible refine Kd.C_drew ?_))); (case side2 => exact HC458_0.out); (case side3 => repeat (first | exact (Kd.V_reads' HO_0.out).2.2 | (with_reducible refine Kd.C_alloc ?_ _) | (with_reducible refine Kd.C_drewN ?_ _) | (with_reducible refine Kd.C_drew ?_))); (case side4 => exact (Kd.V_reads' HO_0.out).2.1); intro w22 hb; replace HO_0 := Aside0.mk (Kd.V_below (Vt_ HO_0.out) hb); replace HO_5 := Aside0.mk (Kd.N_below (Nt_ HO_5.out) hb); replace HL458_0 := Aside0.mk (Kd.V_below (Vt_ HL458_0.out) hb); replace HR458_0 := Aside0.mk (Kd.C_below (by repeat (first | (with_reducible exact HR458_0.out) | (with_reducible refine Kd.C_alloc ?_ _) | (with_reducible refine Kd.C_drewN ?_ _) | (with_reducible refine Kd.C_drew ?_) | exact HR458_0.out)) hb); replace HB := bs HB hb; (try clear hb); have p460 : 0 ≤ (x7_2 : Int) := od_; have q460 : x7_2 < (x5_1.length : Int) := od_; obtain ⟨ad460, A460_0, c460_0, e460, hx460_0, hl460_0, hi460_0⟩ := at_L21 (Kd.N_reads' HO_5.out).2.2 x7_2 p460 q460; obtain rfl : ad458 = ad460 := (by injection e460); obtain ⟨ce460, hce460, hMe460, hcc460⟩ := Kd.N_get HO_5.out [] x7_2 p460 (by first | exact q460 | exact od_ | (have e_ := (Kd.N_reads' HO_5.out).1; omega)); obtain ⟨ua460_0, uc460_0, rfl, ul460_0, ge460_0⟩ := Kd.FK_slice_open hMe460; have hv460_0 := hcc460 0 _ rfl; rw [Nat.add_zero, show ((Kd.slice 74 (Kd.int .u64))).sz = 1 from rfl, Nat.mul_one] at hv460_0; replace hv460_0 := Option.some.inj (hv460_0.symm.trans hx460_0); injection hv460_0 with hva_ hvn_ hvc_; rw [hva_] at ge460_0; rw [hvc_] at ul460_0; have HL460_0 := Aside0.mk (show Kd.V (Kd.int .u64) 74 _ w.heap.size _ _ (rd_L21 x5_1 x7_2) from Kd.V_mk ul460_0 ge460_0); clear hva_ hvn_ hvc_ ge460_0 ul460_0; clear hcc460 hce460; have HR460_0 := Aside0.mk hi460_0; have HC460_0 := Aside0.mk hl460_0; clear hi460_0 hl460_0; replace p460 := eq_true p460; replace q460 := eq_true q460) | ((with_reducible refine gc 95 rfl ?_); refine gl_ (some 38) rfl rfl Tryz.func95 ((carrefourref01_Minus.calls _ _ _ _ _ _ (rd_L21 x5_1 x7_2) _ _ ?side1 ?side2 ?side3 ?side4 A19.out).mono ?_) ag; (case side1 => repeat (first | exact (Kd.V_reads' HO_0.out).2.2 | (with_reducible refine Kd.C_alloc ?_ _) | (with_reducible refine Kd.C_drewN ?_ _) | (with_reducible refine Kd.C_drew ?_))); (case side2 => exact (Kd.V_reads' HO_0.out).2.1); (case side3 => repeat (first | exact (by repeat (first | (with_reducible exact HR460_0.out) | (with_reducible refine Kd.C_alloc ?_ _) | (with_reducible refine Kd.C_drewN ?_ _) | (with_reducible refine Kd.C_drew ?_) | exact HR460_0.out)) | (with_reducible refine Kd.C_alloc ?_ _) | (with_reducible refine Kd.C_drewN ?_ _) | (with_reducible refine Kd.C_drew ?_))); (case side4 => exact HC460_0.out); rintro e w23 ⟨v462, rfl, ho0, hb⟩; refine ⟨_, rfl, ?_⟩; have HO463 := Aside0.mk (Kd.R_lower (Kd.R_newM (M := fun k_ => (w.heap.size ≤ k_)) ho0 (below_size (bf HB)) (fun k_ h_ => h_)) (below_size (bf HB))); replace HO_0 := Aside0.mk (Kd.V_elder' (Vt_ HO_0.out) (Kd.R_base ho0) hb); replace HO_5 := Aside0.mk (Kd.N_elder' (Nt_ HO_5.out) (Kd.R_base ho0) hb); replace HL458_0 := Aside0.mk (Kd.V_elder' (Vt_ HL458_0.out) (Kd.R_base ho0) hb); replace HL460_0 := Aside0.mk (Kd.V_elder' (Vt_ HL460_0.out) (Kd.R_base ho0) hb); replace HR458_0 := Aside0.mk (Kd.C_below (by repeat (first | (with_reducible exact HR458_0.out) | (with_reducible refine Kd.C_alloc ?_ _) | (with_reducible refine Kd.C_drewN ?_ _) | (with_reducible refine Kd.C_drew ?_) | exact HR458_0.out)) hb); replace HR460_0 := Aside0.mk (Kd.C_below (by repeat (first | (with_reducible exact HR460_0.out) | (with_reducible refine Kd.C_alloc ?_ _) | (with_reducible refine Kd.C_drewN ?_ _) | (with_reducible refine Kd.C_drew ?_) | exact HR460_0.out)) hb); replace HB := bs HB hb; (try clear hb); (try clear ho0); obtain ⟨Ao24, co24, eo24⟩ := Kd.R_slice HO463.out; subst eo24) | ((with_reducible refine gc 43 rfl ?_); refine gl_ (some 39) rfl rfl Tryz.func43 ((carrefourref02_trim.calls _ _ _ _ _ _ ?side1 ?side2 A20.out).mono ?_) ag; (case side1 => exact rc HO463); (case side2 => exact (Kd.R_reads' HO463.out).2.1); rintro e w25 ⟨v465, rfl, ho0, hb⟩; refine ⟨_, rfl, ?_⟩; have HO466 := Aside0.mk (Kd.R_lower (Kd.R_new' (Kd.R_newM (M := fun k_ => (w.heap.size ≤ k_)) ho0 (below_size (bf HB)) (fun k_ h_ => h_)) (rl HO463)) (below_size (bf HB))); replace HO_0 := Aside0.mk (Kd.V_elder' (Vt_ HO_0.out) (Kd.R_base ho0) hb); replace HO_5 := Aside0.mk (Kd.N_elder' (Nt_ HO_5.out) (Kd.R_base ho0) hb); replace HL458_0 := Aside0.mk (Kd.V_elder' (Vt_ HL458_0.out) (Kd.R_base ho0) hb); replace HL460_0 := Aside0.mk (Kd.V_elder' (Vt_ HL460_0.out) (Kd.R_base ho0) hb); replace HO463 := re_ HO463 (Kd.R_base ho0) hb; replace HR458_0 := Aside0.mk (Kd.C_below (by repeat (first | (with_reducible exact HR458_0.out) | (with_reducible refine Kd.C_alloc ?_ _) | (with_reducible refine Kd.C_drewN ?_ _) | (with_reducible refine Kd.C_drew ?_) | exact HR458_0.out)) hb); replace HR460_0 := Aside0.mk (Kd.C_below (by repeat (first | (with_reducible exact HR460_0.out) | (with_reducible refine Kd.C_alloc ?_ _) | (with_reducible refine Kd.C_drewN ?_ _) | (with_reducible refine Kd.C_drew ?_) | exact HR460_0.out)) hb); replace HB := bs HB hb; (try clear hb); (try clear ho0)))
          go_roundg k2
          case measure => have := HK1.out; have := HK2.out; omega
          case rel => exact ⟨(t464), (wrap64 (x7_2 - 1)), (aq), H', ⟨by have := HK1.out; have := HK2.out; omega⟩, ⟨Kd.V_mono (Kd.R_V (Rt_ (Kd.R_mono (Kd.R_apart' HO466.out (Kd.N_typed HO_5.out) (by decide)) (fun _ hk => And.intro hk.1.1.1 hk.2)))) (fun k_ hk => by first | exact ⟨(.inr (hk.1)), hk.2⟩ | exact (.inr (hk)))⟩, ⟨Nt_ (Kd.N_mono HO_5.out (fun _ hk => hk.1.1))⟩, ⟨bf HB⟩⟩
         ·rw [if_neg c18] at H
          have c18b0 : decide (t459 ≤ 0) = false := decide_eq_false c18
          clear c18
          have H' := Aside0.mk H
          clear H
          have p458 : 0 ≤ (x7_2 : Int) := od_
          have q458 : x7_2 < (x5_1.length : Int) := od_
          obtain ⟨ad458, A458_0, c458_0, e458, hx458_0, hl458_0, hi458_0⟩ := at_L21 (Kd.N_reads' HO_5.out).2.2 x7_2 p458 q458
          cases e458
          obtain ⟨ce458, hce458, hMe458, hcc458⟩ := Kd.N_get HO_5.out [] x7_2 p458 (by first | exact q458 | exact od_ | (have e_ := (Kd.N_reads' HO_5.out).1; omega))
          obtain ⟨ua458_0, uc458_0, rfl, ul458_0, ge458_0⟩ := Kd.FK_slice_open hMe458
          have hv458_0 := hcc458 0 _ rfl
          rw [Nat.add_zero, show ((Kd.slice 74 (Kd.int .u64))).sz = 1 from rfl, Nat.mul_one] at hv458_0
          replace hv458_0 := Option.some.inj (hv458_0.symm.trans hx458_0)
          injection hv458_0 with hva_ hvn_ hvc_
          rw [hva_] at ge458_0
          rw [hvc_] at ul458_0
          have HL458_0 := Aside0.mk (show Kd.V (Kd.int .u64) 74 _ w.heap.size _ _ (rd_L21 x5_1 x7_2) from Kd.V_mk ul458_0 ge458_0)
          clear hva_ hvn_ hvc_ ge458_0 ul458_0
          clear hcc458 hce458
          have HR458_0 := Aside0.mk hi458_0
          have HC458_0 := Aside0.mk hl458_0
          clear hi458_0 hl458_0
          replace p458 := eq_true p458
          replace q458 := eq_true q458
          obtain ⟨Ao26, co26, eo26⟩ := Kd.V_slice HO_0.out
          subst eo26
          go_wp2_with (first | ((with_reducible refine gc 72 rfl ?_); refine gm_ (some 31) rfl rfl Tryz.func72 (carrefourref01_Order.calls _ _ _ (rd_L21 x5_1 x7_2) _ _ _ _ _ ?side1 ?side2 ?side3 ?side4 A17.out) ag ?_; (case side1 => repeat (first | exact (by repeat (first | (with_reducible exact HR458_0.out) | (with_reducible refine Kd.C_alloc ?_ _) | (with_reducible refine Kd.C_drewN ?_ _) | (with_reducible refine Kd.C_drew ?_) | exact HR458_0.out)) | (with_reducible refine Kd.C_alloc ?_ _) | (with_reducible refine Kd.C_drewN ?_ _) | (with_reducible refine Kd.C_drew ?_))); (case side2 => exact HC458_0.out); (case side3 => repeat (first | exact (Kd.V_reads' HO_0.out).2.2 | (with_reducible refine Kd.C_alloc ?_ _) | (with_reducible refine Kd.C_drewN ?_ _) | (with_reducible refine Kd.C_drew ?_))); (case side4 => exact (Kd.V_reads' HO_0.out).2.1); intro w27 hb; replace HO_0 := Aside0.mk (Kd.V_below (Vt_ HO_0.out) hb); replace HO_5 := Aside0.mk (Kd.N_below (Nt_ HO_5.out) hb); replace HL458_0 := Aside0.mk (Kd.V_below (Vt_ HL458_0.out) hb); replace HR458_0 := Aside0.mk (Kd.C_below (by repeat (first | (with_reducible exact HR458_0.out) | (with_reducible refine Kd.C_alloc ?_ _) | (with_reducible refine Kd.C_drewN ?_ _) | (with_reducible refine Kd.C_drew ?_) | exact HR458_0.out)) hb); replace HB := bs HB hb; (try clear hb)))
          go_roundg k2
          case measure => have := HK1.out; have := HK2.out; omega
          case rel => exact ⟨(x0_2), (wrap64 (x7_2 - 1)), (aq), H', ⟨by have := HK1.out; have := HK2.out; omega⟩, ⟨Vt_ HO_0.out⟩, ⟨Nt_ HO_5.out⟩, ⟨bf HB⟩⟩
        ·rw [if_neg c16] at H
         exact absurd H (by simp)
       ·rw [if_neg c15] at H
        exact absurd H (by simp)
      ·rw [if_neg c14] at H
       have c14b0 : decide (0 ≤ x7_2) = false := decide_eq_false c14
       clear c14
       obtain rfl := Option.some.inj H
       go_wp2
       go_ret
       exact ⟨_, ae, by (with_reducible repeat (first | apply Kd.V_alloc | apply Kd.V_drewN | apply Kd.V_drew)); exact Kd.V_mono HO_0.out (fun _ hk => hk.1), bf HB⟩

end Go.Proofs.YtfhokgkpcphmlaaGreatDoor.X
