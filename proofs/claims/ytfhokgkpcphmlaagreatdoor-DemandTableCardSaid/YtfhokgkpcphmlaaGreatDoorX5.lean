/- Walks: each '.calls' says that the Go function comes to what its Lean function tells. Conditions: as each theorem's head says. -/
import Derived.Test.YtfhokgkpcphmlaaGreatDoorXD
import Derived.Test.YtfhokgkpcphmlaaGreatDoorX0
import Derived.Test.YtfhokgkpcphmlaaGreatDoorX3
import Derived.Test.YtfhokgkpcphmlaaGreatDoorX4
namespace Go.Proofs.YtfhokgkpcphmlaaGreatDoor.X
open Go.RowKit Go.Proofs.YtfhokgkpcphmlaaGreatDoorW.PrintWords Go.Proofs.YtfhokgkpcphmlaaGreatDoorW.PrintLast Go.Proofs.YtfhokgkpcphmlaaGreatDoorW.PrintMore
attribute [local go_sem] max2_int min2_int max_two min_two max_three min_three max_four min_four   -- for this text's walks alone
set_option linter.unusedVariables false
set_option maxHeartbeats 8000000
set_option maxRecDepth 100000
set_option linter.unusedSimpArgs false

/-! ### carrefourlaw06_Few: function 4 -/
def carrefourlaw06_Few.T11 : Bool × List (List Nat × List Nat) := (true, [([], []), ([0], [0]), ([], []), ([1, 2], [1, 2]), ([3], [3]), ([4], [4]), ([], []), ([6], [6]), ([], []), ([7, 8], [7, 8]), ([9], [9]), ([10], [10]), ([], []), ([12], [12]), ([], []), ([13, 14], [13, 14]), ([15], [15]), ([16], [16]), ([5, 11, 17], [5, 11, 17]), ([18], [18]), ([19], [19])])
def carrefourlaw06_Few.B11 : List Nat := [0, 1, 0, 7, 15, 31, 0, 64, 0, 448, 960, 1984, 0, 4096, 0, 28672, 61440, 126976, 262143, 524287, 1048575]
theorem carrefourlaw06_Few.tab11 : rtab .any (opsOf Tryz.f4 11) = carrefourlaw06_Few.T11 := by kernel_rfl
theorem carrefourlaw06_Few.bits11 : waitsOk carrefourlaw06_Few.T11.2 carrefourlaw06_Few.B11 = true := by kernel_rfl
theorem carrefourlaw06_Few.calls (k : Nat) (a0_0 : Int) (a0_1 : Int) (a0_2 : Int) (a0_3 : Int) (a0_4 : Int) (A0_5 : Option Addr) (c0_5 : Nat) (l0_5 : List (S42)) (A0_6 : Option Addr) (c0_6 : Nat) (l0_6 : List (S45)) (a0_7 : Int) (a0_8 : Int) (r : Bool) (w : World) (hr0_5 : Kd.C k42 w A0_5 l0_5.length l0_5) (hc0_5 : l0_5.length ≤ c0_5) (hr0_6 : Kd.C k45 w A0_6 l0_6.length l0_6) (hc0_6 : l0_6.length ≤ c0_6) (h : carrefourlaw06_Few.f k a0_0 a0_1 a0_2 a0_3 a0_4 l0_5 l0_6 a0_7 a0_8 = some r) :
  Calls Tryz.prog 4 #[.agg #[.int .i64 a0_0, .int .i64 a0_1, .int .i64 a0_2, .int .i64 a0_3, .int .i64 a0_4, .slice A0_5 l0_5.length c0_5, .slice A0_6 l0_6.length c0_6, .int .i64 a0_7, .int .i64 a0_8]] w fun e w' => e = .returned (.bool r) ∧ Below w.heap.size w w' := by
 have hu27 := Tryz.underlying27
 have hu42 := Tryz.underlying42
 have HR0_5 := Aside0.mk hr0_5
 have HC0_5 := Aside0.mk hc0_5
 clear hr0_5 hc0_5
 have HR0_6 := Aside0.mk hr0_6
 have HC0_6 := Aside0.mk hc0_6
 clear hr0_6 hc0_6
 have HB := Aside0.mk (Below.refl w.heap.size w)
 have H : (if (l0_5.length : Int) > 15 then (carrefourlaw06_Few.j0 k true a0_0 a0_1 a0_2 a0_3 a0_4 l0_5 l0_6 a0_7 a0_8) else (carrefourlaw06_Few.j0 k (decide ((l0_6.length : Int) > 15)) a0_0 a0_1 a0_2 a0_3 a0_4 l0_5 l0_6 a0_7 a0_8)) = some r := h
 clear h
 have HC2 := Aside0.mk H
 clear H
 go_enter Tryz.func4, Tryz.ntmps4
 go_upto_region 1 with (first | ((with_reducible refine gate_dst (N := 1) rfl ?_); (try (refine gate_guard (by rfl) ?_; dsimp only)); refine box_event ?hg (N := 1) ?hd (cs := #[.int .i64 a0_0, .int .i64 a0_1, .int .i64 a0_2, .int .i64 a0_3, .int .i64 a0_4, .slice A0_5 l0_5.length c0_5, .slice A0_6 l0_6.length c0_6, .int .i64 a0_7, .int .i64 a0_8]) (t := 27) ?hr ?_; (case hd => rfl); (case hg => rfl); (case hr => first | (go_simp; done) | (go_simp; rfl)); intro gb139 hg w3 hbox hb; have BK139 := Aside0.mk (hbox); have GE139 := bz HB hg; replace HB := bs HB hb; clear hb hg))
 (try simp only [Act.put, si, s0, s1])
 go_cut [14] (fun v14 wc => ∃ (kq : Nat) (x14_1 : Bool), v14 = .bool x14_1 ∧ Aside0 (carrefourlaw06_Few.j0 kq x14_1 a0_0 a0_1 a0_2 a0_3 a0_4 l0_5 l0_6 a0_7 a0_8 = some r) ∧ Aside0 (kq ≤ k) ∧ Aside0 (wc.heap[gb139]? = some (.cells #[.int .i64 a0_0, .int .i64 a0_1, .int .i64 a0_2, .int .i64 a0_3, .int .i64 a0_4, (.slice A0_5 l0_5.length c0_5), (.slice A0_6 l0_6.length c0_6), .int .i64 a0_7, .int .i64 a0_8] 27 (0, 0))) ∧ Aside0 (Below w.heap.size w wc))
 case first =>
  have H := HC2.out
  clear HC2
  by_cases c4 : (l0_5.length : Int) > 15
  ·rw [if_pos c4] at H
   have c4b0 : decide (15 < (l0_5.length : Int)) = true := decide_eq_true c4
   have c4b1 : decide (15 < l0_5.length) = true := decide_eq_true (by omega)
   clear c4
   (first | rw [c4b0] | (simp only [i64_w, i32_w]; rw [c4b0]) | skip)
   have H' := Aside0.mk H
   clear H
   have hcz5 := X.k9 BK139
   go_wp2
   go_meet
   case rel => exact ⟨_, (true), (aq), H', ⟨by first | omega | exact Nat.le_refl _⟩, bu_ BK139, ⟨bf HB⟩⟩
  ·rw [if_neg c4] at H
   have c4b0 : decide (15 < (l0_5.length : Int)) = false := decide_eq_false c4
   have c4b1 : decide (15 < l0_5.length) = false := decide_eq_false (by omega)
   clear c4
   (first | rw [c4b0] | (simp only [i64_w, i32_w]; rw [c4b0]) | skip)
   have H' := Aside0.mk H
   clear H
   have hcz6 := X.k9 BK139
   go_wp2
   go_meet
   case rel => exact ⟨_, (decide ((l0_6.length : Int) > 15)), (aq), H', ⟨by first | omega | exact Nat.le_refl _⟩, bu_ BK139, ⟨bf HB⟩⟩
 case rest =>
  clear HC2
  (try clear p2); (try clear c4); (try clear c4b0); (try clear c4b1); (try clear hcz5); (try clear hcz6)
  obtain ⟨kq, x14_1, rfl, HA, HJ1, BK139, HB⟩ := hcut
  cases kq with
  | zero => exact absurd HA.out (by simp [carrefourlaw06_Few.j0])
  | succ kj1 =>
   have H := HA.out
   clear HA
   simp only [carrefourlaw06_Few.j0] at H
   by_cases c7 : x14_1 = true
   ·subst c7
    have H1 : (some false) = some r := by rw [if_pos rfl] at H; exact H
    clear H
    have H := H1
    clear H1
    obtain rfl := Option.some.inj H
    go_wp2
    go_ret
    exact ⟨ae, bf HB⟩
   ·replace c7 := Bool.eq_false_iff.mpr c7
    subst c7
    have H1 : (carrefourlaw06_Few.l0 kj1 0 a0_0 a0_1 a0_2 a0_3 a0_4 l0_5 l0_6 a0_7 a0_8) = some r := by rw [if_neg (show ¬ (false = true) by decide)] at H; exact H
    clear H
    have H := H1
    clear H1
    have H' := Aside0.mk H
    clear H
    go_wp2
    go_loopg [3] kj1 (fun kq v3 w' => ∃ (x3_2 : Int), v3 = .int .i64 x3_2 ∧ Aside0 (carrefourlaw06_Few.l0 kq x3_2 a0_0 a0_1 a0_2 a0_3 a0_4 l0_5 l0_6 a0_7 a0_8 = some r) ∧ Aside0 (kq ≤ kj1) ∧ Aside0 (w'.heap[gb139]? = some (.cells #[.int .i64 a0_0, .int .i64 a0_1, .int .i64 a0_2, .int .i64 a0_3, .int .i64 a0_4, (.slice A0_5 l0_5.length c0_5), (.slice A0_6 l0_6.length c0_6), .int .i64 a0_7, .int .i64 a0_8] 27 (0, 0))) ∧ Aside0 (Below w.heap.size w w'))
    case atStart => exact ⟨(0), (aq), H', ⟨Nat.le_refl _⟩, bu_ BK139, ⟨bf HB⟩⟩
    case round =>
     clear H'
     (try clear p2); (try clear c4); (try clear c4b0); (try clear c4b1); (try clear c7); (try clear hcz5); (try clear hcz6); (try clear p2)
     obtain ⟨x3_2, rfl, HA, HK2, BK139, HB⟩ := hrel
     cases gk with
     | zero => exact absurd HA.out (by simp [carrefourlaw06_Few.l0])
     | succ k2 =>
      have H := HA.out
      clear HA
      simp only [carrefourlaw06_Few.l0] at H
      by_cases c8 : x3_2 < (l0_5.length : Int)
      ·rw [if_pos c8] at H
       have c8b0 : decide (x3_2 < (l0_5.length : Int)) = true := decide_eq_true c8
       clear c8
       by_cases c9 : 0 ≤ x3_2
       ·rw [if_pos c9] at H
        have c9b0 : decide (0 ≤ x3_2) = true := decide_eq_true c9
        clear c9
        replace H := bi_ H; obtain ⟨t141, A10, H⟩ := H
        (try dsimp only at H)
        by_cases c11 : t141 = true
        ·subst c11
         have H1 : (carrefourlaw06_Few.l0 k2 (wrap64 (x3_2 + 1)) a0_0 a0_1 a0_2 a0_3 a0_4 l0_5 l0_6 a0_7 a0_8) = some r := by rw [if_pos rfl] at H; exact H
         clear H
         have H := H1
         clear H1
         have H' := Aside0.mk H
         clear H
         have hcz12 := X.k9 BK139
         have p140 : 0 ≤ (x3_2 : Int) := od_
         have q140 : x3_2 < (l0_5.length : Int) := od_
         obtain ⟨ad140, A140_1, c140_1, A140_2, c140_2, A140_3, c140_3, A140_4, c140_4, A140_5, c140_5, e140, hx140_0, hx140_1, hx140_2, hx140_3, hx140_4, hx140_5, hx140_6, hl140_1, hi140_1, hl140_2, hi140_2, hl140_3, hi140_3, hl140_4, hi140_4, hl140_5, hi140_5⟩ := at_T42 HR0_5.out x3_2 p140 q140
         cases e140
         replace hx140_0 := hx_ HB hx140_0
         replace hx140_1 := hx_ HB hx140_1
         replace hx140_2 := hx_ HB hx140_2
         replace hx140_3 := hx_ HB hx140_3
         replace hx140_4 := hx_ HB hx140_4
         replace hx140_5 := hx_ HB hx140_5
         replace hx140_6 := hx_ HB hx140_6
         have HR140_1 := Aside0.mk hi140_1
         have HC140_1 := Aside0.mk hl140_1
         clear hi140_1 hl140_1
         have HR140_2 := Aside0.mk hi140_2
         have HC140_2 := Aside0.mk hl140_2
         clear hi140_2 hl140_2
         have HR140_3 := Aside0.mk hi140_3
         have HC140_3 := Aside0.mk hl140_3
         clear hi140_3 hl140_3
         have HR140_4 := Aside0.mk hi140_4
         have HC140_4 := Aside0.mk hl140_4
         clear hi140_4 hl140_4
         have HR140_5 := Aside0.mk hi140_5
         have HC140_5 := Aside0.mk hl140_5
         clear hi140_5 hl140_5
         replace p140 := eq_true p140
         replace q140 := eq_true q140
         go_wp2_with (first | ((with_reducible refine gc 8 rfl ?_); refine gm_ (some 27) rfl rfl Tryz.func8 (carrefourlaw06_node.calls _ ((rd_T42 l0_5 x3_2).f0) _ _ ((rd_T42 l0_5 x3_2).f1) _ _ ((rd_T42 l0_5 x3_2).f2) _ _ ((rd_T42 l0_5 x3_2).f3) _ _ ((rd_T42 l0_5 x3_2).f4) _ _ ((rd_T42 l0_5 x3_2).f5) ((rd_T42 l0_5 x3_2).f6) _ _ ?side1 ?side2 ?side3 ?side4 ?side5 ?side6 ?side7 ?side8 ?side9 ?side10 A10.out) ag ?_; (case side1 => repeat (first | exact (Kd.C_below HR140_1.out HB.out) | (with_reducible refine Kd.C_alloc ?_ _) | (with_reducible refine Kd.C_drewN ?_ _) | (with_reducible refine Kd.C_drew ?_))); (case side2 => exact HC140_1.out); (case side3 => repeat (first | exact (Kd.C_below HR140_2.out HB.out) | (with_reducible refine Kd.C_alloc ?_ _) | (with_reducible refine Kd.C_drewN ?_ _) | (with_reducible refine Kd.C_drew ?_))); (case side4 => exact HC140_2.out); (case side5 => repeat (first | exact (Kd.C_below HR140_3.out HB.out) | (with_reducible refine Kd.C_alloc ?_ _) | (with_reducible refine Kd.C_drewN ?_ _) | (with_reducible refine Kd.C_drew ?_))); (case side6 => exact HC140_3.out); (case side7 => repeat (first | exact (Kd.C_below HR140_4.out HB.out) | (with_reducible refine Kd.C_alloc ?_ _) | (with_reducible refine Kd.C_drewN ?_ _) | (with_reducible refine Kd.C_drew ?_))); (case side8 => exact HC140_4.out); (case side9 => repeat (first | exact (Kd.C_below HR140_5.out HB.out) | (with_reducible refine Kd.C_alloc ?_ _) | (with_reducible refine Kd.C_drewN ?_ _) | (with_reducible refine Kd.C_drew ?_))); (case side10 => exact HC140_5.out); intro w13 hb; replace BK139 := bb BK139 hb; replace HB := bs HB hb; (try clear hb)))
         go_roundg k2
         case measure => have := HJ1.out; have := HK2.out; omega
         case rel => exact ⟨(wrap64 (x3_2 + 1)), (aq), H', ⟨by have := HJ1.out; have := HK2.out; omega⟩, bu_ BK139, ⟨bf HB⟩⟩
        ·replace c11 := Bool.eq_false_iff.mpr c11
         subst c11
         have H1 : (some false) = some r := by rw [if_neg (show ¬ (false = true) by decide)] at H; exact H
         clear H
         have H := H1
         clear H1
         obtain rfl := Option.some.inj H
         have hcz14 := X.k9 BK139
         have p140 : 0 ≤ (x3_2 : Int) := od_
         have q140 : x3_2 < (l0_5.length : Int) := od_
         obtain ⟨ad140, A140_1, c140_1, A140_2, c140_2, A140_3, c140_3, A140_4, c140_4, A140_5, c140_5, e140, hx140_0, hx140_1, hx140_2, hx140_3, hx140_4, hx140_5, hx140_6, hl140_1, hi140_1, hl140_2, hi140_2, hl140_3, hi140_3, hl140_4, hi140_4, hl140_5, hi140_5⟩ := at_T42 HR0_5.out x3_2 p140 q140
         cases e140
         replace hx140_0 := hx_ HB hx140_0
         replace hx140_1 := hx_ HB hx140_1
         replace hx140_2 := hx_ HB hx140_2
         replace hx140_3 := hx_ HB hx140_3
         replace hx140_4 := hx_ HB hx140_4
         replace hx140_5 := hx_ HB hx140_5
         replace hx140_6 := hx_ HB hx140_6
         have HR140_1 := Aside0.mk hi140_1
         have HC140_1 := Aside0.mk hl140_1
         clear hi140_1 hl140_1
         have HR140_2 := Aside0.mk hi140_2
         have HC140_2 := Aside0.mk hl140_2
         clear hi140_2 hl140_2
         have HR140_3 := Aside0.mk hi140_3
         have HC140_3 := Aside0.mk hl140_3
         clear hi140_3 hl140_3
         have HR140_4 := Aside0.mk hi140_4
         have HC140_4 := Aside0.mk hl140_4
         clear hi140_4 hl140_4
         have HR140_5 := Aside0.mk hi140_5
         have HC140_5 := Aside0.mk hl140_5
         clear hi140_5 hl140_5
         replace p140 := eq_true p140
         replace q140 := eq_true q140
         go_wp2_with (first | ((with_reducible refine gc 8 rfl ?_); refine gm_ (some 27) rfl rfl Tryz.func8 (carrefourlaw06_node.calls _ ((rd_T42 l0_5 x3_2).f0) _ _ ((rd_T42 l0_5 x3_2).f1) _ _ ((rd_T42 l0_5 x3_2).f2) _ _ ((rd_T42 l0_5 x3_2).f3) _ _ ((rd_T42 l0_5 x3_2).f4) _ _ ((rd_T42 l0_5 x3_2).f5) ((rd_T42 l0_5 x3_2).f6) _ _ ?side1 ?side2 ?side3 ?side4 ?side5 ?side6 ?side7 ?side8 ?side9 ?side10 A10.out) ag ?_; (case side1 => repeat (first | exact (Kd.C_below HR140_1.out HB.out) | (with_reducible refine Kd.C_alloc ?_ _) | (with_reducible refine Kd.C_drewN ?_ _) | (with_reducible refine Kd.C_drew ?_))); (case side2 => exact HC140_1.out); (case side3 => repeat (first | exact (Kd.C_below HR140_2.out HB.out) | (with_reducible refine Kd.C_alloc ?_ _) | (with_reducible refine Kd.C_drewN ?_ _) | (with_reducible refine Kd.C_drew ?_))); (case side4 => exact HC140_2.out); (case side5 => repeat (first | exact (Kd.C_below HR140_3.out HB.out) | (with_reducible refine Kd.C_alloc ?_ _) | (with_reducible refine Kd.C_drewN ?_ _) | (with_reducible refine Kd.C_drew ?_))); (case side6 => exact HC140_3.out); (case side7 => repeat (first | exact (Kd.C_below HR140_4.out HB.out) | (with_reducible refine Kd.C_alloc ?_ _) | (with_reducible refine Kd.C_drewN ?_ _) | (with_reducible refine Kd.C_drew ?_))); (case side8 => exact HC140_4.out); (case side9 => repeat (first | exact (Kd.C_below HR140_5.out HB.out) | (with_reducible refine Kd.C_alloc ?_ _) | (with_reducible refine Kd.C_drewN ?_ _) | (with_reducible refine Kd.C_drew ?_))); (case side10 => exact HC140_5.out); intro w15 hb; replace BK139 := bb BK139 hb; replace HB := bs HB hb; (try clear hb)))
         go_ret
         exact ⟨ae, bf HB⟩
       ·rw [if_neg c9] at H
        exact absurd H (by simp)
      ·rw [if_neg c8] at H
       have c8b0 : decide (x3_2 < (l0_5.length : Int)) = false := decide_eq_false c8
       clear c8
       have H' := Aside0.mk H
       clear H
       have hcz16 := X.k9 BK139
       go_wp2
       go_loopg [4] k2 (fun kq v4 w' => ∃ (x4_3 : Int), v4 = .int .i64 x4_3 ∧ Aside0 (carrefourlaw06_Few.l1 kq x4_3 a0_0 a0_1 a0_2 a0_3 a0_4 l0_5 l0_6 a0_7 a0_8 = some r) ∧ Aside0 (kq ≤ k2) ∧ Aside0 (w'.heap[gb139]? = some (.cells #[.int .i64 a0_0, .int .i64 a0_1, .int .i64 a0_2, .int .i64 a0_3, .int .i64 a0_4, (.slice A0_5 l0_5.length c0_5), (.slice A0_6 l0_6.length c0_6), .int .i64 a0_7, .int .i64 a0_8] 27 (0, 0))) ∧ Aside0 (Below w.heap.size w w'))
       case atStart => exact ⟨(0), (aq), H', ⟨Nat.le_refl _⟩, bu_ BK139, ⟨bf HB⟩⟩
       case round =>
        clear H'
        (try clear c1); (try clear p1); (try clear q1); (try clear hx1); (try clear p2); (try clear c4); (try clear c4b0); (try clear c4b1); (try clear p6); (try clear c7); (try clear c8); (try clear c8b0); (try clear c9); (try clear c9b0); (try clear c11); (try clear c14); (try clear p14); (try clear q14); (try clear hx14); (try clear hcz12); (try clear hcz14); (try clear hcz16); (try clear hcz5); (try clear hcz6); (try clear hx140_0); (try clear hx140_1); (try clear hx140_2); (try clear hx140_3); (try clear hx140_4); (try clear hx140_5); (try clear hx140_6); (try clear p140); (try clear p2); (try clear q140)
        obtain ⟨x4_3, rfl, HA, HK3, BK139, HB⟩ := hrel
        cases gk with
        | zero => exact absurd HA.out (by simp [carrefourlaw06_Few.l1])
        | succ k3 =>
         have H := HA.out
         clear HA
         simp only [carrefourlaw06_Few.l1] at H
         by_cases c17 : x4_3 < (l0_6.length : Int)
         ·rw [if_pos c17] at H
          have c17b0 : decide (x4_3 < (l0_6.length : Int)) = true := decide_eq_true c17
          clear c17
          by_cases c18 : 0 ≤ x4_3
          ·rw [if_pos c18] at H
           have c18b0 : decide (0 ≤ x4_3) = true := decide_eq_true c18
           clear c18
           obtain ⟨y145, hy145⟩ : ∃ y_ : List ByteArray, y_ = (([(rd_T45 l0_6 x4_3).f0, (rd_T45 l0_6 x4_3).f1, (rd_T45 l0_6 x4_3).f2] : List ByteArray)) := ⟨_, rfl⟩
           replace H : ((carrefourlaw06_strings.f k3 y145).bind fun t148 => (if t148 = true then (carrefourlaw06_Few.l1 k3 (wrap64 (x4_3 + 1)) a0_0 a0_1 a0_2 a0_3 a0_4 l0_5 l0_6 a0_7 a0_8) else (some false))) = some r := by first | (rw [hy145]; with_reducible exact H) | (have H2_ := (Option.bind_some _ _).symm.trans H; rw [hy145]; with_reducible exact H2_) | (have H2_ := (Option.bind_some _ _).symm.trans H; with_reducible exact H2_) | with_reducible exact H | (rw [hy145]; exact H) | exact H
           have Ny145 := Aside0.mk hy145
           clear hy145
           replace H := bi_ H; obtain ⟨t148, A19, H⟩ := H
           (try dsimp only at H)
           by_cases c20 : t148 = true
           ·subst c20
            have H1 : (carrefourlaw06_Few.l1 k3 (wrap64 (x4_3 + 1)) a0_0 a0_1 a0_2 a0_3 a0_4 l0_5 l0_6 a0_7 a0_8) = some r := by rw [if_pos rfl] at H; exact H
            clear H
            have H := H1
            clear H1
            have H' := Aside0.mk H
            clear H
            have hcz21 := X.k9 BK139
            try go_wp2
            replace BK139 := Aside0.mk (blk_drew BK139.out)
            replace HB := Aside0.mk (below_drew1 HB.out)
            have p142 : 0 ≤ (x4_3 : Int) := od_
            have q142 : x4_3 < (l0_6.length : Int) := od_
            obtain ⟨ad142, e142, hx142_0, hx142_1, hx142_2, hx142_3, hx142_4, hx142_5⟩ := at_T45 HR0_6.out x4_3 p142 q142
            have hw142_5 := hx142_5
            have hw142_4 := hx142_4
            have hw142_3 := hx142_3
            have hw142_2 := hx142_2
            have hw142_1 := hx142_1
            have hw142_0 := hx142_0
            cases e142
            replace hx142_0 := hx_ HB hx142_0
            replace hx142_1 := hx_ HB hx142_1
            replace hx142_2 := hx_ HB hx142_2
            replace hx142_3 := hx_ HB hx142_3
            replace hx142_4 := hx_ HB hx142_4
            replace hx142_5 := hx_ HB hx142_5
            replace p142 := eq_true p142
            replace q142 := eq_true q142
            have p143 : 0 ≤ (x4_3 : Int) := od_
            have q143 : x4_3 < (l0_6.length : Int) := od_
            obtain ⟨ad143, e143, hx143_0, hx143_1, hx143_2, hx143_3, hx143_4, hx143_5⟩ := at_T45 HR0_6.out x4_3 p143 q143
            have hw143_5 := hx143_5
            have hw143_4 := hx143_4
            have hw143_3 := hx143_3
            have hw143_2 := hx143_2
            have hw143_1 := hx143_1
            have hw143_0 := hx143_0
            obtain rfl : ad142 = ad143 := (by injection e143)
            replace hx143_0 := hx_ HB hx143_0
            replace hx143_1 := hx_ HB hx143_1
            replace hx143_2 := hx_ HB hx143_2
            replace hx143_3 := hx_ HB hx143_3
            replace hx143_4 := hx_ HB hx143_4
            replace hx143_5 := hx_ HB hx143_5
            replace p143 := eq_true p143
            replace q143 := eq_true q143
            have p144 : 0 ≤ (x4_3 : Int) := od_
            have q144 : x4_3 < (l0_6.length : Int) := od_
            obtain ⟨ad144, e144, hx144_0, hx144_1, hx144_2, hx144_3, hx144_4, hx144_5⟩ := at_T45 HR0_6.out x4_3 p144 q144
            have hw144_5 := hx144_5
            have hw144_4 := hx144_4
            have hw144_3 := hx144_3
            have hw144_2 := hx144_2
            have hw144_1 := hx144_1
            have hw144_0 := hx144_0
            obtain rfl : ad142 = ad144 := (by injection e144)
            replace hx144_0 := hx_ HB hx144_0
            replace hx144_1 := hx_ HB hx144_1
            replace hx144_2 := hx_ HB hx144_2
            replace hx144_3 := hx_ HB hx144_3
            replace hx144_4 := hx_ HB hx144_4
            replace hx144_5 := hx_ HB hx144_5
            replace p144 := eq_true p144
            replace q144 := eq_true q144
            refine start_ (n := 21) (S := fun w' => c_ w' gb139 0 (.int .i64 a0_0) ∧ c_ w' gb139 1 (.int .i64 a0_1) ∧ c_ w' gb139 2 (.int .i64 a0_2) ∧ c_ w' gb139 3 (.int .i64 a0_3) ∧ c_ w' gb139 4 (.int .i64 a0_4) ∧ c_ w' gb139 5 (.slice A0_5 l0_5.length c0_5) ∧ c_ w' gb139 6 (.slice (some ad142) l0_6.length c0_6) ∧ c_ w' gb139 7 (.int .i64 a0_7) ∧ c_ w' gb139 8 (.int .i64 a0_8) ∧ w'.cell? (ad142.add ((x4_3).toNat * 6)) = some (.string ((rd_T45 l0_6 x4_3).f0)) ∧ w'.cell? ⟨(ad142.add ((x4_3).toNat * 6)).block, (ad142.add ((x4_3).toNat * 6)).off + 1, none⟩ = some (.string ((rd_T45 l0_6 x4_3).f1)) ∧ w'.cell? ⟨(ad142.add ((x4_3).toNat * 6)).block, (ad142.add ((x4_3).toNat * 6)).off + 2, none⟩ = some (.string ((rd_T45 l0_6 x4_3).f2)) ∧ w'.cell? ⟨(ad142.add ((x4_3).toNat * 6)).block, (ad142.add ((x4_3).toNat * 6)).off + 3, none⟩ = some (.int .i64 ((rd_T45 l0_6 x4_3).f3)) ∧ w'.cell? ⟨(ad142.add ((x4_3).toNat * 6)).block, (ad142.add ((x4_3).toNat * 6)).off + 4, none⟩ = some (.int .i64 ((rd_T45 l0_6 x4_3).f4)) ∧ w'.cell? ⟨(ad142.add ((x4_3).toNat * 6)).block, (ad142.add ((x4_3).toNat * 6)).off + 5, none⟩ = some (.int .i64 ((rd_T45 l0_6 x4_3).f5)) ∧ w'.cell? (ad142.add ((x4_3).toNat * 6)) = some (.string ((rd_T45 l0_6 x4_3).f0)) ∧ w'.cell? ⟨(ad142.add ((x4_3).toNat * 6)).block, (ad142.add ((x4_3).toNat * 6)).off + 1, none⟩ = some (.string ((rd_T45 l0_6 x4_3).f1)) ∧ w'.cell? ⟨(ad142.add ((x4_3).toNat * 6)).block, (ad142.add ((x4_3).toNat * 6)).off + 2, none⟩ = some (.string ((rd_T45 l0_6 x4_3).f2)) ∧ w'.cell? ⟨(ad142.add ((x4_3).toNat * 6)).block, (ad142.add ((x4_3).toNat * 6)).off + 3, none⟩ = some (.int .i64 ((rd_T45 l0_6 x4_3).f3)) ∧ w'.cell? ⟨(ad142.add ((x4_3).toNat * 6)).block, (ad142.add ((x4_3).toNat * 6)).off + 4, none⟩ = some (.int .i64 ((rd_T45 l0_6 x4_3).f4)) ∧ w'.cell? ⟨(ad142.add ((x4_3).toNat * 6)).block, (ad142.add ((x4_3).toNat * 6)).off + 5, none⟩ = some (.int .i64 ((rd_T45 l0_6 x4_3).f5)) ∧ w'.cell? (ad142.add ((x4_3).toNat * 6)) = some (.string ((rd_T45 l0_6 x4_3).f0)) ∧ w'.cell? ⟨(ad142.add ((x4_3).toNat * 6)).block, (ad142.add ((x4_3).toNat * 6)).off + 1, none⟩ = some (.string ((rd_T45 l0_6 x4_3).f1)) ∧ w'.cell? ⟨(ad142.add ((x4_3).toNat * 6)).block, (ad142.add ((x4_3).toNat * 6)).off + 2, none⟩ = some (.string ((rd_T45 l0_6 x4_3).f2)) ∧ w'.cell? ⟨(ad142.add ((x4_3).toNat * 6)).block, (ad142.add ((x4_3).toNat * 6)).off + 3, none⟩ = some (.int .i64 ((rd_T45 l0_6 x4_3).f3)) ∧ w'.cell? ⟨(ad142.add ((x4_3).toNat * 6)).block, (ad142.add ((x4_3).toNat * 6)).off + 4, none⟩ = some (.int .i64 ((rd_T45 l0_6 x4_3).f4)) ∧ w'.cell? ⟨(ad142.add ((x4_3).toNat * 6)).block, (ad142.add ((x4_3).toNat * 6)).off + 5, none⟩ = some (.int .i64 ((rd_T45 l0_6 x4_3).f5))) (ds := []) (m_ 21 0) (by kernel_rfl) rfl rfl ⟨ct BK139 0, ct BK139 1, ct BK139 2, ct BK139 3, ct BK139 4, ct BK139 5, ct BK139 6, ct BK139 7, ct BK139 8, (hx_ HB hw142_0 :), (hx_ HB hw142_1 :), (hx_ HB hw142_2 :), (hx_ HB hw142_3 :), (hx_ HB hw142_4 :), (hx_ HB hw142_5 :), (hx_ HB hw143_0 :), (hx_ HB hw143_1 :), (hx_ HB hw143_2 :), (hx_ HB hw143_3 :), (hx_ HB hw143_4 :), (hx_ HB hw143_5 :), (hx_ HB hw144_0 :), (hx_ HB hw144_1 :), (hx_ HB hw144_2 :), (hx_ HB hw144_3 :), (hx_ HB hw144_4 :), (hx_ HB hw144_5 :)⟩ (fun hHeld => ?_); refine with_tabW carrefourlaw06_Few.tab11 carrefourlaw06_Few.bits11 (fun HT_ HW_ => ?_)
            generalize wr.drew = w22 at BK139 HB hx142_0 hx142_1 hx142_2 hx142_3 hx142_4 hx142_5 hx143_0 hx143_1 hx143_2 hx143_3 hx143_4 hx143_5 hx144_0 hx144_1 hx144_2 hx144_3 hx144_4 hx144_5 hHeld ⊢
            refine pu_ 0 (some 36) (m_ 21 1) rfl rfl (ao HT_) ?_
            refine pu_ 2 (some 38) (m_ 21 5) rfl rfl (ao HT_) ?_
            refine pu_ 6 (some 42) (m_ 21 69) rfl rfl (ao HT_) ?_
            refine pu_ 8 (some 44) (m_ 21 325) rfl rfl (ao HT_) ?_
            refine pu_ 12 (some 48) (m_ 21 4421) rfl rfl (ao HT_) ?_
            refine pu_ 14 (some 50) (m_ 21 20805) rfl rfl (ao HT_) ?_
            refine tk_ 1 (some 37) (m_ 21 20807) rfl rfl (tw HT_ HW_) hHeld ?_
            refine pu_ 3 (some 39) (m_ 21 20815) rfl rfl (ao HT_) ?_
            refine pu_ 4 (some 40) (m_ 21 20831) rfl rfl (ao HT_) ?_
            refine tk_ 5 (some 41) (m_ 21 20863) rfl rfl (tw HT_ HW_) hHeld ?_
            refine tk_ 7 (some 43) (m_ 21 20991) rfl rfl (tw HT_ HW_) hHeld ?_
            refine pu_ 9 (some 45) (m_ 21 21503) rfl rfl (ao HT_) ?_
            refine pu_ 10 (some 46) (m_ 21 22527) rfl rfl (ao HT_) ?_
            refine tk_ 11 (some 47) (m_ 21 24575) rfl rfl (tw HT_ HW_) hHeld ?_
            refine tk_ 13 (some 49) (m_ 21 32767) rfl rfl (tw HT_ HW_) hHeld ?_
            refine pu_ 15 (some 51) (m_ 21 65535) rfl rfl (ao HT_) ?_
            refine pu_ 16 (some 52) (m_ 21 131071) rfl rfl (ao HT_) ?_
            refine tk_ 17 (some 53) (m_ 21 262143) rfl rfl (tw HT_ HW_) hHeld ?_
            refine o1_ 18 (some 54) (m_ 21 524287) rfl rfl (oo HT_) (fun K hK => ?_)
            refine Kd.R_lit_step Kd.string _ 9 ?hg (N := 54) ?hd (xs := ([(rd_T45 l0_6 x4_3).f0, (rd_T45 l0_6 x4_3).f1, (rd_T45 l0_6 x4_3).f2] : List ByteArray)) (inner := [.string ((rd_T45 l0_6 x4_3).f0), .string ((rd_T45 l0_6 x4_3).f1), .string ((rd_T45 l0_6 x4_3).f2)]) (ok := fun _ => True) (okp := fun _ => True) ?hr ?hp (fun _ hk => hk) trivial (Below.refl _ _) (Nat.le_refl _) (by simp) ?_; (case hd => rfl); (case hg => rfl); (case hr => first | (go_simp; done) | (go_simp; rfl)); (case hp => exact (Reps.one (show Kd.M Kd.string _ _ _ ((rd_T45 l0_6 x4_3).f0) [.string ((rd_T45 l0_6 x4_3).f0)] from rfl) (Reps.one (show Kd.M Kd.string _ _ _ ((rd_T45 l0_6 x4_3).f1) [.string ((rd_T45 l0_6 x4_3).f1)] from rfl) (Reps.one (show Kd.M Kd.string _ _ _ ((rd_T45 l0_6 x4_3).f2) [.string ((rd_T45 l0_6 x4_3).f2)] from rfl) (Reps.none _ _)))))
            intro v146 w23 ho24 hb hg_ hnew_
            clear hg_ hnew_
            (first | rw [← Ny145.out] at ho24 | (simp only [Int.reduceToNat] at ho24; rw [← Ny145.out] at ho24))
            have HO147 := Aside0.mk (Kd.R_lower ho24 (below_size (bf HB)))
            replace BK139 := bb BK139 hb
            replace HB := bs HB hb
            clear hb ho24
            obtain ⟨Ao25, co25, eo25⟩ := Kd.R_slice HO147.out
            (first | subst eo25 | (injection eo25 with f1_ f2_ f3_; have f4_ := f1_.symm; have f5_ := f3_.symm; clear f1_ f2_ f3_; subst f4_; subst f5_))
            refine hK.out _ _ ⟨ct BK139 0, ct BK139 1, ct BK139 2, ct BK139 3, ct BK139 4, ct BK139 5, ct BK139 6, ct BK139 7, ct BK139 8, (hx_ HB hw142_0 :), (hx_ HB hw142_1 :), (hx_ HB hw142_2 :), (hx_ HB hw142_3 :), (hx_ HB hw142_4 :), (hx_ HB hw142_5 :), (hx_ HB hw143_0 :), (hx_ HB hw143_1 :), (hx_ HB hw143_2 :), (hx_ HB hw143_3 :), (hx_ HB hw143_4 :), (hx_ HB hw143_5 :), (hx_ HB hw144_0 :), (hx_ HB hw144_1 :), (hx_ HB hw144_2 :), (hx_ HB hw144_3 :), (hx_ HB hw144_4 :), (hx_ HB hw144_5 :)⟩ (fun hHeld => ?_)
            clear hK K
            refine nr_ (some 54) ?_
            refine o1_ 19 (some 55) (m_ 21 1048575) rfl rfl (oo HT_) (fun K hK => ?_)
            refine gs_ rfl Tryz.func9 (carrefourlaw06_strings.calls _ _ _ _ _ _ ?side1 ?side2 A19.out) ag ?_
            (case side1 => exact rc HO147)
            (case side2 => exact (Kd.R_reads' HO147.out).2.1)
            rintro w' ⟨nd, rfl⟩
            refine hK.out _ _ ⟨ct BK139 0, ct BK139 1, ct BK139 2, ct BK139 3, ct BK139 4, ct BK139 5, ct BK139 6, ct BK139 7, ct BK139 8, (hx_ HB hw142_0 :), (hx_ HB hw142_1 :), (hx_ HB hw142_2 :), (hx_ HB hw142_3 :), (hx_ HB hw142_4 :), (hx_ HB hw142_5 :), (hx_ HB hw143_0 :), (hx_ HB hw143_1 :), (hx_ HB hw143_2 :), (hx_ HB hw143_3 :), (hx_ HB hw143_4 :), (hx_ HB hw143_5 :), (hx_ HB hw144_0 :), (hx_ HB hw144_1 :), (hx_ HB hw144_2 :), (hx_ HB hw144_3 :), (hx_ HB hw144_4 :), (hx_ HB hw144_5 :)⟩ (fun hHeld => ?_)
            clear hK K
            refine nr_ (some 55) ?_
            refine pu_ 20 (some 56) (m_ 21 2097151) rfl rfl (ao HT_) ?_
            refine done_ (done_of HT_.out (by kernel_rfl)) ?_
            try go_wp2
            go_roundg k3
            case measure => have := HJ1.out; have := HK2.out; have := HK3.out; omega
            case rel => exact ⟨(wrap64 (x4_3 + 1)), (aq), H', ⟨by have := HJ1.out; have := HK2.out; have := HK3.out; omega⟩, bu_ BK139, ⟨bf HB⟩⟩
           ·replace c20 := Bool.eq_false_iff.mpr c20
            subst c20
            have H1 : (some false) = some r := by rw [if_neg (show ¬ (false = true) by decide)] at H; exact H
            clear H
            have H := H1
            clear H1
            obtain rfl := Option.some.inj H
            have hcz26 := X.k9 BK139
            try go_wp2
            replace BK139 := Aside0.mk (blk_drew BK139.out)
            replace HB := Aside0.mk (below_drew1 HB.out)
            have p142 : 0 ≤ (x4_3 : Int) := od_
            have q142 : x4_3 < (l0_6.length : Int) := od_
            obtain ⟨ad142, e142, hx142_0, hx142_1, hx142_2, hx142_3, hx142_4, hx142_5⟩ := at_T45 HR0_6.out x4_3 p142 q142
            have hw142_5 := hx142_5
            have hw142_4 := hx142_4
            have hw142_3 := hx142_3
            have hw142_2 := hx142_2
            have hw142_1 := hx142_1
            have hw142_0 := hx142_0
            cases e142
            replace hx142_0 := hx_ HB hx142_0
            replace hx142_1 := hx_ HB hx142_1
            replace hx142_2 := hx_ HB hx142_2
            replace hx142_3 := hx_ HB hx142_3
            replace hx142_4 := hx_ HB hx142_4
            replace hx142_5 := hx_ HB hx142_5
            replace p142 := eq_true p142
            replace q142 := eq_true q142
            have p143 : 0 ≤ (x4_3 : Int) := od_
            have q143 : x4_3 < (l0_6.length : Int) := od_
            obtain ⟨ad143, e143, hx143_0, hx143_1, hx143_2, hx143_3, hx143_4, hx143_5⟩ := at_T45 HR0_6.out x4_3 p143 q143
            have hw143_5 := hx143_5
            have hw143_4 := hx143_4
            have hw143_3 := hx143_3
            have hw143_2 := hx143_2
            have hw143_1 := hx143_1
            have hw143_0 := hx143_0
            obtain rfl : ad142 = ad143 := (by injection e143)
            replace hx143_0 := hx_ HB hx143_0
            replace hx143_1 := hx_ HB hx143_1
            replace hx143_2 := hx_ HB hx143_2
            replace hx143_3 := hx_ HB hx143_3
            replace hx143_4 := hx_ HB hx143_4
            replace hx143_5 := hx_ HB hx143_5
            replace p143 := eq_true p143
            replace q143 := eq_true q143
            have p144 : 0 ≤ (x4_3 : Int) := od_
            have q144 : x4_3 < (l0_6.length : Int) := od_
            obtain ⟨ad144, e144, hx144_0, hx144_1, hx144_2, hx144_3, hx144_4, hx144_5⟩ := at_T45 HR0_6.out x4_3 p144 q144
            have hw144_5 := hx144_5
            have hw144_4 := hx144_4
            have hw144_3 := hx144_3
            have hw144_2 := hx144_2
            have hw144_1 := hx144_1
            have hw144_0 := hx144_0
            obtain rfl : ad142 = ad144 := (by injection e144)
            replace hx144_0 := hx_ HB hx144_0
            replace hx144_1 := hx_ HB hx144_1
            replace hx144_2 := hx_ HB hx144_2
            replace hx144_3 := hx_ HB hx144_3
            replace hx144_4 := hx_ HB hx144_4
            replace hx144_5 := hx_ HB hx144_5
            replace p144 := eq_true p144
            replace q144 := eq_true q144
            refine start_ (n := 21) (S := fun w' => c_ w' gb139 0 (.int .i64 a0_0) ∧ c_ w' gb139 1 (.int .i64 a0_1) ∧ c_ w' gb139 2 (.int .i64 a0_2) ∧ c_ w' gb139 3 (.int .i64 a0_3) ∧ c_ w' gb139 4 (.int .i64 a0_4) ∧ c_ w' gb139 5 (.slice A0_5 l0_5.length c0_5) ∧ c_ w' gb139 6 (.slice (some ad142) l0_6.length c0_6) ∧ c_ w' gb139 7 (.int .i64 a0_7) ∧ c_ w' gb139 8 (.int .i64 a0_8) ∧ w'.cell? (ad142.add ((x4_3).toNat * 6)) = some (.string ((rd_T45 l0_6 x4_3).f0)) ∧ w'.cell? ⟨(ad142.add ((x4_3).toNat * 6)).block, (ad142.add ((x4_3).toNat * 6)).off + 1, none⟩ = some (.string ((rd_T45 l0_6 x4_3).f1)) ∧ w'.cell? ⟨(ad142.add ((x4_3).toNat * 6)).block, (ad142.add ((x4_3).toNat * 6)).off + 2, none⟩ = some (.string ((rd_T45 l0_6 x4_3).f2)) ∧ w'.cell? ⟨(ad142.add ((x4_3).toNat * 6)).block, (ad142.add ((x4_3).toNat * 6)).off + 3, none⟩ = some (.int .i64 ((rd_T45 l0_6 x4_3).f3)) ∧ w'.cell? ⟨(ad142.add ((x4_3).toNat * 6)).block, (ad142.add ((x4_3).toNat * 6)).off + 4, none⟩ = some (.int .i64 ((rd_T45 l0_6 x4_3).f4)) ∧ w'.cell? ⟨(ad142.add ((x4_3).toNat * 6)).block, (ad142.add ((x4_3).toNat * 6)).off + 5, none⟩ = some (.int .i64 ((rd_T45 l0_6 x4_3).f5)) ∧ w'.cell? (ad142.add ((x4_3).toNat * 6)) = some (.string ((rd_T45 l0_6 x4_3).f0)) ∧ w'.cell? ⟨(ad142.add ((x4_3).toNat * 6)).block, (ad142.add ((x4_3).toNat * 6)).off + 1, none⟩ = some (.string ((rd_T45 l0_6 x4_3).f1)) ∧ w'.cell? ⟨(ad142.add ((x4_3).toNat * 6)).block, (ad142.add ((x4_3).toNat * 6)).off + 2, none⟩ = some (.string ((rd_T45 l0_6 x4_3).f2)) ∧ w'.cell? ⟨(ad142.add ((x4_3).toNat * 6)).block, (ad142.add ((x4_3).toNat * 6)).off + 3, none⟩ = some (.int .i64 ((rd_T45 l0_6 x4_3).f3)) ∧ w'.cell? ⟨(ad142.add ((x4_3).toNat * 6)).block, (ad142.add ((x4_3).toNat * 6)).off + 4, none⟩ = some (.int .i64 ((rd_T45 l0_6 x4_3).f4)) ∧ w'.cell? ⟨(ad142.add ((x4_3).toNat * 6)).block, (ad142.add ((x4_3).toNat * 6)).off + 5, none⟩ = some (.int .i64 ((rd_T45 l0_6 x4_3).f5)) ∧ w'.cell? (ad142.add ((x4_3).toNat * 6)) = some (.string ((rd_T45 l0_6 x4_3).f0)) ∧ w'.cell? ⟨(ad142.add ((x4_3).toNat * 6)).block, (ad142.add ((x4_3).toNat * 6)).off + 1, none⟩ = some (.string ((rd_T45 l0_6 x4_3).f1)) ∧ w'.cell? ⟨(ad142.add ((x4_3).toNat * 6)).block, (ad142.add ((x4_3).toNat * 6)).off + 2, none⟩ = some (.string ((rd_T45 l0_6 x4_3).f2)) ∧ w'.cell? ⟨(ad142.add ((x4_3).toNat * 6)).block, (ad142.add ((x4_3).toNat * 6)).off + 3, none⟩ = some (.int .i64 ((rd_T45 l0_6 x4_3).f3)) ∧ w'.cell? ⟨(ad142.add ((x4_3).toNat * 6)).block, (ad142.add ((x4_3).toNat * 6)).off + 4, none⟩ = some (.int .i64 ((rd_T45 l0_6 x4_3).f4)) ∧ w'.cell? ⟨(ad142.add ((x4_3).toNat * 6)).block, (ad142.add ((x4_3).toNat * 6)).off + 5, none⟩ = some (.int .i64 ((rd_T45 l0_6 x4_3).f5))) (ds := []) (m_ 21 0) (by kernel_rfl) rfl rfl ⟨ct BK139 0, ct BK139 1, ct BK139 2, ct BK139 3, ct BK139 4, ct BK139 5, ct BK139 6, ct BK139 7, ct BK139 8, (hx_ HB hw142_0 :), (hx_ HB hw142_1 :), (hx_ HB hw142_2 :), (hx_ HB hw142_3 :), (hx_ HB hw142_4 :), (hx_ HB hw142_5 :), (hx_ HB hw143_0 :), (hx_ HB hw143_1 :), (hx_ HB hw143_2 :), (hx_ HB hw143_3 :), (hx_ HB hw143_4 :), (hx_ HB hw143_5 :), (hx_ HB hw144_0 :), (hx_ HB hw144_1 :), (hx_ HB hw144_2 :), (hx_ HB hw144_3 :), (hx_ HB hw144_4 :), (hx_ HB hw144_5 :)⟩ (fun hHeld => ?_); refine with_tabW carrefourlaw06_Few.tab11 carrefourlaw06_Few.bits11 (fun HT_ HW_ => ?_)
            generalize wr.drew = w27 at BK139 HB hx142_0 hx142_1 hx142_2 hx142_3 hx142_4 hx142_5 hx143_0 hx143_1 hx143_2 hx143_3 hx143_4 hx143_5 hx144_0 hx144_1 hx144_2 hx144_3 hx144_4 hx144_5 hHeld ⊢
            refine pu_ 0 (some 36) (m_ 21 1) rfl rfl (ao HT_) ?_
            refine pu_ 2 (some 38) (m_ 21 5) rfl rfl (ao HT_) ?_
            refine pu_ 6 (some 42) (m_ 21 69) rfl rfl (ao HT_) ?_
            refine pu_ 8 (some 44) (m_ 21 325) rfl rfl (ao HT_) ?_
            refine pu_ 12 (some 48) (m_ 21 4421) rfl rfl (ao HT_) ?_
            refine pu_ 14 (some 50) (m_ 21 20805) rfl rfl (ao HT_) ?_
            refine tk_ 1 (some 37) (m_ 21 20807) rfl rfl (tw HT_ HW_) hHeld ?_
            refine pu_ 3 (some 39) (m_ 21 20815) rfl rfl (ao HT_) ?_
            refine pu_ 4 (some 40) (m_ 21 20831) rfl rfl (ao HT_) ?_
            refine tk_ 5 (some 41) (m_ 21 20863) rfl rfl (tw HT_ HW_) hHeld ?_
            refine tk_ 7 (some 43) (m_ 21 20991) rfl rfl (tw HT_ HW_) hHeld ?_
            refine pu_ 9 (some 45) (m_ 21 21503) rfl rfl (ao HT_) ?_
            refine pu_ 10 (some 46) (m_ 21 22527) rfl rfl (ao HT_) ?_
            refine tk_ 11 (some 47) (m_ 21 24575) rfl rfl (tw HT_ HW_) hHeld ?_
            refine tk_ 13 (some 49) (m_ 21 32767) rfl rfl (tw HT_ HW_) hHeld ?_
            refine pu_ 15 (some 51) (m_ 21 65535) rfl rfl (ao HT_) ?_
            refine pu_ 16 (some 52) (m_ 21 131071) rfl rfl (ao HT_) ?_
            refine tk_ 17 (some 53) (m_ 21 262143) rfl rfl (tw HT_ HW_) hHeld ?_
            refine o1_ 18 (some 54) (m_ 21 524287) rfl rfl (oo HT_) (fun K hK => ?_)
            refine Kd.R_lit_step Kd.string _ 9 ?hg (N := 54) ?hd (xs := ([(rd_T45 l0_6 x4_3).f0, (rd_T45 l0_6 x4_3).f1, (rd_T45 l0_6 x4_3).f2] : List ByteArray)) (inner := [.string ((rd_T45 l0_6 x4_3).f0), .string ((rd_T45 l0_6 x4_3).f1), .string ((rd_T45 l0_6 x4_3).f2)]) (ok := fun _ => True) (okp := fun _ => True) ?hr ?hp (fun _ hk => hk) trivial (Below.refl _ _) (Nat.le_refl _) (by simp) ?_; (case hd => rfl); (case hg => rfl); (case hr => first | (go_simp; done) | (go_simp; rfl)); (case hp => exact (Reps.one (show Kd.M Kd.string _ _ _ ((rd_T45 l0_6 x4_3).f0) [.string ((rd_T45 l0_6 x4_3).f0)] from rfl) (Reps.one (show Kd.M Kd.string _ _ _ ((rd_T45 l0_6 x4_3).f1) [.string ((rd_T45 l0_6 x4_3).f1)] from rfl) (Reps.one (show Kd.M Kd.string _ _ _ ((rd_T45 l0_6 x4_3).f2) [.string ((rd_T45 l0_6 x4_3).f2)] from rfl) (Reps.none _ _)))))
            intro v146 w28 ho29 hb hg_ hnew_
            clear hg_ hnew_
            (first | rw [← Ny145.out] at ho29 | (simp only [Int.reduceToNat] at ho29; rw [← Ny145.out] at ho29))
            have HO147 := Aside0.mk (Kd.R_lower ho29 (below_size (bf HB)))
            replace BK139 := bb BK139 hb
            replace HB := bs HB hb
            clear hb ho29
            obtain ⟨Ao30, co30, eo30⟩ := Kd.R_slice HO147.out
            (first | subst eo30 | (injection eo30 with f1_ f2_ f3_; have f4_ := f1_.symm; have f5_ := f3_.symm; clear f1_ f2_ f3_; subst f4_; subst f5_))
            refine hK.out _ _ ⟨ct BK139 0, ct BK139 1, ct BK139 2, ct BK139 3, ct BK139 4, ct BK139 5, ct BK139 6, ct BK139 7, ct BK139 8, (hx_ HB hw142_0 :), (hx_ HB hw142_1 :), (hx_ HB hw142_2 :), (hx_ HB hw142_3 :), (hx_ HB hw142_4 :), (hx_ HB hw142_5 :), (hx_ HB hw143_0 :), (hx_ HB hw143_1 :), (hx_ HB hw143_2 :), (hx_ HB hw143_3 :), (hx_ HB hw143_4 :), (hx_ HB hw143_5 :), (hx_ HB hw144_0 :), (hx_ HB hw144_1 :), (hx_ HB hw144_2 :), (hx_ HB hw144_3 :), (hx_ HB hw144_4 :), (hx_ HB hw144_5 :)⟩ (fun hHeld => ?_)
            clear hK K
            refine nr_ (some 54) ?_
            refine o1_ 19 (some 55) (m_ 21 1048575) rfl rfl (oo HT_) (fun K hK => ?_)
            refine gs_ rfl Tryz.func9 (carrefourlaw06_strings.calls _ _ _ _ _ _ ?side1 ?side2 A19.out) ag ?_
            (case side1 => exact rc HO147)
            (case side2 => exact (Kd.R_reads' HO147.out).2.1)
            rintro w' ⟨nd, rfl⟩
            refine hK.out _ _ ⟨ct BK139 0, ct BK139 1, ct BK139 2, ct BK139 3, ct BK139 4, ct BK139 5, ct BK139 6, ct BK139 7, ct BK139 8, (hx_ HB hw142_0 :), (hx_ HB hw142_1 :), (hx_ HB hw142_2 :), (hx_ HB hw142_3 :), (hx_ HB hw142_4 :), (hx_ HB hw142_5 :), (hx_ HB hw143_0 :), (hx_ HB hw143_1 :), (hx_ HB hw143_2 :), (hx_ HB hw143_3 :), (hx_ HB hw143_4 :), (hx_ HB hw143_5 :), (hx_ HB hw144_0 :), (hx_ HB hw144_1 :), (hx_ HB hw144_2 :), (hx_ HB hw144_3 :), (hx_ HB hw144_4 :), (hx_ HB hw144_5 :)⟩ (fun hHeld => ?_)
            clear hK K
            refine nr_ (some 55) ?_
            refine pu_ 20 (some 56) (m_ 21 2097151) rfl rfl (ao HT_) ?_
            refine done_ (done_of HT_.out (by kernel_rfl)) ?_
            try go_wp2
            go_ret
            exact ⟨ae, bf HB⟩
          ·rw [if_neg c18] at H
           exact absurd H (by simp)
         ·rw [if_neg c17] at H
          have c17b0 : decide (x4_3 < (l0_6.length : Int)) = false := decide_eq_false c17
          clear c17
          obtain rfl := Option.some.inj H
          have hcz31 := X.k9 BK139
          go_wp2
          go_ret
          exact ⟨ae, bf HB⟩

end Go.Proofs.YtfhokgkpcphmlaaGreatDoor.X
