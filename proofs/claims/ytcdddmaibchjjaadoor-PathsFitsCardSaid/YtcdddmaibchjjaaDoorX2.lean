/- Walks: each '.calls' says that the Go function comes to what its Lean function tells. Conditions: as each theorem's head says. -/
import Derived.Test.YtcdddmaibchjjaaDoorXD
import Derived.Test.YtcdddmaibchjjaaDoorX0
import Derived.Test.YtcdddmaibchjjaaDoorX1
namespace Go.Proofs.YtcdddmaibchjjaaDoor.X
open Go.RowKit Go.Proofs.YtcdddmaibchjjaaDoorW.PrintWords Go.Proofs.YtcdddmaibchjjaaDoorW.PrintLast Go.Proofs.YtcdddmaibchjjaaDoorW.PrintMore
attribute [local go_sem] max2_int min2_int max_two min_two max_three min_three max_four min_four   -- for this text's walks alone
set_option linter.unusedVariables false
set_option maxHeartbeats 8000000
set_option maxRecDepth 100000
set_option linter.unusedSimpArgs false

/-! ### carrefourlaw14_PathsFits: function 5 -/
def carrefourlaw14_PathsFits.T11 : Bool × List (List Nat × List Nat) := (true, [([], []), ([], []), ([], []), ([1, 2], [1, 2]), ([3], [3]), ([4], [4]), ([0, 5], [0, 5]), ([6], [6]), ([7], [7]), ([8], [8]), ([9], [9]), ([9], [9]), ([9], [9]), ([11, 12, 9], [9, 11, 12]), ([13, 9], [9, 13]), ([14, 9], [9, 14]), ([10, 15, 9], [9, 10, 15]), ([16, 9], [9, 16]), ([9], [9]), ([9], [9]), ([9], [9]), ([19, 20, 9], [9, 19, 20]), ([21, 9], [9, 21]), ([22, 9], [9, 22]), ([18, 23, 9], [9, 18, 23]), ([24, 9], [9, 24]), ([9], [9]), ([9], [9]), ([26, 27, 9], [9, 26, 27]), ([28, 9], [9, 28]), ([29, 9], [9, 29]), ([25, 30, 9], [9, 25, 30]), ([17, 31, 9], [9, 17, 31]), ([9, 32], [9, 32])])
def carrefourlaw14_PathsFits.B11 : List Nat := [0, 0, 0, 6, 14, 30, 63, 127, 255, 511, 1023, 1023, 1023, 7167, 15359, 31743, 65535, 131071, 1023, 1023, 1023, 1573887, 3671039, 7865343, 16516095, 33293311, 1023, 1023, 201327615, 469763071, 1006633983, 2147222527, 4294967295, 8589934591]
theorem carrefourlaw14_PathsFits.tab11 : rtab .any (opsOf Tryd.f5 11) = carrefourlaw14_PathsFits.T11 := by kernel_rfl
theorem carrefourlaw14_PathsFits.bits11 : waitsOk carrefourlaw14_PathsFits.T11.2 carrefourlaw14_PathsFits.B11 = true := by kernel_rfl
def carrefourlaw14_PathsFits.T20 : Bool × List (List Nat × List Nat) := (true, [([], []), ([0], [0]), ([1], [1]), ([2], [2]), ([3], [3]), ([4, 3], [3, 4]), ([5, 3], [3, 5]), ([6, 3], [3, 6]), ([3, 7], [3, 7]), ([8, 3], [8]), ([9], [9]), ([9], [9]), ([11, 9], [9, 11]), ([12, 9], [9, 12]), ([10, 13, 9], [9, 10, 13]), ([14, 9], [9, 14]), ([9], [9]), ([15, 16, 9], [9, 15, 16]), ([9, 17], [9, 17]), ([18, 9], [18]), ([19], [19]), ([19], [19]), ([20, 21, 19, 19], [19, 20, 21]), ([19], [19]), ([19], [19]), ([23, 24, 19], [19, 23, 24]), ([25, 19], [19, 25]), ([22, 26, 19], [19, 22, 26]), ([19, 27], [19, 27])])
def carrefourlaw14_PathsFits.B20 : List Nat := [0, 1, 3, 7, 15, 31, 63, 127, 255, 511, 1023, 1023, 3071, 7167, 16383, 32767, 1023, 131071, 262143, 524287, 1048575, 1048575, 4194303, 1048575, 1048575, 26214399, 59768831, 134217727, 268435455]
theorem carrefourlaw14_PathsFits.tab20 : rtab .any (opsOf Tryd.f5 20) = carrefourlaw14_PathsFits.T20 := by kernel_rfl
theorem carrefourlaw14_PathsFits.bits20 : waitsOk carrefourlaw14_PathsFits.T20.2 carrefourlaw14_PathsFits.B20 = true := by kernel_rfl
theorem carrefourlaw14_PathsFits.calls (k : Nat) (a0 : Int) (A1 : Option Addr) (c1 : Nat) (l1 : List (S34)) (r : Bool) (w : World) (hr1 : Kd.C k34 w A1 l1.length l1) (hc1 : l1.length ≤ c1) (h : carrefourlaw14_PathsFits.f k a0 l1 = some r) (hT : TabOK w) :
  Calls Tryd.prog 5 #[.int .i64 a0, .slice A1 l1.length c1] w fun e w' => e = .returned (.bool r) ∧ Below w.heap.size w w' := by
 have GT := Aside0.mk hT
 clear hT
 have HR1 := Aside0.mk hr1
 have HC1 := Aside0.mk hc1
 clear hr1 hc1
 have HB := Aside0.mk (Below.refl w.heap.size w)
 have H : ((carrefourlaw14_few.f a0 l1).bind fun t128 => (if t128 = true then ((paths_Longest.f k a0 l1).bind fun bt129 => (if bt129.2 = 0 then (if (bt129.1.length : Int) = a0 then (if 0 < (bt129.1.length : Int) then (carrefourlaw14_PathsFits.j0 k a0 l1 bt129.1 ((rd bt129.1 0) != 0)) else (none)) else (carrefourlaw14_PathsFits.j0 k a0 l1 bt129.1 true)) else (if (bt129.1.length : Int) = 0 then ((carrefourlaw14_awake.f k).bind fun t133 => (some t133)) else (some false)))) else (some true))) = some r := h
 clear h
 replace H := bi_ H; obtain ⟨t128, A3, H⟩ := H
 (try dsimp only at H)
 by_cases c4 : t128 = true
 ·subst c4
  have H1 : ((paths_Longest.f k a0 l1).bind fun bt129 => (if bt129.2 = 0 then (if (bt129.1.length : Int) = a0 then (if 0 < (bt129.1.length : Int) then (carrefourlaw14_PathsFits.j0 k a0 l1 bt129.1 ((rd bt129.1 0) != 0)) else (none)) else (carrefourlaw14_PathsFits.j0 k a0 l1 bt129.1 true)) else (if (bt129.1.length : Int) = 0 then ((carrefourlaw14_awake.f k).bind fun t133 => (some t133)) else (some false)))) = some r := by rw [if_pos rfl] at H; exact H
  clear H
  have H := H1
  clear H1
  replace H := bi_ H; obtain ⟨⟨t129, t130⟩, A5, H⟩ := H
  (try dsimp only at H)
  by_cases c6 : t130 = 0
  ·rw [if_pos c6] at H
   have c6b0 : (t130 == 0) = true := beq_iff_eq.mpr c6
   have c6b1 : (t130 != 0) = false := bne_eq_false_iff_eq.mpr c6
   clear c6
   have HC7 := Aside0.mk H
   clear H
   go_enter Tryd.func5, Tryd.ntmps5
   go_upto_region 6 with (first | ((with_reducible refine gc 7 rfl ?_); refine gm_ (some 12) rfl rfl Tryd.func7 (carrefourlaw14_few.calls _ _ _ _ _ _ ?side1 ?side2 A3.out) ag ?_; (case side1 => repeat (first | exact HR1.out | (with_reducible refine Kd.C_alloc ?_ _) | (with_reducible refine Kd.C_drewN ?_ _) | (with_reducible refine Kd.C_drew ?_))); (case side2 => exact HC1.out); rintro w' ⟨nd, rfl⟩) | ((with_reducible refine gc 8 rfl ?_); refine gl_ (some 17) rfl rfl Tryd.func8 ((paths_Longest.calls _ _ _ _ _ _ _ _ ?side1 ?side2 A5.out (tt GT)).mono ?_) ag; (case side1 => repeat (first | exact HR1.out | (with_reducible refine Kd.C_alloc ?_ _) | (with_reducible refine Kd.C_drewN ?_ _) | (with_reducible refine Kd.C_drew ?_))); (case side2 => exact HC1.out); rintro e w8 ⟨v131, rfl, ho0, hb⟩; refine ⟨_, rfl, ?_⟩; have HO132 := Aside0.mk (Kd.R_lower ho0 (below_size (bf HB))); replace HB := bs HB hb; (try clear hb); (try clear ho0)))
   (try simp only [Act.put, si, s0, s1])
   go_cut [37] (fun v37 wc => ∃ (kq : Nat) (x37_6 : Bool), v37 = .bool x37_6 ∧ Aside0 (carrefourlaw14_PathsFits.j0 kq a0 l1 t129 x37_6 = some r) ∧ Aside0 (kq ≤ k) ∧ Aside0 (Kd.R (Kd.int .i64) 2 wc w.heap.size (fun _ => True) v131 t129) ∧ Aside0 (Below w.heap.size w wc))
   case first =>
    have H := HC7.out
    clear HC7
    by_cases c9 : (t129.length : Int) = a0
    ·rw [if_pos c9] at H
     have c9b0 : ((t129.length : Int) == a0) = true := beq_iff_eq.mpr c9
     have c9b1 : ((t129.length : Int) != a0) = false := bne_eq_false_iff_eq.mpr c9
     clear c9
     (first | rw [c9b0] | (simp only [i64_w, i32_w]; rw [c9b0]) | skip)
     by_cases c10 : 0 < (t129.length : Int)
     ·rw [if_pos c10] at H
      have c10b0 : decide (0 < (t129.length : Int)) = true := decide_eq_true c10
      have c10b1 : decide (0 < t129.length) = true := decide_eq_true (by omega)
      clear c10
      have H' := Aside0.mk H
      clear H
      obtain ⟨Ao11, co11, eo11⟩ := Kd.R_slice HO132.out
      subst eo11
      have p134 : 0 ≤ (0 : Int) := (by omega)
      have q134 : 0 < (t129.length : Int) := od_
      obtain ⟨ad134, e134, hx134_0⟩ := Kd.at_int (Kd.R_reads' HO132.out).2.2 0 p134 q134
      cases e134
      have qi134 : (0 < t129.length) = True := eq_true (by omega)
      (try rw [show ((0 : Int)).toNat = 0 from rfl] at hx134_0)
      (try rw [Addr.add_zero'] at hx134_0)
      replace p134 := eq_true p134
      replace q134 := eq_true q134
      go_wp2
      go_meet
      case rel => exact ⟨_, (((rd t129 0) != 0)), (aq), H', ⟨by first | omega | exact Nat.le_refl _⟩, ⟨Rt_ HO132.out⟩, ⟨bf HB⟩⟩
     ·rw [if_neg c10] at H
      exact absurd H (by simp)
    ·rw [if_neg c9] at H
     have c9b0 : ((t129.length : Int) == a0) = false := beq_eq_false_iff_ne.mpr c9
     have c9b1 : ((t129.length : Int) != a0) = true := bne_iff_ne.mpr c9
     (first | rw [c9b0] | (simp only [i64_w, i32_w]; rw [c9b0]) | skip)
     have H' := Aside0.mk H
     clear H
     obtain ⟨Ao12, co12, eo12⟩ := Kd.R_slice HO132.out
     subst eo12
     go_wp2
     go_meet
     case rel => exact ⟨_, (true), (aq), H', ⟨by first | omega | exact Nat.le_refl _⟩, ⟨Rt_ HO132.out⟩, ⟨bf HB⟩⟩
   case rest =>
    clear HC7
    (try clear c1); (try clear p1); (try clear q1); (try clear hx1); (try clear qi1); (try clear p2); (try clear c4); (try clear c5); (try clear c6); (try clear c6b0); (try clear c6b1); (try clear c7); (try clear c8); (try clear c9); (try clear c9b0); (try clear c9b1); (try clear c10); (try clear c10b0); (try clear c10b1); (try clear hx134_0); (try clear p134); (try clear q134)
    obtain ⟨kq, x37_6, rfl, HA, HJ6, HO_5, HB⟩ := hcut
    cases kq with
    | zero => exact absurd HA.out (by simp [carrefourlaw14_PathsFits.j0])
    | succ kj6 =>
     have H := HA.out
     clear HA
     simp only [carrefourlaw14_PathsFits.j0] at H
     by_cases c13 : x37_6 = true
     ·subst c13
      have H1 : (some false) = some r := by rw [if_pos rfl] at H; exact H
      clear H
      have H := H1
      clear H1
      obtain rfl := Option.some.inj H
      go_wp2
      go_ret
      exact ⟨ae, bf HB⟩
     ·replace c13 := Bool.eq_false_iff.mpr c13
      subst c13
      have H1 : (carrefourlaw14_PathsFits.l0 kj6 a0 l1 t129 0) = some r := by rw [if_neg (show ¬ (false = true) by decide)] at H; exact H
      clear H
      have H := H1
      clear H1
      have H' := Aside0.mk H
      clear H
      go_wp2
      go_loopg [7] kj6 (fun kq v7 w' => ∃ (x7_2 : Int), v7 = .int .i64 x7_2 ∧ Aside0 (carrefourlaw14_PathsFits.l0 kq a0 l1 t129 x7_2 = some r) ∧ Aside0 (kq ≤ kj6) ∧ Aside0 (Kd.R (Kd.int .i64) 2 w' w.heap.size (fun _ => True) v131 t129) ∧ Aside0 (Below w.heap.size w w'))
      case atStart => exact ⟨(0), (aq), H', ⟨Nat.le_refl _⟩, ⟨Rt_ HO_5.out⟩, ⟨bf HB⟩⟩
      case round =>
       clear H'
       (try clear c1); (try clear p1); (try clear q1); (try clear hx1); (try clear qi1); (try clear p2); (try clear c4); (try clear c5); (try clear c6); (try clear c6b0); (try clear c6b1); (try clear c7); (try clear c8); (try clear c9); (try clear c9b0); (try clear c9b1); (try clear c10); (try clear c10b0); (try clear c10b1); (try clear c13); (try clear p13); (try clear q13); (try clear hx13); (try clear qi13); (try clear hx134_0); (try clear p1); (try clear p134); (try clear p2); (try clear q1); (try clear q134)
       obtain ⟨x7_2, rfl, HA, HK2, HO_5, HB⟩ := hrel
       cases gk with
       | zero => exact absurd HA.out (by simp [carrefourlaw14_PathsFits.l0])
       | succ k2 =>
        have H := HA.out
        clear HA
        simp only [carrefourlaw14_PathsFits.l0] at H
        by_cases c14 : x7_2 < (l1.length : Int)
        ·rw [if_pos c14] at H
         have c14b0 : decide (x7_2 < (l1.length : Int)) = true := decide_eq_true c14
         clear c14
         by_cases c15 : 0 ≤ x7_2
         ·rw [if_pos c15] at H
          have c15b0 : decide (0 ≤ x7_2) = true := decide_eq_true c15
          clear c15
          by_cases c16 : 0 ≤ ((rd_T34 l1 x7_2).f0)
          ·rw [if_pos c16] at H
           have c16b0 : decide (0 ≤ ((rd_T34 l1 x7_2).f0)) = true := decide_eq_true c16
           clear c16
           by_cases c17 : ((rd_T34 l1 x7_2).f0) < (t129.length : Int)
           ·rw [if_pos c17] at H
            have c17b0 : decide (((rd_T34 l1 x7_2).f0) < (t129.length : Int)) = true := decide_eq_true c17
            clear c17
            by_cases c18 : (rd t129 ((rd_T34 l1 x7_2).f0)) ≥ 0
            ·rw [if_pos c18] at H
             have c18b0 : decide (0 ≤ (rd t129 ((rd_T34 l1 x7_2).f0))) = true := decide_eq_true c18
             clear c18
             by_cases c19 : 0 ≤ ((rd_T34 l1 x7_2).f1)
             ·rw [if_pos c19] at H
              have c19b0 : decide (0 ≤ ((rd_T34 l1 x7_2).f1)) = true := decide_eq_true c19
              clear c19
              by_cases c20 : ((rd_T34 l1 x7_2).f1) < (t129.length : Int)
              ·rw [if_pos c20] at H
               have c20b0 : decide (((rd_T34 l1 x7_2).f1) < (t129.length : Int)) = true := decide_eq_true c20
               clear c20
               by_cases c21 : (rd t129 ((rd_T34 l1 x7_2).f1)) < (wrap64 ((rd t129 ((rd_T34 l1 x7_2).f0)) + ((rd_T34 l1 x7_2).f2)))
               ·rw [if_pos c21] at H
                have c21b0 : decide ((rd t129 ((rd_T34 l1 x7_2).f1)) < (wrap64 ((rd t129 ((rd_T34 l1 x7_2).f0)) + ((rd_T34 l1 x7_2).f2)))) = true := decide_eq_true c21
                clear c21
                obtain rfl := Option.some.inj H
                try go_wp2
                replace HO_5 := Aside0.mk (Kd.R_drew HO_5.out)
                replace HB := Aside0.mk (below_drew1 HB.out)
                have p135 : 0 ≤ (x7_2 : Int) := od_
                have q135 : x7_2 < (l1.length : Int) := od_
                obtain ⟨ad135, e135, hx135_0, hx135_1, hx135_2⟩ := at_T34 HR1.out x7_2 p135 q135
                have hw135_2 := hx135_2
                have hw135_1 := hx135_1
                have hw135_0 := hx135_0
                cases e135
                replace hx135_0 := hx_ HB hx135_0
                replace hx135_1 := hx_ HB hx135_1
                replace hx135_2 := hx_ HB hx135_2
                replace p135 := eq_true p135
                replace q135 := eq_true q135
                obtain ⟨Ao23, co23, eo23⟩ := Kd.R_slice HO_5.out
                (first | subst eo23 | (injection eo23 with f1_ f2_ f3_; have f4_ := f1_.symm; have f5_ := f3_.symm; clear f1_ f2_ f3_; subst f4_; subst f5_))
                have p136 : 0 ≤ (((rd_T34 l1 x7_2).f0) : Int) := od_
                have q136 : ((rd_T34 l1 x7_2).f0) < (t129.length : Int) := od_
                obtain ⟨ad136, e136, hx136_0⟩ := Kd.at_int (Kd.R_reads' HO_5.out).2.2 ((rd_T34 l1 x7_2).f0) p136 q136
                cases e136
                replace p136 := eq_true p136
                replace q136 := eq_true q136
                have p137 : 0 ≤ (x7_2 : Int) := od_
                have q137 : x7_2 < (l1.length : Int) := od_
                obtain ⟨ad137, e137, hx137_0, hx137_1, hx137_2⟩ := at_T34 HR1.out x7_2 p137 q137
                have hw137_2 := hx137_2
                have hw137_1 := hx137_1
                have hw137_0 := hx137_0
                obtain rfl : ad135 = ad137 := (by injection e137)
                replace hx137_0 := hx_ HB hx137_0
                replace hx137_1 := hx_ HB hx137_1
                replace hx137_2 := hx_ HB hx137_2
                replace p137 := eq_true p137
                replace q137 := eq_true q137
                have p138 : 0 ≤ (((rd_T34 l1 x7_2).f1) : Int) := od_
                have q138 : ((rd_T34 l1 x7_2).f1) < (t129.length : Int) := od_
                obtain ⟨ad138, e138, hx138_0⟩ := Kd.at_int (Kd.R_reads' HO_5.out).2.2 ((rd_T34 l1 x7_2).f1) p138 q138
                obtain rfl : ad136 = ad138 := (by injection e138)
                replace p138 := eq_true p138
                replace q138 := eq_true q138
                have p139 : 0 ≤ (x7_2 : Int) := od_
                have q139 : x7_2 < (l1.length : Int) := od_
                obtain ⟨ad139, e139, hx139_0, hx139_1, hx139_2⟩ := at_T34 HR1.out x7_2 p139 q139
                have hw139_2 := hx139_2
                have hw139_1 := hx139_1
                have hw139_0 := hx139_0
                obtain rfl : ad135 = ad139 := (by injection e139)
                replace hx139_0 := hx_ HB hx139_0
                replace hx139_1 := hx_ HB hx139_1
                replace hx139_2 := hx_ HB hx139_2
                replace p139 := eq_true p139
                replace q139 := eq_true q139
                have p140 : 0 ≤ (((rd_T34 l1 x7_2).f0) : Int) := od_
                have q140 : ((rd_T34 l1 x7_2).f0) < (t129.length : Int) := od_
                obtain ⟨ad140, e140, hx140_0⟩ := Kd.at_int (Kd.R_reads' HO_5.out).2.2 ((rd_T34 l1 x7_2).f0) p140 q140
                obtain rfl : ad136 = ad140 := (by injection e140)
                replace p140 := eq_true p140
                replace q140 := eq_true q140
                have p141 : 0 ≤ (x7_2 : Int) := od_
                have q141 : x7_2 < (l1.length : Int) := od_
                obtain ⟨ad141, e141, hx141_0, hx141_1, hx141_2⟩ := at_T34 HR1.out x7_2 p141 q141
                have hw141_2 := hx141_2
                have hw141_1 := hx141_1
                have hw141_0 := hx141_0
                obtain rfl : ad135 = ad141 := (by injection e141)
                replace hx141_0 := hx_ HB hx141_0
                replace hx141_1 := hx_ HB hx141_1
                replace hx141_2 := hx_ HB hx141_2
                replace p141 := eq_true p141
                replace q141 := eq_true q141
                refine start_ (n := 34) (S := fun w' => w'.cell? (ad135.add ((x7_2).toNat * 3)) = some (.int .i64 ((rd_T34 l1 x7_2).f0)) ∧ w'.cell? ⟨(ad135.add ((x7_2).toNat * 3)).block, (ad135.add ((x7_2).toNat * 3)).off + 1, none⟩ = some (.int .i64 ((rd_T34 l1 x7_2).f1)) ∧ w'.cell? ⟨(ad135.add ((x7_2).toNat * 3)).block, (ad135.add ((x7_2).toNat * 3)).off + 2, none⟩ = some (.int .i64 ((rd_T34 l1 x7_2).f2)) ∧ w'.cell? (ad136.add (((rd_T34 l1 x7_2).f0)).toNat) = some (.int .i64 (rd t129 ((rd_T34 l1 x7_2).f0))) ∧ w'.cell? (ad135.add ((x7_2).toNat * 3)) = some (.int .i64 ((rd_T34 l1 x7_2).f0)) ∧ w'.cell? ⟨(ad135.add ((x7_2).toNat * 3)).block, (ad135.add ((x7_2).toNat * 3)).off + 1, none⟩ = some (.int .i64 ((rd_T34 l1 x7_2).f1)) ∧ w'.cell? ⟨(ad135.add ((x7_2).toNat * 3)).block, (ad135.add ((x7_2).toNat * 3)).off + 2, none⟩ = some (.int .i64 ((rd_T34 l1 x7_2).f2)) ∧ w'.cell? (ad136.add (((rd_T34 l1 x7_2).f1)).toNat) = some (.int .i64 (rd t129 ((rd_T34 l1 x7_2).f1))) ∧ w'.cell? (ad135.add ((x7_2).toNat * 3)) = some (.int .i64 ((rd_T34 l1 x7_2).f0)) ∧ w'.cell? ⟨(ad135.add ((x7_2).toNat * 3)).block, (ad135.add ((x7_2).toNat * 3)).off + 1, none⟩ = some (.int .i64 ((rd_T34 l1 x7_2).f1)) ∧ w'.cell? ⟨(ad135.add ((x7_2).toNat * 3)).block, (ad135.add ((x7_2).toNat * 3)).off + 2, none⟩ = some (.int .i64 ((rd_T34 l1 x7_2).f2)) ∧ w'.cell? (ad136.add (((rd_T34 l1 x7_2).f0)).toNat) = some (.int .i64 (rd t129 ((rd_T34 l1 x7_2).f0))) ∧ w'.cell? (ad135.add ((x7_2).toNat * 3)) = some (.int .i64 ((rd_T34 l1 x7_2).f0)) ∧ w'.cell? ⟨(ad135.add ((x7_2).toNat * 3)).block, (ad135.add ((x7_2).toNat * 3)).off + 1, none⟩ = some (.int .i64 ((rd_T34 l1 x7_2).f1)) ∧ w'.cell? ⟨(ad135.add ((x7_2).toNat * 3)).block, (ad135.add ((x7_2).toNat * 3)).off + 2, none⟩ = some (.int .i64 ((rd_T34 l1 x7_2).f2))) (ds := []) (m_ 34 0) (by kernel_rfl) rfl rfl ⟨(hx_ HB hw135_0 :), (hx_ HB hw135_1 :), (hx_ HB hw135_2 :), hx136_0, (hx_ HB hw137_0 :), (hx_ HB hw137_1 :), (hx_ HB hw137_2 :), hx138_0, (hx_ HB hw139_0 :), (hx_ HB hw139_1 :), (hx_ HB hw139_2 :), hx140_0, (hx_ HB hw141_0 :), (hx_ HB hw141_1 :), (hx_ HB hw141_2 :)⟩ (fun hHeld => ?_); refine with_tabW carrefourlaw14_PathsFits.tab11 carrefourlaw14_PathsFits.bits11 (fun HT_ HW_ => ?_)
                generalize wr.drew = w22 at HO_5 HB hx135_0 hx135_1 hx135_2 hx136_0 hx137_0 hx137_1 hx137_2 hx138_0 hx139_0 hx139_1 hx139_2 hx140_0 hx141_0 hx141_1 hx141_2 hHeld ⊢
                refine pu_ 0 (some 44) (m_ 34 1) rfl rfl (ao HT_) ?_
                refine pu_ 1 (some 45) (m_ 34 3) rfl rfl (ao HT_) ?_
                refine pu_ 2 (some 46) (m_ 34 7) rfl rfl (ao HT_) ?_
                refine pu_ 3 (some 47) (m_ 34 15) rfl rfl (ao HT_) ?_
                refine pu_ 4 (some 48) (m_ 34 31) rfl rfl (ao HT_) ?_
                refine tk_ 5 (some 49) (m_ 34 63) rfl rfl (tw HT_ HW_) hHeld ?_
                refine pu_ 6 (some 50) (m_ 34 127) rfl rfl (ao HT_) ?_
                refine tk_ 7 (some 51) (m_ 34 255) rfl rfl (tw HT_ HW_) hHeld ?_
                refine pu_ 8 (some 52) (m_ 34 511) rfl rfl (ao HT_) ?_
                refine pu_ 9 (some 53) (m_ 34 1023) rfl rfl (ao HT_) ?_
                refine pu_ 10 (some 54) (m_ 34 2047) rfl rfl (ao HT_) ?_
                refine pu_ 11 (some 55) (m_ 34 4095) rfl rfl (ao HT_) ?_
                refine pu_ 12 (some 56) (m_ 34 8191) rfl rfl (ao HT_) ?_
                refine pu_ 13 (some 57) (m_ 34 16383) rfl rfl (ao HT_) ?_
                refine pu_ 14 (some 58) (m_ 34 32767) rfl rfl (ao HT_) ?_
                refine pu_ 18 (some 62) (m_ 34 294911) rfl rfl (ao HT_) ?_
                refine pu_ 19 (some 63) (m_ 34 819199) rfl rfl (ao HT_) ?_
                refine pu_ 20 (some 64) (m_ 34 1867775) rfl rfl (ao HT_) ?_
                refine pu_ 21 (some 65) (m_ 34 3964927) rfl rfl (ao HT_) ?_
                refine pu_ 22 (some 66) (m_ 34 8159231) rfl rfl (ao HT_) ?_
                refine pu_ 26 (some 70) (m_ 34 75268095) rfl rfl (ao HT_) ?_
                refine pu_ 27 (some 71) (m_ 34 209485823) rfl rfl (ao HT_) ?_
                refine pu_ 28 (some 72) (m_ 34 477921279) rfl rfl (ao HT_) ?_
                refine pu_ 29 (some 73) (m_ 34 1014792191) rfl rfl (ao HT_) ?_
                refine tk_ 15 (some 59) (m_ 34 1014824959) rfl rfl (tw HT_ HW_) hHeld ?_
                refine pu_ 16 (some 60) (m_ 34 1014890495) rfl rfl (ao HT_) ?_
                refine tk_ 17 (some 61) (m_ 34 1015021567) rfl rfl (tw HT_ HW_) hHeld ?_
                refine tk_ 23 (some 67) (m_ 34 1023410175) rfl rfl (tw HT_ HW_) hHeld ?_
                refine pu_ 24 (some 68) (m_ 34 1040187391) rfl rfl (ao HT_) ?_
                refine tk_ 25 (some 69) (m_ 34 1073741823) rfl rfl (tw HT_ HW_) hHeld ?_
                refine tk_ 30 (some 74) (m_ 34 2147483647) rfl rfl (tw HT_ HW_) hHeld ?_
                refine pu_ 31 (some 75) (m_ 34 4294967295) rfl rfl (ao HT_) ?_
                refine pu_ 32 (some 76) (m_ 34 8589934591) rfl rfl (ao HT_) ?_
                refine pu_ 33 (some 77) (m_ 34 17179869183) rfl rfl (ao HT_) ?_
                refine done_ (done_of HT_.out (by kernel_rfl)) ?_
                try go_wp2
                go_ret
                exact ⟨ae, bf HB⟩
               ·rw [if_neg c21] at H
                have c21b0 : decide ((rd t129 ((rd_T34 l1 x7_2).f1)) < (wrap64 ((rd t129 ((rd_T34 l1 x7_2).f0)) + ((rd_T34 l1 x7_2).f2)))) = false := decide_eq_false c21
                clear c21
                have H' := Aside0.mk H
                clear H
                try go_wp2
                replace HO_5 := Aside0.mk (Kd.R_drew HO_5.out)
                replace HB := Aside0.mk (below_drew1 HB.out)
                have p135 : 0 ≤ (x7_2 : Int) := od_
                have q135 : x7_2 < (l1.length : Int) := od_
                obtain ⟨ad135, e135, hx135_0, hx135_1, hx135_2⟩ := at_T34 HR1.out x7_2 p135 q135
                have hw135_2 := hx135_2
                have hw135_1 := hx135_1
                have hw135_0 := hx135_0
                cases e135
                replace hx135_0 := hx_ HB hx135_0
                replace hx135_1 := hx_ HB hx135_1
                replace hx135_2 := hx_ HB hx135_2
                replace p135 := eq_true p135
                replace q135 := eq_true q135
                obtain ⟨Ao25, co25, eo25⟩ := Kd.R_slice HO_5.out
                (first | subst eo25 | (injection eo25 with f1_ f2_ f3_; have f4_ := f1_.symm; have f5_ := f3_.symm; clear f1_ f2_ f3_; subst f4_; subst f5_))
                have p136 : 0 ≤ (((rd_T34 l1 x7_2).f0) : Int) := od_
                have q136 : ((rd_T34 l1 x7_2).f0) < (t129.length : Int) := od_
                obtain ⟨ad136, e136, hx136_0⟩ := Kd.at_int (Kd.R_reads' HO_5.out).2.2 ((rd_T34 l1 x7_2).f0) p136 q136
                cases e136
                replace p136 := eq_true p136
                replace q136 := eq_true q136
                have p137 : 0 ≤ (x7_2 : Int) := od_
                have q137 : x7_2 < (l1.length : Int) := od_
                obtain ⟨ad137, e137, hx137_0, hx137_1, hx137_2⟩ := at_T34 HR1.out x7_2 p137 q137
                have hw137_2 := hx137_2
                have hw137_1 := hx137_1
                have hw137_0 := hx137_0
                obtain rfl : ad135 = ad137 := (by injection e137)
                replace hx137_0 := hx_ HB hx137_0
                replace hx137_1 := hx_ HB hx137_1
                replace hx137_2 := hx_ HB hx137_2
                replace p137 := eq_true p137
                replace q137 := eq_true q137
                have p138 : 0 ≤ (((rd_T34 l1 x7_2).f1) : Int) := od_
                have q138 : ((rd_T34 l1 x7_2).f1) < (t129.length : Int) := od_
                obtain ⟨ad138, e138, hx138_0⟩ := Kd.at_int (Kd.R_reads' HO_5.out).2.2 ((rd_T34 l1 x7_2).f1) p138 q138
                obtain rfl : ad136 = ad138 := (by injection e138)
                replace p138 := eq_true p138
                replace q138 := eq_true q138
                have p139 : 0 ≤ (x7_2 : Int) := od_
                have q139 : x7_2 < (l1.length : Int) := od_
                obtain ⟨ad139, e139, hx139_0, hx139_1, hx139_2⟩ := at_T34 HR1.out x7_2 p139 q139
                have hw139_2 := hx139_2
                have hw139_1 := hx139_1
                have hw139_0 := hx139_0
                obtain rfl : ad135 = ad139 := (by injection e139)
                replace hx139_0 := hx_ HB hx139_0
                replace hx139_1 := hx_ HB hx139_1
                replace hx139_2 := hx_ HB hx139_2
                replace p139 := eq_true p139
                replace q139 := eq_true q139
                have p140 : 0 ≤ (((rd_T34 l1 x7_2).f0) : Int) := od_
                have q140 : ((rd_T34 l1 x7_2).f0) < (t129.length : Int) := od_
                obtain ⟨ad140, e140, hx140_0⟩ := Kd.at_int (Kd.R_reads' HO_5.out).2.2 ((rd_T34 l1 x7_2).f0) p140 q140
                obtain rfl : ad136 = ad140 := (by injection e140)
                replace p140 := eq_true p140
                replace q140 := eq_true q140
                have p141 : 0 ≤ (x7_2 : Int) := od_
                have q141 : x7_2 < (l1.length : Int) := od_
                obtain ⟨ad141, e141, hx141_0, hx141_1, hx141_2⟩ := at_T34 HR1.out x7_2 p141 q141
                have hw141_2 := hx141_2
                have hw141_1 := hx141_1
                have hw141_0 := hx141_0
                obtain rfl : ad135 = ad141 := (by injection e141)
                replace hx141_0 := hx_ HB hx141_0
                replace hx141_1 := hx_ HB hx141_1
                replace hx141_2 := hx_ HB hx141_2
                replace p141 := eq_true p141
                replace q141 := eq_true q141
                refine start_ (n := 34) (S := fun w' => w'.cell? (ad135.add ((x7_2).toNat * 3)) = some (.int .i64 ((rd_T34 l1 x7_2).f0)) ∧ w'.cell? ⟨(ad135.add ((x7_2).toNat * 3)).block, (ad135.add ((x7_2).toNat * 3)).off + 1, none⟩ = some (.int .i64 ((rd_T34 l1 x7_2).f1)) ∧ w'.cell? ⟨(ad135.add ((x7_2).toNat * 3)).block, (ad135.add ((x7_2).toNat * 3)).off + 2, none⟩ = some (.int .i64 ((rd_T34 l1 x7_2).f2)) ∧ w'.cell? (ad136.add (((rd_T34 l1 x7_2).f0)).toNat) = some (.int .i64 (rd t129 ((rd_T34 l1 x7_2).f0))) ∧ w'.cell? (ad135.add ((x7_2).toNat * 3)) = some (.int .i64 ((rd_T34 l1 x7_2).f0)) ∧ w'.cell? ⟨(ad135.add ((x7_2).toNat * 3)).block, (ad135.add ((x7_2).toNat * 3)).off + 1, none⟩ = some (.int .i64 ((rd_T34 l1 x7_2).f1)) ∧ w'.cell? ⟨(ad135.add ((x7_2).toNat * 3)).block, (ad135.add ((x7_2).toNat * 3)).off + 2, none⟩ = some (.int .i64 ((rd_T34 l1 x7_2).f2)) ∧ w'.cell? (ad136.add (((rd_T34 l1 x7_2).f1)).toNat) = some (.int .i64 (rd t129 ((rd_T34 l1 x7_2).f1))) ∧ w'.cell? (ad135.add ((x7_2).toNat * 3)) = some (.int .i64 ((rd_T34 l1 x7_2).f0)) ∧ w'.cell? ⟨(ad135.add ((x7_2).toNat * 3)).block, (ad135.add ((x7_2).toNat * 3)).off + 1, none⟩ = some (.int .i64 ((rd_T34 l1 x7_2).f1)) ∧ w'.cell? ⟨(ad135.add ((x7_2).toNat * 3)).block, (ad135.add ((x7_2).toNat * 3)).off + 2, none⟩ = some (.int .i64 ((rd_T34 l1 x7_2).f2)) ∧ w'.cell? (ad136.add (((rd_T34 l1 x7_2).f0)).toNat) = some (.int .i64 (rd t129 ((rd_T34 l1 x7_2).f0))) ∧ w'.cell? (ad135.add ((x7_2).toNat * 3)) = some (.int .i64 ((rd_T34 l1 x7_2).f0)) ∧ w'.cell? ⟨(ad135.add ((x7_2).toNat * 3)).block, (ad135.add ((x7_2).toNat * 3)).off + 1, none⟩ = some (.int .i64 ((rd_T34 l1 x7_2).f1)) ∧ w'.cell? ⟨(ad135.add ((x7_2).toNat * 3)).block, (ad135.add ((x7_2).toNat * 3)).off + 2, none⟩ = some (.int .i64 ((rd_T34 l1 x7_2).f2))) (ds := []) (m_ 34 0) (by kernel_rfl) rfl rfl ⟨(hx_ HB hw135_0 :), (hx_ HB hw135_1 :), (hx_ HB hw135_2 :), hx136_0, (hx_ HB hw137_0 :), (hx_ HB hw137_1 :), (hx_ HB hw137_2 :), hx138_0, (hx_ HB hw139_0 :), (hx_ HB hw139_1 :), (hx_ HB hw139_2 :), hx140_0, (hx_ HB hw141_0 :), (hx_ HB hw141_1 :), (hx_ HB hw141_2 :)⟩ (fun hHeld => ?_); refine with_tabW carrefourlaw14_PathsFits.tab11 carrefourlaw14_PathsFits.bits11 (fun HT_ HW_ => ?_)
                generalize wr.drew = w24 at HO_5 HB hx135_0 hx135_1 hx135_2 hx136_0 hx137_0 hx137_1 hx137_2 hx138_0 hx139_0 hx139_1 hx139_2 hx140_0 hx141_0 hx141_1 hx141_2 hHeld ⊢
                refine pu_ 0 (some 44) (m_ 34 1) rfl rfl (ao HT_) ?_
                refine pu_ 1 (some 45) (m_ 34 3) rfl rfl (ao HT_) ?_
                refine pu_ 2 (some 46) (m_ 34 7) rfl rfl (ao HT_) ?_
                refine pu_ 3 (some 47) (m_ 34 15) rfl rfl (ao HT_) ?_
                refine pu_ 4 (some 48) (m_ 34 31) rfl rfl (ao HT_) ?_
                refine tk_ 5 (some 49) (m_ 34 63) rfl rfl (tw HT_ HW_) hHeld ?_
                refine pu_ 6 (some 50) (m_ 34 127) rfl rfl (ao HT_) ?_
                refine tk_ 7 (some 51) (m_ 34 255) rfl rfl (tw HT_ HW_) hHeld ?_
                refine pu_ 8 (some 52) (m_ 34 511) rfl rfl (ao HT_) ?_
                refine pu_ 9 (some 53) (m_ 34 1023) rfl rfl (ao HT_) ?_
                refine pu_ 10 (some 54) (m_ 34 2047) rfl rfl (ao HT_) ?_
                refine pu_ 11 (some 55) (m_ 34 4095) rfl rfl (ao HT_) ?_
                refine pu_ 12 (some 56) (m_ 34 8191) rfl rfl (ao HT_) ?_
                refine pu_ 13 (some 57) (m_ 34 16383) rfl rfl (ao HT_) ?_
                refine pu_ 14 (some 58) (m_ 34 32767) rfl rfl (ao HT_) ?_
                refine pu_ 18 (some 62) (m_ 34 294911) rfl rfl (ao HT_) ?_
                refine pu_ 19 (some 63) (m_ 34 819199) rfl rfl (ao HT_) ?_
                refine pu_ 20 (some 64) (m_ 34 1867775) rfl rfl (ao HT_) ?_
                refine pu_ 21 (some 65) (m_ 34 3964927) rfl rfl (ao HT_) ?_
                refine pu_ 22 (some 66) (m_ 34 8159231) rfl rfl (ao HT_) ?_
                refine pu_ 26 (some 70) (m_ 34 75268095) rfl rfl (ao HT_) ?_
                refine pu_ 27 (some 71) (m_ 34 209485823) rfl rfl (ao HT_) ?_
                refine pu_ 28 (some 72) (m_ 34 477921279) rfl rfl (ao HT_) ?_
                refine pu_ 29 (some 73) (m_ 34 1014792191) rfl rfl (ao HT_) ?_
                refine tk_ 15 (some 59) (m_ 34 1014824959) rfl rfl (tw HT_ HW_) hHeld ?_
                refine pu_ 16 (some 60) (m_ 34 1014890495) rfl rfl (ao HT_) ?_
                refine tk_ 17 (some 61) (m_ 34 1015021567) rfl rfl (tw HT_ HW_) hHeld ?_
                refine tk_ 23 (some 67) (m_ 34 1023410175) rfl rfl (tw HT_ HW_) hHeld ?_
                refine pu_ 24 (some 68) (m_ 34 1040187391) rfl rfl (ao HT_) ?_
                refine tk_ 25 (some 69) (m_ 34 1073741823) rfl rfl (tw HT_ HW_) hHeld ?_
                refine tk_ 30 (some 74) (m_ 34 2147483647) rfl rfl (tw HT_ HW_) hHeld ?_
                refine pu_ 31 (some 75) (m_ 34 4294967295) rfl rfl (ao HT_) ?_
                refine pu_ 32 (some 76) (m_ 34 8589934591) rfl rfl (ao HT_) ?_
                refine pu_ 33 (some 77) (m_ 34 17179869183) rfl rfl (ao HT_) ?_
                refine done_ (done_of HT_.out (by kernel_rfl)) ?_
                try go_wp2
                go_roundg k2
                case measure => have := HJ6.out; have := HK2.out; omega
                case rel => exact ⟨(wrap64 (x7_2 + 1)), (aq), H', ⟨by have := HJ6.out; have := HK2.out; omega⟩, ⟨Rt_ HO_5.out⟩, ⟨bf HB⟩⟩
              ·rw [if_neg c20] at H
               exact absurd H (by simp)
             ·rw [if_neg c19] at H
              exact absurd H (by simp)
            ·rw [if_neg c18] at H
             have c18b0 : decide (0 ≤ (rd t129 ((rd_T34 l1 x7_2).f0))) = false := decide_eq_false c18
             clear c18
             have H' := Aside0.mk H
             clear H
             try go_wp2
             replace HO_5 := Aside0.mk (Kd.R_drew HO_5.out)
             replace HB := Aside0.mk (below_drew1 HB.out)
             have p135 : 0 ≤ (x7_2 : Int) := od_
             have q135 : x7_2 < (l1.length : Int) := od_
             obtain ⟨ad135, e135, hx135_0, hx135_1, hx135_2⟩ := at_T34 HR1.out x7_2 p135 q135
             have hw135_2 := hx135_2
             have hw135_1 := hx135_1
             have hw135_0 := hx135_0
             cases e135
             replace hx135_0 := hx_ HB hx135_0
             replace hx135_1 := hx_ HB hx135_1
             replace hx135_2 := hx_ HB hx135_2
             replace p135 := eq_true p135
             replace q135 := eq_true q135
             obtain ⟨Ao27, co27, eo27⟩ := Kd.R_slice HO_5.out
             (first | subst eo27 | (injection eo27 with f1_ f2_ f3_; have f4_ := f1_.symm; have f5_ := f3_.symm; clear f1_ f2_ f3_; subst f4_; subst f5_))
             have p136 : 0 ≤ (((rd_T34 l1 x7_2).f0) : Int) := od_
             have q136 : ((rd_T34 l1 x7_2).f0) < (t129.length : Int) := od_
             obtain ⟨ad136, e136, hx136_0⟩ := Kd.at_int (Kd.R_reads' HO_5.out).2.2 ((rd_T34 l1 x7_2).f0) p136 q136
             cases e136
             replace p136 := eq_true p136
             replace q136 := eq_true q136
             refine start_ (n := 34) (S := fun w' => w'.cell? (ad135.add ((x7_2).toNat * 3)) = some (.int .i64 ((rd_T34 l1 x7_2).f0)) ∧ w'.cell? ⟨(ad135.add ((x7_2).toNat * 3)).block, (ad135.add ((x7_2).toNat * 3)).off + 1, none⟩ = some (.int .i64 ((rd_T34 l1 x7_2).f1)) ∧ w'.cell? ⟨(ad135.add ((x7_2).toNat * 3)).block, (ad135.add ((x7_2).toNat * 3)).off + 2, none⟩ = some (.int .i64 ((rd_T34 l1 x7_2).f2)) ∧ w'.cell? (ad136.add (((rd_T34 l1 x7_2).f0)).toNat) = some (.int .i64 (rd t129 ((rd_T34 l1 x7_2).f0)))) (ds := []) (m_ 34 0) (by kernel_rfl) rfl rfl ⟨(hx_ HB hw135_0 :), (hx_ HB hw135_1 :), (hx_ HB hw135_2 :), hx136_0⟩ (fun hHeld => ?_); refine with_tabW carrefourlaw14_PathsFits.tab11 carrefourlaw14_PathsFits.bits11 (fun HT_ HW_ => ?_)
             generalize wr.drew = w26 at HO_5 HB hx135_0 hx135_1 hx135_2 hx136_0 hHeld ⊢
             refine pu_ 0 (some 44) (m_ 34 1) rfl rfl (ao HT_) ?_
             refine pu_ 1 (some 45) (m_ 34 3) rfl rfl (ao HT_) ?_
             refine pu_ 2 (some 46) (m_ 34 7) rfl rfl (ao HT_) ?_
             refine pu_ 3 (some 47) (m_ 34 15) rfl rfl (ao HT_) ?_
             refine pu_ 4 (some 48) (m_ 34 31) rfl rfl (ao HT_) ?_
             refine tk_ 5 (some 49) (m_ 34 63) rfl rfl (tw HT_ HW_) hHeld ?_
             refine pu_ 6 (some 50) (m_ 34 127) rfl rfl (ao HT_) ?_
             refine tk_ 7 (some 51) (m_ 34 255) rfl rfl (tw HT_ HW_) hHeld ?_
             refine pu_ 8 (some 52) (m_ 34 511) rfl rfl (ao HT_) ?_
             refine pu_ 9 (some 53) (m_ 34 1023) rfl rfl (ao HT_) ?_
             refine pv_ 10 (some 54) (m_ 34 2047) rfl rfl (ao HT_) ?_
             refine pv_ 11 (some 55) (m_ 34 4095) rfl rfl (ao HT_) ?_
             refine pv_ 12 (some 56) (m_ 34 8191) rfl rfl (ao HT_) ?_
             refine pv_ 13 (some 57) (m_ 34 16383) rfl rfl (ao HT_) ?_
             refine pv_ 14 (some 58) (m_ 34 32767) rfl rfl (ao HT_) ?_
             refine pv_ 15 (some 59) (m_ 34 65535) rfl rfl (ao HT_) ?_
             refine pv_ 16 (some 60) (m_ 34 131071) rfl rfl (ao HT_) ?_
             refine pv_ 17 (some 61) (m_ 34 262143) rfl rfl (ao HT_) ?_
             refine pv_ 18 (some 62) (m_ 34 524287) rfl rfl (ao HT_) ?_
             refine pv_ 19 (some 63) (m_ 34 1048575) rfl rfl (ao HT_) ?_
             refine pv_ 20 (some 64) (m_ 34 2097151) rfl rfl (ao HT_) ?_
             refine pv_ 21 (some 65) (m_ 34 4194303) rfl rfl (ao HT_) ?_
             refine pv_ 22 (some 66) (m_ 34 8388607) rfl rfl (ao HT_) ?_
             refine pv_ 23 (some 67) (m_ 34 16777215) rfl rfl (ao HT_) ?_
             refine pv_ 24 (some 68) (m_ 34 33554431) rfl rfl (ao HT_) ?_
             refine pv_ 25 (some 69) (m_ 34 67108863) rfl rfl (ao HT_) ?_
             refine pv_ 26 (some 70) (m_ 34 134217727) rfl rfl (ao HT_) ?_
             refine pv_ 27 (some 71) (m_ 34 268435455) rfl rfl (ao HT_) ?_
             refine pv_ 28 (some 72) (m_ 34 536870911) rfl rfl (ao HT_) ?_
             refine pv_ 29 (some 73) (m_ 34 1073741823) rfl rfl (ao HT_) ?_
             refine pv_ 30 (some 74) (m_ 34 2147483647) rfl rfl (ao HT_) ?_
             refine pv_ 31 (some 75) (m_ 34 4294967295) rfl rfl (ao HT_) ?_
             refine pv_ 32 (some 76) (m_ 34 8589934591) rfl rfl (ao HT_) ?_
             refine pu_ 33 (some 77) (m_ 34 17179869183) rfl rfl (ao HT_) ?_
             refine done_ (done_of HT_.out (by kernel_rfl)) ?_
             try go_wp2
             go_roundg k2
             case measure => have := HJ6.out; have := HK2.out; omega
             case rel => exact ⟨(wrap64 (x7_2 + 1)), (aq), H', ⟨by have := HJ6.out; have := HK2.out; omega⟩, ⟨Rt_ HO_5.out⟩, ⟨bf HB⟩⟩
           ·rw [if_neg c17] at H
            exact absurd H (by simp)
          ·rw [if_neg c16] at H
           exact absurd H (by simp)
         ·rw [if_neg c15] at H
          exact absurd H (by simp)
        ·rw [if_neg c14] at H
         have c14b0 : decide (x7_2 < (l1.length : Int)) = false := decide_eq_false c14
         clear c14
         have H' := Aside0.mk H
         clear H
         go_wp2
         go_loopg [8] k2 (fun kq v8 w' => ∃ (x8_3 : Int), v8 = .int .i64 x8_3 ∧ Aside0 (carrefourlaw14_PathsFits.l1 kq a0 l1 t129 x8_3 = some r) ∧ Aside0 (kq ≤ k2) ∧ Aside0 (Kd.R (Kd.int .i64) 2 w' w.heap.size (fun _ => True) v131 t129) ∧ Aside0 (Below w.heap.size w w'))
         case atStart => exact ⟨(0), (aq), H', ⟨Nat.le_refl _⟩, ⟨Rt_ HO_5.out⟩, ⟨bf HB⟩⟩
         case round =>
          clear H'
          (try clear c1); (try clear p1); (try clear q1); (try clear hx1); (try clear c2); (try clear p2); (try clear p6); (try clear p13); (try clear q13); (try clear hx13); (try clear c14); (try clear c14b0); (try clear p14); (try clear q14); (try clear hx14); (try clear c15); (try clear c16); (try clear c17); (try clear c18); (try clear c18b0); (try clear c19); (try clear c20); (try clear c21); (try clear c21b0); (try clear hx135_0); (try clear hx135_1); (try clear hx135_2); (try clear hx136_0); (try clear hx137_0); (try clear hx137_1); (try clear hx137_2); (try clear hx138_0); (try clear hx139_0); (try clear hx139_1); (try clear hx139_2); (try clear hx140_0); (try clear hx141_0); (try clear hx141_1); (try clear hx141_2); (try clear p135); (try clear p136); (try clear p137); (try clear p138); (try clear p139); (try clear p140); (try clear p141); (try clear q135); (try clear q136); (try clear q137); (try clear q138); (try clear q139); (try clear q140); (try clear q141)
          obtain ⟨x8_3, rfl, HA, HK3, HO_5, HB⟩ := hrel
          cases gk with
          | zero => exact absurd HA.out (by simp [carrefourlaw14_PathsFits.l1])
          | succ k3 =>
           have H := HA.out
           clear HA
           simp only [carrefourlaw14_PathsFits.l1] at H
           by_cases c28 : x8_3 < a0
           ·rw [if_pos c28] at H
            have c28b0 : decide (x8_3 < a0) = true := decide_eq_true c28
            clear c28
            replace H := bi_ H; obtain ⟨t143, A29, H⟩ := H
            (try dsimp only at H)
            by_cases c30 : 0 ≤ x8_3
            ·rw [if_pos c30] at H
             have c30b0 : decide (0 ≤ x8_3) = true := decide_eq_true c30
             clear c30
             by_cases c31 : x8_3 < (t129.length : Int)
             ·rw [if_pos c31] at H
              have c31b0 : decide (x8_3 < (t129.length : Int)) = true := decide_eq_true c31
              clear c31
              by_cases c32 : (rd t129 x8_3) < 0
              ·rw [if_pos c32] at H
               have c32b0 : decide ((rd t129 x8_3) < 0) = true := decide_eq_true c32
               clear c32
               by_cases c33 : (t143.length : Int) = 0
               ·rw [if_pos c33] at H
                have c33b0 : ((t143.length : Int) == 0) = true := beq_iff_eq.mpr c33
                have c33b1 : ((t143.length : Int) != 0) = false := bne_eq_false_iff_eq.mpr c33
                clear c33
                have H' := Aside0.mk H
                clear H
                go_wp2_with (first | ((with_reducible refine gc 12 rfl ?_); refine gl_ (some 86) rfl rfl Tryd.func12 ((paths_Way.calls _ _ _ _ _ _ _ _ ?side1 ?side2 A29.out (tt GT)).mono ?_) ag; (case side1 => repeat (first | exact (Kd.C_below HR1.out HB.out) | (with_reducible refine Kd.C_alloc ?_ _) | (with_reducible refine Kd.C_drewN ?_ _) | (with_reducible refine Kd.C_drew ?_))); (case side2 => exact HC1.out); rintro e w34 ⟨v144, rfl, ho0, hb⟩; refine ⟨_, rfl, ?_⟩; have HO145 := Aside0.mk (Kd.R_lower ho0 (below_size (bf HB))); replace HO_5 := Aside0.mk (Kd.R_below (Rt_ HO_5.out) hb); replace HB := bs HB hb; (try clear hb); (try clear ho0); obtain ⟨Ao35, co35, eo35⟩ := Kd.R_slice HO_5.out; subst eo35; have p146 : 0 ≤ (x8_3 : Int) := od_; have q146 : x8_3 < (t129.length : Int) := od_; obtain ⟨ad146, e146, hx146_0⟩ := Kd.at_int (Kd.R_reads' HO_5.out).2.2 x8_3 p146 q146; cases e146; replace p146 := eq_true p146; replace q146 := eq_true q146; obtain ⟨Ao36, co36, eo36⟩ := Kd.R_slice HO145.out; subst eo36))
                go_roundg k3
                case measure => have := HJ6.out; have := HK2.out; have := HK3.out; omega
                case rel => exact ⟨(wrap64 (x8_3 + 1)), (aq), H', ⟨by have := HJ6.out; have := HK2.out; have := HK3.out; omega⟩, ⟨Rt_ HO_5.out⟩, ⟨bf HB⟩⟩
               ·rw [if_neg c33] at H
                have c33b0 : ((t143.length : Int) == 0) = false := beq_eq_false_iff_ne.mpr c33
                have c33b1 : ((t143.length : Int) != 0) = true := bne_iff_ne.mpr c33
                have c33b2 : ¬ (t143 = []) := fun h_ => c33 (by rw [h_]; rfl)
                obtain rfl := Option.some.inj H
                go_wp2_with (first | ((with_reducible refine gc 12 rfl ?_); refine gl_ (some 86) rfl rfl Tryd.func12 ((paths_Way.calls _ _ _ _ _ _ _ _ ?side1 ?side2 A29.out (tt GT)).mono ?_) ag; (case side1 => repeat (first | exact (Kd.C_below HR1.out HB.out) | (with_reducible refine Kd.C_alloc ?_ _) | (with_reducible refine Kd.C_drewN ?_ _) | (with_reducible refine Kd.C_drew ?_))); (case side2 => exact HC1.out); rintro e w37 ⟨v144, rfl, ho0, hb⟩; refine ⟨_, rfl, ?_⟩; have HO145 := Aside0.mk (Kd.R_lower ho0 (below_size (bf HB))); replace HO_5 := Aside0.mk (Kd.R_below (Rt_ HO_5.out) hb); replace HB := bs HB hb; (try clear hb); (try clear ho0); obtain ⟨Ao38, co38, eo38⟩ := Kd.R_slice HO_5.out; subst eo38; have p146 : 0 ≤ (x8_3 : Int) := od_; have q146 : x8_3 < (t129.length : Int) := od_; obtain ⟨ad146, e146, hx146_0⟩ := Kd.at_int (Kd.R_reads' HO_5.out).2.2 x8_3 p146 q146; cases e146; replace p146 := eq_true p146; replace q146 := eq_true q146; obtain ⟨Ao39, co39, eo39⟩ := Kd.R_slice HO145.out; subst eo39))
                go_ret
                exact ⟨ae, bf HB⟩
              ·rw [if_neg c32] at H
               have c32b0 : decide ((rd t129 x8_3) < 0) = false := decide_eq_false c32
               clear c32
               by_cases c40 : (t143.length : Int) = 0
               ·rw [if_pos c40] at H
                have c40b0 : ((t143.length : Int) == 0) = true := beq_iff_eq.mpr c40
                have c40b1 : ((t143.length : Int) != 0) = false := bne_eq_false_iff_eq.mpr c40
                clear c40
                obtain rfl := Option.some.inj H
                try go_wp2_with (first | ((with_reducible refine gc 12 rfl ?_); refine gl_ (some 86) rfl rfl Tryd.func12 ((paths_Way.calls _ _ _ _ _ _ _ _ ?side1 ?side2 A29.out (tt GT)).mono ?_) ag; (case side1 => repeat (first | exact (Kd.C_below HR1.out HB.out) | (with_reducible refine Kd.C_alloc ?_ _) | (with_reducible refine Kd.C_drewN ?_ _) | (with_reducible refine Kd.C_drew ?_))); (case side2 => exact HC1.out); rintro e w41 ⟨v144, rfl, ho0, hb⟩; refine ⟨_, rfl, ?_⟩; have HO145 := Aside0.mk (Kd.R_lower ho0 (below_size (bf HB))); replace HO_5 := Aside0.mk (Kd.R_below (Rt_ HO_5.out) hb); replace HB := bs HB hb; (try clear hb); (try clear ho0); obtain ⟨Ao42, co42, eo42⟩ := Kd.R_slice HO_5.out; subst eo42; have p146 : 0 ≤ (x8_3 : Int) := od_; have q146 : x8_3 < (t129.length : Int) := od_; obtain ⟨ad146, e146, hx146_0⟩ := Kd.at_int (Kd.R_reads' HO_5.out).2.2 x8_3 p146 q146; cases e146; replace p146 := eq_true p146; replace q146 := eq_true q146))
                replace HO_5 := Aside0.mk (Kd.R_drew HO_5.out)
                replace HO145 := Aside0.mk (Kd.R_drew HO145.out)
                replace HB := Aside0.mk (below_drew1 HB.out)
                obtain ⟨Ao44, co44, eo44⟩ := Kd.R_slice HO145.out
                (first | subst eo44 | (injection eo44 with f1_ f2_ f3_; have f4_ := f1_.symm; have f5_ := f3_.symm; clear f1_ f2_ f3_; subst f4_; subst f5_))
                refine start_ (n := 29) (S := fun w' => True) (ds := []) (m_ 29 0) (by kernel_rfl) rfl rfl trivial (fun hHeld => ?_); refine with_tabW carrefourlaw14_PathsFits.tab20 carrefourlaw14_PathsFits.bits20 (fun HT_ HW_ => ?_)
                generalize w41.drew = w43 at HO_5 HO145 HB hHeld ⊢
                refine pu_ 0 (some 95) (m_ 29 1) rfl rfl (ao HT_) ?_
                refine pu_ 1 (some 96) (m_ 29 3) rfl rfl (ao HT_) ?_
                refine pu_ 2 (some 97) (m_ 29 7) rfl rfl (ao HT_) ?_
                refine pu_ 3 (some 98) (m_ 29 15) rfl rfl (ao HT_) ?_
                refine pv_ 4 (some 99) (m_ 29 31) rfl rfl (ao HT_) ?_
                refine pv_ 5 (some 100) (m_ 29 63) rfl rfl (ao HT_) ?_
                refine pv_ 6 (some 101) (m_ 29 127) rfl rfl (ao HT_) ?_
                refine pv_ 7 (some 102) (m_ 29 255) rfl rfl (ao HT_) ?_
                refine pu_ 8 (some 103) (m_ 29 511) rfl rfl (ao HT_) ?_
                refine pu_ 9 (some 104) (m_ 29 1023) rfl rfl (ao HT_) ?_
                refine pv_ 10 (some 105) (m_ 29 2047) rfl rfl (ao HT_) ?_
                refine pv_ 11 (some 106) (m_ 29 4095) rfl rfl (ao HT_) ?_
                refine pv_ 12 (some 107) (m_ 29 8191) rfl rfl (ao HT_) ?_
                refine pv_ 13 (some 108) (m_ 29 16383) rfl rfl (ao HT_) ?_
                refine pv_ 14 (some 109) (m_ 29 32767) rfl rfl (ao HT_) ?_
                refine pv_ 15 (some 110) (m_ 29 65535) rfl rfl (ao HT_) ?_
                refine pv_ 16 (some 111) (m_ 29 131071) rfl rfl (ao HT_) ?_
                refine pv_ 17 (some 112) (m_ 29 262143) rfl rfl (ao HT_) ?_
                refine pu_ 18 (some 113) (m_ 29 524287) rfl rfl (ao HT_) ?_
                refine pu_ 19 (some 114) (m_ 29 1048575) rfl rfl (ao HT_) ?_
                refine pv_ 20 (some 115) (m_ 29 2097151) rfl rfl (ao HT_) ?_
                refine pv_ 21 (some 116) (m_ 29 4194303) rfl rfl (ao HT_) ?_
                refine pv_ 22 (some 117) (m_ 29 8388607) rfl rfl (ao HT_) ?_
                refine pv_ 23 (some 118) (m_ 29 16777215) rfl rfl (ao HT_) ?_
                refine pv_ 24 (some 119) (m_ 29 33554431) rfl rfl (ao HT_) ?_
                refine pv_ 25 (some 120) (m_ 29 67108863) rfl rfl (ao HT_) ?_
                refine pv_ 26 (some 121) (m_ 29 134217727) rfl rfl (ao HT_) ?_
                refine pv_ 27 (some 122) (m_ 29 268435455) rfl rfl (ao HT_) ?_
                refine pu_ 28 (some 123) (m_ 29 536870911) rfl rfl (ao HT_) ?_
                refine done_ (done_of HT_.out (by kernel_rfl)) ?_
                try go_wp2
                go_ret
                exact ⟨ae, bf HB⟩
               ·rw [if_neg c40] at H
                have c40b0 : ((t143.length : Int) == 0) = false := beq_eq_false_iff_ne.mpr c40
                have c40b1 : ((t143.length : Int) != 0) = true := bne_iff_ne.mpr c40
                have c40b2 : ¬ (t143 = []) := fun h_ => c40 (by rw [h_]; rfl)
                by_cases c45 : 0 < (t143.length : Int)
                ·rw [if_pos c45] at H
                 have c45b0 : decide (0 < (t143.length : Int)) = true := decide_eq_true c45
                 have c45b1 : decide (0 < t143.length) = true := decide_eq_true (by omega)
                 clear c45
                 by_cases c46 : (rd t143 0) = 0
                 ·rw [if_pos c46] at H
                  have c46b0 : ((rd t143 0) == 0) = true := beq_iff_eq.mpr c46
                  have c46b1 : ((rd t143 0) != 0) = false := bne_eq_false_iff_eq.mpr c46
                  clear c46
                  obtain ⟨ji47, hji47⟩ : ∃ j_ : Int, (wrap64 ((t143.length : Int) - 1)) = j_ := ⟨_, rfl⟩
                  replace H : (if 0 ≤ (ji47) then (if (ji47) < (t143.length : Int) then (if (rd t143 (ji47)) = x8_3 then ((carrefourlaw14_length.f k3 l1 t143).bind fun t149 => (if t149 = (rd t129 x8_3) then (carrefourlaw14_PathsFits.l1 k3 a0 l1 t129 (wrap64 (x8_3 + 1))) else (some false))) else (some false)) else (none)) else (none)) = some r := by first | (rw [hji47] at H; exact H) | (simp only [hji47] at H ⊢; exact H)
                  (try rw [hji47] at A29)
                  have hji47w : (IntKind.i64.wrap ((t143.length : Int) - 1)) = ji47 := (i64_w _).trans hji47
                  by_cases c48 : 0 ≤ (ji47)
                  ·rw [if_pos c48] at H
                   have c48b0 : decide (0 ≤ (ji47)) = true := decide_eq_true c48
                   clear c48
                   by_cases c49 : (ji47) < (t143.length : Int)
                   ·rw [if_pos c49] at H
                    have c49b0 : decide ((ji47) < (t143.length : Int)) = true := decide_eq_true c49
                    clear c49
                    by_cases c50 : (rd t143 (ji47)) = x8_3
                    ·rw [if_pos c50] at H
                     have c50b0 : ((rd t143 (ji47)) == x8_3) = true := beq_iff_eq.mpr c50
                     have c50b1 : ((rd t143 (ji47)) != x8_3) = false := bne_eq_false_iff_eq.mpr c50
                     clear c50
                     replace H := bi_ H; obtain ⟨t149, A51, H⟩ := H
                     (try dsimp only at H)
                     by_cases c52 : t149 = (rd t129 x8_3)
                     ·rw [if_pos c52] at H
                      have c52b0 : (t149 == (rd t129 x8_3)) = true := beq_iff_eq.mpr c52
                      have c52b1 : (t149 != (rd t129 x8_3)) = false := bne_eq_false_iff_eq.mpr c52
                      clear c52
                      have H' := Aside0.mk H
                      clear H
                      try go_wp2_with (first | ((with_reducible refine gc 12 rfl ?_); refine gl_ (some 86) rfl rfl Tryd.func12 ((paths_Way.calls _ _ _ _ _ _ _ _ ?side1 ?side2 A29.out (tt GT)).mono ?_) ag; (case side1 => repeat (first | exact (Kd.C_below HR1.out HB.out) | (with_reducible refine Kd.C_alloc ?_ _) | (with_reducible refine Kd.C_drewN ?_ _) | (with_reducible refine Kd.C_drew ?_))); (case side2 => exact HC1.out); rintro e w53 ⟨v144, rfl, ho0, hb⟩; refine ⟨_, rfl, ?_⟩; have HO145 := Aside0.mk (Kd.R_lower ho0 (below_size (bf HB))); replace HO_5 := Aside0.mk (Kd.R_below (Rt_ HO_5.out) hb); replace HB := bs HB hb; (try clear hb); (try clear ho0); obtain ⟨Ao54, co54, eo54⟩ := Kd.R_slice HO_5.out; subst eo54; have p146 : 0 ≤ (x8_3 : Int) := od_; have q146 : x8_3 < (t129.length : Int) := od_; obtain ⟨ad146, e146, hx146_0⟩ := Kd.at_int (Kd.R_reads' HO_5.out).2.2 x8_3 p146 q146; cases e146; replace p146 := eq_true p146; replace q146 := eq_true q146))
                      replace HO_5 := Aside0.mk (Kd.R_drew HO_5.out)
                      replace HO145 := Aside0.mk (Kd.R_drew HO145.out)
                      replace HB := Aside0.mk (below_drew1 HB.out)
                      obtain ⟨Ao56, co56, eo56⟩ := Kd.R_slice HO145.out
                      (first | subst eo56 | (injection eo56 with f1_ f2_ f3_; have f4_ := f1_.symm; have f5_ := f3_.symm; clear f1_ f2_ f3_; subst f4_; subst f5_))
                      have p147 : 0 ≤ (0 : Int) := (by omega)
                      have q147 : 0 < (t143.length : Int) := od_
                      obtain ⟨ad147, e147, hx147_0⟩ := Kd.at_int (Kd.R_reads' HO145.out).2.2 0 p147 q147
                      cases e147
                      have qi147 : (0 < t143.length) = True := eq_true (by omega)
                      (try rw [show ((0 : Int)).toNat = 0 from rfl] at hx147_0)
                      (try rw [Addr.add_zero'] at hx147_0)
                      replace p147 := eq_true p147
                      replace q147 := eq_true q147
                      have p148 : 0 ≤ ((ji47) : Int) := od_
                      have q148 : (ji47) < (t143.length : Int) := od_
                      obtain ⟨ad148, e148, hx148_0⟩ := Kd.at_int (Kd.R_reads' HO145.out).2.2 (ji47) p148 q148
                      obtain rfl : ad147 = ad148 := (by injection e148)
                      replace p148 := eq_true p148
                      replace q148 := eq_true q148
                      have p150 : 0 ≤ (x8_3 : Int) := od_
                      have q150 : x8_3 < (t129.length : Int) := od_
                      obtain ⟨ad150, e150, hx150_0⟩ := Kd.at_int (Kd.R_reads' HO_5.out).2.2 x8_3 p150 q150
                      obtain rfl : ad146 = ad150 := (by injection e150)
                      replace p150 := eq_true p150
                      replace q150 := eq_true q150
                      refine start_ (n := 29) (S := fun w' => w'.cell? ad147 = some (.int .i64 (rd t143 0)) ∧ w'.cell? (ad147.add ((ji47)).toNat) = some (.int .i64 (rd t143 (ji47))) ∧ w'.cell? (ad146.add (x8_3).toNat) = some (.int .i64 (rd t129 x8_3))) (ds := []) (m_ 29 0) (by kernel_rfl) rfl rfl ⟨hx147_0, hx148_0, hx150_0⟩ (fun hHeld => ?_); refine with_tabW carrefourlaw14_PathsFits.tab20 carrefourlaw14_PathsFits.bits20 (fun HT_ HW_ => ?_)
                      generalize w53.drew = w55 at HO_5 HO145 HB hx147_0 hx148_0 hx150_0 hHeld ⊢
                      refine pu_ 0 (some 95) (m_ 29 1) rfl rfl (ao HT_) ?_
                      refine pu_ 1 (some 96) (m_ 29 3) rfl rfl (ao HT_) ?_
                      refine pu_ 2 (some 97) (m_ 29 7) rfl rfl (ao HT_) ?_
                      refine pu_ 3 (some 98) (m_ 29 15) rfl rfl (ao HT_) ?_
                      refine pu_ 4 (some 99) (m_ 29 31) rfl rfl (ao HT_) ?_
                      refine pu_ 5 (some 100) (m_ 29 63) rfl rfl (ao HT_) ?_
                      refine tk_ 6 (some 101) (m_ 29 127) rfl rfl (tw HT_ HW_) hHeld ?_
                      refine pu_ 7 (some 102) (m_ 29 255) rfl rfl (ao HT_) ?_
                      refine pu_ 8 (some 103) (m_ 29 511) rfl rfl (ao HT_) ?_
                      refine pu_ 9 (some 104) (m_ 29 1023) rfl rfl (ao HT_) ?_
                      refine pu_ 10 (some 105) (m_ 29 2047) rfl rfl (ao HT_) ?_
                      refine pu_ 11 (some 106) (m_ 29 4095) rfl rfl (ao HT_) ?_
                      refine pu_ 12 (some 107) (m_ 29 8191) rfl rfl (ao HT_) ?_
                      refine pu_ 13 (some 108) (m_ 29 16383) rfl rfl (ao HT_) ?_
                      refine pu_ 14 (some 109) (m_ 29 32767) rfl rfl (ao HT_) ?_
                      refine pu_ 16 (some 111) (m_ 29 98303) rfl rfl (ao HT_) ?_
                      refine tk_ 15 (some 110) (m_ 29 131071) rfl rfl (tw HT_ HW_) hHeld ?_
                      refine pu_ 17 (some 112) (m_ 29 262143) rfl rfl (ao HT_) ?_
                      refine pu_ 18 (some 113) (m_ 29 524287) rfl rfl (ao HT_) ?_
                      refine pu_ 19 (some 114) (m_ 29 1048575) rfl rfl (ao HT_) ?_
                      refine pu_ 20 (some 115) (m_ 29 2097151) rfl rfl (ao HT_) ?_
                      refine pu_ 21 (some 116) (m_ 29 4194303) rfl rfl (ao HT_) ?_
                      refine pu_ 23 (some 118) (m_ 29 12582911) rfl rfl (ao HT_) ?_
                      refine pu_ 24 (some 119) (m_ 29 29360127) rfl rfl (ao HT_) ?_
                      refine pu_ 25 (some 120) (m_ 29 62914559) rfl rfl (ao HT_) ?_
                      refine tk_ 26 (some 121) (m_ 29 130023423) rfl rfl (tw HT_ HW_) hHeld ?_
                      refine o1_ 22 (some 117) (m_ 29 134217727) rfl rfl (oo HT_) (fun K hK => ?_)
                      refine goes_ Tryd.func14 (by kernel_rfl) rfl #[.slice A1 l1.length c1, .slice (some ad147) t143.length co56] (by rfl) rfl rfl ag ?_
                      with_reducible refine (carrefourlaw14_length.calls _ _ _ _ _ _ _ _ _ ?side1 ?side2 ?side3 ?side4 A51.out).mono ?_
                      (case side1 => repeat (first | exact (Kd.C_below HR1.out HB.out) | (with_reducible refine Kd.C_alloc ?_ _) | (with_reducible refine Kd.C_drewN ?_ _) | (with_reducible refine Kd.C_drew ?_)))
                      (case side2 => exact HC1.out)
                      (case side3 => exact rc HO145)
                      (case side4 => exact (Kd.R_reads' HO145.out).2.1)
                      rintro e w57 ⟨rfl, hb⟩
                      have HS0_ := (hb.cell (World.block_lt_of_cell? _ _ (hHeld.1))).trans (hHeld.1)
                      have HS1_ := (hb.cell (World.block_lt_of_cell? _ _ (hHeld.2.1))).trans (hHeld.2.1)
                      have HS2_ := (hb.cell (World.block_lt_of_cell? _ _ (hHeld.2.2))).trans (hHeld.2.2)
                      refine ⟨_, rfl, ?_⟩
                      replace HO_5 := Aside0.mk (Kd.R_below (Rt_ HO_5.out) hb)
                      replace HO145 := rb HO145 hb
                      replace HB := bs HB hb
                      (try clear hb)
                      refine hK.out _ _ ⟨HS0_, HS1_, HS2_⟩ (fun hHeld => ?_)
                      clear hK K
                      refine nr_ (some 117) ?_
                      refine pu_ 27 (some 122) (m_ 29 268435455) rfl rfl (ao HT_) ?_
                      refine pu_ 28 (some 123) (m_ 29 536870911) rfl rfl (ao HT_) ?_
                      refine done_ (done_of HT_.out (by kernel_rfl)) ?_
                      try go_wp2
                      go_roundg k3
                      case measure => have := HJ6.out; have := HK2.out; have := HK3.out; omega
                      case rel => exact ⟨(wrap64 (x8_3 + 1)), (aq), H', ⟨by have := HJ6.out; have := HK2.out; have := HK3.out; omega⟩, ⟨Rt_ HO_5.out⟩, ⟨bf HB⟩⟩
                     ·rw [if_neg c52] at H
                      have c52b0 : (t149 == (rd t129 x8_3)) = false := beq_eq_false_iff_ne.mpr c52
                      have c52b1 : (t149 != (rd t129 x8_3)) = true := bne_iff_ne.mpr c52
                      obtain rfl := Option.some.inj H
                      try go_wp2_with (first | ((with_reducible refine gc 12 rfl ?_); refine gl_ (some 86) rfl rfl Tryd.func12 ((paths_Way.calls _ _ _ _ _ _ _ _ ?side1 ?side2 A29.out (tt GT)).mono ?_) ag; (case side1 => repeat (first | exact (Kd.C_below HR1.out HB.out) | (with_reducible refine Kd.C_alloc ?_ _) | (with_reducible refine Kd.C_drewN ?_ _) | (with_reducible refine Kd.C_drew ?_))); (case side2 => exact HC1.out); rintro e w58 ⟨v144, rfl, ho0, hb⟩; refine ⟨_, rfl, ?_⟩; have HO145 := Aside0.mk (Kd.R_lower ho0 (below_size (bf HB))); replace HO_5 := Aside0.mk (Kd.R_below (Rt_ HO_5.out) hb); replace HB := bs HB hb; (try clear hb); (try clear ho0); obtain ⟨Ao59, co59, eo59⟩ := Kd.R_slice HO_5.out; subst eo59; have p146 : 0 ≤ (x8_3 : Int) := od_; have q146 : x8_3 < (t129.length : Int) := od_; obtain ⟨ad146, e146, hx146_0⟩ := Kd.at_int (Kd.R_reads' HO_5.out).2.2 x8_3 p146 q146; cases e146; replace p146 := eq_true p146; replace q146 := eq_true q146))
                      replace HO_5 := Aside0.mk (Kd.R_drew HO_5.out)
                      replace HO145 := Aside0.mk (Kd.R_drew HO145.out)
                      replace HB := Aside0.mk (below_drew1 HB.out)
                      obtain ⟨Ao61, co61, eo61⟩ := Kd.R_slice HO145.out
                      (first | subst eo61 | (injection eo61 with f1_ f2_ f3_; have f4_ := f1_.symm; have f5_ := f3_.symm; clear f1_ f2_ f3_; subst f4_; subst f5_))
                      have p147 : 0 ≤ (0 : Int) := (by omega)
                      have q147 : 0 < (t143.length : Int) := od_
                      obtain ⟨ad147, e147, hx147_0⟩ := Kd.at_int (Kd.R_reads' HO145.out).2.2 0 p147 q147
                      cases e147
                      have qi147 : (0 < t143.length) = True := eq_true (by omega)
                      (try rw [show ((0 : Int)).toNat = 0 from rfl] at hx147_0)
                      (try rw [Addr.add_zero'] at hx147_0)
                      replace p147 := eq_true p147
                      replace q147 := eq_true q147
                      have p148 : 0 ≤ ((ji47) : Int) := od_
                      have q148 : (ji47) < (t143.length : Int) := od_
                      obtain ⟨ad148, e148, hx148_0⟩ := Kd.at_int (Kd.R_reads' HO145.out).2.2 (ji47) p148 q148
                      obtain rfl : ad147 = ad148 := (by injection e148)
                      replace p148 := eq_true p148
                      replace q148 := eq_true q148
                      have p150 : 0 ≤ (x8_3 : Int) := od_
                      have q150 : x8_3 < (t129.length : Int) := od_
                      obtain ⟨ad150, e150, hx150_0⟩ := Kd.at_int (Kd.R_reads' HO_5.out).2.2 x8_3 p150 q150
                      obtain rfl : ad146 = ad150 := (by injection e150)
                      replace p150 := eq_true p150
                      replace q150 := eq_true q150
                      refine start_ (n := 29) (S := fun w' => w'.cell? ad147 = some (.int .i64 (rd t143 0)) ∧ w'.cell? (ad147.add ((ji47)).toNat) = some (.int .i64 (rd t143 (ji47))) ∧ w'.cell? (ad146.add (x8_3).toNat) = some (.int .i64 (rd t129 x8_3))) (ds := []) (m_ 29 0) (by kernel_rfl) rfl rfl ⟨hx147_0, hx148_0, hx150_0⟩ (fun hHeld => ?_); refine with_tabW carrefourlaw14_PathsFits.tab20 carrefourlaw14_PathsFits.bits20 (fun HT_ HW_ => ?_)
                      generalize w58.drew = w60 at HO_5 HO145 HB hx147_0 hx148_0 hx150_0 hHeld ⊢
                      refine pu_ 0 (some 95) (m_ 29 1) rfl rfl (ao HT_) ?_
                      refine pu_ 1 (some 96) (m_ 29 3) rfl rfl (ao HT_) ?_
                      refine pu_ 2 (some 97) (m_ 29 7) rfl rfl (ao HT_) ?_
                      refine pu_ 3 (some 98) (m_ 29 15) rfl rfl (ao HT_) ?_
                      refine pu_ 4 (some 99) (m_ 29 31) rfl rfl (ao HT_) ?_
                      refine pu_ 5 (some 100) (m_ 29 63) rfl rfl (ao HT_) ?_
                      refine tk_ 6 (some 101) (m_ 29 127) rfl rfl (tw HT_ HW_) hHeld ?_
                      refine pu_ 7 (some 102) (m_ 29 255) rfl rfl (ao HT_) ?_
                      refine pu_ 8 (some 103) (m_ 29 511) rfl rfl (ao HT_) ?_
                      refine pu_ 9 (some 104) (m_ 29 1023) rfl rfl (ao HT_) ?_
                      refine pu_ 10 (some 105) (m_ 29 2047) rfl rfl (ao HT_) ?_
                      refine pu_ 11 (some 106) (m_ 29 4095) rfl rfl (ao HT_) ?_
                      refine pu_ 12 (some 107) (m_ 29 8191) rfl rfl (ao HT_) ?_
                      refine pu_ 13 (some 108) (m_ 29 16383) rfl rfl (ao HT_) ?_
                      refine pu_ 14 (some 109) (m_ 29 32767) rfl rfl (ao HT_) ?_
                      refine pu_ 16 (some 111) (m_ 29 98303) rfl rfl (ao HT_) ?_
                      refine tk_ 15 (some 110) (m_ 29 131071) rfl rfl (tw HT_ HW_) hHeld ?_
                      refine pu_ 17 (some 112) (m_ 29 262143) rfl rfl (ao HT_) ?_
                      refine pu_ 18 (some 113) (m_ 29 524287) rfl rfl (ao HT_) ?_
                      refine pu_ 19 (some 114) (m_ 29 1048575) rfl rfl (ao HT_) ?_
                      refine pu_ 20 (some 115) (m_ 29 2097151) rfl rfl (ao HT_) ?_
                      refine pu_ 21 (some 116) (m_ 29 4194303) rfl rfl (ao HT_) ?_
                      refine pu_ 23 (some 118) (m_ 29 12582911) rfl rfl (ao HT_) ?_
                      refine pu_ 24 (some 119) (m_ 29 29360127) rfl rfl (ao HT_) ?_
                      refine pu_ 25 (some 120) (m_ 29 62914559) rfl rfl (ao HT_) ?_
                      refine tk_ 26 (some 121) (m_ 29 130023423) rfl rfl (tw HT_ HW_) hHeld ?_
                      refine o1_ 22 (some 117) (m_ 29 134217727) rfl rfl (oo HT_) (fun K hK => ?_)
                      refine goes_ Tryd.func14 (by kernel_rfl) rfl #[.slice A1 l1.length c1, .slice (some ad147) t143.length co61] (by rfl) rfl rfl ag ?_
                      with_reducible refine (carrefourlaw14_length.calls _ _ _ _ _ _ _ _ _ ?side1 ?side2 ?side3 ?side4 A51.out).mono ?_
                      (case side1 => repeat (first | exact (Kd.C_below HR1.out HB.out) | (with_reducible refine Kd.C_alloc ?_ _) | (with_reducible refine Kd.C_drewN ?_ _) | (with_reducible refine Kd.C_drew ?_)))
                      (case side2 => exact HC1.out)
                      (case side3 => exact rc HO145)
                      (case side4 => exact (Kd.R_reads' HO145.out).2.1)
                      rintro e w62 ⟨rfl, hb⟩
                      have HS0_ := (hb.cell (World.block_lt_of_cell? _ _ (hHeld.1))).trans (hHeld.1)
                      have HS1_ := (hb.cell (World.block_lt_of_cell? _ _ (hHeld.2.1))).trans (hHeld.2.1)
                      have HS2_ := (hb.cell (World.block_lt_of_cell? _ _ (hHeld.2.2))).trans (hHeld.2.2)
                      refine ⟨_, rfl, ?_⟩
                      replace HO_5 := Aside0.mk (Kd.R_below (Rt_ HO_5.out) hb)
                      replace HO145 := rb HO145 hb
                      replace HB := bs HB hb
                      (try clear hb)
                      refine hK.out _ _ ⟨HS0_, HS1_, HS2_⟩ (fun hHeld => ?_)
                      clear hK K
                      refine nr_ (some 117) ?_
                      refine pu_ 27 (some 122) (m_ 29 268435455) rfl rfl (ao HT_) ?_
                      refine pu_ 28 (some 123) (m_ 29 536870911) rfl rfl (ao HT_) ?_
                      refine done_ (done_of HT_.out (by kernel_rfl)) ?_
                      try go_wp2
                      go_ret
                      exact ⟨by first | rfl | (simp [errW_none, errW_some] <;> rfl) | (simp only [← hji47]; first | rfl | (simp [errW_none, errW_some] <;> rfl)) | (simp [*, errW_none, errW_some] <;> rfl), bf HB⟩
                    ·rw [if_neg c50] at H
                     have c50b0 : ((rd t143 (ji47)) == x8_3) = false := beq_eq_false_iff_ne.mpr c50
                     have c50b1 : ((rd t143 (ji47)) != x8_3) = true := bne_iff_ne.mpr c50
                     obtain rfl := Option.some.inj H
                     try go_wp2_with (first | ((with_reducible refine gc 12 rfl ?_); refine gl_ (some 86) rfl rfl Tryd.func12 ((paths_Way.calls _ _ _ _ _ _ _ _ ?side1 ?side2 A29.out (tt GT)).mono ?_) ag; (case side1 => repeat (first | exact (Kd.C_below HR1.out HB.out) | (with_reducible refine Kd.C_alloc ?_ _) | (with_reducible refine Kd.C_drewN ?_ _) | (with_reducible refine Kd.C_drew ?_))); (case side2 => exact HC1.out); rintro e w63 ⟨v144, rfl, ho0, hb⟩; refine ⟨_, rfl, ?_⟩; have HO145 := Aside0.mk (Kd.R_lower ho0 (below_size (bf HB))); replace HO_5 := Aside0.mk (Kd.R_below (Rt_ HO_5.out) hb); replace HB := bs HB hb; (try clear hb); (try clear ho0); obtain ⟨Ao64, co64, eo64⟩ := Kd.R_slice HO_5.out; subst eo64; have p146 : 0 ≤ (x8_3 : Int) := od_; have q146 : x8_3 < (t129.length : Int) := od_; obtain ⟨ad146, e146, hx146_0⟩ := Kd.at_int (Kd.R_reads' HO_5.out).2.2 x8_3 p146 q146; cases e146; replace p146 := eq_true p146; replace q146 := eq_true q146))
                     replace HO_5 := Aside0.mk (Kd.R_drew HO_5.out)
                     replace HO145 := Aside0.mk (Kd.R_drew HO145.out)
                     replace HB := Aside0.mk (below_drew1 HB.out)
                     obtain ⟨Ao66, co66, eo66⟩ := Kd.R_slice HO145.out
                     (first | subst eo66 | (injection eo66 with f1_ f2_ f3_; have f4_ := f1_.symm; have f5_ := f3_.symm; clear f1_ f2_ f3_; subst f4_; subst f5_))
                     have p147 : 0 ≤ (0 : Int) := (by omega)
                     have q147 : 0 < (t143.length : Int) := od_
                     obtain ⟨ad147, e147, hx147_0⟩ := Kd.at_int (Kd.R_reads' HO145.out).2.2 0 p147 q147
                     cases e147
                     have qi147 : (0 < t143.length) = True := eq_true (by omega)
                     (try rw [show ((0 : Int)).toNat = 0 from rfl] at hx147_0)
                     (try rw [Addr.add_zero'] at hx147_0)
                     replace p147 := eq_true p147
                     replace q147 := eq_true q147
                     have p148 : 0 ≤ ((ji47) : Int) := od_
                     have q148 : (ji47) < (t143.length : Int) := od_
                     obtain ⟨ad148, e148, hx148_0⟩ := Kd.at_int (Kd.R_reads' HO145.out).2.2 (ji47) p148 q148
                     obtain rfl : ad147 = ad148 := (by injection e148)
                     replace p148 := eq_true p148
                     replace q148 := eq_true q148
                     refine start_ (n := 29) (S := fun w' => w'.cell? ad147 = some (.int .i64 (rd t143 0)) ∧ w'.cell? (ad147.add ((ji47)).toNat) = some (.int .i64 (rd t143 (ji47)))) (ds := []) (m_ 29 0) (by kernel_rfl) rfl rfl ⟨hx147_0, hx148_0⟩ (fun hHeld => ?_); refine with_tabW carrefourlaw14_PathsFits.tab20 carrefourlaw14_PathsFits.bits20 (fun HT_ HW_ => ?_)
                     generalize w63.drew = w65 at HO_5 HO145 HB hx147_0 hx148_0 hHeld ⊢
                     refine pu_ 0 (some 95) (m_ 29 1) rfl rfl (ao HT_) ?_
                     refine pu_ 1 (some 96) (m_ 29 3) rfl rfl (ao HT_) ?_
                     refine pu_ 2 (some 97) (m_ 29 7) rfl rfl (ao HT_) ?_
                     refine pu_ 3 (some 98) (m_ 29 15) rfl rfl (ao HT_) ?_
                     refine pu_ 4 (some 99) (m_ 29 31) rfl rfl (ao HT_) ?_
                     refine pu_ 5 (some 100) (m_ 29 63) rfl rfl (ao HT_) ?_
                     refine tk_ 6 (some 101) (m_ 29 127) rfl rfl (tw HT_ HW_) hHeld ?_
                     refine pu_ 7 (some 102) (m_ 29 255) rfl rfl (ao HT_) ?_
                     refine pu_ 8 (some 103) (m_ 29 511) rfl rfl (ao HT_) ?_
                     refine pu_ 9 (some 104) (m_ 29 1023) rfl rfl (ao HT_) ?_
                     refine pu_ 10 (some 105) (m_ 29 2047) rfl rfl (ao HT_) ?_
                     refine pu_ 11 (some 106) (m_ 29 4095) rfl rfl (ao HT_) ?_
                     refine pu_ 12 (some 107) (m_ 29 8191) rfl rfl (ao HT_) ?_
                     refine pu_ 13 (some 108) (m_ 29 16383) rfl rfl (ao HT_) ?_
                     refine pu_ 14 (some 109) (m_ 29 32767) rfl rfl (ao HT_) ?_
                     refine pu_ 16 (some 111) (m_ 29 98303) rfl rfl (ao HT_) ?_
                     refine tk_ 15 (some 110) (m_ 29 131071) rfl rfl (tw HT_ HW_) hHeld ?_
                     refine pu_ 17 (some 112) (m_ 29 262143) rfl rfl (ao HT_) ?_
                     refine pu_ 18 (some 113) (m_ 29 524287) rfl rfl (ao HT_) ?_
                     refine pu_ 19 (some 114) (m_ 29 1048575) rfl rfl (ao HT_) ?_
                     refine pv_ 20 (some 115) (m_ 29 2097151) rfl rfl (ao HT_) ?_
                     refine pv_ 21 (some 116) (m_ 29 4194303) rfl rfl (ao HT_) ?_
                     refine pv_ 22 (some 117) (m_ 29 8388607) rfl rfl (ao HT_) ?_
                     refine pv_ 23 (some 118) (m_ 29 16777215) rfl rfl (ao HT_) ?_
                     refine pv_ 24 (some 119) (m_ 29 33554431) rfl rfl (ao HT_) ?_
                     refine pv_ 25 (some 120) (m_ 29 67108863) rfl rfl (ao HT_) ?_
                     refine pv_ 26 (some 121) (m_ 29 134217727) rfl rfl (ao HT_) ?_
                     refine pv_ 27 (some 122) (m_ 29 268435455) rfl rfl (ao HT_) ?_
                     refine pu_ 28 (some 123) (m_ 29 536870911) rfl rfl (ao HT_) ?_
                     refine done_ (done_of HT_.out (by kernel_rfl)) ?_
                     try go_wp2
                     go_ret
                     exact ⟨by first | rfl | (simp [errW_none, errW_some] <;> rfl) | (simp only [← hji47]; first | rfl | (simp [errW_none, errW_some] <;> rfl)) | (simp [*, errW_none, errW_some] <;> rfl), bf HB⟩
                   ·rw [if_neg c49] at H
                    exact absurd H (by simp)
                  ·rw [if_neg c48] at H
                   exact absurd H (by simp)
                 ·rw [if_neg c46] at H
                  have c46b0 : ((rd t143 0) == 0) = false := beq_eq_false_iff_ne.mpr c46
                  have c46b1 : ((rd t143 0) != 0) = true := bne_iff_ne.mpr c46
                  obtain rfl := Option.some.inj H
                  try go_wp2_with (first | ((with_reducible refine gc 12 rfl ?_); refine gl_ (some 86) rfl rfl Tryd.func12 ((paths_Way.calls _ _ _ _ _ _ _ _ ?side1 ?side2 A29.out (tt GT)).mono ?_) ag; (case side1 => repeat (first | exact (Kd.C_below HR1.out HB.out) | (with_reducible refine Kd.C_alloc ?_ _) | (with_reducible refine Kd.C_drewN ?_ _) | (with_reducible refine Kd.C_drew ?_))); (case side2 => exact HC1.out); rintro e w67 ⟨v144, rfl, ho0, hb⟩; refine ⟨_, rfl, ?_⟩; have HO145 := Aside0.mk (Kd.R_lower ho0 (below_size (bf HB))); replace HO_5 := Aside0.mk (Kd.R_below (Rt_ HO_5.out) hb); replace HB := bs HB hb; (try clear hb); (try clear ho0); obtain ⟨Ao68, co68, eo68⟩ := Kd.R_slice HO_5.out; subst eo68; have p146 : 0 ≤ (x8_3 : Int) := od_; have q146 : x8_3 < (t129.length : Int) := od_; obtain ⟨ad146, e146, hx146_0⟩ := Kd.at_int (Kd.R_reads' HO_5.out).2.2 x8_3 p146 q146; cases e146; replace p146 := eq_true p146; replace q146 := eq_true q146))
                  replace HO_5 := Aside0.mk (Kd.R_drew HO_5.out)
                  replace HO145 := Aside0.mk (Kd.R_drew HO145.out)
                  replace HB := Aside0.mk (below_drew1 HB.out)
                  obtain ⟨Ao70, co70, eo70⟩ := Kd.R_slice HO145.out
                  (first | subst eo70 | (injection eo70 with f1_ f2_ f3_; have f4_ := f1_.symm; have f5_ := f3_.symm; clear f1_ f2_ f3_; subst f4_; subst f5_))
                  have p147 : 0 ≤ (0 : Int) := (by omega)
                  have q147 : 0 < (t143.length : Int) := od_
                  obtain ⟨ad147, e147, hx147_0⟩ := Kd.at_int (Kd.R_reads' HO145.out).2.2 0 p147 q147
                  cases e147
                  have qi147 : (0 < t143.length) = True := eq_true (by omega)
                  (try rw [show ((0 : Int)).toNat = 0 from rfl] at hx147_0)
                  (try rw [Addr.add_zero'] at hx147_0)
                  replace p147 := eq_true p147
                  replace q147 := eq_true q147
                  refine start_ (n := 29) (S := fun w' => w'.cell? ad147 = some (.int .i64 (rd t143 0))) (ds := []) (m_ 29 0) (by kernel_rfl) rfl rfl (hx147_0) (fun hHeld => ?_); refine with_tabW carrefourlaw14_PathsFits.tab20 carrefourlaw14_PathsFits.bits20 (fun HT_ HW_ => ?_)
                  generalize w67.drew = w69 at HO_5 HO145 HB hx147_0 hHeld ⊢
                  refine pu_ 0 (some 95) (m_ 29 1) rfl rfl (ao HT_) ?_
                  refine pu_ 1 (some 96) (m_ 29 3) rfl rfl (ao HT_) ?_
                  refine pu_ 2 (some 97) (m_ 29 7) rfl rfl (ao HT_) ?_
                  refine pu_ 3 (some 98) (m_ 29 15) rfl rfl (ao HT_) ?_
                  refine pu_ 4 (some 99) (m_ 29 31) rfl rfl (ao HT_) ?_
                  refine pu_ 5 (some 100) (m_ 29 63) rfl rfl (ao HT_) ?_
                  refine take_ (i := 6) (N := some 101) (v := ?_) (a' := ?_) (m_ 29 127) rfl rfl (take_ofW HT_.out HW_.out (by kernel_rfl)) (fun _ _ _ h => h) (Or.inl ⟨by rfl, ?_⟩) hHeld ?_ ?_
                  rotate_left
                  ·intro w' s0
                   go_simp
                   with_reducible rfl
                  rotate_left
                  ·simp only [Act.put, si, s0, s1, i64_w, i32_w]
                   rfl
                  refine pu_ 7 (some 102) (m_ 29 255) rfl rfl (ao HT_) ?_
                  refine pu_ 8 (some 103) (m_ 29 511) rfl rfl (ao HT_) ?_
                  refine pu_ 9 (some 104) (m_ 29 1023) rfl rfl (ao HT_) ?_
                  refine pv_ 10 (some 105) (m_ 29 2047) rfl rfl (ao HT_) ?_
                  refine pv_ 11 (some 106) (m_ 29 4095) rfl rfl (ao HT_) ?_
                  refine pv_ 12 (some 107) (m_ 29 8191) rfl rfl (ao HT_) ?_
                  refine pv_ 13 (some 108) (m_ 29 16383) rfl rfl (ao HT_) ?_
                  refine pv_ 14 (some 109) (m_ 29 32767) rfl rfl (ao HT_) ?_
                  refine pv_ 15 (some 110) (m_ 29 65535) rfl rfl (ao HT_) ?_
                  refine pv_ 16 (some 111) (m_ 29 131071) rfl rfl (ao HT_) ?_
                  refine pv_ 17 (some 112) (m_ 29 262143) rfl rfl (ao HT_) ?_
                  refine pu_ 18 (some 113) (m_ 29 524287) rfl rfl (ao HT_) ?_
                  refine pu_ 19 (some 114) (m_ 29 1048575) rfl rfl (ao HT_) ?_
                  refine pv_ 20 (some 115) (m_ 29 2097151) rfl rfl (ao HT_) ?_
                  refine pv_ 21 (some 116) (m_ 29 4194303) rfl rfl (ao HT_) ?_
                  refine pv_ 22 (some 117) (m_ 29 8388607) rfl rfl (ao HT_) ?_
                  refine pv_ 23 (some 118) (m_ 29 16777215) rfl rfl (ao HT_) ?_
                  refine pv_ 24 (some 119) (m_ 29 33554431) rfl rfl (ao HT_) ?_
                  refine pv_ 25 (some 120) (m_ 29 67108863) rfl rfl (ao HT_) ?_
                  refine pv_ 26 (some 121) (m_ 29 134217727) rfl rfl (ao HT_) ?_
                  refine pv_ 27 (some 122) (m_ 29 268435455) rfl rfl (ao HT_) ?_
                  refine pu_ 28 (some 123) (m_ 29 536870911) rfl rfl (ao HT_) ?_
                  refine done_ (done_of HT_.out (by kernel_rfl)) ?_
                  try go_wp2
                  go_ret
                  exact ⟨ae, bf HB⟩
                ·rw [if_neg c45] at H
                 exact absurd H (by simp)
             ·rw [if_neg c31] at H
              exact absurd H (by simp)
            ·rw [if_neg c30] at H
             exact absurd H (by simp)
           ·rw [if_neg c28] at H
            have c28b0 : decide (x8_3 < a0) = false := decide_eq_false c28
            clear c28
            replace H := bi_ H; obtain ⟨t142, A71, H⟩ := H
            (try dsimp only at H)
            obtain rfl := Option.some.inj H
            go_wp2_with (first | ((with_reducible refine gc 10 rfl ?_); refine gm_ (some 124) rfl rfl Tryd.func10 (carrefourlaw14_awake.calls _ _ _ A71.out (tt GT)) ag ?_; intro w72 hb; replace HO_5 := Aside0.mk (Kd.R_below (Rt_ HO_5.out) hb); replace HB := bs HB hb; (try clear hb)))
            go_ret
            exact ⟨ae, bf HB⟩
  ·rw [if_neg c6] at H
   have c6b0 : (t130 == 0) = false := beq_eq_false_iff_ne.mpr c6
   have c6b1 : (t130 != 0) = true := bne_iff_ne.mpr c6
   by_cases c73 : (t129.length : Int) = 0
   ·rw [if_pos c73] at H
    have c73b0 : ((t129.length : Int) == 0) = true := beq_iff_eq.mpr c73
    have c73b1 : ((t129.length : Int) != 0) = false := bne_eq_false_iff_eq.mpr c73
    clear c73
    replace H := bi_ H; obtain ⟨t133, A74, H⟩ := H
    (try dsimp only at H)
    obtain rfl := Option.some.inj H
    go_enter Tryd.func5, Tryd.ntmps5
    go_wp2_with (first | ((with_reducible refine gc 7 rfl ?_); refine gm_ (some 12) rfl rfl Tryd.func7 (carrefourlaw14_few.calls _ _ _ _ _ _ ?side1 ?side2 A3.out) ag ?_; (case side1 => repeat (first | exact HR1.out | (with_reducible refine Kd.C_alloc ?_ _) | (with_reducible refine Kd.C_drewN ?_ _) | (with_reducible refine Kd.C_drew ?_))); (case side2 => exact HC1.out); rintro w' ⟨nd, rfl⟩) | ((with_reducible refine gc 8 rfl ?_); refine gl_ (some 17) rfl rfl Tryd.func8 ((paths_Longest.calls _ _ _ _ _ _ _ _ ?side1 ?side2 A5.out (tt GT)).mono ?_) ag; (case side1 => repeat (first | exact HR1.out | (with_reducible refine Kd.C_alloc ?_ _) | (with_reducible refine Kd.C_drewN ?_ _) | (with_reducible refine Kd.C_drew ?_))); (case side2 => exact HC1.out); rintro e w75 ⟨v131, rfl, ho0, hb⟩; refine ⟨_, rfl, ?_⟩; have HO132 := Aside0.mk (Kd.R_lower ho0 (below_size (bf HB))); replace HB := bs HB hb; (try clear hb); (try clear ho0); obtain ⟨Ao76, co76, eo76⟩ := Kd.R_slice HO132.out; subst eo76) | (go_at_call 10; (with_reducible refine (carrefourlaw14_awake.calls _ _ _ A74.out (tt GT)).mono ?_); rintro e w77 ⟨rfl, hb⟩; replace HO132 := rb HO132 hb; replace HB := bs HB hb; (try clear hb)))
    go_ret
    exact ⟨ae, bf HB⟩
   ·rw [if_neg c73] at H
    have c73b0 : ((t129.length : Int) == 0) = false := beq_eq_false_iff_ne.mpr c73
    have c73b1 : ((t129.length : Int) != 0) = true := bne_iff_ne.mpr c73
    have c73b2 : ¬ (t129 = []) := fun h_ => c73 (by rw [h_]; rfl)
    obtain rfl := Option.some.inj H
    go_enter Tryd.func5, Tryd.ntmps5
    go_wp2_with (first | ((with_reducible refine gc 7 rfl ?_); refine gm_ (some 12) rfl rfl Tryd.func7 (carrefourlaw14_few.calls _ _ _ _ _ _ ?side1 ?side2 A3.out) ag ?_; (case side1 => repeat (first | exact HR1.out | (with_reducible refine Kd.C_alloc ?_ _) | (with_reducible refine Kd.C_drewN ?_ _) | (with_reducible refine Kd.C_drew ?_))); (case side2 => exact HC1.out); rintro w' ⟨nd, rfl⟩) | ((with_reducible refine gc 8 rfl ?_); refine gl_ (some 17) rfl rfl Tryd.func8 ((paths_Longest.calls _ _ _ _ _ _ _ _ ?side1 ?side2 A5.out (tt GT)).mono ?_) ag; (case side1 => repeat (first | exact HR1.out | (with_reducible refine Kd.C_alloc ?_ _) | (with_reducible refine Kd.C_drewN ?_ _) | (with_reducible refine Kd.C_drew ?_))); (case side2 => exact HC1.out); rintro e w78 ⟨v131, rfl, ho0, hb⟩; refine ⟨_, rfl, ?_⟩; have HO132 := Aside0.mk (Kd.R_lower ho0 (below_size (bf HB))); replace HB := bs HB hb; (try clear hb); (try clear ho0); obtain ⟨Ao79, co79, eo79⟩ := Kd.R_slice HO132.out; subst eo79))
    go_ret
    exact ⟨ae, bf HB⟩
 ·replace c4 := Bool.eq_false_iff.mpr c4
  subst c4
  have H1 : (some true) = some r := by rw [if_neg (show ¬ (false = true) by decide)] at H; exact H
  clear H
  have H := H1
  clear H1
  obtain rfl := Option.some.inj H
  go_enter Tryd.func5, Tryd.ntmps5
  go_wp2_with (first | ((with_reducible refine gc 7 rfl ?_); refine gm_ (some 12) rfl rfl Tryd.func7 (carrefourlaw14_few.calls _ _ _ _ _ _ ?side1 ?side2 A3.out) ag ?_; (case side1 => repeat (first | exact HR1.out | (with_reducible refine Kd.C_alloc ?_ _) | (with_reducible refine Kd.C_drewN ?_ _) | (with_reducible refine Kd.C_drew ?_))); (case side2 => exact HC1.out); rintro w' ⟨nd, rfl⟩))
  go_ret
  exact ⟨ae, bf HB⟩

end Go.Proofs.YtcdddmaibchjjaaDoor.X
