/- Walks: each '.calls' says that the Go function comes to what its Lean function tells. Conditions: as each theorem's head says. -/
import Derived.Test.YtcdddmaibchjjaaDoorXD
import Derived.Test.YtcdddmaibchjjaaDoorX0
namespace Go.Proofs.YtcdddmaibchjjaaDoor.X
open Go.RowKit Go.Proofs.YtcdddmaibchjjaaDoorW.PrintWords Go.Proofs.YtcdddmaibchjjaaDoorW.PrintLast Go.Proofs.YtcdddmaibchjjaaDoorW.PrintMore
attribute [local go_sem] max2_int min2_int max_two min_two max_three min_three max_four min_four   -- for this text's walks alone
set_option linter.unusedVariables false
set_option maxHeartbeats 8000000
set_option maxRecDepth 100000
set_option linter.unusedSimpArgs false

/-! ### carrefourref14_round: function 17 -/
def carrefourref14_round.T7 : Bool × List (List Nat × List Nat) := (true, [([], []), ([], []), ([1], [1]), ([0, 2], [0, 2]), ([3], [3]), ([4], [4]), ([5], [5]), ([6], [6]), ([6], [6]), ([8, 6], [6, 8]), ([7, 9, 6], [6, 7, 9]), ([10, 6], [6, 10]), ([6], [6]), ([12, 6], [6, 12]), ([11, 13, 6], [6, 11, 13]), ([6], [6]), ([6], [6]), ([16, 6], [6, 16]), ([15, 17, 6], [6, 15, 17]), ([18, 6], [6, 18]), ([14, 19, 6], [6, 14, 19]), ([6, 20], [6, 20])])
def carrefourref14_round.B7 : List Nat := [0, 0, 2, 7, 15, 31, 63, 127, 127, 383, 1023, 2047, 127, 4223, 16383, 127, 127, 65663, 229503, 491647, 1048575, 2097151]
theorem carrefourref14_round.tab7 : rtab .any (opsOf Tryd.f17 7) = carrefourref14_round.T7 := by kernel_rfl
theorem carrefourref14_round.bits7 : waitsOk carrefourref14_round.T7.2 carrefourref14_round.B7 = true := by kernel_rfl
def carrefourref14_round.T8 : Bool × List (List Nat × List Nat) := (true, [([], []), ([], []), ([1], [1]), ([], []), ([], []), ([4], [4]), ([3, 5], [3, 5]), ([6], [6]), ([], []), ([8], [8]), ([7, 9], [7, 9]), ([0, 2, 0, 1, 2, 3, 4, 5, 6, 7, 8, 9, 10], [0, 2]), ([11, 10, 0, 1, 2, 3, 4, 5, 6, 7, 8, 9, 10], [10, 11])])
def carrefourref14_round.B8 : List Nat := [0, 0, 2, 0, 0, 16, 56, 120, 0, 256, 1016, 2047, 4095]
theorem carrefourref14_round.tab8 : rtab .any (opsOf Tryd.f17 8) = carrefourref14_round.T8 := by kernel_rfl
theorem carrefourref14_round.bits8 : waitsOk carrefourref14_round.T8.2 carrefourref14_round.B8 = true := by kernel_rfl
theorem carrefourref14_round.calls (k : Nat) (A0 : Option Addr) (c0 : Nat) (l0 : List Int) (A1 : Option Addr) (c1 : Nat) (l1 : List (S34)) (r1 : List Int) (r2 : Bool) (w : World) (hr0 : Kd.C (Kd.int .i64) w A0 l0.length l0) (hc0 : l0.length ≤ c0) (hr1 : Kd.C k34 w A1 l1.length l1) (hc1 : l1.length ≤ c1) (h : carrefourref14_round.f k l0 l1 = some (r1, r2)) :
  Calls Tryd.prog 17 #[.slice A0 l0.length c0, .slice A1 l1.length c1] w fun e w' => ∃ v0_ : Value, e = .returned (.tuple #[v0_, .bool r2]) ∧ Kd.R (Kd.int .i64) 2 w' w.heap.size (fun _ => True) v0_ r1 ∧ Below w.heap.size w w' := by
 have hu34 := Tryd.underlying34
 have HR0 := Aside0.mk hr0
 have HC0 := Aside0.mk hc0
 clear hr0 hc0
 have HR1 := Aside0.mk hr1
 have HC1 := Aside0.mk hc1
 clear hr1 hc1
 have HB := Aside0.mk (Below.refl w.heap.size w)
 have H : ((some (([] : List Int) : List Int)).bind fun y128 => (if y128.length + l0.length < 17592186044416 then (carrefourref14_round.l0 k l0 l1 (y128 ++ l0) false 0) else (none))) = some (r1, r2) := h
 clear h
 obtain ⟨y128, hy128⟩ : ∃ y_ : List Int, y_ = (([] : List Int)) := ⟨_, rfl⟩
 replace H : (if y128.length + l0.length < 17592186044416 then (carrefourref14_round.l0 k l0 l1 (y128 ++ l0) false 0) else (none)) = some (r1, r2) := by first | (rw [hy128]; with_reducible exact H) | (have H2_ := (Option.bind_some _ _).symm.trans H; rw [hy128]; with_reducible exact H2_) | (have H2_ := (Option.bind_some _ _).symm.trans H; with_reducible exact H2_) | with_reducible exact H | (rw [hy128]; exact H) | exact H
 have Ny128 := Aside0.mk hy128
 clear hy128
 by_cases c3 : y128.length + l0.length < 17592186044416
 ·rw [if_pos c3] at H
  have LMc3 := Aside0.mk c3
  clear c3
  obtain ⟨y131, hy131⟩ : ∃ y_ : List Int, y_ = (y128 ++ l0) := ⟨_, rfl⟩
  replace H : (carrefourref14_round.l0 k l0 l1 y131 false 0) = some (r1, r2) := by first | (rw [hy131]; with_reducible exact H) | (have H2_ := (Option.bind_some _ _).symm.trans H; rw [hy131]; with_reducible exact H2_) | (have H2_ := (Option.bind_some _ _).symm.trans H; with_reducible exact H2_) | with_reducible exact H | (rw [hy131]; exact H) | exact H
  have Ny131 := Aside0.mk hy131
  clear hy131
  have H' := Aside0.mk H
  clear H
  go_enter Tryd.func17, Tryd.ntmps17
  go_wp2_with (first | ((with_reducible refine gate_dst (N := 10) rfl ?_); refine Kd.R_lit (Kd.int .i64) _ 2 ?hg (N := 10) ?hd (xs := ([] : List Int)) (inner := []) (ok := fun _ => True) (okp := fun _ => True) ?hr ?hp (fun _ hk => hk) trivial (Below.refl _ _) (Nat.le_refl _) (by simp) ?_; (case hd => rfl); (case hg => rfl); (case hr => first | (go_simp; done) | (go_simp; rfl)); (case hp => exact (Reps.none _ _)); intro v129 w4 ho5 hb hg_ hnew_; clear hg_ hnew_; (first | rw [← Ny128.out] at ho5 | (simp only [Int.reduceToNat] at ho5; rw [← Ny128.out] at ho5)); have HO130 := Aside0.mk (Kd.R_lower ho5 (below_size (bf HB))); replace HB := bs HB hb; clear hb ho5) | ((with_reducible refine gate_builtin (b := .append) (xs := #[.tmp 10, .tmp 11]) rfl ?_); at_builtin; refine Kd.R_append_rows (Kd.int .i64) (w0 := w) w.heap.size rfl (.tmp 10) (.tmp 11) 24 2 (.int .i64 0) 8 rfl Tryd.underlying24 info2 rfl (by decide) (by omega) v129 y128 l0 _ _ _ (fun _ => True) (fun _ => False) rfl rfl ?aO ?aR (fun _ _ h => h) (fun _ h => h.elim) ?aF ?aB ?aS ?aL ?_; (case aR => repeat (first | exact (Kd.C_below HR0.out HB.out) | (with_reducible refine Kd.C_alloc ?_ _) | (with_reducible refine Kd.C_drewN ?_ _) | (with_reducible refine Kd.C_drew ?_))); (case aB => exact (bf HB)); (case aF => exact (fun _ _ => trivial)); (case aO => exact (Rt_ HO130.out)); (case aS => exact (below_size (bf HB))); (case aL => have := LMc3.out; omega); intro v132 w6 ho hb hg hat; rw [← Ny131.out] at ho; have n0_ := Aside0.mk (hb); have n1_ := Aside0.mk (ho); clear HB; clear HO130; have HB := n0_; have HO133 := n1_; clear n0_ n1_; clear ho hb hg hat))
  go_loopg [7, 8] k (fun kq v7 v8 w' => ∃ (x6_1 : List Int) (x7_1 : Bool) (x8_1 : Int), v7 = .bool x7_1 ∧ v8 = .int .i64 x8_1 ∧ Aside0 (carrefourref14_round.l0 kq l0 l1 x6_1 x7_1 x8_1 = some (r1, r2)) ∧ Aside0 (kq ≤ k) ∧ Aside0 (Kd.R (Kd.int .i64) 2 w' w.heap.size (fun _ => True) v132 x6_1) ∧ Aside0 (Below w.heap.size w w'))
  case atStart => exact ⟨(y131), (false), (0), (aq), (aq), H', ⟨Nat.le_refl _⟩, ⟨Rt_ HO133.out⟩, ⟨bf HB⟩⟩
  case round =>
   clear H'
   (try clear c1); (try clear p2); (try clear c3)
   obtain ⟨x6_1, x7_1, x8_1, rfl, rfl, HA, HK1, HO_6, HB⟩ := hrel
   cases gk with
   | zero => exact absurd HA.out (by simp [carrefourref14_round.l0])
   | succ k1 =>
    have H := HA.out
    clear HA
    simp only [carrefourref14_round.l0] at H
    by_cases c7 : x8_1 < (l1.length : Int)
    ·rw [if_pos c7] at H
     have c7b0 : decide (x8_1 < (l1.length : Int)) = true := decide_eq_true c7
     clear c7
     by_cases c8 : 0 ≤ x8_1
     ·rw [if_pos c8] at H
      have c8b0 : decide (0 ≤ x8_1) = true := decide_eq_true c8
      clear c8
      by_cases c9 : 0 ≤ ((rd_T34 l1 x8_1).f0)
      ·rw [if_pos c9] at H
       have c9b0 : decide (0 ≤ ((rd_T34 l1 x8_1).f0)) = true := decide_eq_true c9
       clear c9
       by_cases c10 : ((rd_T34 l1 x8_1).f0) < (l0.length : Int)
       ·rw [if_pos c10] at H
        have c10b0 : decide (((rd_T34 l1 x8_1).f0) < (l0.length : Int)) = true := decide_eq_true c10
        clear c10
        by_cases c11 : (rd l0 ((rd_T34 l1 x8_1).f0)) ≥ 0
        ·rw [if_pos c11] at H
         have c11b0 : decide (0 ≤ (rd l0 ((rd_T34 l1 x8_1).f0))) = true := decide_eq_true c11
         clear c11
         by_cases c12 : 0 ≤ ((rd_T34 l1 x8_1).f1)
         ·rw [if_pos c12] at H
          have c12b0 : decide (0 ≤ ((rd_T34 l1 x8_1).f1)) = true := decide_eq_true c12
          clear c12
          by_cases c13 : ((rd_T34 l1 x8_1).f1) < (x6_1.length : Int)
          ·rw [if_pos c13] at H
           have c13b0 : decide (((rd_T34 l1 x8_1).f1) < (x6_1.length : Int)) = true := decide_eq_true c13
           clear c13
           by_cases c14 : (wrap64 ((rd l0 ((rd_T34 l1 x8_1).f0)) + ((rd_T34 l1 x8_1).f2))) > (rd x6_1 ((rd_T34 l1 x8_1).f1))
           ·rw [if_pos c14] at H
            have c14b0 : decide ((rd x6_1 ((rd_T34 l1 x8_1).f1)) < (wrap64 ((rd l0 ((rd_T34 l1 x8_1).f0)) + ((rd_T34 l1 x8_1).f2)))) = true := decide_eq_true c14
            clear c14
            obtain ⟨y140, hy140⟩ : ∃ y_ : List Int, y_ = (x6_1.set (((rd_T34 l1 x8_1).f1) : Int).toNat (wrap64 ((rd l0 ((rd_T34 l1 x8_1).f0)) + ((rd_T34 l1 x8_1).f2)))) := ⟨_, rfl⟩
            replace H : (carrefourref14_round.l0 k1 l0 l1 y140 true (wrap64 (x8_1 + 1))) = some (r1, r2) := by first | (rw [hy140]; with_reducible exact H) | (have H2_ := (Option.bind_some _ _).symm.trans H; rw [hy140]; with_reducible exact H2_) | (have H2_ := (Option.bind_some _ _).symm.trans H; with_reducible exact H2_) | with_reducible exact H | (rw [hy140]; exact H) | exact H
            have Ny140 := Aside0.mk hy140
            clear hy140
            have H' := Aside0.mk H
            clear H
            have p134 : 0 ≤ (x8_1 : Int) := od_
            have q134 : x8_1 < (l1.length : Int) := od_
            obtain ⟨ad134, e134, hx134_0, hx134_1, hx134_2⟩ := at_T34 HR1.out x8_1 p134 q134
            cases e134
            replace hx134_0 := hx_ HB hx134_0
            replace hx134_1 := hx_ HB hx134_1
            replace hx134_2 := hx_ HB hx134_2
            replace p134 := eq_true p134
            replace q134 := eq_true q134
            try go_wp2_with (first | ((with_reducible refine gd 9 rfl ?_); refine bx_ 9 34 #[.int .i64 0, .int .i64 0, .int .i64 0] rfl rfl ?_; intro gb135 hg w16 BK135 hb; have GE135 := bz HB hg; replace HO_6 := Aside0.mk (Kd.R_below (Rt_ HO_6.out) hb); replace HB := bs HB hb; clear hb hg; have hcz17 := X.k3 BK135))
            have n0_ : Aside0 (Kd.R (Kd.int .i64) 2 (((w16.setCell ⟨gb135, 0, none⟩ (.int .i64 ((rd_T34 l1 x8_1).f0))).setCell ⟨gb135, 1, none⟩ (.int .i64 ((rd_T34 l1 x8_1).f1))).setCell ⟨gb135, 2, none⟩ (.int .i64 ((rd_T34 l1 x8_1).f2))) w.heap.size (fun _ => True) v132 x6_1) := ⟨Rt_ (Kd.R_mono (Kd.R_far (p := ⟨gb135, 2, none⟩) (Kd.R_far (p := ⟨gb135, 1, none⟩) (Kd.R_far (p := ⟨gb135, 0, none⟩) (Kd.R_types HO_6.out BK135.out (by decide)) (fun _ hk => hk.2) (.int .i64 ((rd_T34 l1 x8_1).f0))) (fun _ hk => hk.2) (.int .i64 ((rd_T34 l1 x8_1).f1))) (fun _ hk => hk.2) (.int .i64 ((rd_T34 l1 x8_1).f2))) (fun _ hk => trivial))⟩
            have n1_ : Aside0 ((((w16.setCell ⟨gb135, 0, none⟩ (.int .i64 ((rd_T34 l1 x8_1).f0))).setCell ⟨gb135, 1, none⟩ (.int .i64 ((rd_T34 l1 x8_1).f1))).setCell ⟨gb135, 2, none⟩ (.int .i64 ((rd_T34 l1 x8_1).f2))).heap[gb135]? = some (.cells #[.int .i64 ((rd_T34 l1 x8_1).f0), .int .i64 ((rd_T34 l1 x8_1).f1), .int .i64 ((rd_T34 l1 x8_1).f2)] 34 (0, 0))) := bq_ BK135
            have n2_ : Aside0 (Below w.heap.size w (((w16.setCell ⟨gb135, 0, none⟩ (.int .i64 ((rd_T34 l1 x8_1).f0))).setCell ⟨gb135, 1, none⟩ (.int .i64 ((rd_T34 l1 x8_1).f1))).setCell ⟨gb135, 2, none⟩ (.int .i64 ((rd_T34 l1 x8_1).f2)))) := ⟨bf HB⟩
            (try clear HO_6); (try clear BK135); (try clear HB)
            generalize (((w16.setCell ⟨gb135, 0, none⟩ (.int .i64 ((rd_T34 l1 x8_1).f0))).setCell ⟨gb135, 1, none⟩ (.int .i64 ((rd_T34 l1 x8_1).f1))).setCell ⟨gb135, 2, none⟩ (.int .i64 ((rd_T34 l1 x8_1).f2))) = w18 at n0_ n1_ n2_ ⊢
            have HO_6 := n0_
            have BK135 := n1_
            have HB := n2_
            clear n0_ n1_ n2_
            replace HO_6 := Aside0.mk (Kd.R_drew HO_6.out)
            replace BK135 := Aside0.mk (blk_drew BK135.out)
            replace HB := Aside0.mk (below_drew1 HB.out)
            have p136 : 0 ≤ (((rd_T34 l1 x8_1).f0) : Int) := od_
            have q136 : ((rd_T34 l1 x8_1).f0) < (l0.length : Int) := od_
            obtain ⟨ad136, e136, hx136_0⟩ := Kd.at_int HR0.out ((rd_T34 l1 x8_1).f0) p136 q136
            have hw136_0 := hx136_0
            cases e136
            replace hx136_0 := hx_ HB hx136_0
            replace p136 := eq_true p136
            replace q136 := eq_true q136
            have p137 : 0 ≤ (((rd_T34 l1 x8_1).f0) : Int) := od_
            have q137 : ((rd_T34 l1 x8_1).f0) < (l0.length : Int) := od_
            obtain ⟨ad137, e137, hx137_0⟩ := Kd.at_int HR0.out ((rd_T34 l1 x8_1).f0) p137 q137
            have hw137_0 := hx137_0
            obtain rfl : ad136 = ad137 := (by injection e137)
            replace hx137_0 := hx_ HB hx137_0
            replace p137 := eq_true p137
            replace q137 := eq_true q137
            obtain ⟨Ao20, co20, eo20⟩ := Kd.R_slice HO_6.out
            (first | subst eo20 | (injection eo20 with f1_ f2_ f3_; have f4_ := f1_.symm; have f5_ := f3_.symm; clear f1_ f2_ f3_; subst f4_; subst f5_))
            have p138 : 0 ≤ (((rd_T34 l1 x8_1).f1) : Int) := od_
            have q138 : ((rd_T34 l1 x8_1).f1) < (x6_1.length : Int) := od_
            obtain ⟨ad138, e138, hx138_0⟩ := Kd.at_int (Kd.R_reads' HO_6.out).2.2 ((rd_T34 l1 x8_1).f1) p138 q138
            cases e138
            replace p138 := eq_true p138
            replace q138 := eq_true q138
            refine start_ (n := 22) (S := fun w' => c_ w' gb135 0 (.int .i64 ((rd_T34 l1 x8_1).f0)) ∧ c_ w' gb135 1 (.int .i64 ((rd_T34 l1 x8_1).f1)) ∧ c_ w' gb135 2 (.int .i64 ((rd_T34 l1 x8_1).f2)) ∧ w'.cell? (ad136.add (((rd_T34 l1 x8_1).f0)).toNat) = some (.int .i64 (rd l0 ((rd_T34 l1 x8_1).f0))) ∧ w'.cell? (ad136.add (((rd_T34 l1 x8_1).f0)).toNat) = some (.int .i64 (rd l0 ((rd_T34 l1 x8_1).f0))) ∧ w'.cell? (ad138.add (((rd_T34 l1 x8_1).f1)).toNat) = some (.int .i64 (rd x6_1 ((rd_T34 l1 x8_1).f1)))) (ds := []) (m_ 22 0) (by kernel_rfl) rfl rfl ⟨ct BK135 0, ct BK135 1, ct BK135 2, (hx_ HB hw136_0 :), (hx_ HB hw137_0 :), hx138_0⟩ (fun hHeld => ?_); refine with_tabW carrefourref14_round.tab7 carrefourref14_round.bits7 (fun HT_ HW_ => ?_)
            generalize w18.drew = w19 at HO_6 BK135 HB hx136_0 hx137_0 hx138_0 hHeld ⊢
            refine pu_ 0 (some 23) (m_ 22 1) rfl rfl (ao HT_) ?_
            refine pu_ 1 (some 24) (m_ 22 3) rfl rfl (ao HT_) ?_
            refine tk_ 2 (some 25) (m_ 22 7) rfl rfl (tw HT_ HW_) hHeld ?_
            refine pu_ 3 (some 26) (m_ 22 15) rfl rfl (ao HT_) ?_
            refine tk_ 4 (some 27) (m_ 22 31) rfl rfl (tw HT_ HW_) hHeld ?_
            refine pu_ 5 (some 28) (m_ 22 63) rfl rfl (ao HT_) ?_
            refine pu_ 6 (some 29) (m_ 22 127) rfl rfl (ao HT_) ?_
            refine pu_ 7 (some 30) (m_ 22 255) rfl rfl (ao HT_) ?_
            refine pu_ 8 (some 31) (m_ 22 511) rfl rfl (ao HT_) ?_
            refine pu_ 12 (some 35) (m_ 22 4607) rfl rfl (ao HT_) ?_
            refine pu_ 15 (some 38) (m_ 22 37375) rfl rfl (ao HT_) ?_
            refine pu_ 16 (some 39) (m_ 22 102911) rfl rfl (ao HT_) ?_
            refine tk_ 9 (some 32) (m_ 22 103423) rfl rfl (tw HT_ HW_) hHeld ?_
            refine pu_ 10 (some 33) (m_ 22 104447) rfl rfl (ao HT_) ?_
            refine tk_ 11 (some 34) (m_ 22 106495) rfl rfl (tw HT_ HW_) hHeld ?_
            refine tk_ 13 (some 36) (m_ 22 114687) rfl rfl (tw HT_ HW_) hHeld ?_
            refine pu_ 14 (some 37) (m_ 22 131071) rfl rfl (ao HT_) ?_
            refine tk_ 17 (some 40) (m_ 22 262143) rfl rfl (tw HT_ HW_) hHeld ?_
            refine pu_ 18 (some 41) (m_ 22 524287) rfl rfl (ao HT_) ?_
            refine tk_ 19 (some 42) (m_ 22 1048575) rfl rfl (tw HT_ HW_) hHeld ?_
            refine pu_ 20 (some 43) (m_ 22 2097151) rfl rfl (ao HT_) ?_
            refine pu_ 21 (some 44) (m_ 22 4194303) rfl rfl (ao HT_) ?_
            refine done_ (done_of HT_.out (by kernel_rfl)) ?_
            try go_wp2
            replace HO_6 := Aside0.mk (Kd.R_drew HO_6.out)
            replace BK135 := Aside0.mk (blk_drew BK135.out)
            replace HB := Aside0.mk (below_drew1 HB.out)
            have p139 : 0 ≤ (((rd_T34 l1 x8_1).f0) : Int) := od_
            have q139 : ((rd_T34 l1 x8_1).f0) < (l0.length : Int) := od_
            obtain ⟨ad139, e139, hx139_0⟩ := Kd.at_int HR0.out ((rd_T34 l1 x8_1).f0) p139 q139
            have hw139_0 := hx139_0
            obtain rfl : ad136 = ad139 := (by injection e139)
            replace hx139_0 := hx_ HB hx139_0
            replace p139 := eq_true p139
            replace q139 := eq_true q139
            have p15 : 0 ≤ (((rd_T34 l1 x8_1).f1) : Int) := od_
            have q15 : (((rd_T34 l1 x8_1).f1) : Int) < ((x6_1.length : Int) : Int) := od_
            obtain ⟨go15, co15, eo15, gb15, gl15, cl15, HG15⟩ := Kd.R_form HO_6.out (by omega)
            (first | cases eo15 | (injection eo15 with ea_ en_ ec_; (first | subst ea_ | (injection ea_ with ea_; subst ea_)); subst ec_; clear en_))
            have GB15 := Aside0.mk gb15
            have GG15 := Aside0.mk HG15
            clear gb15 gl15 HG15
            (first | simp only [add_plain] at hx138_0 | skip)
            obtain ⟨hx15_0, hf15_0⟩ := Kd.R_celln 0 HO_6.out (((rd_T34 l1 x8_1).f1) : Int) p15 q15
            replace p15 := eq_true p15
            replace q15 := eq_true q15
            have HP22 := Kd.R_putn HO_6.out (((rd_T34 l1 x8_1).f1) : Int) (wrap64 ((rd l0 ((rd_T34 l1 x8_1).f0)) + ((rd_T34 l1 x8_1).f2)))
            rw [← Ny140.out] at HP22
            have HQ22 := Aside0.mk HP22
            clear HP22
            refine start_ (n := 13) (S := fun w' => c_ w' gb135 0 (.int .i64 ((rd_T34 l1 x8_1).f0)) ∧ c_ w' gb135 1 (.int .i64 ((rd_T34 l1 x8_1).f1)) ∧ c_ w' gb135 2 (.int .i64 ((rd_T34 l1 x8_1).f2)) ∧ w'.cell? (ad136.add (((rd_T34 l1 x8_1).f0)).toNat) = some (.int .i64 (rd l0 ((rd_T34 l1 x8_1).f0)))) (ds := [12]) (m_ 13 0) (by kernel_rfl) rfl rfl ⟨ct BK135 0, ct BK135 1, ct BK135 2, (hx_ HB hw139_0 :)⟩ (fun hHeld => ?_); refine with_tabW carrefourref14_round.tab8 carrefourref14_round.bits8 (fun HT_ HW_ => ?_)
            generalize w19.drew = w21 at HO_6 BK135 HB GG15 HQ22 hf15_0 hx138_0 hx139_0 hx15_0 hHeld ⊢
            refine pu_ 0 (some 45) (m_ 13 1) rfl rfl (ao HT_) ?_
            refine pu_ 1 (some 46) (m_ 13 3) rfl rfl (ao HT_) ?_
            refine pu_ 3 (some 48) (m_ 13 11) rfl rfl (ao HT_) ?_
            refine pu_ 4 (some 49) (m_ 13 27) rfl rfl (ao HT_) ?_
            refine pu_ 8 (some 53) (m_ 13 283) rfl rfl (ao HT_) ?_
            refine tk_ 2 (some 47) (m_ 13 287) rfl rfl (tw HT_ HW_) hHeld ?_
            refine tk_ 5 (some 50) (m_ 13 319) rfl rfl (tw HT_ HW_) hHeld ?_
            refine pu_ 6 (some 51) (m_ 13 383) rfl rfl (ao HT_) ?_
            refine tk_ 7 (some 52) (m_ 13 511) rfl rfl (tw HT_ HW_) hHeld ?_
            refine tk_ 9 (some 54) (m_ 13 1023) rfl rfl (tw HT_ HW_) hHeld ?_
            refine pu_ 10 (some 55) (m_ 13 2047) rfl rfl (ao HT_) ?_
            refine pu_ 11 (some 56) (m_ 13 4095) rfl rfl (ao HT_) ?_
            refine last_ (i := 12) (N := none) (m_ 13 8191) rfl rfl (one_of HT_.out (by kernel_rfl)) (by decide) (fun K hK => ?_)
            refine skip_ (w1 := ?_) (by rfl) rfl ?_ ?_
            rotate_left
            ·go_simp
             rfl
            refine hK.out _ _ ?_
            clear hK K
            refine done_ (done_of HT_.out (by kernel_rfl)) ?_
            try go_wp2
            go_roundg k1
            case measure => have := HK1.out; omega
            case rel => exact ⟨(y140), (true), (wrap64 (x8_1 + 1)), (aq), (aq), H', ⟨by have := HK1.out; omega⟩, ⟨Rt_ HQ22.out⟩, ⟨by repeat (first | (with_reducible first | exact HB.out | apply below_alloc | apply pw_below_drewN | apply below_drew1 | refine below_set ?_ GB15.out | refine below_set ?_ GE135.out) | exact HB.out)⟩⟩
           ·rw [if_neg c14] at H
            have c14b0 : decide ((rd x6_1 ((rd_T34 l1 x8_1).f1)) < (wrap64 ((rd l0 ((rd_T34 l1 x8_1).f0)) + ((rd_T34 l1 x8_1).f2)))) = false := decide_eq_false c14
            clear c14
            have H' := Aside0.mk H
            clear H
            have p134 : 0 ≤ (x8_1 : Int) := od_
            have q134 : x8_1 < (l1.length : Int) := od_
            obtain ⟨ad134, e134, hx134_0, hx134_1, hx134_2⟩ := at_T34 HR1.out x8_1 p134 q134
            cases e134
            replace hx134_0 := hx_ HB hx134_0
            replace hx134_1 := hx_ HB hx134_1
            replace hx134_2 := hx_ HB hx134_2
            replace p134 := eq_true p134
            replace q134 := eq_true q134
            try go_wp2_with (first | ((with_reducible refine gd 9 rfl ?_); refine bx_ 9 34 #[.int .i64 0, .int .i64 0, .int .i64 0] rfl rfl ?_; intro gb135 hg w23 BK135 hb; have GE135 := bz HB hg; replace HO_6 := Aside0.mk (Kd.R_below (Rt_ HO_6.out) hb); replace HB := bs HB hb; clear hb hg; have hcz24 := X.k3 BK135))
            have n0_ : Aside0 (Kd.R (Kd.int .i64) 2 (((w23.setCell ⟨gb135, 0, none⟩ (.int .i64 ((rd_T34 l1 x8_1).f0))).setCell ⟨gb135, 1, none⟩ (.int .i64 ((rd_T34 l1 x8_1).f1))).setCell ⟨gb135, 2, none⟩ (.int .i64 ((rd_T34 l1 x8_1).f2))) w.heap.size (fun _ => True) v132 x6_1) := ⟨Rt_ (Kd.R_mono (Kd.R_far (p := ⟨gb135, 2, none⟩) (Kd.R_far (p := ⟨gb135, 1, none⟩) (Kd.R_far (p := ⟨gb135, 0, none⟩) (Kd.R_types HO_6.out BK135.out (by decide)) (fun _ hk => hk.2) (.int .i64 ((rd_T34 l1 x8_1).f0))) (fun _ hk => hk.2) (.int .i64 ((rd_T34 l1 x8_1).f1))) (fun _ hk => hk.2) (.int .i64 ((rd_T34 l1 x8_1).f2))) (fun _ hk => trivial))⟩
            have n1_ : Aside0 ((((w23.setCell ⟨gb135, 0, none⟩ (.int .i64 ((rd_T34 l1 x8_1).f0))).setCell ⟨gb135, 1, none⟩ (.int .i64 ((rd_T34 l1 x8_1).f1))).setCell ⟨gb135, 2, none⟩ (.int .i64 ((rd_T34 l1 x8_1).f2))).heap[gb135]? = some (.cells #[.int .i64 ((rd_T34 l1 x8_1).f0), .int .i64 ((rd_T34 l1 x8_1).f1), .int .i64 ((rd_T34 l1 x8_1).f2)] 34 (0, 0))) := bq_ BK135
            have n2_ : Aside0 (Below w.heap.size w (((w23.setCell ⟨gb135, 0, none⟩ (.int .i64 ((rd_T34 l1 x8_1).f0))).setCell ⟨gb135, 1, none⟩ (.int .i64 ((rd_T34 l1 x8_1).f1))).setCell ⟨gb135, 2, none⟩ (.int .i64 ((rd_T34 l1 x8_1).f2)))) := ⟨bf HB⟩
            (try clear HO_6); (try clear BK135); (try clear HB)
            generalize (((w23.setCell ⟨gb135, 0, none⟩ (.int .i64 ((rd_T34 l1 x8_1).f0))).setCell ⟨gb135, 1, none⟩ (.int .i64 ((rd_T34 l1 x8_1).f1))).setCell ⟨gb135, 2, none⟩ (.int .i64 ((rd_T34 l1 x8_1).f2))) = w25 at n0_ n1_ n2_ ⊢
            have HO_6 := n0_
            have BK135 := n1_
            have HB := n2_
            clear n0_ n1_ n2_
            replace HO_6 := Aside0.mk (Kd.R_drew HO_6.out)
            replace BK135 := Aside0.mk (blk_drew BK135.out)
            replace HB := Aside0.mk (below_drew1 HB.out)
            have p136 : 0 ≤ (((rd_T34 l1 x8_1).f0) : Int) := od_
            have q136 : ((rd_T34 l1 x8_1).f0) < (l0.length : Int) := od_
            obtain ⟨ad136, e136, hx136_0⟩ := Kd.at_int HR0.out ((rd_T34 l1 x8_1).f0) p136 q136
            have hw136_0 := hx136_0
            cases e136
            replace hx136_0 := hx_ HB hx136_0
            replace p136 := eq_true p136
            replace q136 := eq_true q136
            have p137 : 0 ≤ (((rd_T34 l1 x8_1).f0) : Int) := od_
            have q137 : ((rd_T34 l1 x8_1).f0) < (l0.length : Int) := od_
            obtain ⟨ad137, e137, hx137_0⟩ := Kd.at_int HR0.out ((rd_T34 l1 x8_1).f0) p137 q137
            have hw137_0 := hx137_0
            obtain rfl : ad136 = ad137 := (by injection e137)
            replace hx137_0 := hx_ HB hx137_0
            replace p137 := eq_true p137
            replace q137 := eq_true q137
            obtain ⟨Ao27, co27, eo27⟩ := Kd.R_slice HO_6.out
            (first | subst eo27 | (injection eo27 with f1_ f2_ f3_; have f4_ := f1_.symm; have f5_ := f3_.symm; clear f1_ f2_ f3_; subst f4_; subst f5_))
            have p138 : 0 ≤ (((rd_T34 l1 x8_1).f1) : Int) := od_
            have q138 : ((rd_T34 l1 x8_1).f1) < (x6_1.length : Int) := od_
            obtain ⟨ad138, e138, hx138_0⟩ := Kd.at_int (Kd.R_reads' HO_6.out).2.2 ((rd_T34 l1 x8_1).f1) p138 q138
            cases e138
            replace p138 := eq_true p138
            replace q138 := eq_true q138
            refine start_ (n := 22) (S := fun w' => c_ w' gb135 0 (.int .i64 ((rd_T34 l1 x8_1).f0)) ∧ c_ w' gb135 1 (.int .i64 ((rd_T34 l1 x8_1).f1)) ∧ c_ w' gb135 2 (.int .i64 ((rd_T34 l1 x8_1).f2)) ∧ w'.cell? (ad136.add (((rd_T34 l1 x8_1).f0)).toNat) = some (.int .i64 (rd l0 ((rd_T34 l1 x8_1).f0))) ∧ w'.cell? (ad136.add (((rd_T34 l1 x8_1).f0)).toNat) = some (.int .i64 (rd l0 ((rd_T34 l1 x8_1).f0))) ∧ w'.cell? (ad138.add (((rd_T34 l1 x8_1).f1)).toNat) = some (.int .i64 (rd x6_1 ((rd_T34 l1 x8_1).f1)))) (ds := []) (m_ 22 0) (by kernel_rfl) rfl rfl ⟨ct BK135 0, ct BK135 1, ct BK135 2, (hx_ HB hw136_0 :), (hx_ HB hw137_0 :), hx138_0⟩ (fun hHeld => ?_); refine with_tabW carrefourref14_round.tab7 carrefourref14_round.bits7 (fun HT_ HW_ => ?_)
            generalize w25.drew = w26 at HO_6 BK135 HB hx136_0 hx137_0 hx138_0 hHeld ⊢
            refine pu_ 0 (some 23) (m_ 22 1) rfl rfl (ao HT_) ?_
            refine pu_ 1 (some 24) (m_ 22 3) rfl rfl (ao HT_) ?_
            refine tk_ 2 (some 25) (m_ 22 7) rfl rfl (tw HT_ HW_) hHeld ?_
            refine pu_ 3 (some 26) (m_ 22 15) rfl rfl (ao HT_) ?_
            refine tk_ 4 (some 27) (m_ 22 31) rfl rfl (tw HT_ HW_) hHeld ?_
            refine pu_ 5 (some 28) (m_ 22 63) rfl rfl (ao HT_) ?_
            refine pu_ 6 (some 29) (m_ 22 127) rfl rfl (ao HT_) ?_
            refine pu_ 7 (some 30) (m_ 22 255) rfl rfl (ao HT_) ?_
            refine pu_ 8 (some 31) (m_ 22 511) rfl rfl (ao HT_) ?_
            refine pu_ 12 (some 35) (m_ 22 4607) rfl rfl (ao HT_) ?_
            refine pu_ 15 (some 38) (m_ 22 37375) rfl rfl (ao HT_) ?_
            refine pu_ 16 (some 39) (m_ 22 102911) rfl rfl (ao HT_) ?_
            refine tk_ 9 (some 32) (m_ 22 103423) rfl rfl (tw HT_ HW_) hHeld ?_
            refine pu_ 10 (some 33) (m_ 22 104447) rfl rfl (ao HT_) ?_
            refine tk_ 11 (some 34) (m_ 22 106495) rfl rfl (tw HT_ HW_) hHeld ?_
            refine tk_ 13 (some 36) (m_ 22 114687) rfl rfl (tw HT_ HW_) hHeld ?_
            refine pu_ 14 (some 37) (m_ 22 131071) rfl rfl (ao HT_) ?_
            refine tk_ 17 (some 40) (m_ 22 262143) rfl rfl (tw HT_ HW_) hHeld ?_
            refine pu_ 18 (some 41) (m_ 22 524287) rfl rfl (ao HT_) ?_
            refine tk_ 19 (some 42) (m_ 22 1048575) rfl rfl (tw HT_ HW_) hHeld ?_
            refine pu_ 20 (some 43) (m_ 22 2097151) rfl rfl (ao HT_) ?_
            refine pu_ 21 (some 44) (m_ 22 4194303) rfl rfl (ao HT_) ?_
            refine done_ (done_of HT_.out (by kernel_rfl)) ?_
            try go_wp2
            go_roundg k1
            case measure => have := HK1.out; omega
            case rel => exact ⟨(x6_1), (x7_1), (wrap64 (x8_1 + 1)), (aq), (aq), H', ⟨by have := HK1.out; omega⟩, ⟨Rt_ HO_6.out⟩, ⟨bf HB⟩⟩
          ·rw [if_neg c13] at H
           exact absurd H (by simp)
         ·rw [if_neg c12] at H
          exact absurd H (by simp)
        ·rw [if_neg c11] at H
         have c11b0 : decide (0 ≤ (rd l0 ((rd_T34 l1 x8_1).f0))) = false := decide_eq_false c11
         clear c11
         have H' := Aside0.mk H
         clear H
         have p134 : 0 ≤ (x8_1 : Int) := od_
         have q134 : x8_1 < (l1.length : Int) := od_
         obtain ⟨ad134, e134, hx134_0, hx134_1, hx134_2⟩ := at_T34 HR1.out x8_1 p134 q134
         cases e134
         replace hx134_0 := hx_ HB hx134_0
         replace hx134_1 := hx_ HB hx134_1
         replace hx134_2 := hx_ HB hx134_2
         replace p134 := eq_true p134
         replace q134 := eq_true q134
         try go_wp2_with (first | ((with_reducible refine gd 9 rfl ?_); refine bx_ 9 34 #[.int .i64 0, .int .i64 0, .int .i64 0] rfl rfl ?_; intro gb135 hg w28 BK135 hb; have GE135 := bz HB hg; replace HO_6 := Aside0.mk (Kd.R_below (Rt_ HO_6.out) hb); replace HB := bs HB hb; clear hb hg; have hcz29 := X.k3 BK135))
         have n0_ : Aside0 (Kd.R (Kd.int .i64) 2 (((w28.setCell ⟨gb135, 0, none⟩ (.int .i64 ((rd_T34 l1 x8_1).f0))).setCell ⟨gb135, 1, none⟩ (.int .i64 ((rd_T34 l1 x8_1).f1))).setCell ⟨gb135, 2, none⟩ (.int .i64 ((rd_T34 l1 x8_1).f2))) w.heap.size (fun _ => True) v132 x6_1) := ⟨Rt_ (Kd.R_mono (Kd.R_far (p := ⟨gb135, 2, none⟩) (Kd.R_far (p := ⟨gb135, 1, none⟩) (Kd.R_far (p := ⟨gb135, 0, none⟩) (Kd.R_types HO_6.out BK135.out (by decide)) (fun _ hk => hk.2) (.int .i64 ((rd_T34 l1 x8_1).f0))) (fun _ hk => hk.2) (.int .i64 ((rd_T34 l1 x8_1).f1))) (fun _ hk => hk.2) (.int .i64 ((rd_T34 l1 x8_1).f2))) (fun _ hk => trivial))⟩
         have n1_ : Aside0 ((((w28.setCell ⟨gb135, 0, none⟩ (.int .i64 ((rd_T34 l1 x8_1).f0))).setCell ⟨gb135, 1, none⟩ (.int .i64 ((rd_T34 l1 x8_1).f1))).setCell ⟨gb135, 2, none⟩ (.int .i64 ((rd_T34 l1 x8_1).f2))).heap[gb135]? = some (.cells #[.int .i64 ((rd_T34 l1 x8_1).f0), .int .i64 ((rd_T34 l1 x8_1).f1), .int .i64 ((rd_T34 l1 x8_1).f2)] 34 (0, 0))) := bq_ BK135
         have n2_ : Aside0 (Below w.heap.size w (((w28.setCell ⟨gb135, 0, none⟩ (.int .i64 ((rd_T34 l1 x8_1).f0))).setCell ⟨gb135, 1, none⟩ (.int .i64 ((rd_T34 l1 x8_1).f1))).setCell ⟨gb135, 2, none⟩ (.int .i64 ((rd_T34 l1 x8_1).f2)))) := ⟨bf HB⟩
         (try clear HO_6); (try clear BK135); (try clear HB)
         generalize (((w28.setCell ⟨gb135, 0, none⟩ (.int .i64 ((rd_T34 l1 x8_1).f0))).setCell ⟨gb135, 1, none⟩ (.int .i64 ((rd_T34 l1 x8_1).f1))).setCell ⟨gb135, 2, none⟩ (.int .i64 ((rd_T34 l1 x8_1).f2))) = w30 at n0_ n1_ n2_ ⊢
         have HO_6 := n0_
         have BK135 := n1_
         have HB := n2_
         clear n0_ n1_ n2_
         replace HO_6 := Aside0.mk (Kd.R_drew HO_6.out)
         replace BK135 := Aside0.mk (blk_drew BK135.out)
         replace HB := Aside0.mk (below_drew1 HB.out)
         have p136 : 0 ≤ (((rd_T34 l1 x8_1).f0) : Int) := od_
         have q136 : ((rd_T34 l1 x8_1).f0) < (l0.length : Int) := od_
         obtain ⟨ad136, e136, hx136_0⟩ := Kd.at_int HR0.out ((rd_T34 l1 x8_1).f0) p136 q136
         have hw136_0 := hx136_0
         cases e136
         replace hx136_0 := hx_ HB hx136_0
         replace p136 := eq_true p136
         replace q136 := eq_true q136
         refine start_ (n := 22) (S := fun w' => c_ w' gb135 0 (.int .i64 ((rd_T34 l1 x8_1).f0)) ∧ c_ w' gb135 1 (.int .i64 ((rd_T34 l1 x8_1).f1)) ∧ c_ w' gb135 2 (.int .i64 ((rd_T34 l1 x8_1).f2)) ∧ w'.cell? (ad136.add (((rd_T34 l1 x8_1).f0)).toNat) = some (.int .i64 (rd l0 ((rd_T34 l1 x8_1).f0)))) (ds := []) (m_ 22 0) (by kernel_rfl) rfl rfl ⟨ct BK135 0, ct BK135 1, ct BK135 2, (hx_ HB hw136_0 :)⟩ (fun hHeld => ?_); refine with_tabW carrefourref14_round.tab7 carrefourref14_round.bits7 (fun HT_ HW_ => ?_)
         generalize w30.drew = w31 at HO_6 BK135 HB hx136_0 hHeld ⊢
         refine pu_ 0 (some 23) (m_ 22 1) rfl rfl (ao HT_) ?_
         refine pu_ 1 (some 24) (m_ 22 3) rfl rfl (ao HT_) ?_
         refine tk_ 2 (some 25) (m_ 22 7) rfl rfl (tw HT_ HW_) hHeld ?_
         refine pu_ 3 (some 26) (m_ 22 15) rfl rfl (ao HT_) ?_
         refine tk_ 4 (some 27) (m_ 22 31) rfl rfl (tw HT_ HW_) hHeld ?_
         refine pu_ 5 (some 28) (m_ 22 63) rfl rfl (ao HT_) ?_
         refine pu_ 6 (some 29) (m_ 22 127) rfl rfl (ao HT_) ?_
         refine pv_ 7 (some 30) (m_ 22 255) rfl rfl (ao HT_) ?_
         refine pv_ 8 (some 31) (m_ 22 511) rfl rfl (ao HT_) ?_
         refine pv_ 9 (some 32) (m_ 22 1023) rfl rfl (ao HT_) ?_
         refine pv_ 10 (some 33) (m_ 22 2047) rfl rfl (ao HT_) ?_
         refine pv_ 11 (some 34) (m_ 22 4095) rfl rfl (ao HT_) ?_
         refine pv_ 12 (some 35) (m_ 22 8191) rfl rfl (ao HT_) ?_
         refine pv_ 13 (some 36) (m_ 22 16383) rfl rfl (ao HT_) ?_
         refine pv_ 14 (some 37) (m_ 22 32767) rfl rfl (ao HT_) ?_
         refine pv_ 15 (some 38) (m_ 22 65535) rfl rfl (ao HT_) ?_
         refine pv_ 16 (some 39) (m_ 22 131071) rfl rfl (ao HT_) ?_
         refine pv_ 17 (some 40) (m_ 22 262143) rfl rfl (ao HT_) ?_
         refine pv_ 18 (some 41) (m_ 22 524287) rfl rfl (ao HT_) ?_
         refine pv_ 19 (some 42) (m_ 22 1048575) rfl rfl (ao HT_) ?_
         refine pv_ 20 (some 43) (m_ 22 2097151) rfl rfl (ao HT_) ?_
         refine pu_ 21 (some 44) (m_ 22 4194303) rfl rfl (ao HT_) ?_
         refine done_ (done_of HT_.out (by kernel_rfl)) ?_
         try go_wp2
         go_roundg k1
         case measure => have := HK1.out; omega
         case rel => exact ⟨(x6_1), (x7_1), (wrap64 (x8_1 + 1)), (aq), (aq), H', ⟨by have := HK1.out; omega⟩, ⟨Rt_ HO_6.out⟩, ⟨bf HB⟩⟩
       ·rw [if_neg c10] at H
        exact absurd H (by simp)
      ·rw [if_neg c9] at H
       exact absurd H (by simp)
     ·rw [if_neg c8] at H
      exact absurd H (by simp)
    ·rw [if_neg c7] at H
     have c7b0 : decide (x8_1 < (l1.length : Int)) = false := decide_eq_false c7
     clear c7
     simp only [Option.some.injEq, Prod.mk.injEq] at H
     obtain ⟨rfl, rfl⟩ := H
     go_wp2
     go_ret2
     exact ⟨_, ae, by (with_reducible repeat (first | apply Kd.R_alloc | apply Kd.R_drewN | apply Kd.R_drew)); exact HO_6.out, bf HB⟩
 ·rw [if_neg c3] at H
  exact absurd H (by simp)

end Go.Proofs.YtcdddmaibchjjaaDoor.X
