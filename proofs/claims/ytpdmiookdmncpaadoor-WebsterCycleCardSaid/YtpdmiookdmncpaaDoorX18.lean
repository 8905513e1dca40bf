/- The walks of functions of the program, laid by a program of this session over the translation: each '.calls' says that the Go function comes to what its Lean function tells. Conditions: as each theorem's head says. -/
import Derived.Test.YtpdmiookdmncpaaDoorXD
import Derived.Test.YtpdmiookdmncpaaDoorX0
import Derived.Test.YtpdmiookdmncpaaDoorX8
import Derived.Test.YtpdmiookdmncpaaDoorX9
import Derived.Test.YtpdmiookdmncpaaDoorX17
namespace Go.Proofs.YtpdmiookdmncpaaDoor.X
open Go.RowKit Go.Proofs.YtpdmiookdmncpaaDoorW.PrintWords Go.Proofs.YtpdmiookdmncpaaDoorW.PrintLast Go.Proofs.YtpdmiookdmncpaaDoorW.PrintMore
attribute [local go_sem] max2_int min2_int max_two min_two max_three min_three max_four min_four   -- for this text's walks alone
set_option linter.unusedVariables false
set_option linter.unusedSimpArgs false

/-! ### webster_Allowed: function 13 -/
def webster_Allowed.T3 : Bool × List (List Nat × List Nat) := (true, [([], []), ([0], [0]), ([], []), ([2], [2]), ([3], [3]), ([], []), ([5], [5]), ([4, 6], [4, 6]), ([1, 7], [1, 7]), ([8, 3, 0, 1, 2, 3, 4, 5, 6, 7, 8], [8])])
def webster_Allowed.B3 : List Nat := [0, 1, 0, 4, 12, 0, 32, 124, 255, 511]
theorem webster_Allowed.tab3 : rtab .any (opsOf Tryd.f13 3) = webster_Allowed.T3 := by kernel_rfl
theorem webster_Allowed.bits3 : waitsOk webster_Allowed.T3.2 webster_Allowed.B3 = true := by kernel_rfl
set_option maxHeartbeats 8000000 in
set_option maxRecDepth 100000 in
theorem webster_Allowed.calls (a0_0 : Int) (a0_1 : Int) (a0_2 : Int) (a0_3 : Int) (a0_4 : Int) (A0_5 : Option Addr) (c0_5 : Nat) (l0_5 : List (S55)) (A0_6 : Option Addr) (c0_6 : Nat) (l0_6 : List (S120)) (a0_7 : Int) (a0_8 : Int) (a1 : Int) (r1 : Int) (r2 : Bool) (w : World) (hr0_5 : Kd.C k55 w A0_5 l0_5.length l0_5) (hc0_5 : l0_5.length ≤ c0_5) (hr0_6 : Kd.C k120 w A0_6 l0_6.length l0_6) (hc0_6 : l0_6.length ≤ c0_6) (h : webster_Allowed.f a0_0 a0_1 a0_2 a0_3 a0_4 l0_5 l0_6 a0_7 a0_8 a1 = some (r1, r2)) :
    Calls Tryd.prog 13 #[.agg #[.int .i64 a0_0, .int .i64 a0_1, .int .i64 a0_2, .int .i64 a0_3, .int .i64 a0_4, .slice A0_5 l0_5.length c0_5, .slice A0_6 l0_6.length c0_6, .int .i64 a0_7, .int .i64 a0_8], .int .i64 a1] w fun e w' => e = .returned (.tuple #[.int .i64 r1, .bool r2]) ∧ Below w.heap.size w w' := by
  have hu32 := Tryd.underlying32
  have HR0_5 := Aside0.mk hr0_5
  have HC0_5 := Aside0.mk hc0_5
  clear hr0_5 hc0_5
  have HR0_6 := Aside0.mk hr0_6
  have HC0_6 := Aside0.mk hc0_6
  clear hr0_6 hc0_6
  have HB := Aside0.mk (Below.refl w.heap.size w)
  have H : ((webster_right.f a0_0 a0_1 a0_2 a0_3 a0_4 l0_5 l0_6 a0_7 a0_8).bind fun t620 => (if t620 = true then ((webster_Count.f a0_0 a0_1 a0_2 a0_3 a0_4 l0_5 l0_6 a0_7 a0_8).bind fun t621 => (if a1 ≤ a0_0 then (some (a0_0, true)) else (if a1 > (wrap64 (a0_0 + (wrap64 ((wrap64 (t621 - 1)) * a0_2)))) then (some (wrap64 (a0_0 + (wrap64 ((wrap64 (t621 - 1)) * a0_2))), false)) else ((whole_Ceil.f (wrap64 (a1 - a0_0)) a0_2).bind fun bt622 => (some (wrap64 (a0_0 + (wrap64 (bt622.1 * a0_2))), true)))))) else (some (0, false)))) = some (r1, r2) := h
  clear h
  replace H := bi_ H; obtain ⟨t620, A3, H⟩ := H
  (try dsimp only at H)
  by_cases c4 : t620 = true
  · subst c4
    have H1 : ((webster_Count.f a0_0 a0_1 a0_2 a0_3 a0_4 l0_5 l0_6 a0_7 a0_8).bind fun t621 => (if a1 ≤ a0_0 then (some (a0_0, true)) else (if a1 > (wrap64 (a0_0 + (wrap64 ((wrap64 (t621 - 1)) * a0_2)))) then (some (wrap64 (a0_0 + (wrap64 ((wrap64 (t621 - 1)) * a0_2))), false)) else ((whole_Ceil.f (wrap64 (a1 - a0_0)) a0_2).bind fun bt622 => (some (wrap64 (a0_0 + (wrap64 (bt622.1 * a0_2))), true)))))) = some (r1, r2) := by rw [if_pos rfl] at H; exact H
    clear H
    have H := H1
    clear H1
    replace H := bi_ H; obtain ⟨t621, A5, H⟩ := H
    (try dsimp only at H)
    by_cases c6 : a1 ≤ a0_0
    · rw [if_pos c6] at H
      have c6b0 : decide (a1 ≤ a0_0) = true := decide_eq_true c6
      clear c6
      simp only [Option.some.injEq, Prod.mk.injEq] at H
      obtain ⟨rfl, rfl⟩ := H
      go_enter Tryd.func13, Tryd.ntmps13
      try go_wp2_with (first | ((with_reducible refine gd 2 rfl ?_); refine bx_ 2 32 #[.int .i64 a0_0, .int .i64 a0_1, .int .i64 a0_2, .int .i64 a0_3, .int .i64 a0_4, .slice A0_5 l0_5.length c0_5, .slice A0_6 l0_6.length c0_6, .int .i64 a0_7, .int .i64 a0_8] rfl rfl ?_; intro gb619 hg w7 BK619 hb; have GE619 := bz HB hg; replace HB := bs HB hb; clear hb hg; have hcz8 := k9 BK619) | ((with_reducible refine gc 40 rfl ?_); refine gl_ (some 10) rfl rfl Tryd.func40 ((webster_right.calls _ _ _ _ _ _ _ _ _ _ _ _ _ _ _ ?side1 ?side2 ?side3 ?side4 A3.out).mono ?_) ag; (case side1 => repeat (first | exact (Kd.C_below HR0_5.out HB.out) | (with_reducible refine Kd.C_alloc ?_ _) | (with_reducible refine Kd.C_drewN ?_ _) | (with_reducible refine Kd.C_drew ?_))); (case side2 => exact HC0_5.out); (case side3 => repeat (first | exact (Kd.C_below HR0_6.out HB.out) | (with_reducible refine Kd.C_alloc ?_ _) | (with_reducible refine Kd.C_drewN ?_ _) | (with_reducible refine Kd.C_drew ?_))); (case side4 => exact HC0_6.out); rintro e w9 ⟨rfl, hb⟩; refine ⟨_, rfl, ?_⟩; replace BK619 := bb BK619 hb; replace HB := bs HB hb; (try clear hb)))
      replace BK619 := Aside0.mk (blk_drew BK619.out)
      replace HB := Aside0.mk (below_drew1 HB.out)
      refine start_ (n := 10) (S := fun w' => w'.cell? ⟨gb619, 0, none⟩ = some (.int .i64 a0_0) ∧ w'.cell? ⟨gb619, 1, none⟩ = some (.int .i64 a0_1) ∧ w'.cell? ⟨gb619, 2, none⟩ = some (.int .i64 a0_2) ∧ w'.cell? ⟨gb619, 3, none⟩ = some (.int .i64 a0_3) ∧ w'.cell? ⟨gb619, 4, none⟩ = some (.int .i64 a0_4) ∧ w'.cell? ⟨gb619, 5, none⟩ = some (.slice A0_5 l0_5.length c0_5) ∧ w'.cell? ⟨gb619, 6, none⟩ = some (.slice A0_6 l0_6.length c0_6) ∧ w'.cell? ⟨gb619, 7, none⟩ = some (.int .i64 a0_7) ∧ w'.cell? ⟨gb619, 8, none⟩ = some (.int .i64 a0_8)) (ds := []) (m_ 10 0) (by kernel_rfl) rfl rfl ⟨ct BK619 0, ct BK619 1, ct BK619 2, ct BK619 3, ct BK619 4, ct BK619 5, ct BK619 6, ct BK619 7, ct BK619 8⟩ (fun hHeld => ?_); refine with_tabW webster_Allowed.tab3 webster_Allowed.bits3 (fun HT_ HW_ => ?_)
      generalize w9.drew = w10 at BK619 HB hHeld ⊢
      refine pu_ 0 (some 12) (m_ 10 1) rfl rfl (ao HT_) ?_
      refine pu_ 5 (some 17) (m_ 10 33) rfl rfl (ao HT_) ?_
      refine tk_ 1 (some 13) (m_ 10 35) rfl rfl (tw HT_ HW_) hHeld ?_
      refine tk_ 2 (some 14) (m_ 10 39) rfl rfl (tw HT_ HW_) hHeld ?_
      refine tk_ 6 (some 18) (m_ 10 103) rfl rfl (tw HT_ HW_) hHeld ?_
      refine one_ (i := 3) (N := some 15) (m_ 10 111) rfl rfl (one_of HT_.out (by kernel_rfl)) (by decide) (fun K hK => ?_)
      refine goes_ Tryd.func15 (by kernel_rfl) rfl #[.agg #[.int .i64 a0_0, .int .i64 a0_1, .int .i64 a0_2, .int .i64 a0_3, .int .i64 a0_4, .slice A0_5 l0_5.length c0_5, .slice A0_6 l0_6.length c0_6, .int .i64 a0_7, .int .i64 a0_8]] (by rfl) rfl rfl ag ?_
      with_reducible refine (webster_Count.calls _ _ _ _ _ _ _ _ _ _ _ _ _ _ _ ?side1 ?side2 ?side3 ?side4 A5.out).mono ?_
      (case side1 => repeat (first | exact (Kd.C_below HR0_5.out HB.out) | (with_reducible refine Kd.C_alloc ?_ _) | (with_reducible refine Kd.C_drewN ?_ _) | (with_reducible refine Kd.C_drew ?_)))
      (case side2 => exact HC0_5.out)
      (case side3 => repeat (first | exact (Kd.C_below HR0_6.out HB.out) | (with_reducible refine Kd.C_alloc ?_ _) | (with_reducible refine Kd.C_drewN ?_ _) | (with_reducible refine Kd.C_drew ?_)))
      (case side4 => exact HC0_6.out)
      rintro e w11 ⟨rfl, hb⟩
      refine ⟨_, rfl, ?_⟩
      replace BK619 := bb BK619 hb
      replace HB := bs HB hb
      (try clear hb)
      refine hK.out _ _ ⟨ct BK619 0, ct BK619 1, ct BK619 2, ct BK619 3, ct BK619 4, ct BK619 5, ct BK619 6, ct BK619 7, ct BK619 8⟩ (fun hHeld => ?_)
      clear hK K
      refine nr_ (some 15) ?_
      refine pu_ 4 (some 16) (m_ 10 127) rfl rfl (ao HT_) ?_
      refine pu_ 7 (some 19) (m_ 10 255) rfl rfl (ao HT_) ?_
      refine pu_ 8 (some 20) (m_ 10 511) rfl rfl (ao HT_) ?_
      refine pu_ 9 (some 6) (m_ 10 1023) rfl rfl (ao HT_) ?_
      refine done_ (done_of HT_.out (by kernel_rfl)) ?_
      have hcz12 := k9 BK619
      try go_wp2
      go_ret2
      exact ⟨by first | rfl | (simp [errW_none, errW_some] <;> rfl) | (simp [*, errW_none, errW_some] <;> rfl), bf HB⟩
    · rw [if_neg c6] at H
      have c6b0 : decide (a1 ≤ a0_0) = false := decide_eq_false c6
      clear c6
      by_cases c13 : a1 > (wrap64 (a0_0 + (wrap64 ((wrap64 (t621 - 1)) * a0_2))))
      · rw [if_pos c13] at H
        have c13b0 : decide ((wrap64 (a0_0 + (wrap64 ((wrap64 (t621 - 1)) * a0_2)))) < a1) = true := decide_eq_true c13
        clear c13
        simp only [Option.some.injEq, Prod.mk.injEq] at H
        obtain ⟨rfl, rfl⟩ := H
        go_enter Tryd.func13, Tryd.ntmps13
        try go_wp2_with (first | ((with_reducible refine gd 2 rfl ?_); refine bx_ 2 32 #[.int .i64 a0_0, .int .i64 a0_1, .int .i64 a0_2, .int .i64 a0_3, .int .i64 a0_4, .slice A0_5 l0_5.length c0_5, .slice A0_6 l0_6.length c0_6, .int .i64 a0_7, .int .i64 a0_8] rfl rfl ?_; intro gb619 hg w14 BK619 hb; have GE619 := bz HB hg; replace HB := bs HB hb; clear hb hg; have hcz15 := k9 BK619) | ((with_reducible refine gc 40 rfl ?_); refine gl_ (some 10) rfl rfl Tryd.func40 ((webster_right.calls _ _ _ _ _ _ _ _ _ _ _ _ _ _ _ ?side1 ?side2 ?side3 ?side4 A3.out).mono ?_) ag; (case side1 => repeat (first | exact (Kd.C_below HR0_5.out HB.out) | (with_reducible refine Kd.C_alloc ?_ _) | (with_reducible refine Kd.C_drewN ?_ _) | (with_reducible refine Kd.C_drew ?_))); (case side2 => exact HC0_5.out); (case side3 => repeat (first | exact (Kd.C_below HR0_6.out HB.out) | (with_reducible refine Kd.C_alloc ?_ _) | (with_reducible refine Kd.C_drewN ?_ _) | (with_reducible refine Kd.C_drew ?_))); (case side4 => exact HC0_6.out); rintro e w16 ⟨rfl, hb⟩; refine ⟨_, rfl, ?_⟩; replace BK619 := bb BK619 hb; replace HB := bs HB hb; (try clear hb)))
        replace BK619 := Aside0.mk (blk_drew BK619.out)
        replace HB := Aside0.mk (below_drew1 HB.out)
        refine start_ (n := 10) (S := fun w' => w'.cell? ⟨gb619, 0, none⟩ = some (.int .i64 a0_0) ∧ w'.cell? ⟨gb619, 1, none⟩ = some (.int .i64 a0_1) ∧ w'.cell? ⟨gb619, 2, none⟩ = some (.int .i64 a0_2) ∧ w'.cell? ⟨gb619, 3, none⟩ = some (.int .i64 a0_3) ∧ w'.cell? ⟨gb619, 4, none⟩ = some (.int .i64 a0_4) ∧ w'.cell? ⟨gb619, 5, none⟩ = some (.slice A0_5 l0_5.length c0_5) ∧ w'.cell? ⟨gb619, 6, none⟩ = some (.slice A0_6 l0_6.length c0_6) ∧ w'.cell? ⟨gb619, 7, none⟩ = some (.int .i64 a0_7) ∧ w'.cell? ⟨gb619, 8, none⟩ = some (.int .i64 a0_8)) (ds := []) (m_ 10 0) (by kernel_rfl) rfl rfl ⟨ct BK619 0, ct BK619 1, ct BK619 2, ct BK619 3, ct BK619 4, ct BK619 5, ct BK619 6, ct BK619 7, ct BK619 8⟩ (fun hHeld => ?_); refine with_tabW webster_Allowed.tab3 webster_Allowed.bits3 (fun HT_ HW_ => ?_)
        generalize w16.drew = w17 at BK619 HB hHeld ⊢
        refine pu_ 0 (some 12) (m_ 10 1) rfl rfl (ao HT_) ?_
        refine pu_ 5 (some 17) (m_ 10 33) rfl rfl (ao HT_) ?_
        refine tk_ 1 (some 13) (m_ 10 35) rfl rfl (tw HT_ HW_) hHeld ?_
        refine tk_ 2 (some 14) (m_ 10 39) rfl rfl (tw HT_ HW_) hHeld ?_
        refine tk_ 6 (some 18) (m_ 10 103) rfl rfl (tw HT_ HW_) hHeld ?_
        refine one_ (i := 3) (N := some 15) (m_ 10 111) rfl rfl (one_of HT_.out (by kernel_rfl)) (by decide) (fun K hK => ?_)
        refine goes_ Tryd.func15 (by kernel_rfl) rfl #[.agg #[.int .i64 a0_0, .int .i64 a0_1, .int .i64 a0_2, .int .i64 a0_3, .int .i64 a0_4, .slice A0_5 l0_5.length c0_5, .slice A0_6 l0_6.length c0_6, .int .i64 a0_7, .int .i64 a0_8]] (by rfl) rfl rfl ag ?_
        with_reducible refine (webster_Count.calls _ _ _ _ _ _ _ _ _ _ _ _ _ _ _ ?side1 ?side2 ?side3 ?side4 A5.out).mono ?_
        (case side1 => repeat (first | exact (Kd.C_below HR0_5.out HB.out) | (with_reducible refine Kd.C_alloc ?_ _) | (with_reducible refine Kd.C_drewN ?_ _) | (with_reducible refine Kd.C_drew ?_)))
        (case side2 => exact HC0_5.out)
        (case side3 => repeat (first | exact (Kd.C_below HR0_6.out HB.out) | (with_reducible refine Kd.C_alloc ?_ _) | (with_reducible refine Kd.C_drewN ?_ _) | (with_reducible refine Kd.C_drew ?_)))
        (case side4 => exact HC0_6.out)
        rintro e w18 ⟨rfl, hb⟩
        refine ⟨_, rfl, ?_⟩
        replace BK619 := bb BK619 hb
        replace HB := bs HB hb
        (try clear hb)
        refine hK.out _ _ ⟨ct BK619 0, ct BK619 1, ct BK619 2, ct BK619 3, ct BK619 4, ct BK619 5, ct BK619 6, ct BK619 7, ct BK619 8⟩ (fun hHeld => ?_)
        clear hK K
        refine nr_ (some 15) ?_
        refine pu_ 4 (some 16) (m_ 10 127) rfl rfl (ao HT_) ?_
        refine pu_ 7 (some 19) (m_ 10 255) rfl rfl (ao HT_) ?_
        refine pu_ 8 (some 20) (m_ 10 511) rfl rfl (ao HT_) ?_
        refine pu_ 9 (some 6) (m_ 10 1023) rfl rfl (ao HT_) ?_
        refine done_ (done_of HT_.out (by kernel_rfl)) ?_
        have hcz19 := k9 BK619
        try go_wp2
        go_ret2
        exact ⟨by first | rfl | (simp [errW_none, errW_some] <;> rfl) | (simp [*, errW_none, errW_some] <;> rfl), bf HB⟩
      · rw [if_neg c13] at H
        have c13b0 : decide ((wrap64 (a0_0 + (wrap64 ((wrap64 (t621 - 1)) * a0_2)))) < a1) = false := decide_eq_false c13
        clear c13
        replace H := bi_ H; obtain ⟨⟨t622, t623⟩, A20, H⟩ := H
        (try dsimp only at H)
        simp only [Option.some.injEq, Prod.mk.injEq] at H
        obtain ⟨rfl, rfl⟩ := H
        go_enter Tryd.func13, Tryd.ntmps13
        try go_wp2_with (first | ((with_reducible refine gd 2 rfl ?_); refine bx_ 2 32 #[.int .i64 a0_0, .int .i64 a0_1, .int .i64 a0_2, .int .i64 a0_3, .int .i64 a0_4, .slice A0_5 l0_5.length c0_5, .slice A0_6 l0_6.length c0_6, .int .i64 a0_7, .int .i64 a0_8] rfl rfl ?_; intro gb619 hg w21 BK619 hb; have GE619 := bz HB hg; replace HB := bs HB hb; clear hb hg; have hcz22 := k9 BK619) | ((with_reducible refine gc 40 rfl ?_); refine gl_ (some 10) rfl rfl Tryd.func40 ((webster_right.calls _ _ _ _ _ _ _ _ _ _ _ _ _ _ _ ?side1 ?side2 ?side3 ?side4 A3.out).mono ?_) ag; (case side1 => repeat (first | exact (Kd.C_below HR0_5.out HB.out) | (with_reducible refine Kd.C_alloc ?_ _) | (with_reducible refine Kd.C_drewN ?_ _) | (with_reducible refine Kd.C_drew ?_))); (case side2 => exact HC0_5.out); (case side3 => repeat (first | exact (Kd.C_below HR0_6.out HB.out) | (with_reducible refine Kd.C_alloc ?_ _) | (with_reducible refine Kd.C_drewN ?_ _) | (with_reducible refine Kd.C_drew ?_))); (case side4 => exact HC0_6.out); rintro e w23 ⟨rfl, hb⟩; refine ⟨_, rfl, ?_⟩; replace BK619 := bb BK619 hb; replace HB := bs HB hb; (try clear hb)))
        replace BK619 := Aside0.mk (blk_drew BK619.out)
        replace HB := Aside0.mk (below_drew1 HB.out)
        refine start_ (n := 10) (S := fun w' => w'.cell? ⟨gb619, 0, none⟩ = some (.int .i64 a0_0) ∧ w'.cell? ⟨gb619, 1, none⟩ = some (.int .i64 a0_1) ∧ w'.cell? ⟨gb619, 2, none⟩ = some (.int .i64 a0_2) ∧ w'.cell? ⟨gb619, 3, none⟩ = some (.int .i64 a0_3) ∧ w'.cell? ⟨gb619, 4, none⟩ = some (.int .i64 a0_4) ∧ w'.cell? ⟨gb619, 5, none⟩ = some (.slice A0_5 l0_5.length c0_5) ∧ w'.cell? ⟨gb619, 6, none⟩ = some (.slice A0_6 l0_6.length c0_6) ∧ w'.cell? ⟨gb619, 7, none⟩ = some (.int .i64 a0_7) ∧ w'.cell? ⟨gb619, 8, none⟩ = some (.int .i64 a0_8)) (ds := []) (m_ 10 0) (by kernel_rfl) rfl rfl ⟨ct BK619 0, ct BK619 1, ct BK619 2, ct BK619 3, ct BK619 4, ct BK619 5, ct BK619 6, ct BK619 7, ct BK619 8⟩ (fun hHeld => ?_); refine with_tabW webster_Allowed.tab3 webster_Allowed.bits3 (fun HT_ HW_ => ?_)
        generalize w23.drew = w24 at BK619 HB hHeld ⊢
        refine pu_ 0 (some 12) (m_ 10 1) rfl rfl (ao HT_) ?_
        refine pu_ 5 (some 17) (m_ 10 33) rfl rfl (ao HT_) ?_
        refine tk_ 1 (some 13) (m_ 10 35) rfl rfl (tw HT_ HW_) hHeld ?_
        refine tk_ 2 (some 14) (m_ 10 39) rfl rfl (tw HT_ HW_) hHeld ?_
        refine tk_ 6 (some 18) (m_ 10 103) rfl rfl (tw HT_ HW_) hHeld ?_
        refine one_ (i := 3) (N := some 15) (m_ 10 111) rfl rfl (one_of HT_.out (by kernel_rfl)) (by decide) (fun K hK => ?_)
        refine goes_ Tryd.func15 (by kernel_rfl) rfl #[.agg #[.int .i64 a0_0, .int .i64 a0_1, .int .i64 a0_2, .int .i64 a0_3, .int .i64 a0_4, .slice A0_5 l0_5.length c0_5, .slice A0_6 l0_6.length c0_6, .int .i64 a0_7, .int .i64 a0_8]] (by rfl) rfl rfl ag ?_
        with_reducible refine (webster_Count.calls _ _ _ _ _ _ _ _ _ _ _ _ _ _ _ ?side1 ?side2 ?side3 ?side4 A5.out).mono ?_
        (case side1 => repeat (first | exact (Kd.C_below HR0_5.out HB.out) | (with_reducible refine Kd.C_alloc ?_ _) | (with_reducible refine Kd.C_drewN ?_ _) | (with_reducible refine Kd.C_drew ?_)))
        (case side2 => exact HC0_5.out)
        (case side3 => repeat (first | exact (Kd.C_below HR0_6.out HB.out) | (with_reducible refine Kd.C_alloc ?_ _) | (with_reducible refine Kd.C_drewN ?_ _) | (with_reducible refine Kd.C_drew ?_)))
        (case side4 => exact HC0_6.out)
        rintro e w25 ⟨rfl, hb⟩
        refine ⟨_, rfl, ?_⟩
        replace BK619 := bb BK619 hb
        replace HB := bs HB hb
        (try clear hb)
        refine hK.out _ _ ⟨ct BK619 0, ct BK619 1, ct BK619 2, ct BK619 3, ct BK619 4, ct BK619 5, ct BK619 6, ct BK619 7, ct BK619 8⟩ (fun hHeld => ?_)
        clear hK K
        refine nr_ (some 15) ?_
        refine pu_ 4 (some 16) (m_ 10 127) rfl rfl (ao HT_) ?_
        refine pu_ 7 (some 19) (m_ 10 255) rfl rfl (ao HT_) ?_
        refine pu_ 8 (some 20) (m_ 10 511) rfl rfl (ao HT_) ?_
        refine pu_ 9 (some 6) (m_ 10 1023) rfl rfl (ao HT_) ?_
        refine done_ (done_of HT_.out (by kernel_rfl)) ?_
        have hcz26 := k9 BK619
        try go_wp2_with (first | ((with_reducible refine gc 41 rfl ?_); refine gl_ (some 40) rfl rfl Tryd.func41 ((whole_Ceil.calls (wrap64 (a1 - a0_0)) _ _ _ _ A20.out).mono ?_) ag; rintro e w' ⟨rfl, ⟨nd, rfl⟩⟩; refine ⟨_, rfl, ?_⟩))
        go_ret2
        exact ⟨by first | rfl | (simp [errW_none, errW_some] <;> rfl) | (simp [*, errW_none, errW_some] <;> rfl), bf HB⟩
  · replace c4 := Bool.eq_false_iff.mpr c4
    subst c4
    have H1 : (some (0, false)) = some (r1, r2) := by rw [if_neg (show ¬ (false = true) by decide)] at H; exact H
    clear H
    have H := H1
    clear H1
    simp only [Option.some.injEq, Prod.mk.injEq] at H
    obtain ⟨rfl, rfl⟩ := H
    go_enter Tryd.func13, Tryd.ntmps13
    go_wp2_with (first | ((with_reducible refine gd 2 rfl ?_); refine bx_ 2 32 #[.int .i64 a0_0, .int .i64 a0_1, .int .i64 a0_2, .int .i64 a0_3, .int .i64 a0_4, .slice A0_5 l0_5.length c0_5, .slice A0_6 l0_6.length c0_6, .int .i64 a0_7, .int .i64 a0_8] rfl rfl ?_; intro gb619 hg w27 BK619 hb; have GE619 := bz HB hg; replace HB := bs HB hb; clear hb hg; have hcz28 := k9 BK619) | ((with_reducible refine gc 40 rfl ?_); refine gl_ (some 10) rfl rfl Tryd.func40 ((webster_right.calls _ _ _ _ _ _ _ _ _ _ _ _ _ _ _ ?side1 ?side2 ?side3 ?side4 A3.out).mono ?_) ag; (case side1 => repeat (first | exact (Kd.C_below HR0_5.out HB.out) | (with_reducible refine Kd.C_alloc ?_ _) | (with_reducible refine Kd.C_drewN ?_ _) | (with_reducible refine Kd.C_drew ?_))); (case side2 => exact HC0_5.out); (case side3 => repeat (first | exact (Kd.C_below HR0_6.out HB.out) | (with_reducible refine Kd.C_alloc ?_ _) | (with_reducible refine Kd.C_drewN ?_ _) | (with_reducible refine Kd.C_drew ?_))); (case side4 => exact HC0_6.out); rintro e w29 ⟨rfl, hb⟩; refine ⟨_, rfl, ?_⟩; replace BK619 := bb BK619 hb; replace HB := bs HB hb; (try clear hb)))
    go_ret2
    exact ⟨by first | rfl | (simp [errW_none, errW_some] <;> rfl) | (simp [*, errW_none, errW_some] <;> rfl), bf HB⟩

/-! ### carrefourlaw12_awake: function 12 -/
set_option maxHeartbeats 8000000 in
set_option maxRecDepth 100000 in
theorem carrefourlaw12_awake.calls (k : Nat)  (r : Bool) (w : World) (h : carrefourlaw12_awake.f k  = some r) (hT : TabOK w) :
    Calls Tryd.prog 12 #[] w fun e w' => e = .returned (.bool r) ∧ Below w.heap.size w w' := by
  have GT := Aside0.mk hT
  clear hT
  have hu23 := Tryd.underlying23
  have hu32 := Tryd.underlying32
  have HB := Aside0.mk (Below.refl w.heap.size w)
  have H : ((webster_Cycle.f k 120 1 2).bind fun bt624 => ((webster_Allowed.f 300 900 70 0 0 ([] : List (S55)) ([] : List (S120)) 0 0 600).bind fun bt628 => ((webster_Allowed.f 300 900 70 0 0 ([] : List (S55)) ([] : List (S120)) 0 0 870).bind fun bt630 => (if bt624.2.2 = 0 then (if bt624.2.1 = true then (if bt624.1 = 460 then (if bt628.1 = 650 then (if bt628.2 = true then (if bt630.1 = 860 then (if bt630.2 = true then (some false) else ((webster_Count.f 300 900 70 0 0 ([] : List (S55)) ([] : List (S120)) 0 0).bind fun t632 => (some (t632 == 9)))) else (some false)) else (some false)) else (some false)) else (some false)) else (some false)) else (some false))))) = some r := h
  clear h
  replace H := bi_ H; obtain ⟨⟨t624, t625, t626⟩, A1, H⟩ := H
  (try dsimp only at H)
  replace H := bi_ H; obtain ⟨⟨t628, t629⟩, A2, H⟩ := H
  (try dsimp only at H)
  replace H := bi_ H; obtain ⟨⟨t630, t631⟩, A3, H⟩ := H
  (try dsimp only at H)
  by_cases c4 : t626 = 0
  · rw [if_pos c4] at H
    have c4b0 : (t626 == 0) = true := beq_iff_eq.mpr c4
    have c4b1 : (t626 != 0) = false := bne_eq_false_iff_eq.mpr c4
    clear c4
    by_cases c5 : t625 = true
    · subst c5
      have H1 : (if t624 = 460 then (if t628 = 650 then (if t629 = true then (if t630 = 860 then (if t631 = true then (some false) else ((webster_Count.f 300 900 70 0 0 ([] : List (S55)) ([] : List (S120)) 0 0).bind fun t632 => (some (t632 == 9)))) else (some false)) else (some false)) else (some false)) else (some false)) = some r := by rw [if_pos rfl] at H; exact H
      clear H
      have H := H1
      clear H1
      by_cases c6 : t624 = 460
      · rw [if_pos c6] at H
        have c6b0 : (t624 == 460) = true := beq_iff_eq.mpr c6
        have c6b1 : (t624 != 460) = false := bne_eq_false_iff_eq.mpr c6
        clear c6
        by_cases c7 : t628 = 650
        · rw [if_pos c7] at H
          have c7b0 : (t628 == 650) = true := beq_iff_eq.mpr c7
          have c7b1 : (t628 != 650) = false := bne_eq_false_iff_eq.mpr c7
          clear c7
          by_cases c8 : t629 = true
          · subst c8
            have H1 : (if t630 = 860 then (if t631 = true then (some false) else ((webster_Count.f 300 900 70 0 0 ([] : List (S55)) ([] : List (S120)) 0 0).bind fun t632 => (some (t632 == 9)))) else (some false)) = some r := by rw [if_pos rfl] at H; exact H
            clear H
            have H := H1
            clear H1
            by_cases c9 : t630 = 860
            · rw [if_pos c9] at H
              have c9b0 : (t630 == 860) = true := beq_iff_eq.mpr c9
              have c9b1 : (t630 != 860) = false := bne_eq_false_iff_eq.mpr c9
              clear c9
              by_cases c10 : t631 = true
              · subst c10
                have H1 : (some false) = some r := by rw [if_pos rfl] at H; exact H
                clear H
                have H := H1
                clear H1
                obtain rfl := Option.some.inj H
                go_enter Tryd.func12, Tryd.ntmps12
                go_wp2_with (first | ((with_reducible refine gc 10 rfl ?_); refine gl_ (some 11) rfl rfl Tryd.func10 ((webster_Cycle.calls _ _ _ _ _ _ _ _ A1.out ?hT).mono ?_) ag; (case hT => first | exact tb GT.out HB | exact tb0 GT.out); rintro e w11 ⟨rfl, hb⟩; refine ⟨_, rfl, ?_⟩; replace HB := bs HB hb; (try clear hb)) | ((with_reducible refine gd 4 rfl ?_); refine bx_ 4 32 #[.int .i64 0, .int .i64 0, .int .i64 0, .int .i64 0, .int .i64 0, .slice none 0 0, .slice none 0 0, .int .i64 0, .int .i64 0] rfl rfl ?_; intro gb627 hg w12 BK627 hb; have GE627 := bz HB hg; replace HB := bs HB hb; clear hb hg; have hcz13 := k9 BK627) | ((with_reducible refine gate_callee (f := 13) rfl ?_); refine goesL_ (some 18) rfl rfl Tryd.func13 (by kernel_rfl) rfl #[.agg #[.int .i64 300, .int .i64 900, .int .i64 70, .int .i64 0, .int .i64 0, .slice none 0 0, .slice none 0 0, .int .i64 0, .int .i64 0], .int .i64 600] rfl ag ?_; (refine (webster_Allowed.calls _ _ _ _ _ _ _ ([] : List (S55)) _ _ ([] : List (S120)) _ _ _ _ _ _ ?side1 ?side2 ?side3 ?side4 A2.out).mono ?_); (case side1 => exact Kd.C_nil _ _); (case side2 => exact Nat.le_refl _); (case side3 => exact Kd.C_nil _ _); (case side4 => exact Nat.le_refl _); rintro e w14 ⟨rfl, hb⟩; refine ⟨_, rfl, ?_⟩; replace BK627 := bp_ #[.int .i64 300, .int .i64 900, .int .i64 70, .int .i64 0, .int .i64 0, .slice none 0 0, .slice none 0 0, .int .i64 0, .int .i64 0] BK627 hb; replace HB := bs HB hb; (try clear hb); have hcz15 := k9 BK627) | ((with_reducible refine gate_callee (f := 13) rfl ?_); refine goesL_ (some 23) rfl rfl Tryd.func13 (by kernel_rfl) rfl #[.agg #[.int .i64 300, .int .i64 900, .int .i64 70, .int .i64 0, .int .i64 0, .slice none 0 0, .slice none 0 0, .int .i64 0, .int .i64 0], .int .i64 870] rfl ag ?_; (refine (webster_Allowed.calls _ _ _ _ _ _ _ ([] : List (S55)) _ _ ([] : List (S120)) _ _ _ _ _ _ ?side1 ?side2 ?side3 ?side4 A3.out).mono ?_); (case side1 => exact Kd.C_nil _ _); (case side2 => exact Nat.le_refl _); (case side3 => exact Kd.C_nil _ _); (case side4 => exact Nat.le_refl _); rintro e w16 ⟨rfl, hb⟩; refine ⟨_, rfl, ?_⟩; replace BK627 := bb BK627 hb; replace HB := bs HB hb; (try clear hb)))
                go_ret
                exact ⟨by first | rfl | (simp [errW_none, errW_some] <;> rfl) | (simp [*, errW_none, errW_some] <;> rfl), bf HB⟩
              · replace c10 := Bool.eq_false_iff.mpr c10
                subst c10
                have H1 : ((webster_Count.f 300 900 70 0 0 ([] : List (S55)) ([] : List (S120)) 0 0).bind fun t632 => (some (t632 == 9))) = some r := by rw [if_neg (show ¬ (false = true) by decide)] at H; exact H
                clear H
                have H := H1
                clear H1
                replace H := bi_ H; obtain ⟨t632, A17, H⟩ := H
                (try dsimp only at H)
                obtain rfl := Option.some.inj H
                go_enter Tryd.func12, Tryd.ntmps12
                go_wp2_with (first | ((with_reducible refine gc 10 rfl ?_); refine gl_ (some 11) rfl rfl Tryd.func10 ((webster_Cycle.calls _ _ _ _ _ _ _ _ A1.out ?hT).mono ?_) ag; (case hT => first | exact tb GT.out HB | exact tb0 GT.out); rintro e w18 ⟨rfl, hb⟩; refine ⟨_, rfl, ?_⟩; replace HB := bs HB hb; (try clear hb)) | ((with_reducible refine gd 4 rfl ?_); refine bx_ 4 32 #[.int .i64 0, .int .i64 0, .int .i64 0, .int .i64 0, .int .i64 0, .slice none 0 0, .slice none 0 0, .int .i64 0, .int .i64 0] rfl rfl ?_; intro gb627 hg w19 BK627 hb; have GE627 := bz HB hg; replace HB := bs HB hb; clear hb hg; have hcz20 := k9 BK627) | ((with_reducible refine gate_callee (f := 13) rfl ?_); refine goesL_ (some 18) rfl rfl Tryd.func13 (by kernel_rfl) rfl #[.agg #[.int .i64 300, .int .i64 900, .int .i64 70, .int .i64 0, .int .i64 0, .slice none 0 0, .slice none 0 0, .int .i64 0, .int .i64 0], .int .i64 600] rfl ag ?_; (refine (webster_Allowed.calls _ _ _ _ _ _ _ ([] : List (S55)) _ _ ([] : List (S120)) _ _ _ _ _ _ ?side1 ?side2 ?side3 ?side4 A2.out).mono ?_); (case side1 => exact Kd.C_nil _ _); (case side2 => exact Nat.le_refl _); (case side3 => exact Kd.C_nil _ _); (case side4 => exact Nat.le_refl _); rintro e w21 ⟨rfl, hb⟩; refine ⟨_, rfl, ?_⟩; replace BK627 := bp_ #[.int .i64 300, .int .i64 900, .int .i64 70, .int .i64 0, .int .i64 0, .slice none 0 0, .slice none 0 0, .int .i64 0, .int .i64 0] BK627 hb; replace HB := bs HB hb; (try clear hb); have hcz22 := k9 BK627) | ((with_reducible refine gate_callee (f := 13) rfl ?_); refine goesL_ (some 23) rfl rfl Tryd.func13 (by kernel_rfl) rfl #[.agg #[.int .i64 300, .int .i64 900, .int .i64 70, .int .i64 0, .int .i64 0, .slice none 0 0, .slice none 0 0, .int .i64 0, .int .i64 0], .int .i64 870] rfl ag ?_; (refine (webster_Allowed.calls _ _ _ _ _ _ _ ([] : List (S55)) _ _ ([] : List (S120)) _ _ _ _ _ _ ?side1 ?side2 ?side3 ?side4 A3.out).mono ?_); (case side1 => exact Kd.C_nil _ _); (case side2 => exact Nat.le_refl _); (case side3 => exact Kd.C_nil _ _); (case side4 => exact Nat.le_refl _); rintro e w23 ⟨rfl, hb⟩; refine ⟨_, rfl, ?_⟩; replace BK627 := bb BK627 hb; replace HB := bs HB hb; (try clear hb); have hcz24 := k9 BK627) | (go_at_call 15; (refine (webster_Count.calls _ _ _ _ _ _ _ ([] : List (S55)) _ _ ([] : List (S120)) _ _ _ _ ?side1 ?side2 ?side3 ?side4 A17.out).mono ?_); (case side1 => exact Kd.C_nil _ _); (case side2 => exact Nat.le_refl _); (case side3 => exact Kd.C_nil _ _); (case side4 => exact Nat.le_refl _); rintro e w25 ⟨rfl, hb⟩; replace BK627 := bb BK627 hb; replace HB := bs HB hb; (try clear hb)))
                go_ret
                exact ⟨by first | rfl | (simp [errW_none, errW_some] <;> rfl) | (simp [*, errW_none, errW_some] <;> rfl), bf HB⟩
            · rw [if_neg c9] at H
              have c9b0 : (t630 == 860) = false := beq_eq_false_iff_ne.mpr c9
              have c9b1 : (t630 != 860) = true := bne_iff_ne.mpr c9
              obtain rfl := Option.some.inj H
              go_enter Tryd.func12, Tryd.ntmps12
              go_wp2_with (first | ((with_reducible refine gc 10 rfl ?_); refine gl_ (some 11) rfl rfl Tryd.func10 ((webster_Cycle.calls _ _ _ _ _ _ _ _ A1.out ?hT).mono ?_) ag; (case hT => first | exact tb GT.out HB | exact tb0 GT.out); rintro e w26 ⟨rfl, hb⟩; refine ⟨_, rfl, ?_⟩; replace HB := bs HB hb; (try clear hb)) | ((with_reducible refine gd 4 rfl ?_); refine bx_ 4 32 #[.int .i64 0, .int .i64 0, .int .i64 0, .int .i64 0, .int .i64 0, .slice none 0 0, .slice none 0 0, .int .i64 0, .int .i64 0] rfl rfl ?_; intro gb627 hg w27 BK627 hb; have GE627 := bz HB hg; replace HB := bs HB hb; clear hb hg; have hcz28 := k9 BK627) | ((with_reducible refine gate_callee (f := 13) rfl ?_); refine goesL_ (some 18) rfl rfl Tryd.func13 (by kernel_rfl) rfl #[.agg #[.int .i64 300, .int .i64 900, .int .i64 70, .int .i64 0, .int .i64 0, .slice none 0 0, .slice none 0 0, .int .i64 0, .int .i64 0], .int .i64 600] rfl ag ?_; (refine (webster_Allowed.calls _ _ _ _ _ _ _ ([] : List (S55)) _ _ ([] : List (S120)) _ _ _ _ _ _ ?side1 ?side2 ?side3 ?side4 A2.out).mono ?_); (case side1 => exact Kd.C_nil _ _); (case side2 => exact Nat.le_refl _); (case side3 => exact Kd.C_nil _ _); (case side4 => exact Nat.le_refl _); rintro e w29 ⟨rfl, hb⟩; refine ⟨_, rfl, ?_⟩; replace BK627 := bp_ #[.int .i64 300, .int .i64 900, .int .i64 70, .int .i64 0, .int .i64 0, .slice none 0 0, .slice none 0 0, .int .i64 0, .int .i64 0] BK627 hb; replace HB := bs HB hb; (try clear hb); have hcz30 := k9 BK627) | ((with_reducible refine gate_callee (f := 13) rfl ?_); refine goesL_ (some 23) rfl rfl Tryd.func13 (by kernel_rfl) rfl #[.agg #[.int .i64 300, .int .i64 900, .int .i64 70, .int .i64 0, .int .i64 0, .slice none 0 0, .slice none 0 0, .int .i64 0, .int .i64 0], .int .i64 870] rfl ag ?_; (refine (webster_Allowed.calls _ _ _ _ _ _ _ ([] : List (S55)) _ _ ([] : List (S120)) _ _ _ _ _ _ ?side1 ?side2 ?side3 ?side4 A3.out).mono ?_); (case side1 => exact Kd.C_nil _ _); (case side2 => exact Nat.le_refl _); (case side3 => exact Kd.C_nil _ _); (case side4 => exact Nat.le_refl _); rintro e w31 ⟨rfl, hb⟩; refine ⟨_, rfl, ?_⟩; replace BK627 := bb BK627 hb; replace HB := bs HB hb; (try clear hb)))
              go_ret
              exact ⟨by first | rfl | (simp [errW_none, errW_some] <;> rfl) | (simp [*, errW_none, errW_some] <;> rfl), bf HB⟩
          · replace c8 := Bool.eq_false_iff.mpr c8
            subst c8
            have H1 : (some false) = some r := by rw [if_neg (show ¬ (false = true) by decide)] at H; exact H
            clear H
            have H := H1
            clear H1
            obtain rfl := Option.some.inj H
            go_enter Tryd.func12, Tryd.ntmps12
            go_wp2_with (first | ((with_reducible refine gc 10 rfl ?_); refine gl_ (some 11) rfl rfl Tryd.func10 ((webster_Cycle.calls _ _ _ _ _ _ _ _ A1.out ?hT).mono ?_) ag; (case hT => first | exact tb GT.out HB | exact tb0 GT.out); rintro e w32 ⟨rfl, hb⟩; refine ⟨_, rfl, ?_⟩; replace HB := bs HB hb; (try clear hb)) | ((with_reducible refine gd 4 rfl ?_); refine bx_ 4 32 #[.int .i64 0, .int .i64 0, .int .i64 0, .int .i64 0, .int .i64 0, .slice none 0 0, .slice none 0 0, .int .i64 0, .int .i64 0] rfl rfl ?_; intro gb627 hg w33 BK627 hb; have GE627 := bz HB hg; replace HB := bs HB hb; clear hb hg; have hcz34 := k9 BK627) | ((with_reducible refine gate_callee (f := 13) rfl ?_); refine goesL_ (some 18) rfl rfl Tryd.func13 (by kernel_rfl) rfl #[.agg #[.int .i64 300, .int .i64 900, .int .i64 70, .int .i64 0, .int .i64 0, .slice none 0 0, .slice none 0 0, .int .i64 0, .int .i64 0], .int .i64 600] rfl ag ?_; (refine (webster_Allowed.calls _ _ _ _ _ _ _ ([] : List (S55)) _ _ ([] : List (S120)) _ _ _ _ _ _ ?side1 ?side2 ?side3 ?side4 A2.out).mono ?_); (case side1 => exact Kd.C_nil _ _); (case side2 => exact Nat.le_refl _); (case side3 => exact Kd.C_nil _ _); (case side4 => exact Nat.le_refl _); rintro e w35 ⟨rfl, hb⟩; refine ⟨_, rfl, ?_⟩; replace BK627 := bp_ #[.int .i64 300, .int .i64 900, .int .i64 70, .int .i64 0, .int .i64 0, .slice none 0 0, .slice none 0 0, .int .i64 0, .int .i64 0] BK627 hb; replace HB := bs HB hb; (try clear hb); have hcz36 := k9 BK627) | ((with_reducible refine gate_callee (f := 13) rfl ?_); refine goesL_ (some 23) rfl rfl Tryd.func13 (by kernel_rfl) rfl #[.agg #[.int .i64 300, .int .i64 900, .int .i64 70, .int .i64 0, .int .i64 0, .slice none 0 0, .slice none 0 0, .int .i64 0, .int .i64 0], .int .i64 870] rfl ag ?_; (refine (webster_Allowed.calls _ _ _ _ _ _ _ ([] : List (S55)) _ _ ([] : List (S120)) _ _ _ _ _ _ ?side1 ?side2 ?side3 ?side4 A3.out).mono ?_); (case side1 => exact Kd.C_nil _ _); (case side2 => exact Nat.le_refl _); (case side3 => exact Kd.C_nil _ _); (case side4 => exact Nat.le_refl _); rintro e w37 ⟨rfl, hb⟩; refine ⟨_, rfl, ?_⟩; replace BK627 := bb BK627 hb; replace HB := bs HB hb; (try clear hb)))
            go_ret
            exact ⟨by first | rfl | (simp [errW_none, errW_some] <;> rfl) | (simp [*, errW_none, errW_some] <;> rfl), bf HB⟩
        · rw [if_neg c7] at H
          have c7b0 : (t628 == 650) = false := beq_eq_false_iff_ne.mpr c7
          have c7b1 : (t628 != 650) = true := bne_iff_ne.mpr c7
          obtain rfl := Option.some.inj H
          go_enter Tryd.func12, Tryd.ntmps12
          go_wp2_with (first | ((with_reducible refine gc 10 rfl ?_); refine gl_ (some 11) rfl rfl Tryd.func10 ((webster_Cycle.calls _ _ _ _ _ _ _ _ A1.out ?hT).mono ?_) ag; (case hT => first | exact tb GT.out HB | exact tb0 GT.out); rintro e w38 ⟨rfl, hb⟩; refine ⟨_, rfl, ?_⟩; replace HB := bs HB hb; (try clear hb)) | ((with_reducible refine gd 4 rfl ?_); refine bx_ 4 32 #[.int .i64 0, .int .i64 0, .int .i64 0, .int .i64 0, .int .i64 0, .slice none 0 0, .slice none 0 0, .int .i64 0, .int .i64 0] rfl rfl ?_; intro gb627 hg w39 BK627 hb; have GE627 := bz HB hg; replace HB := bs HB hb; clear hb hg; have hcz40 := k9 BK627) | ((with_reducible refine gate_callee (f := 13) rfl ?_); refine goesL_ (some 18) rfl rfl Tryd.func13 (by kernel_rfl) rfl #[.agg #[.int .i64 300, .int .i64 900, .int .i64 70, .int .i64 0, .int .i64 0, .slice none 0 0, .slice none 0 0, .int .i64 0, .int .i64 0], .int .i64 600] rfl ag ?_; (refine (webster_Allowed.calls _ _ _ _ _ _ _ ([] : List (S55)) _ _ ([] : List (S120)) _ _ _ _ _ _ ?side1 ?side2 ?side3 ?side4 A2.out).mono ?_); (case side1 => exact Kd.C_nil _ _); (case side2 => exact Nat.le_refl _); (case side3 => exact Kd.C_nil _ _); (case side4 => exact Nat.le_refl _); rintro e w41 ⟨rfl, hb⟩; refine ⟨_, rfl, ?_⟩; replace BK627 := bp_ #[.int .i64 300, .int .i64 900, .int .i64 70, .int .i64 0, .int .i64 0, .slice none 0 0, .slice none 0 0, .int .i64 0, .int .i64 0] BK627 hb; replace HB := bs HB hb; (try clear hb); have hcz42 := k9 BK627) | ((with_reducible refine gate_callee (f := 13) rfl ?_); refine goesL_ (some 23) rfl rfl Tryd.func13 (by kernel_rfl) rfl #[.agg #[.int .i64 300, .int .i64 900, .int .i64 70, .int .i64 0, .int .i64 0, .slice none 0 0, .slice none 0 0, .int .i64 0, .int .i64 0], .int .i64 870] rfl ag ?_; (refine (webster_Allowed.calls _ _ _ _ _ _ _ ([] : List (S55)) _ _ ([] : List (S120)) _ _ _ _ _ _ ?side1 ?side2 ?side3 ?side4 A3.out).mono ?_); (case side1 => exact Kd.C_nil _ _); (case side2 => exact Nat.le_refl _); (case side3 => exact Kd.C_nil _ _); (case side4 => exact Nat.le_refl _); rintro e w43 ⟨rfl, hb⟩; refine ⟨_, rfl, ?_⟩; replace BK627 := bb BK627 hb; replace HB := bs HB hb; (try clear hb)))
          go_ret
          exact ⟨by first | rfl | (simp [errW_none, errW_some] <;> rfl) | (simp [*, errW_none, errW_some] <;> rfl), bf HB⟩
      · rw [if_neg c6] at H
        have c6b0 : (t624 == 460) = false := beq_eq_false_iff_ne.mpr c6
        have c6b1 : (t624 != 460) = true := bne_iff_ne.mpr c6
        obtain rfl := Option.some.inj H
        go_enter Tryd.func12, Tryd.ntmps12
        go_wp2_with (first | ((with_reducible refine gc 10 rfl ?_); refine gl_ (some 11) rfl rfl Tryd.func10 ((webster_Cycle.calls _ _ _ _ _ _ _ _ A1.out ?hT).mono ?_) ag; (case hT => first | exact tb GT.out HB | exact tb0 GT.out); rintro e w44 ⟨rfl, hb⟩; refine ⟨_, rfl, ?_⟩; replace HB := bs HB hb; (try clear hb)) | ((with_reducible refine gd 4 rfl ?_); refine bx_ 4 32 #[.int .i64 0, .int .i64 0, .int .i64 0, .int .i64 0, .int .i64 0, .slice none 0 0, .slice none 0 0, .int .i64 0, .int .i64 0] rfl rfl ?_; intro gb627 hg w45 BK627 hb; have GE627 := bz HB hg; replace HB := bs HB hb; clear hb hg; have hcz46 := k9 BK627) | ((with_reducible refine gate_callee (f := 13) rfl ?_); refine goesL_ (some 18) rfl rfl Tryd.func13 (by kernel_rfl) rfl #[.agg #[.int .i64 300, .int .i64 900, .int .i64 70, .int .i64 0, .int .i64 0, .slice none 0 0, .slice none 0 0, .int .i64 0, .int .i64 0], .int .i64 600] rfl ag ?_; (refine (webster_Allowed.calls _ _ _ _ _ _ _ ([] : List (S55)) _ _ ([] : List (S120)) _ _ _ _ _ _ ?side1 ?side2 ?side3 ?side4 A2.out).mono ?_); (case side1 => exact Kd.C_nil _ _); (case side2 => exact Nat.le_refl _); (case side3 => exact Kd.C_nil _ _); (case side4 => exact Nat.le_refl _); rintro e w47 ⟨rfl, hb⟩; refine ⟨_, rfl, ?_⟩; replace BK627 := bp_ #[.int .i64 300, .int .i64 900, .int .i64 70, .int .i64 0, .int .i64 0, .slice none 0 0, .slice none 0 0, .int .i64 0, .int .i64 0] BK627 hb; replace HB := bs HB hb; (try clear hb); have hcz48 := k9 BK627) | ((with_reducible refine gate_callee (f := 13) rfl ?_); refine goesL_ (some 23) rfl rfl Tryd.func13 (by kernel_rfl) rfl #[.agg #[.int .i64 300, .int .i64 900, .int .i64 70, .int .i64 0, .int .i64 0, .slice none 0 0, .slice none 0 0, .int .i64 0, .int .i64 0], .int .i64 870] rfl ag ?_; (refine (webster_Allowed.calls _ _ _ _ _ _ _ ([] : List (S55)) _ _ ([] : List (S120)) _ _ _ _ _ _ ?side1 ?side2 ?side3 ?side4 A3.out).mono ?_); (case side1 => exact Kd.C_nil _ _); (case side2 => exact Nat.le_refl _); (case side3 => exact Kd.C_nil _ _); (case side4 => exact Nat.le_refl _); rintro e w49 ⟨rfl, hb⟩; refine ⟨_, rfl, ?_⟩; replace BK627 := bb BK627 hb; replace HB := bs HB hb; (try clear hb)))
        go_ret
        exact ⟨by first | rfl | (simp [errW_none, errW_some] <;> rfl) | (simp [*, errW_none, errW_some] <;> rfl), bf HB⟩
    · replace c5 := Bool.eq_false_iff.mpr c5
      subst c5
      have H1 : (some false) = some r := by rw [if_neg (show ¬ (false = true) by decide)] at H; exact H
      clear H
      have H := H1
      clear H1
      obtain rfl := Option.some.inj H
      go_enter Tryd.func12, Tryd.ntmps12
      go_wp2_with (first | ((with_reducible refine gc 10 rfl ?_); refine gl_ (some 11) rfl rfl Tryd.func10 ((webster_Cycle.calls _ _ _ _ _ _ _ _ A1.out ?hT).mono ?_) ag; (case hT => first | exact tb GT.out HB | exact tb0 GT.out); rintro e w50 ⟨rfl, hb⟩; refine ⟨_, rfl, ?_⟩; replace HB := bs HB hb; (try clear hb)) | ((with_reducible refine gd 4 rfl ?_); refine bx_ 4 32 #[.int .i64 0, .int .i64 0, .int .i64 0, .int .i64 0, .int .i64 0, .slice none 0 0, .slice none 0 0, .int .i64 0, .int .i64 0] rfl rfl ?_; intro gb627 hg w51 BK627 hb; have GE627 := bz HB hg; replace HB := bs HB hb; clear hb hg; have hcz52 := k9 BK627) | ((with_reducible refine gate_callee (f := 13) rfl ?_); refine goesL_ (some 18) rfl rfl Tryd.func13 (by kernel_rfl) rfl #[.agg #[.int .i64 300, .int .i64 900, .int .i64 70, .int .i64 0, .int .i64 0, .slice none 0 0, .slice none 0 0, .int .i64 0, .int .i64 0], .int .i64 600] rfl ag ?_; (refine (webster_Allowed.calls _ _ _ _ _ _ _ ([] : List (S55)) _ _ ([] : List (S120)) _ _ _ _ _ _ ?side1 ?side2 ?side3 ?side4 A2.out).mono ?_); (case side1 => exact Kd.C_nil _ _); (case side2 => exact Nat.le_refl _); (case side3 => exact Kd.C_nil _ _); (case side4 => exact Nat.le_refl _); rintro e w53 ⟨rfl, hb⟩; refine ⟨_, rfl, ?_⟩; replace BK627 := bp_ #[.int .i64 300, .int .i64 900, .int .i64 70, .int .i64 0, .int .i64 0, .slice none 0 0, .slice none 0 0, .int .i64 0, .int .i64 0] BK627 hb; replace HB := bs HB hb; (try clear hb); have hcz54 := k9 BK627) | ((with_reducible refine gate_callee (f := 13) rfl ?_); refine goesL_ (some 23) rfl rfl Tryd.func13 (by kernel_rfl) rfl #[.agg #[.int .i64 300, .int .i64 900, .int .i64 70, .int .i64 0, .int .i64 0, .slice none 0 0, .slice none 0 0, .int .i64 0, .int .i64 0], .int .i64 870] rfl ag ?_; (refine (webster_Allowed.calls _ _ _ _ _ _ _ ([] : List (S55)) _ _ ([] : List (S120)) _ _ _ _ _ _ ?side1 ?side2 ?side3 ?side4 A3.out).mono ?_); (case side1 => exact Kd.C_nil _ _); (case side2 => exact Nat.le_refl _); (case side3 => exact Kd.C_nil _ _); (case side4 => exact Nat.le_refl _); rintro e w55 ⟨rfl, hb⟩; refine ⟨_, rfl, ?_⟩; replace BK627 := bb BK627 hb; replace HB := bs HB hb; (try clear hb)))
      go_ret
      exact ⟨by first | rfl | (simp [errW_none, errW_some] <;> rfl) | (simp [*, errW_none, errW_some] <;> rfl), bf HB⟩
  · rw [if_neg c4] at H
    have c4b0 : (t626 == 0) = false := beq_eq_false_iff_ne.mpr c4
    have c4b1 : (t626 != 0) = true := bne_iff_ne.mpr c4
    obtain rfl := Option.some.inj H
    go_enter Tryd.func12, Tryd.ntmps12
    go_wp2_with (first | ((with_reducible refine gc 10 rfl ?_); refine gl_ (some 11) rfl rfl Tryd.func10 ((webster_Cycle.calls _ _ _ _ _ _ _ _ A1.out ?hT).mono ?_) ag; (case hT => first | exact tb GT.out HB | exact tb0 GT.out); rintro e w56 ⟨rfl, hb⟩; refine ⟨_, rfl, ?_⟩; replace HB := bs HB hb; (try clear hb)) | ((with_reducible refine gd 4 rfl ?_); refine bx_ 4 32 #[.int .i64 0, .int .i64 0, .int .i64 0, .int .i64 0, .int .i64 0, .slice none 0 0, .slice none 0 0, .int .i64 0, .int .i64 0] rfl rfl ?_; intro gb627 hg w57 BK627 hb; have GE627 := bz HB hg; replace HB := bs HB hb; clear hb hg; have hcz58 := k9 BK627) | ((with_reducible refine gate_callee (f := 13) rfl ?_); refine goesL_ (some 18) rfl rfl Tryd.func13 (by kernel_rfl) rfl #[.agg #[.int .i64 300, .int .i64 900, .int .i64 70, .int .i64 0, .int .i64 0, .slice none 0 0, .slice none 0 0, .int .i64 0, .int .i64 0], .int .i64 600] rfl ag ?_; (refine (webster_Allowed.calls _ _ _ _ _ _ _ ([] : List (S55)) _ _ ([] : List (S120)) _ _ _ _ _ _ ?side1 ?side2 ?side3 ?side4 A2.out).mono ?_); (case side1 => exact Kd.C_nil _ _); (case side2 => exact Nat.le_refl _); (case side3 => exact Kd.C_nil _ _); (case side4 => exact Nat.le_refl _); rintro e w59 ⟨rfl, hb⟩; refine ⟨_, rfl, ?_⟩; replace BK627 := bp_ #[.int .i64 300, .int .i64 900, .int .i64 70, .int .i64 0, .int .i64 0, .slice none 0 0, .slice none 0 0, .int .i64 0, .int .i64 0] BK627 hb; replace HB := bs HB hb; (try clear hb); have hcz60 := k9 BK627) | ((with_reducible refine gate_callee (f := 13) rfl ?_); refine goesL_ (some 23) rfl rfl Tryd.func13 (by kernel_rfl) rfl #[.agg #[.int .i64 300, .int .i64 900, .int .i64 70, .int .i64 0, .int .i64 0, .slice none 0 0, .slice none 0 0, .int .i64 0, .int .i64 0], .int .i64 870] rfl ag ?_; (refine (webster_Allowed.calls _ _ _ _ _ _ _ ([] : List (S55)) _ _ ([] : List (S120)) _ _ _ _ _ _ ?side1 ?side2 ?side3 ?side4 A3.out).mono ?_); (case side1 => exact Kd.C_nil _ _); (case side2 => exact Nat.le_refl _); (case side3 => exact Kd.C_nil _ _); (case side4 => exact Nat.le_refl _); rintro e w61 ⟨rfl, hb⟩; refine ⟨_, rfl, ?_⟩; replace BK627 := bb BK627 hb; replace HB := bs HB hb; (try clear hb)))
    go_ret
    exact ⟨by first | rfl | (simp [errW_none, errW_some] <;> rfl) | (simp [*, errW_none, errW_some] <;> rfl), bf HB⟩

/-! ### carrefourlaw12_WebsterCycle: function 3 -/
set_option maxHeartbeats 8000000 in
set_option maxRecDepth 100000 in
theorem carrefourlaw12_WebsterCycle.calls (k : Nat) (a0 : Int) (a1_0 : Int) (a1_1 : Int) (r : Bool) (w : World) (h : carrefourlaw12_WebsterCycle.f k a0 a1_0 a1_1 = some r) (hT : TabOK w) :
    Calls Tryd.prog 3 #[.int .i64 a0, .agg #[.int .i64 a1_0, .int .i64 a1_1]] w fun e w' => e = .returned (.bool r) ∧ Below w.heap.size w w' := by
  have GT := Aside0.mk hT
  clear hT
  have hu23 := Tryd.underlying23
  have HB := Aside0.mk (Below.refl w.heap.size w)
  have H : ((webster_Cycle.f k a0 a1_0 a1_1).bind fun bt634 => ((carrefourref12_Cycle.f k a0 a1_0 a1_1).bind fun bt637 => (if bt634.1 = bt637.1 then (if (bt634.2.1 == bt637.2.1) = true then (if bt634.2.2 = bt637.2.2 then ((carrefourlaw12_awake.f k).bind fun t640 => (some t640)) else (some false)) else (some false)) else (some false)))) = some r := h
  clear h
  replace H := bi_ H; obtain ⟨⟨t634, t635, t636⟩, A3, H⟩ := H
  (try dsimp only at H)
  replace H := bi_ H; obtain ⟨⟨t637, t638, t639⟩, A4, H⟩ := H
  (try dsimp only at H)
  by_cases c5 : t634 = t637
  · rw [if_pos c5] at H
    have c5b0 : (t634 == t637) = true := beq_iff_eq.mpr c5
    have c5b1 : (t634 != t637) = false := bne_eq_false_iff_eq.mpr c5
    clear c5
    by_cases c6 : (t635 == t638) = true
    · rw [if_pos c6] at H
      have c6b0 : (t635 == t638) = true := c6
      (try (have c6b1 : decide (t635 = t638) = true := by simpa using c6))
      (try (have c6b2 : (t635 == t638) = true := by simpa using c6))
      clear c6
      by_cases c7 : t636 = t639
      · rw [if_pos c7] at H
        have c7b0 : (t636 == t639) = true := beq_iff_eq.mpr c7
        have c7b1 : (t636 != t639) = false := bne_eq_false_iff_eq.mpr c7
        clear c7
        replace H := bi_ H; obtain ⟨t640, A8, H⟩ := H
        (try dsimp only at H)
        obtain rfl := Option.some.inj H
        go_enter Tryd.func3, Tryd.ntmps3
        go_wp2_with (first | ((with_reducible refine gd 3 rfl ?_); refine bx_ 3 23 #[.int .i64 a1_0, .int .i64 a1_1] rfl rfl ?_; intro gb633 hg w9 BK633 hb; have GE633 := bz HB hg; replace HB := bs HB hb; clear hb hg; have hcz10 := k2 BK633) | ((with_reducible refine gc 10 rfl ?_); refine gl_ (some 14) rfl rfl Tryd.func10 ((webster_Cycle.calls _ _ _ _ _ _ _ _ A3.out ?hT).mono ?_) ag; (case hT => first | exact tb GT.out HB | exact tb0 GT.out); rintro e w11 ⟨rfl, hb⟩; refine ⟨_, rfl, ?_⟩; replace BK633 := bb BK633 hb; replace HB := bs HB hb; (try clear hb); have hcz12 := k2 BK633) | ((with_reducible refine gc 11 rfl ?_); refine gl_ (some 21) rfl rfl Tryd.func11 ((carrefourref12_Cycle.calls _ _ _ _ _ _ _ _ A4.out).mono ?_) ag; rintro e w13 ⟨rfl, hb⟩; refine ⟨_, rfl, ?_⟩; replace BK633 := bb BK633 hb; replace HB := bs HB hb; (try clear hb)) | (go_at_call 12; (with_reducible refine (carrefourlaw12_awake.calls _ _ _ A8.out ?hT).mono ?_); (case hT => first | exact tb GT.out HB | exact tb0 GT.out); rintro e w14 ⟨rfl, hb⟩; replace BK633 := bb BK633 hb; replace HB := bs HB hb; (try clear hb)))
        go_ret
        exact ⟨by first | rfl | (simp [errW_none, errW_some] <;> rfl) | (simp [*, errW_none, errW_some] <;> rfl), bf HB⟩
      · rw [if_neg c7] at H
        have c7b0 : (t636 == t639) = false := beq_eq_false_iff_ne.mpr c7
        have c7b1 : (t636 != t639) = true := bne_iff_ne.mpr c7
        obtain rfl := Option.some.inj H
        go_enter Tryd.func3, Tryd.ntmps3
        go_wp2_with (first | ((with_reducible refine gd 3 rfl ?_); refine bx_ 3 23 #[.int .i64 a1_0, .int .i64 a1_1] rfl rfl ?_; intro gb633 hg w15 BK633 hb; have GE633 := bz HB hg; replace HB := bs HB hb; clear hb hg; have hcz16 := k2 BK633) | ((with_reducible refine gc 10 rfl ?_); refine gl_ (some 14) rfl rfl Tryd.func10 ((webster_Cycle.calls _ _ _ _ _ _ _ _ A3.out ?hT).mono ?_) ag; (case hT => first | exact tb GT.out HB | exact tb0 GT.out); rintro e w17 ⟨rfl, hb⟩; refine ⟨_, rfl, ?_⟩; replace BK633 := bb BK633 hb; replace HB := bs HB hb; (try clear hb); have hcz18 := k2 BK633) | ((with_reducible refine gc 11 rfl ?_); refine gl_ (some 21) rfl rfl Tryd.func11 ((carrefourref12_Cycle.calls _ _ _ _ _ _ _ _ A4.out).mono ?_) ag; rintro e w19 ⟨rfl, hb⟩; refine ⟨_, rfl, ?_⟩; replace BK633 := bb BK633 hb; replace HB := bs HB hb; (try clear hb)))
        go_ret
        exact ⟨by first | rfl | (simp [errW_none, errW_some] <;> rfl) | (simp [*, errW_none, errW_some] <;> rfl), bf HB⟩
    · rw [if_neg c6] at H
      have c6b0 : (t635 == t638) = false := by simpa using c6
      (try (have c6b1 : decide (t635 = t638) = false := by simpa using c6))
      (try (have c6b2 : (t635 == t638) = false := by simpa using c6))
      (try (have c6b3 : ¬ (t635 = t638) := by simpa using c6))
      clear c6
      obtain rfl := Option.some.inj H
      go_enter Tryd.func3, Tryd.ntmps3
      go_wp2_with (first | ((with_reducible refine gd 3 rfl ?_); refine bx_ 3 23 #[.int .i64 a1_0, .int .i64 a1_1] rfl rfl ?_; intro gb633 hg w20 BK633 hb; have GE633 := bz HB hg; replace HB := bs HB hb; clear hb hg; have hcz21 := k2 BK633) | ((with_reducible refine gc 10 rfl ?_); refine gl_ (some 14) rfl rfl Tryd.func10 ((webster_Cycle.calls _ _ _ _ _ _ _ _ A3.out ?hT).mono ?_) ag; (case hT => first | exact tb GT.out HB | exact tb0 GT.out); rintro e w22 ⟨rfl, hb⟩; refine ⟨_, rfl, ?_⟩; replace BK633 := bb BK633 hb; replace HB := bs HB hb; (try clear hb); have hcz23 := k2 BK633) | ((with_reducible refine gc 11 rfl ?_); refine gl_ (some 21) rfl rfl Tryd.func11 ((carrefourref12_Cycle.calls _ _ _ _ _ _ _ _ A4.out).mono ?_) ag; rintro e w24 ⟨rfl, hb⟩; refine ⟨_, rfl, ?_⟩; replace BK633 := bb BK633 hb; replace HB := bs HB hb; (try clear hb)))
      go_ret
      exact ⟨by first | rfl | (simp [errW_none, errW_some] <;> rfl) | (simp [*, errW_none, errW_some] <;> rfl), bf HB⟩
  · rw [if_neg c5] at H
    have c5b0 : (t634 == t637) = false := beq_eq_false_iff_ne.mpr c5
    have c5b1 : (t634 != t637) = true := bne_iff_ne.mpr c5
    obtain rfl := Option.some.inj H
    go_enter Tryd.func3, Tryd.ntmps3
    go_wp2_with (first | ((with_reducible refine gd 3 rfl ?_); refine bx_ 3 23 #[.int .i64 a1_0, .int .i64 a1_1] rfl rfl ?_; intro gb633 hg w25 BK633 hb; have GE633 := bz HB hg; replace HB := bs HB hb; clear hb hg; have hcz26 := k2 BK633) | ((with_reducible refine gc 10 rfl ?_); refine gl_ (some 14) rfl rfl Tryd.func10 ((webster_Cycle.calls _ _ _ _ _ _ _ _ A3.out ?hT).mono ?_) ag; (case hT => first | exact tb GT.out HB | exact tb0 GT.out); rintro e w27 ⟨rfl, hb⟩; refine ⟨_, rfl, ?_⟩; replace BK633 := bb BK633 hb; replace HB := bs HB hb; (try clear hb); have hcz28 := k2 BK633) | ((with_reducible refine gc 11 rfl ?_); refine gl_ (some 21) rfl rfl Tryd.func11 ((carrefourref12_Cycle.calls _ _ _ _ _ _ _ _ A4.out).mono ?_) ag; rintro e w29 ⟨rfl, hb⟩; refine ⟨_, rfl, ?_⟩; replace BK633 := bb BK633 hb; replace HB := bs HB hb; (try clear hb)))
    go_ret
    exact ⟨by first | rfl | (simp [errW_none, errW_some] <;> rfl) | (simp [*, errW_none, errW_some] <;> rfl), bf HB⟩

end Go.Proofs.YtpdmiookdmncpaaDoor.X
