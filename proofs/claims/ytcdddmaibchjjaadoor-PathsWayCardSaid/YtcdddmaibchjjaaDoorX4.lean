/- Walks: each '.calls' says that the Go function comes to what its Lean function tells. Conditions: as each theorem's head says. -/
import Derived.Test.YtcdddmaibchjjaaDoorXD
import Derived.Test.YtcdddmaibchjjaaDoorX0
import Derived.Test.YtcdddmaibchjjaaDoorX1
import Derived.Test.YtcdddmaibchjjaaDoorX3
namespace Go.Proofs.YtcdddmaibchjjaaDoor.X
open Go.RowKit Go.Proofs.YtcdddmaibchjjaaDoorW.PrintWords Go.Proofs.YtcdddmaibchjjaaDoorW.PrintLast Go.Proofs.YtcdddmaibchjjaaDoorW.PrintMore
attribute [local go_sem] max2_int min2_int max_two min_two max_three min_three max_four min_four   -- for this text's walks alone
set_option linter.unusedVariables false
set_option maxHeartbeats 8000000
set_option maxRecDepth 100000
set_option linter.unusedSimpArgs false

/-! ### carrefourref14_Way: function 13 -/
theorem carrefourref14_Way.calls (k : Nat) (a0 : Int) (A1 : Option Addr) (c1 : Nat) (l1 : List (S34)) (a2 : Int) (r : List Int) (w : World) (hr1 : Kd.C k34 w A1 l1.length l1) (hc1 : l1.length ≤ c1) (h : carrefourref14_Way.f k a0 l1 a2 = some r) :
  Calls Tryd.prog 13 #[.int .i64 a0, .slice A1 l1.length c1, .int .i64 a2] w fun e w' => ∃ v0_ : Value, e = .returned (v0_) ∧ Kd.R (Kd.int .i64) 3 w' w.heap.size (fun _ => True) v0_ r ∧ Below w.heap.size w w' := by
 have HR1 := Aside0.mk hr1
 have HC1 := Aside0.mk hc1
 clear hr1 hc1
 have HB := Aside0.mk (Below.refl w.heap.size w)
 have H : ((carrefourref14_Longest.f k a0 l1).bind fun bt175 => (if bt175.2 = 0 then (if a2 < 0 then (some ([] : List Int)) else (if a2 ≥ a0 then (some ([] : List Int)) else (if 0 ≤ a2 then (if a2 < (bt175.1.length : Int) then (if (rd bt175.1 a2) < 0 then (some ([] : List Int)) else (if 0 ≤ a0 then (if (a0 : Int).toNat ≤ 281474976710656 then ((carrefourref14_on.f k bt175.1 l1 0 a2 (List.replicate (a0 : Int).toNat false)).bind fun t183 => (some t183)) else (none)) else (none))) else (none)) else (none)))) else (some ([] : List Int)))) = some r := h
 clear h
 replace H := bi_ H; obtain ⟨⟨t175, t176⟩, A4, H⟩ := H
 (try dsimp only at H)
 by_cases c5 : t176 = 0
 ·rw [if_pos c5] at H
  have c5b0 : (t176 == 0) = true := beq_iff_eq.mpr c5
  have c5b1 : (t176 != 0) = false := bne_eq_false_iff_eq.mpr c5
  clear c5
  by_cases c6 : a2 < 0
  ·rw [if_pos c6] at H
   have c6b0 : decide (a2 < 0) = true := decide_eq_true c6
   clear c6
   obtain rfl := Option.some.inj H
   go_enter Tryd.func13, Tryd.ntmps13
   go_wp2_with (first | ((with_reducible refine gc 9 rfl ?_); refine gl_ (some 12) rfl rfl Tryd.func9 ((carrefourref14_Longest.calls _ _ _ _ _ _ _ _ ?side1 ?side2 A4.out).mono ?_) ag; (case side1 => repeat (first | exact HR1.out | (with_reducible refine Kd.C_alloc ?_ _) | (with_reducible refine Kd.C_drewN ?_ _) | (with_reducible refine Kd.C_drew ?_))); (case side2 => exact HC1.out); rintro e w7 ⟨v177, rfl, ho0, hb⟩; refine ⟨_, rfl, ?_⟩; have HO178 := Aside0.mk (Kd.R_lower ho0 (below_size (bf HB))); replace HB := bs HB hb; (try clear hb); (try clear ho0)))
   go_ret
   exact ⟨_, ae, by first | exact Kd.R_nil _ _ _ _ _ | exact Kd.N_nil _ _ _ _ _ | exact Kd.V_nil _ _ _ _ _ | exact Kd.Q_nil _ _ _ _ _ | exact Kd.S_nil _ _ _ _ _, bf HB⟩
  ·rw [if_neg c6] at H
   have c6b0 : decide (a2 < 0) = false := decide_eq_false c6
   clear c6
   by_cases c8 : a2 ≥ a0
   ·rw [if_pos c8] at H
    have c8b0 : decide (a0 ≤ a2) = true := decide_eq_true c8
    clear c8
    obtain rfl := Option.some.inj H
    go_enter Tryd.func13, Tryd.ntmps13
    go_wp2_with (first | ((with_reducible refine gc 9 rfl ?_); refine gl_ (some 12) rfl rfl Tryd.func9 ((carrefourref14_Longest.calls _ _ _ _ _ _ _ _ ?side1 ?side2 A4.out).mono ?_) ag; (case side1 => repeat (first | exact HR1.out | (with_reducible refine Kd.C_alloc ?_ _) | (with_reducible refine Kd.C_drewN ?_ _) | (with_reducible refine Kd.C_drew ?_))); (case side2 => exact HC1.out); rintro e w9 ⟨v177, rfl, ho0, hb⟩; refine ⟨_, rfl, ?_⟩; have HO178 := Aside0.mk (Kd.R_lower ho0 (below_size (bf HB))); replace HB := bs HB hb; (try clear hb); (try clear ho0)))
    go_ret
    exact ⟨_, ae, by first | exact Kd.R_nil _ _ _ _ _ | exact Kd.N_nil _ _ _ _ _ | exact Kd.V_nil _ _ _ _ _ | exact Kd.Q_nil _ _ _ _ _ | exact Kd.S_nil _ _ _ _ _, bf HB⟩
   ·rw [if_neg c8] at H
    have c8b0 : decide (a0 ≤ a2) = false := decide_eq_false c8
    clear c8
    by_cases c10 : 0 ≤ a2
    ·rw [if_pos c10] at H
     have c10b0 : decide (0 ≤ a2) = true := decide_eq_true c10
     clear c10
     by_cases c11 : a2 < (t175.length : Int)
     ·rw [if_pos c11] at H
      have c11b0 : decide (a2 < (t175.length : Int)) = true := decide_eq_true c11
      clear c11
      by_cases c12 : (rd t175 a2) < 0
      ·rw [if_pos c12] at H
       have c12b0 : decide ((rd t175 a2) < 0) = true := decide_eq_true c12
       clear c12
       obtain rfl := Option.some.inj H
       go_enter Tryd.func13, Tryd.ntmps13
       go_wp2_with (first | ((with_reducible refine gc 9 rfl ?_); refine gl_ (some 12) rfl rfl Tryd.func9 ((carrefourref14_Longest.calls _ _ _ _ _ _ _ _ ?side1 ?side2 A4.out).mono ?_) ag; (case side1 => repeat (first | exact HR1.out | (with_reducible refine Kd.C_alloc ?_ _) | (with_reducible refine Kd.C_drewN ?_ _) | (with_reducible refine Kd.C_drew ?_))); (case side2 => exact HC1.out); rintro e w13 ⟨v177, rfl, ho0, hb⟩; refine ⟨_, rfl, ?_⟩; have HO178 := Aside0.mk (Kd.R_lower ho0 (below_size (bf HB))); replace HB := bs HB hb; (try clear hb); (try clear ho0); obtain ⟨Ao14, co14, eo14⟩ := Kd.R_slice HO178.out; subst eo14; have p179 : 0 ≤ (a2 : Int) := od_; have q179 : a2 < (t175.length : Int) := od_; obtain ⟨ad179, e179, hx179_0⟩ := Kd.at_int (Kd.R_reads' HO178.out).2.2 a2 p179 q179; cases e179; replace p179 := eq_true p179; replace q179 := eq_true q179))
       go_ret
       exact ⟨_, ae, by first | exact Kd.R_nil _ _ _ _ _ | exact Kd.N_nil _ _ _ _ _ | exact Kd.V_nil _ _ _ _ _ | exact Kd.Q_nil _ _ _ _ _ | exact Kd.S_nil _ _ _ _ _, bf HB⟩
      ·rw [if_neg c12] at H
       have c12b0 : decide ((rd t175 a2) < 0) = false := decide_eq_false c12
       clear c12
       by_cases c15 : 0 ≤ a0
       ·rw [if_pos c15] at H
        have c15b0 := eq_true c15
        have c15b1 : decide (0 ≤ a0) = true := decide_eq_true c15
        clear c15
        by_cases c16 : (a0 : Int).toNat ≤ 281474976710656
        ·rw [if_pos c16] at H
         have c16b0 := eq_true c16
         have c16b1 : decide ((a0 : Int).toNat ≤ 281474976710656) = true := decide_eq_true c16
         clear c16
         obtain ⟨y180, hy180⟩ : ∃ y_ : List Bool, y_ = (List.replicate (a0 : Int).toNat false) := ⟨_, rfl⟩
         replace H : ((carrefourref14_on.f k t175 l1 0 a2 y180).bind fun t183 => (some t183)) = some r := by first | (rw [hy180]; with_reducible exact H) | (have H2_ := (Option.bind_some _ _).symm.trans H; rw [hy180]; with_reducible exact H2_) | (have H2_ := (Option.bind_some _ _).symm.trans H; with_reducible exact H2_) | with_reducible exact H | (rw [hy180]; exact H) | exact H
         have Ny180 := Aside0.mk hy180
         clear hy180
         replace H := bi_ H; obtain ⟨t183, A17, H⟩ := H
         (try dsimp only at H)
         obtain rfl := Option.some.inj H
         go_enter Tryd.func13, Tryd.ntmps13
         go_wp2_with (first | ((with_reducible refine gc 9 rfl ?_); refine gl_ (some 12) rfl rfl Tryd.func9 ((carrefourref14_Longest.calls _ _ _ _ _ _ _ _ ?side1 ?side2 A4.out).mono ?_) ag; (case side1 => repeat (first | exact HR1.out | (with_reducible refine Kd.C_alloc ?_ _) | (with_reducible refine Kd.C_drewN ?_ _) | (with_reducible refine Kd.C_drew ?_))); (case side2 => exact HC1.out); rintro e w18 ⟨v177, rfl, ho0, hb⟩; refine ⟨_, rfl, ?_⟩; have HO178 := Aside0.mk (Kd.R_lower ho0 (below_size (bf HB))); replace HB := bs HB hb; (try clear hb); (try clear ho0); obtain ⟨Ao19, co19, eo19⟩ := Kd.R_slice HO178.out; subst eo19; have p179 : 0 ≤ (a2 : Int) := od_; have q179 : a2 < (t175.length : Int) := od_; obtain ⟨ad179, e179, hx179_0⟩ := Kd.at_int (Kd.R_reads' HO178.out).2.2 a2 p179 q179; cases e179; replace p179 := eq_true p179; replace q179 := eq_true q179) | ((with_reducible refine gate_dst (N := 37) rfl ?_); refine Kd.R_make Kd.bool _ 4 rfl (N := 37) rfl 51 _ _ rfl a0 rfl rfl Tryd.underlying51 (.bool false) 1 info4 rfl (by decide) (by omega) false (ok := fun _ => True) (okp := fun _ => True) rfl (fun _ hk => hk) trivial (od_) (Nat.le_trans (Nat.mul_le_mul_right _ (od_ : a0.toNat ≤ 281474976710656)) (by omega)) (Below.refl _ _) (Nat.le_refl _) ?_; intro v181 w20 ho21 hb hg_ hnew_; clear hg_ hnew_; (first | rw [← Ny180.out] at ho21 | (simp only [Int.reduceToNat] at ho21; rw [← Ny180.out] at ho21)); have HO182 := Aside0.mk (Kd.R_lower ho21 (below_size (bf HB))); replace HO178 := rb HO178 hb; replace HB := bs HB hb; clear hb ho21; obtain ⟨Ao22, co22, eo22⟩ := Kd.R_slice HO182.out; subst eo22) | ((with_reducible refine gc 21 rfl ?_); refine gl_ (some 38) rfl rfl Tryd.func21 ((carrefourref14_on.calls _ _ _ _ _ _ _ _ _ _ _ _ _ _ ?side1 ?side2 ?side3 ?side4 ?side5 ?side6 A17.out).mono ?_) ag; (case side1 => exact rc HO178); (case side2 => exact (Kd.R_reads' HO178.out).2.1); (case side3 => repeat (first | exact (Kd.C_below HR1.out HB.out) | (with_reducible refine Kd.C_alloc ?_ _) | (with_reducible refine Kd.C_drewN ?_ _) | (with_reducible refine Kd.C_drew ?_))); (case side4 => exact HC1.out); (case side5 => exact rc HO182); (case side6 => exact (Kd.R_reads' HO182.out).2.1); rintro e w23 ⟨v184, rfl, ho0, hb⟩; refine ⟨_, rfl, ?_⟩; have HO185 := Aside0.mk (Kd.R_lower ho0 (below_size (bf HB))); replace HO178 := rb HO178 hb; replace HO182 := rb HO182 hb; replace HB := bs HB hb; (try clear hb); (try clear ho0)))
         go_ret
         exact ⟨_, ae, by (with_reducible repeat (first | apply Kd.R_alloc | apply Kd.R_drewN | apply Kd.R_drew)); exact HO185.out, bf HB⟩
        ·rw [if_neg c16] at H
         exact absurd H (by simp)
       ·rw [if_neg c15] at H
        exact absurd H (by simp)
     ·rw [if_neg c11] at H
      exact absurd H (by simp)
    ·rw [if_neg c10] at H
     exact absurd H (by simp)
 ·rw [if_neg c5] at H
  have c5b0 : (t176 == 0) = false := beq_eq_false_iff_ne.mpr c5
  have c5b1 : (t176 != 0) = true := bne_iff_ne.mpr c5
  obtain rfl := Option.some.inj H
  go_enter Tryd.func13, Tryd.ntmps13
  go_wp2_with (first | ((with_reducible refine gc 9 rfl ?_); refine gl_ (some 12) rfl rfl Tryd.func9 ((carrefourref14_Longest.calls _ _ _ _ _ _ _ _ ?side1 ?side2 A4.out).mono ?_) ag; (case side1 => repeat (first | exact HR1.out | (with_reducible refine Kd.C_alloc ?_ _) | (with_reducible refine Kd.C_drewN ?_ _) | (with_reducible refine Kd.C_drew ?_))); (case side2 => exact HC1.out); rintro e w24 ⟨v177, rfl, ho0, hb⟩; refine ⟨_, rfl, ?_⟩; have HO178 := Aside0.mk (Kd.R_lower ho0 (below_size (bf HB))); replace HB := bs HB hb; (try clear hb); (try clear ho0)))
  go_ret
  exact ⟨_, ae, by first | exact Kd.R_nil _ _ _ _ _ | exact Kd.N_nil _ _ _ _ _ | exact Kd.V_nil _ _ _ _ _ | exact Kd.Q_nil _ _ _ _ _ | exact Kd.S_nil _ _ _ _ _, bf HB⟩

/-! ### carrefourlaw14_PathsWay: function 4 -/
theorem carrefourlaw14_PathsWay.calls (k : Nat) (a0 : Int) (A1 : Option Addr) (c1 : Nat) (l1 : List (S34)) (a2 : Int) (r : Bool) (w : World) (hr1 : Kd.C k34 w A1 l1.length l1) (hc1 : l1.length ≤ c1) (h : carrefourlaw14_PathsWay.f k a0 l1 a2 = some r) (hT : TabOK w) :
  Calls Tryd.prog 4 #[.int .i64 a0, .slice A1 l1.length c1, .int .i64 a2] w fun e w' => e = .returned (.bool r) ∧ Below w.heap.size w w' := by
 have GT := Aside0.mk hT
 clear hT
 have HR1 := Aside0.mk hr1
 have HC1 := Aside0.mk hc1
 clear hr1 hc1
 have HB := Aside0.mk (Below.refl w.heap.size w)
 have H : ((carrefourlaw14_few.f a0 l1).bind fun t186 => (if t186 = true then ((carrefourlaw14_simple.f k l1).bind fun t187 => (carrefourlaw14_PathsWay.j0 k a0 l1 a2 (!t187))) else (carrefourlaw14_PathsWay.j0 k a0 l1 a2 true))) = some r := h
 clear h
 have HC4 := Aside0.mk H
 clear H
 go_enter Tryd.func4, Tryd.ntmps4
 go_upto_region 1 with (fail)
 repeat (go_quiet (fail); go_upto_region 1 with (fail))
 go_cut [18] (fun v18 wc => ∃ (kq : Nat) (x18_3 : Bool), v18 = .bool x18_3 ∧ Aside0 (carrefourlaw14_PathsWay.j0 kq a0 l1 a2 x18_3 = some r) ∧ Aside0 (kq ≤ k) ∧ Aside0 (Below w.heap.size w wc))
 case first =>
  have H := HC4.out
  clear HC4
  replace H := bi_ H; obtain ⟨t186, A5, H⟩ := H
  (try dsimp only at H)
  by_cases c6 : t186 = true
  ·subst c6
   have H1 : ((carrefourlaw14_simple.f k l1).bind fun t187 => (carrefourlaw14_PathsWay.j0 k a0 l1 a2 (!t187))) = some r := by rw [if_pos rfl] at H; exact H
   clear H
   have H := H1
   clear H1
   replace H := bi_ H; obtain ⟨t187, A7, H⟩ := H
   (try dsimp only at H)
   have H' := Aside0.mk H
   clear H
   go_wp2_with (first | (go_at_call 7; (with_reducible refine (carrefourlaw14_few.calls _ _ _ _ _ _ ?side1 ?side2 A5.out).mono ?_); (case side1 => repeat (first | exact (Kd.C_below HR1.out HB.out) | (with_reducible refine Kd.C_alloc ?_ _) | (with_reducible refine Kd.C_drewN ?_ _) | (with_reducible refine Kd.C_drew ?_))); (case side2 => exact HC1.out); rintro e w' ⟨rfl, ⟨nd, rfl⟩⟩; (try first | exact ⟨rfl, _, World.drewN_drewN _ _ _⟩ | exact ⟨rfl, _, Eq.trans (World.drewN_drewN _ _ _) (congrArg (World.drewN _) (Nat.add_assoc _ _ _))⟩)) | (go_at_call 11; (with_reducible refine (carrefourlaw14_simple.calls _ _ _ _ _ _ ?side1 ?side2 A7.out).mono ?_); (case side1 => repeat (first | exact (Kd.C_below HR1.out (bf HB)) | (with_reducible refine Kd.C_alloc ?_ _) | (with_reducible refine Kd.C_drewN ?_ _) | (with_reducible refine Kd.C_drew ?_))); (case side2 => exact HC1.out); rintro e w' ⟨rfl, ⟨nd, rfl⟩⟩; (try first | exact ⟨rfl, _, World.drewN_drewN _ _ _⟩ | exact ⟨rfl, _, Eq.trans (World.drewN_drewN _ _ _) (congrArg (World.drewN _) (Nat.add_assoc _ _ _))⟩)))
   repeat (go_quiet (first | (go_at_call 7; (with_reducible refine (carrefourlaw14_few.calls _ _ _ _ _ _ ?side1 ?side2 A5.out).mono ?_); (case side1 => repeat (first | exact (Kd.C_below HR1.out HB.out) | (with_reducible refine Kd.C_alloc ?_ _) | (with_reducible refine Kd.C_drewN ?_ _) | (with_reducible refine Kd.C_drew ?_))); (case side2 => exact HC1.out); rintro e w' ⟨rfl, ⟨nd, rfl⟩⟩; (try first | exact ⟨rfl, _, World.drewN_drewN _ _ _⟩ | exact ⟨rfl, _, Eq.trans (World.drewN_drewN _ _ _) (congrArg (World.drewN _) (Nat.add_assoc _ _ _))⟩)) | (go_at_call 11; (with_reducible refine (carrefourlaw14_simple.calls _ _ _ _ _ _ ?side1 ?side2 A7.out).mono ?_); (case side1 => repeat (first | exact (Kd.C_below HR1.out (bf HB)) | (with_reducible refine Kd.C_alloc ?_ _) | (with_reducible refine Kd.C_drewN ?_ _) | (with_reducible refine Kd.C_drew ?_))); (case side2 => exact HC1.out); rintro e w' ⟨rfl, ⟨nd, rfl⟩⟩; (try first | exact ⟨rfl, _, World.drewN_drewN _ _ _⟩ | exact ⟨rfl, _, Eq.trans (World.drewN_drewN _ _ _) (congrArg (World.drewN _) (Nat.add_assoc _ _ _))⟩))); try go_wp2_with (first | (go_at_call 7; (with_reducible refine (carrefourlaw14_few.calls _ _ _ _ _ _ ?side1 ?side2 A5.out).mono ?_); (case side1 => repeat (first | exact (Kd.C_below HR1.out HB.out) | (with_reducible refine Kd.C_alloc ?_ _) | (with_reducible refine Kd.C_drewN ?_ _) | (with_reducible refine Kd.C_drew ?_))); (case side2 => exact HC1.out); rintro e w' ⟨rfl, ⟨nd, rfl⟩⟩; (try first | exact ⟨rfl, _, World.drewN_drewN _ _ _⟩ | exact ⟨rfl, _, Eq.trans (World.drewN_drewN _ _ _) (congrArg (World.drewN _) (Nat.add_assoc _ _ _))⟩)) | (go_at_call 11; (with_reducible refine (carrefourlaw14_simple.calls _ _ _ _ _ _ ?side1 ?side2 A7.out).mono ?_); (case side1 => repeat (first | exact (Kd.C_below HR1.out (bf HB)) | (with_reducible refine Kd.C_alloc ?_ _) | (with_reducible refine Kd.C_drewN ?_ _) | (with_reducible refine Kd.C_drew ?_))); (case side2 => exact HC1.out); rintro e w' ⟨rfl, ⟨nd, rfl⟩⟩; (try first | exact ⟨rfl, _, World.drewN_drewN _ _ _⟩ | exact ⟨rfl, _, Eq.trans (World.drewN_drewN _ _ _) (congrArg (World.drewN _) (Nat.add_assoc _ _ _))⟩))))
   go_meet
   case rel => exact ⟨_, (!t187), (aq), H', ⟨by first | omega | exact Nat.le_refl _⟩, ⟨bf HB⟩⟩
  ·replace c6 := Bool.eq_false_iff.mpr c6
   subst c6
   have H1 : (carrefourlaw14_PathsWay.j0 k a0 l1 a2 true) = some r := by rw [if_neg (show ¬ (false = true) by decide)] at H; exact H
   clear H
   have H := H1
   clear H1
   have H' := Aside0.mk H
   clear H
   go_wp2_with (first | (go_at_call 7; (with_reducible refine (carrefourlaw14_few.calls _ _ _ _ _ _ ?side1 ?side2 A5.out).mono ?_); (case side1 => repeat (first | exact (Kd.C_below HR1.out HB.out) | (with_reducible refine Kd.C_alloc ?_ _) | (with_reducible refine Kd.C_drewN ?_ _) | (with_reducible refine Kd.C_drew ?_))); (case side2 => exact HC1.out); rintro e w' ⟨rfl, ⟨nd, rfl⟩⟩; (try first | exact ⟨rfl, _, World.drewN_drewN _ _ _⟩ | exact ⟨rfl, _, Eq.trans (World.drewN_drewN _ _ _) (congrArg (World.drewN _) (Nat.add_assoc _ _ _))⟩)))
   repeat (go_quiet (first | (go_at_call 7; (with_reducible refine (carrefourlaw14_few.calls _ _ _ _ _ _ ?side1 ?side2 A5.out).mono ?_); (case side1 => repeat (first | exact (Kd.C_below HR1.out HB.out) | (with_reducible refine Kd.C_alloc ?_ _) | (with_reducible refine Kd.C_drewN ?_ _) | (with_reducible refine Kd.C_drew ?_))); (case side2 => exact HC1.out); rintro e w' ⟨rfl, ⟨nd, rfl⟩⟩; (try first | exact ⟨rfl, _, World.drewN_drewN _ _ _⟩ | exact ⟨rfl, _, Eq.trans (World.drewN_drewN _ _ _) (congrArg (World.drewN _) (Nat.add_assoc _ _ _))⟩))); try go_wp2_with (first | (go_at_call 7; (with_reducible refine (carrefourlaw14_few.calls _ _ _ _ _ _ ?side1 ?side2 A5.out).mono ?_); (case side1 => repeat (first | exact (Kd.C_below HR1.out HB.out) | (with_reducible refine Kd.C_alloc ?_ _) | (with_reducible refine Kd.C_drewN ?_ _) | (with_reducible refine Kd.C_drew ?_))); (case side2 => exact HC1.out); rintro e w' ⟨rfl, ⟨nd, rfl⟩⟩; (try first | exact ⟨rfl, _, World.drewN_drewN _ _ _⟩ | exact ⟨rfl, _, Eq.trans (World.drewN_drewN _ _ _) (congrArg (World.drewN _) (Nat.add_assoc _ _ _))⟩))))
   go_meet
   case rel => exact ⟨_, (true), (aq), H', ⟨by first | omega | exact Nat.le_refl _⟩, ⟨bf HB⟩⟩
 case rest =>
  clear HC4
  (try clear c1); (try clear p2); (try clear c4); (try clear c6)
  obtain ⟨kq, x18_3, rfl, HA, HJ3, HB⟩ := hcut
  cases kq with
  | zero => exact absurd HA.out (by simp [carrefourlaw14_PathsWay.j0])
  | succ kj3 =>
   have H := HA.out
   clear HA
   simp only [carrefourlaw14_PathsWay.j0] at H
   by_cases c8 : x18_3 = true
   ·subst c8
    have H1 : ((carrefourlaw14_awake.f kj3).bind fun t188 => (some t188)) = some r := by rw [if_pos rfl] at H; exact H
    clear H
    have H := H1
    clear H1
    replace H := bi_ H; obtain ⟨t188, A9, H⟩ := H
    (try dsimp only at H)
    obtain rfl := Option.some.inj H
    go_wp2_with (first | (go_at_call 10; (with_reducible refine (carrefourlaw14_awake.calls kj3 _ _ A9.out (tt GT)).mono ?_); rintro e w10 ⟨rfl, hb⟩; replace HB := bs HB hb; (try clear hb)))
    repeat (go_quiet (first | (go_at_call 10; (with_reducible refine (carrefourlaw14_awake.calls kj3 _ _ A9.out (tt GT)).mono ?_); rintro e w10 ⟨rfl, hb⟩; replace HB := bs HB hb; (try clear hb))); try go_wp2_with (first | (go_at_call 10; (with_reducible refine (carrefourlaw14_awake.calls kj3 _ _ A9.out (tt GT)).mono ?_); rintro e w10 ⟨rfl, hb⟩; replace HB := bs HB hb; (try clear hb))))
    go_ret
    exact ⟨ae, bf HB⟩
   ·replace c8 := Bool.eq_false_iff.mpr c8
    subst c8
    have H1 : ((paths_Way.f kj3 a0 l1 a2).bind fun t189 => ((carrefourref14_Way.f kj3 a0 l1 a2).bind fun t192 => (if (t189.length : Int) = (t192.length : Int) then (carrefourlaw14_PathsWay.l0 kj3 t189 t192 0) else (some false)))) = some r := by rw [if_neg (show ¬ (false = true) by decide)] at H; exact H
    clear H
    have H := H1
    clear H1
    replace H := bi_ H; obtain ⟨t189, A11, H⟩ := H
    (try dsimp only at H)
    replace H := bi_ H; obtain ⟨t192, A12, H⟩ := H
    (try dsimp only at H)
    by_cases c13 : (t189.length : Int) = (t192.length : Int)
    ·rw [if_pos c13] at H
     have c13b0 : ((t189.length : Int) == (t192.length : Int)) = true := beq_iff_eq.mpr c13
     have c13b1 : ((t189.length : Int) != (t192.length : Int)) = false := bne_eq_false_iff_eq.mpr c13
     have c13b2 : (t189.length == t192.length) = true := by first | simpa using c13 | (simp at c13 ⊢; omega)
     clear c13
     have H' := Aside0.mk H
     clear H
     go_wp2_with (first | (go_at_call 12; (with_reducible refine (paths_Way.calls kj3 _ _ _ _ _ _ _ ?side1 ?side2 A11.out (tt GT)).mono ?_); (case side1 => repeat (first | exact (Kd.C_below HR1.out HB.out) | (with_reducible refine Kd.C_alloc ?_ _) | (with_reducible refine Kd.C_drewN ?_ _) | (with_reducible refine Kd.C_drew ?_))); (case side2 => exact HC1.out); rintro e w14 ⟨v190, rfl, ho0, hb⟩; have HO191 := Aside0.mk (Kd.R_lower ho0 (below_size (bf HB))); replace HB := bs HB hb; (try clear hb); (try clear ho0)) | (go_at_call 13; (with_reducible refine (carrefourref14_Way.calls kj3 _ _ _ _ _ _ _ ?side1 ?side2 A12.out).mono ?_); (case side1 => repeat (first | exact (Kd.C_below HR1.out HB.out) | (with_reducible refine Kd.C_alloc ?_ _) | (with_reducible refine Kd.C_drewN ?_ _) | (with_reducible refine Kd.C_drew ?_))); (case side2 => exact HC1.out); rintro e w15 ⟨v193, rfl, ho0, hb⟩; have HO194 := Aside0.mk (Kd.R_lower (Kd.R_new' ho0 (rl HO191)) (below_size (bf HB))); replace HO191 := re_ HO191 (Kd.R_base ho0) hb; replace HB := bs HB hb; (try clear hb); (try clear ho0); obtain ⟨Ao16, co16, eo16⟩ := Kd.R_slice HO191.out; subst eo16; obtain ⟨Ao17, co17, eo17⟩ := Kd.R_slice HO194.out; subst eo17))
     repeat (go_quiet (first | (go_at_call 12; (with_reducible refine (paths_Way.calls kj3 _ _ _ _ _ _ _ ?side1 ?side2 A11.out (tt GT)).mono ?_); (case side1 => repeat (first | exact (Kd.C_below HR1.out HB.out) | (with_reducible refine Kd.C_alloc ?_ _) | (with_reducible refine Kd.C_drewN ?_ _) | (with_reducible refine Kd.C_drew ?_))); (case side2 => exact HC1.out); rintro e w14 ⟨v190, rfl, ho0, hb⟩; have HO191 := Aside0.mk (Kd.R_lower ho0 (below_size (bf HB))); replace HB := bs HB hb; (try clear hb); (try clear ho0)) | (go_at_call 13; (with_reducible refine (carrefourref14_Way.calls kj3 _ _ _ _ _ _ _ ?side1 ?side2 A12.out).mono ?_); (case side1 => repeat (first | exact (Kd.C_below HR1.out HB.out) | (with_reducible refine Kd.C_alloc ?_ _) | (with_reducible refine Kd.C_drewN ?_ _) | (with_reducible refine Kd.C_drew ?_))); (case side2 => exact HC1.out); rintro e w15 ⟨v193, rfl, ho0, hb⟩; have HO194 := Aside0.mk (Kd.R_lower (Kd.R_new' ho0 (rl HO191)) (below_size (bf HB))); replace HO191 := re_ HO191 (Kd.R_base ho0) hb; replace HB := bs HB hb; (try clear hb); (try clear ho0); obtain ⟨Ao16, co16, eo16⟩ := Kd.R_slice HO191.out; subst eo16; obtain ⟨Ao17, co17, eo17⟩ := Kd.R_slice HO194.out; subst eo17)); try go_wp2_with (first | (go_at_call 12; (with_reducible refine (paths_Way.calls kj3 _ _ _ _ _ _ _ ?side1 ?side2 A11.out (tt GT)).mono ?_); (case side1 => repeat (first | exact (Kd.C_below HR1.out HB.out) | (with_reducible refine Kd.C_alloc ?_ _) | (with_reducible refine Kd.C_drewN ?_ _) | (with_reducible refine Kd.C_drew ?_))); (case side2 => exact HC1.out); rintro e w14 ⟨v190, rfl, ho0, hb⟩; have HO191 := Aside0.mk (Kd.R_lower ho0 (below_size (bf HB))); replace HB := bs HB hb; (try clear hb); (try clear ho0)) | (go_at_call 13; (with_reducible refine (carrefourref14_Way.calls kj3 _ _ _ _ _ _ _ ?side1 ?side2 A12.out).mono ?_); (case side1 => repeat (first | exact (Kd.C_below HR1.out HB.out) | (with_reducible refine Kd.C_alloc ?_ _) | (with_reducible refine Kd.C_drewN ?_ _) | (with_reducible refine Kd.C_drew ?_))); (case side2 => exact HC1.out); rintro e w15 ⟨v193, rfl, ho0, hb⟩; have HO194 := Aside0.mk (Kd.R_lower (Kd.R_new' ho0 (rl HO191)) (below_size (bf HB))); replace HO191 := re_ HO191 (Kd.R_base ho0) hb; replace HB := bs HB hb; (try clear hb); (try clear ho0); obtain ⟨Ao16, co16, eo16⟩ := Kd.R_slice HO191.out; subst eo16; obtain ⟨Ao17, co17, eo17⟩ := Kd.R_slice HO194.out; subst eo17)))
     go_loopg [9] kj3 (fun kq v9 w' => ∃ (x9_2 : Int), v9 = .int .i64 x9_2 ∧ Aside0 (carrefourlaw14_PathsWay.l0 kq t189 t192 x9_2 = some r) ∧ Aside0 (kq ≤ kj3) ∧ Aside0 (Kd.R (Kd.int .i64) 3 w' w.heap.size (fun k_ => some k_ ≠ ((.slice Ao17 t192.length co17) : Value).ownBlock) (.slice Ao16 t189.length co16) t189) ∧ Aside0 (Kd.R (Kd.int .i64) 3 w' w.heap.size (fun k_ => some k_ ≠ ((.slice Ao16 t189.length co16) : Value).ownBlock) (.slice Ao17 t192.length co17) t192) ∧ Aside0 (Below w.heap.size w w'))
     case atStart => exact ⟨(0), (aq), H', ⟨Nat.le_refl _⟩, ⟨Rt_ (Kd.R_mono HO191.out (fun _ hk => hk.2))⟩, ⟨Rt_ (Kd.R_mono HO194.out (fun _ hk => hk.2))⟩, ⟨bf HB⟩⟩
     case round =>
      clear H'
      (try clear c1); (try clear p2); (try clear c4); (try clear c6); (try clear c8); (try clear c13); (try clear c13b0); (try clear c13b1); (try clear c13b2); (try clear p2)
      obtain ⟨x9_2, rfl, HA, HK2, HO_7, HO_8, HB⟩ := hrel
      cases gk with
      | zero => exact absurd HA.out (by simp [carrefourlaw14_PathsWay.l0])
      | succ k2 =>
       have H := HA.out
       clear HA
       simp only [carrefourlaw14_PathsWay.l0] at H
       by_cases c18 : x9_2 < (t189.length : Int)
       ·rw [if_pos c18] at H
        have c18b0 : decide (x9_2 < (t189.length : Int)) = true := decide_eq_true c18
        clear c18
        by_cases c19 : 0 ≤ x9_2
        ·rw [if_pos c19] at H
         have c19b0 : decide (0 ≤ x9_2) = true := decide_eq_true c19
         clear c19
         by_cases c20 : x9_2 < (t192.length : Int)
         ·rw [if_pos c20] at H
          have c20b0 : decide (x9_2 < (t192.length : Int)) = true := decide_eq_true c20
          clear c20
          by_cases c21 : (rd t189 x9_2) = (rd t192 x9_2)
          ·rw [if_pos c21] at H
           have c21b0 : ((rd t189 x9_2) == (rd t192 x9_2)) = true := beq_iff_eq.mpr c21
           have c21b1 : ((rd t189 x9_2) != (rd t192 x9_2)) = false := bne_eq_false_iff_eq.mpr c21
           clear c21
           have H' := Aside0.mk H
           clear H
           have p195 : 0 ≤ (x9_2 : Int) := od_
           have q195 : x9_2 < (t189.length : Int) := od_
           obtain ⟨ad195, e195, hx195_0⟩ := Kd.at_int (Kd.R_reads' HO_7.out).2.2 x9_2 p195 q195
           cases e195
           replace p195 := eq_true p195
           replace q195 := eq_true q195
           have p196 : 0 ≤ (x9_2 : Int) := od_
           have q196 : x9_2 < (t192.length : Int) := od_
           obtain ⟨ad196, e196, hx196_0⟩ := Kd.at_int (Kd.R_reads' HO_8.out).2.2 x9_2 p196 q196
           cases e196
           replace p196 := eq_true p196
           replace q196 := eq_true q196
           go_wp2
           repeat (go_quiet (fail); try go_wp2)
           go_roundg k2
           case measure => have := HJ3.out; have := HK2.out; omega
           case rel => exact ⟨(wrap64 (x9_2 + 1)), (aq), H', ⟨by have := HJ3.out; have := HK2.out; omega⟩, ⟨Rt_ HO_7.out⟩, ⟨Rt_ HO_8.out⟩, ⟨bf HB⟩⟩
          ·rw [if_neg c21] at H
           have c21b0 : ((rd t189 x9_2) == (rd t192 x9_2)) = false := beq_eq_false_iff_ne.mpr c21
           have c21b1 : ((rd t189 x9_2) != (rd t192 x9_2)) = true := bne_iff_ne.mpr c21
           obtain rfl := Option.some.inj H
           have p195 : 0 ≤ (x9_2 : Int) := od_
           have q195 : x9_2 < (t189.length : Int) := od_
           obtain ⟨ad195, e195, hx195_0⟩ := Kd.at_int (Kd.R_reads' HO_7.out).2.2 x9_2 p195 q195
           cases e195
           replace p195 := eq_true p195
           replace q195 := eq_true q195
           have p196 : 0 ≤ (x9_2 : Int) := od_
           have q196 : x9_2 < (t192.length : Int) := od_
           obtain ⟨ad196, e196, hx196_0⟩ := Kd.at_int (Kd.R_reads' HO_8.out).2.2 x9_2 p196 q196
           cases e196
           replace p196 := eq_true p196
           replace q196 := eq_true q196
           go_wp2
           repeat (go_quiet (fail); try go_wp2)
           go_ret
           exact ⟨ae, bf HB⟩
         ·rw [if_neg c20] at H
          exact absurd H (by simp)
        ·rw [if_neg c19] at H
         exact absurd H (by simp)
       ·rw [if_neg c18] at H
        have c18b0 : decide (x9_2 < (t189.length : Int)) = false := decide_eq_false c18
        clear c18
        replace H := bi_ H; obtain ⟨t197, A22, H⟩ := H
        (try dsimp only at H)
        obtain rfl := Option.some.inj H
        go_wp2_with (first | (go_at_call 10; (with_reducible refine (carrefourlaw14_awake.calls _ _ _ A22.out (tt GT)).mono ?_); rintro e w23 ⟨rfl, hb⟩; replace HO_7 := Aside0.mk (Kd.R_below (Rt_ HO_7.out) hb); replace HO_8 := Aside0.mk (Kd.R_below (Rt_ HO_8.out) hb); replace HB := bs HB hb; (try clear hb)))
        repeat (go_quiet (first | (go_at_call 10; (with_reducible refine (carrefourlaw14_awake.calls _ _ _ A22.out (tt GT)).mono ?_); rintro e w23 ⟨rfl, hb⟩; replace HO_7 := Aside0.mk (Kd.R_below (Rt_ HO_7.out) hb); replace HO_8 := Aside0.mk (Kd.R_below (Rt_ HO_8.out) hb); replace HB := bs HB hb; (try clear hb))); try go_wp2_with (first | (go_at_call 10; (with_reducible refine (carrefourlaw14_awake.calls _ _ _ A22.out (tt GT)).mono ?_); rintro e w23 ⟨rfl, hb⟩; replace HO_7 := Aside0.mk (Kd.R_below (Rt_ HO_7.out) hb); replace HO_8 := Aside0.mk (Kd.R_below (Rt_ HO_8.out) hb); replace HB := bs HB hb; (try clear hb))))
        go_ret
        exact ⟨ae, bf HB⟩
    ·rw [if_neg c13] at H
     have c13b0 : ((t189.length : Int) == (t192.length : Int)) = false := beq_eq_false_iff_ne.mpr c13
     have c13b1 : ((t189.length : Int) != (t192.length : Int)) = true := bne_iff_ne.mpr c13
     have c13b2 : (t189.length == t192.length) = false := by first | simpa using c13 | (simp at c13 ⊢; omega)
     obtain rfl := Option.some.inj H
     go_wp2_with (first | (go_at_call 12; (with_reducible refine (paths_Way.calls kj3 _ _ _ _ _ _ _ ?side1 ?side2 A11.out (tt GT)).mono ?_); (case side1 => repeat (first | exact (Kd.C_below HR1.out HB.out) | (with_reducible refine Kd.C_alloc ?_ _) | (with_reducible refine Kd.C_drewN ?_ _) | (with_reducible refine Kd.C_drew ?_))); (case side2 => exact HC1.out); rintro e w24 ⟨v190, rfl, ho0, hb⟩; have HO191 := Aside0.mk (Kd.R_lower ho0 (below_size (bf HB))); replace HB := bs HB hb; (try clear hb); (try clear ho0)) | (go_at_call 13; (with_reducible refine (carrefourref14_Way.calls kj3 _ _ _ _ _ _ _ ?side1 ?side2 A12.out).mono ?_); (case side1 => repeat (first | exact (Kd.C_below HR1.out HB.out) | (with_reducible refine Kd.C_alloc ?_ _) | (with_reducible refine Kd.C_drewN ?_ _) | (with_reducible refine Kd.C_drew ?_))); (case side2 => exact HC1.out); rintro e w25 ⟨v193, rfl, ho0, hb⟩; have HO194 := Aside0.mk (Kd.R_lower (Kd.R_new' ho0 (rl HO191)) (below_size (bf HB))); replace HO191 := re_ HO191 (Kd.R_base ho0) hb; replace HB := bs HB hb; (try clear hb); (try clear ho0); obtain ⟨Ao26, co26, eo26⟩ := Kd.R_slice HO191.out; subst eo26; obtain ⟨Ao27, co27, eo27⟩ := Kd.R_slice HO194.out; subst eo27))
     repeat (go_quiet (first | (go_at_call 12; (with_reducible refine (paths_Way.calls kj3 _ _ _ _ _ _ _ ?side1 ?side2 A11.out (tt GT)).mono ?_); (case side1 => repeat (first | exact (Kd.C_below HR1.out HB.out) | (with_reducible refine Kd.C_alloc ?_ _) | (with_reducible refine Kd.C_drewN ?_ _) | (with_reducible refine Kd.C_drew ?_))); (case side2 => exact HC1.out); rintro e w24 ⟨v190, rfl, ho0, hb⟩; have HO191 := Aside0.mk (Kd.R_lower ho0 (below_size (bf HB))); replace HB := bs HB hb; (try clear hb); (try clear ho0)) | (go_at_call 13; (with_reducible refine (carrefourref14_Way.calls kj3 _ _ _ _ _ _ _ ?side1 ?side2 A12.out).mono ?_); (case side1 => repeat (first | exact (Kd.C_below HR1.out HB.out) | (with_reducible refine Kd.C_alloc ?_ _) | (with_reducible refine Kd.C_drewN ?_ _) | (with_reducible refine Kd.C_drew ?_))); (case side2 => exact HC1.out); rintro e w25 ⟨v193, rfl, ho0, hb⟩; have HO194 := Aside0.mk (Kd.R_lower (Kd.R_new' ho0 (rl HO191)) (below_size (bf HB))); replace HO191 := re_ HO191 (Kd.R_base ho0) hb; replace HB := bs HB hb; (try clear hb); (try clear ho0); obtain ⟨Ao26, co26, eo26⟩ := Kd.R_slice HO191.out; subst eo26; obtain ⟨Ao27, co27, eo27⟩ := Kd.R_slice HO194.out; subst eo27)); try go_wp2_with (first | (go_at_call 12; (with_reducible refine (paths_Way.calls kj3 _ _ _ _ _ _ _ ?side1 ?side2 A11.out (tt GT)).mono ?_); (case side1 => repeat (first | exact (Kd.C_below HR1.out HB.out) | (with_reducible refine Kd.C_alloc ?_ _) | (with_reducible refine Kd.C_drewN ?_ _) | (with_reducible refine Kd.C_drew ?_))); (case side2 => exact HC1.out); rintro e w24 ⟨v190, rfl, ho0, hb⟩; have HO191 := Aside0.mk (Kd.R_lower ho0 (below_size (bf HB))); replace HB := bs HB hb; (try clear hb); (try clear ho0)) | (go_at_call 13; (with_reducible refine (carrefourref14_Way.calls kj3 _ _ _ _ _ _ _ ?side1 ?side2 A12.out).mono ?_); (case side1 => repeat (first | exact (Kd.C_below HR1.out HB.out) | (with_reducible refine Kd.C_alloc ?_ _) | (with_reducible refine Kd.C_drewN ?_ _) | (with_reducible refine Kd.C_drew ?_))); (case side2 => exact HC1.out); rintro e w25 ⟨v193, rfl, ho0, hb⟩; have HO194 := Aside0.mk (Kd.R_lower (Kd.R_new' ho0 (rl HO191)) (below_size (bf HB))); replace HO191 := re_ HO191 (Kd.R_base ho0) hb; replace HB := bs HB hb; (try clear hb); (try clear ho0); obtain ⟨Ao26, co26, eo26⟩ := Kd.R_slice HO191.out; subst eo26; obtain ⟨Ao27, co27, eo27⟩ := Kd.R_slice HO194.out; subst eo27)))
     go_ret
     exact ⟨ae, bf HB⟩

end Go.Proofs.YtcdddmaibchjjaaDoor.X
