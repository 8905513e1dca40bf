/- Walks: each '.calls' says that the Go function comes to what its Lean function tells. Conditions: as each theorem's head says. -/
import Derived.Test.YtcdddmaibchjjaaDoorXD
import Derived.Test.YtcdddmaibchjjaaDoorX0
import Derived.Test.YtcdddmaibchjjaaDoorHL
import Derived.Test.YtcdddmaibchjjaaDoorX1
import Derived.Test.YtcdddmaibchjjaaDoorX2
namespace Go.Proofs.YtcdddmaibchjjaaDoor.X
open Go.RowKit Go.Proofs.YtcdddmaibchjjaaDoorW.PrintWords Go.Proofs.YtcdddmaibchjjaaDoorW.PrintLast Go.Proofs.YtcdddmaibchjjaaDoorW.PrintMore
attribute [local go_sem] max2_int min2_int max_two min_two max_three min_three max_four min_four   -- for this text's walks alone
set_option linter.unusedVariables false
set_option maxHeartbeats 8000000
set_option maxRecDepth 100000
set_option linter.unusedSimpArgs false

/-! ### carrefourref14_Longest: function 9 -/
theorem carrefourref14_Longest.calls (k : Nat) (a0 : Int) (A1 : Option Addr) (c1 : Nat) (l1 : List (S34)) (r1 : List Int) (r2 : Int) (w : World) (hr1 : Kd.C k34 w A1 l1.length l1) (hc1 : l1.length ≤ c1) (h : carrefourref14_Longest.f k a0 l1 = some (r1, r2)) :
  Calls Tryd.prog 9 #[.int .i64 a0, .slice A1 l1.length c1] w fun e w' => ∃ v0_ : Value, e = .returned (.tuple #[v0_, .int .i64 r2]) ∧ Kd.R (Kd.int .i64) 2 w' w.heap.size (fun _ => True) v0_ r1 ∧ Below w.heap.size w w' := by
 have HR1 := Aside0.mk hr1
 have HC1 := Aside0.mk hc1
 clear hr1 hc1
 have HB := Aside0.mk (Below.refl w.heap.size w)
 have H : ((carrefourref14_Right.f k a0 l1).bind fun t120 => (if t120 = true then (if 0 ≤ a0 then (if (a0 : Int).toNat ≤ 35184372088832 then (carrefourref14_Longest.l0 k a0 l1 (List.replicate (a0 : Int).toNat 0) 1) else (none)) else (none)) else (some (([] : List Int), 1)))) = some (r1, r2) := h
 clear h
 replace H := bi_ H; obtain ⟨t120, A3, H⟩ := H
 (try dsimp only at H)
 by_cases c4 : t120 = true
 ·subst c4
  have H1 : (if 0 ≤ a0 then (if (a0 : Int).toNat ≤ 35184372088832 then (carrefourref14_Longest.l0 k a0 l1 (List.replicate (a0 : Int).toNat 0) 1) else (none)) else (none)) = some (r1, r2) := by rw [if_pos rfl] at H; exact H
  clear H
  have H := H1
  clear H1
  by_cases c5 : 0 ≤ a0
  ·rw [if_pos c5] at H
   have c5b0 := eq_true c5
   have c5b1 : decide (0 ≤ a0) = true := decide_eq_true c5
   clear c5
   by_cases c6 : (a0 : Int).toNat ≤ 35184372088832
   ·rw [if_pos c6] at H
    have c6b0 := eq_true c6
    have c6b1 : decide ((a0 : Int).toNat ≤ 35184372088832) = true := decide_eq_true c6
    clear c6
    obtain ⟨y121, hy121⟩ : ∃ y_ : List Int, y_ = (List.replicate (a0 : Int).toNat 0) := ⟨_, rfl⟩
    replace H : (carrefourref14_Longest.l0 k a0 l1 y121 1) = some (r1, r2) := by first | (rw [hy121]; with_reducible exact H) | (have H2_ := (Option.bind_some _ _).symm.trans H; rw [hy121]; with_reducible exact H2_) | (have H2_ := (Option.bind_some _ _).symm.trans H; with_reducible exact H2_) | with_reducible exact H | (rw [hy121]; exact H) | exact H
    have Ny121 := Aside0.mk hy121
    clear hy121
    have H' := Aside0.mk H
    clear H
    go_enter Tryd.func9, Tryd.ntmps9
    go_wp2_with (first | ((with_reducible refine gc 16 rfl ?_); refine gm_ (some 12) rfl rfl Tryd.func16 (carrefourref14_Right.calls _ _ _ _ _ _ _ ?side1 ?side2 A3.out) ag ?_; (case side1 => repeat (first | exact HR1.out | (with_reducible refine Kd.C_alloc ?_ _) | (with_reducible refine Kd.C_drewN ?_ _) | (with_reducible refine Kd.C_drew ?_))); (case side2 => exact HC1.out); rintro w' ⟨nd, rfl⟩) | ((with_reducible refine gate_dst (N := 15) rfl ?_); refine Kd.R_make (Kd.int .i64) _ 2 rfl (N := 15) rfl 24 _ _ rfl a0 rfl rfl Tryd.underlying24 (.int .i64 0) 8 info2 rfl (by decide) (by omega) 0 (ok := fun _ => True) (okp := fun _ => True) rfl (fun _ hk => hk) trivial (od_) (Nat.le_trans (Nat.mul_le_mul_right _ (od_ : a0.toNat ≤ 35184372088832)) (by omega)) (Below.refl _ _) (Nat.le_refl _) ?_; intro v122 w7 ho8 hb hg_ hnew_; clear hg_ hnew_; (first | rw [← Ny121.out] at ho8 | (simp only [Int.reduceToNat] at ho8; rw [← Ny121.out] at ho8)); have HO123 := Aside0.mk (Kd.R_lower ho8 (below_size (bf HB))); replace HB := bs HB hb; clear hb ho8))
    go_loopg [7] k (fun kq v7 w' => ∃ (x6_1 : List Int) (x7_1 : Int), v7 = .int .i64 x7_1 ∧ Aside0 (carrefourref14_Longest.l0 kq a0 l1 x6_1 x7_1 = some (r1, r2)) ∧ Aside0 (kq ≤ k) ∧ Aside0 (Kd.R (Kd.int .i64) 2 w' w.heap.size (fun _ => True) v122 x6_1) ∧ Aside0 (Below w.heap.size w w'))
    case atStart => exact ⟨(y121), (1), (aq), H', ⟨Nat.le_refl _⟩, ⟨Rt_ HO123.out⟩, ⟨bf HB⟩⟩
    case round =>
     clear H'
     (try clear c1); (try clear p2); (try clear c4); (try clear c5); (try clear c5b0); (try clear c5b1); (try clear c6); (try clear c6b0); (try clear c6b1)
     obtain ⟨x6_1, x7_1, rfl, HA, HK1, HO_6, HB⟩ := hrel
     cases gk with
     | zero => exact absurd HA.out (by simp [carrefourref14_Longest.l0])
     | succ k1 =>
      have H := HA.out
      clear HA
      simp only [carrefourref14_Longest.l0] at H
      by_cases c9 : x7_1 < a0
      ·rw [if_pos c9] at H
       have c9b0 : decide (x7_1 < a0) = true := decide_eq_true c9
       clear c9
       by_cases c10 : 0 ≤ x7_1
       ·rw [if_pos c10] at H
        have c10b0 : decide (0 ≤ x7_1) = true := decide_eq_true c10
        clear c10
        by_cases c11 : x7_1 < (x6_1.length : Int)
        ·rw [if_pos c11] at H
         have c11b0 : decide (x7_1 < (x6_1.length : Int)) = true := decide_eq_true c11
         clear c11
         obtain ⟨y124, hy124⟩ : ∃ y_ : List Int, y_ = (x6_1.set (x7_1 : Int).toNat (-1)) := ⟨_, rfl⟩
         replace H : (carrefourref14_Longest.l0 k1 a0 l1 y124 (wrap64 (x7_1 + 1))) = some (r1, r2) := by first | (rw [hy124]; with_reducible exact H) | (have H2_ := (Option.bind_some _ _).symm.trans H; rw [hy124]; with_reducible exact H2_) | (have H2_ := (Option.bind_some _ _).symm.trans H; with_reducible exact H2_) | with_reducible exact H | (rw [hy124]; exact H) | exact H
         have Ny124 := Aside0.mk hy124
         clear hy124
         have H' := Aside0.mk H
         clear H
         have p12 : 0 ≤ (x7_1 : Int) := od_
         have q12 : (x7_1 : Int) < ((x6_1.length : Int) : Int) := od_
         obtain ⟨go12, co12, eo12, gb12, gl12, cl12, HG12⟩ := Kd.R_form HO_6.out (by omega)
         (first | cases eo12 | (injection eo12 with ea_ en_ ec_; (first | subst ea_ | (injection ea_ with ea_; subst ea_)); subst ec_; clear en_))
         have GB12 := Aside0.mk gb12
         have GG12 := Aside0.mk HG12
         clear gb12 gl12 HG12
         obtain ⟨hx12_0, hf12_0⟩ := Kd.R_celln 0 HO_6.out (x7_1 : Int) p12 q12
         replace p12 := eq_true p12
         replace q12 := eq_true q12
         have HP13 := Kd.R_putg HO_6.out (x7_1 : Int) (-1)
         go_wp2_with (first | ((with_reducible refine gate_store (t := 2) (p := 23) rfl ?_); refine store_event (t := 2) (p := 23) (v := ?vo_w14) (w1 := (wr.setCell ⟨go12, (x7_1 : Int).toNat, none⟩ (.int .i64 (-1)))) ?hg ?ho ?hn ?hr ?_; (case ho => rfl); (case hg => rfl); (case hn => rfl); (case hr => first | (go_simp; done) | (go_simp; rfl)); intro w14 hw; have hg : wr.grownBy w14 (some go12) := (by rw [hw]; exact HP13.2); have hp_ : Kd.R (Kd.int .i64) 2 w14 w.heap.size (fun _ => True) (.slice (some ⟨go12, 0, none⟩) x6_1.length co12) y124 := (by rw [hw, Ny124.out]; exact HP13.1); clear HP13; replace HO_6 := Aside0.mk (hp_); replace HB := Aside0.mk ((by rw [hw]; exact below_set (HB.out) GB12.out : Below w.heap.size w w14)); clear hg hw hp_))
         go_roundg k1
         case measure => have := HK1.out; omega
         case rel => exact ⟨(y124), (wrap64 (x7_1 + 1)), (aq), H', ⟨by have := HK1.out; omega⟩, ⟨Rt_ HO_6.out⟩, ⟨bf HB⟩⟩
        ·rw [if_neg c11] at H
         exact absurd H (by simp)
       ·rw [if_neg c10] at H
        exact absurd H (by simp)
      ·rw [if_neg c9] at H
       have c9b0 : decide (x7_1 < a0) = false := decide_eq_false c9
       clear c9
       have H' := Aside0.mk H
       clear H
       go_wp2
       go_loopg [6, 8, 9] k1 (fun kq v6 v8 v9 w' => ∃ (x6_2 : List Int) (x8_2 : Bool) (x9_2 : Int), v8 = .bool x8_2 ∧ v9 = .int .i64 x9_2 ∧ Aside0 (carrefourref14_Longest.l1 kq a0 l1 x6_2 x8_2 x9_2 = some (r1, r2)) ∧ Aside0 (kq ≤ k1) ∧ Aside0 (Kd.R (Kd.int .i64) 2 w' w.heap.size (fun _ => True) v6 x6_2) ∧ Aside0 (Below w.heap.size w w'))
       case atStart => exact ⟨(x6_1), (true), (0), (aq), (aq), H', ⟨Nat.le_refl _⟩, ⟨Rt_ HO_6.out⟩, ⟨bf HB⟩⟩
       case round =>
        clear H'
        (try clear c1); (try clear p1); (try clear q1); (try clear hx1); (try clear p2); (try clear c4); (try clear c5); (try clear c5b0); (try clear c5b1); (try clear c6); (try clear c6b0); (try clear c6b1); (try clear p6); (try clear c9); (try clear c9b0); (try clear c10); (try clear c10b0); (try clear c11); (try clear c11b0); (try clear p12); (try clear q12); (try clear hx12); (try clear hf12); (try clear hx12_0); (try clear p12); (try clear p2); (try clear q12)
        obtain ⟨x6_2, x8_2, x9_2, rfl, rfl, HA, HK2, HO_6, HB⟩ := hrel
        cases gk with
        | zero => exact absurd HA.out (by simp [carrefourref14_Longest.l1])
        | succ k2 =>
         have H := HA.out
         clear HA
         simp only [carrefourref14_Longest.l1] at H
         by_cases c15 : x9_2 ≤ a0
         ·rw [if_pos c15] at H
          have c15b0 : decide (x9_2 ≤ a0) = true := decide_eq_true c15
          clear c15
          by_cases c16 : x8_2 = true
          ·subst c16
           have H1 : ((carrefourref14_round.f k2 x6_2 l1).bind fun bt125 => (carrefourref14_Longest.l1 k2 a0 l1 bt125.1 bt125.2 (wrap64 (x9_2 + 1)))) = some (r1, r2) := by rw [if_pos rfl] at H; exact H
           clear H
           have H := H1
           clear H1
           replace H := bi_ H; obtain ⟨⟨t125, t126⟩, A17, H⟩ := H
           (try dsimp only at H)
           have H' := Aside0.mk H
           clear H
           obtain ⟨Ao18, co18, eo18⟩ := Kd.R_slice HO_6.out
           subst eo18
           go_wp2_with (first | ((with_reducible refine gc 17 rfl ?_); refine gl_ (some 35) rfl rfl Tryd.func17 ((carrefourref14_round.calls _ _ _ _ _ _ _ _ _ _ ?side1 ?side2 ?side3 ?side4 A17.out).mono ?_) ag; (case side1 => repeat (first | exact (Kd.R_reads' HO_6.out).2.2 | (with_reducible refine Kd.C_alloc ?_ _) | (with_reducible refine Kd.C_drewN ?_ _) | (with_reducible refine Kd.C_drew ?_))); (case side2 => exact (Kd.R_reads' HO_6.out).2.1); (case side3 => repeat (first | exact (Kd.C_below HR1.out HB.out) | (with_reducible refine Kd.C_alloc ?_ _) | (with_reducible refine Kd.C_drewN ?_ _) | (with_reducible refine Kd.C_drew ?_))); (case side4 => exact HC1.out); rintro e w19 ⟨v127, rfl, ho0, hb⟩; refine ⟨_, rfl, ?_⟩; have HO128 := Aside0.mk (Kd.R_lower (Kd.R_new' ho0 (Kd.R_lt (Rt_ HO_6.out))) (below_size (bf HB))); replace HO_6 := Aside0.mk (Kd.R_elder' (Rt_ HO_6.out) (Kd.R_base ho0) hb); replace HB := bs HB hb; (try clear hb); (try clear ho0)))
           go_roundg k2
           case measure => have := HK1.out; have := HK2.out; omega
           case rel => exact ⟨(t125), (t126), (wrap64 (x9_2 + 1)), (aq), (aq), H', ⟨by have := HK1.out; have := HK2.out; omega⟩, ⟨Rt_ (Kd.R_mono HO128.out (fun _ hk => trivial))⟩, ⟨bf HB⟩⟩
          ·replace c16 := Bool.eq_false_iff.mpr c16
           subst c16
           have H1 : (some (x6_2, 0)) = some (r1, r2) := by rw [if_neg (show ¬ (false = true) by decide)] at H; exact H
           clear H
           have H := H1
           clear H1
           simp only [Option.some.injEq, Prod.mk.injEq] at H
           obtain ⟨rfl, rfl⟩ := H
           go_wp2
           go_ret2
           exact ⟨_, ae, by (with_reducible repeat (first | apply Kd.R_alloc | apply Kd.R_drewN | apply Kd.R_drew)); exact HO_6.out, bf HB⟩
         ·rw [if_neg c15] at H
          have c15b0 : decide (x9_2 ≤ a0) = false := decide_eq_false c15
          clear c15
          by_cases c20 : x8_2 = true
          ·subst c20
           have H1 : (some (([] : List Int), 140)) = some (r1, r2) := by rw [if_pos rfl] at H; exact H
           clear H
           have H := H1
           clear H1
           simp only [Option.some.injEq, Prod.mk.injEq] at H
           obtain ⟨rfl, rfl⟩ := H
           go_wp2
           go_ret2
           exact ⟨_, ae, by first | exact Kd.R_nil _ _ _ _ _ | exact Kd.N_nil _ _ _ _ _ | exact Kd.V_nil _ _ _ _ _ | exact Kd.Q_nil _ _ _ _ _ | exact Kd.S_nil _ _ _ _ _, bf HB⟩
          ·replace c20 := Bool.eq_false_iff.mpr c20
           subst c20
           have H1 : (some (x6_2, 0)) = some (r1, r2) := by rw [if_neg (show ¬ (false = true) by decide)] at H; exact H
           clear H
           have H := H1
           clear H1
           simp only [Option.some.injEq, Prod.mk.injEq] at H
           obtain ⟨rfl, rfl⟩ := H
           go_wp2
           go_ret2
           exact ⟨_, ae, by (with_reducible repeat (first | apply Kd.R_alloc | apply Kd.R_drewN | apply Kd.R_drew)); exact HO_6.out, bf HB⟩
   ·rw [if_neg c6] at H
    exact absurd H (by simp)
  ·rw [if_neg c5] at H
   exact absurd H (by simp)
 ·replace c4 := Bool.eq_false_iff.mpr c4
  subst c4
  have H1 : (some (([] : List Int), 1)) = some (r1, r2) := by rw [if_neg (show ¬ (false = true) by decide)] at H; exact H
  clear H
  have H := H1
  clear H1
  simp only [Option.some.injEq, Prod.mk.injEq] at H
  obtain ⟨rfl, rfl⟩ := H
  go_enter Tryd.func9, Tryd.ntmps9
  go_wp2_with (first | ((with_reducible refine gc 16 rfl ?_); refine gm_ (some 12) rfl rfl Tryd.func16 (carrefourref14_Right.calls _ _ _ _ _ _ _ ?side1 ?side2 A3.out) ag ?_; (case side1 => repeat (first | exact HR1.out | (with_reducible refine Kd.C_alloc ?_ _) | (with_reducible refine Kd.C_drewN ?_ _) | (with_reducible refine Kd.C_drew ?_))); (case side2 => exact HC1.out); rintro w' ⟨nd, rfl⟩))
  go_ret2
  exact ⟨_, ae, by first | exact Kd.R_nil _ _ _ _ _ | exact Kd.N_nil _ _ _ _ _ | exact Kd.V_nil _ _ _ _ _ | exact Kd.Q_nil _ _ _ _ _ | exact Kd.S_nil _ _ _ _ _, bf HB⟩


/-! ### paths_Way: function 12 -/
/-! ### carrefourlaw14_awake: function 10 -/
theorem carrefourlaw14_awake.calls (k : Nat)  (r : Bool) (w : World) (h : carrefourlaw14_awake.f k  = some r) (hT : TabOK w) :
  Calls Tryd.prog 10 #[] w fun e w' => e = .returned (.bool r) ∧ Below w.heap.size w w' := by
 have GT := Aside0.mk hT
 clear hT
 have hu34 := Tryd.underlying34
 have HB := Aside0.mk (Below.refl w.heap.size w)
 have H : ((some (([(⟨0, 1, 3⟩ : S34), (⟨1, 2, 4⟩ : S34), (⟨0, 2, 5⟩ : S34)] : List (S34)) : List (S34))).bind fun y129 => ((paths_Longest.f k 3 y129).bind fun bt132 => (if y129.length < 5864062014805 then ((paths_Longest.f k 3 (y129 ++ [(⟨2, 1, 0⟩ : S34)])).bind fun bt139 => ((paths_Way.f k 3 y129 2).bind fun t143 => (if bt132.2 = 0 then (if (bt132.1.length : Int) = 3 then (if 1 < (bt132.1.length : Int) then (if (rd bt132.1 1) = 3 then (if 2 < (bt132.1.length : Int) then (if (rd bt132.1 2) = 7 then (if bt139.2 = 140 then (if (t143.length : Int) = 3 then (if 1 < (t143.length : Int) then (some ((rd t143 1) == 1)) else (none)) else (some false)) else (some false)) else (some false)) else (none)) else (some false)) else (none)) else (some false)) else (some false)))) else (none)))) = some r := h
 clear h
 obtain ⟨y129, hy129⟩ : ∃ y_ : List (S34), y_ = (([(⟨0, 1, 3⟩ : S34), (⟨1, 2, 4⟩ : S34), (⟨0, 2, 5⟩ : S34)] : List (S34))) := ⟨_, rfl⟩
 replace H : ((paths_Longest.f k 3 y129).bind fun bt132 => (if y129.length < 5864062014805 then ((paths_Longest.f k 3 (y129 ++ [(⟨2, 1, 0⟩ : S34)])).bind fun bt139 => ((paths_Way.f k 3 y129 2).bind fun t143 => (if bt132.2 = 0 then (if (bt132.1.length : Int) = 3 then (if 1 < (bt132.1.length : Int) then (if (rd bt132.1 1) = 3 then (if 2 < (bt132.1.length : Int) then (if (rd bt132.1 2) = 7 then (if bt139.2 = 140 then (if (t143.length : Int) = 3 then (if 1 < (t143.length : Int) then (some ((rd t143 1) == 1)) else (none)) else (some false)) else (some false)) else (some false)) else (none)) else (some false)) else (none)) else (some false)) else (some false)))) else (none))) = some r := by first | (rw [hy129]; with_reducible exact H) | (have H2_ := (Option.bind_some _ _).symm.trans H; rw [hy129]; with_reducible exact H2_) | (have H2_ := (Option.bind_some _ _).symm.trans H; with_reducible exact H2_) | with_reducible exact H | (rw [hy129]; exact H) | exact H
 have Ny129 := Aside0.mk hy129
 clear hy129
 replace H := bi_ H; obtain ⟨⟨t132, t133⟩, A1, H⟩ := H
 (try dsimp only at H)
 by_cases c2 : y129.length < 5864062014805
 ·rw [if_pos c2] at H
  have LMc2 := Aside0.mk c2
  clear c2
  obtain ⟨y136, hy136⟩ : ∃ y_ : List (S34), y_ = (y129 ++ [(⟨2, 1, 0⟩ : S34)]) := ⟨_, rfl⟩
  replace H : ((paths_Longest.f k 3 y136).bind fun bt139 => ((paths_Way.f k 3 y129 2).bind fun t143 => (if t133 = 0 then (if (t132.length : Int) = 3 then (if 1 < (t132.length : Int) then (if (rd t132 1) = 3 then (if 2 < (t132.length : Int) then (if (rd t132 2) = 7 then (if bt139.2 = 140 then (if (t143.length : Int) = 3 then (if 1 < (t143.length : Int) then (some ((rd t143 1) == 1)) else (none)) else (some false)) else (some false)) else (some false)) else (none)) else (some false)) else (none)) else (some false)) else (some false)))) = some r := by first | (rw [hy136]; with_reducible exact H) | (have H2_ := (Option.bind_some _ _).symm.trans H; rw [hy136]; with_reducible exact H2_) | (have H2_ := (Option.bind_some _ _).symm.trans H; with_reducible exact H2_) | with_reducible exact H | (rw [hy136]; exact H) | exact H
  have Ny136 := Aside0.mk hy136
  clear hy136
  replace H := bi_ H; obtain ⟨⟨t139, t140⟩, A3, H⟩ := H
  (try dsimp only at H)
  replace H := bi_ H; obtain ⟨t143, A4, H⟩ := H
  (try dsimp only at H)
  by_cases c5 : t133 = 0
  ·rw [if_pos c5] at H
   have c5b0 : (t133 == 0) = true := beq_iff_eq.mpr c5
   have c5b1 : (t133 != 0) = false := bne_eq_false_iff_eq.mpr c5
   clear c5
   by_cases c6 : (t132.length : Int) = 3
   ·rw [if_pos c6] at H
    have c6b0 : ((t132.length : Int) == 3) = true := beq_iff_eq.mpr c6
    have c6b1 : ((t132.length : Int) != 3) = false := bne_eq_false_iff_eq.mpr c6
    clear c6
    by_cases c7 : 1 < (t132.length : Int)
    ·rw [if_pos c7] at H
     have c7b0 : decide (1 < (t132.length : Int)) = true := decide_eq_true c7
     have c7b1 : decide (1 < t132.length) = true := decide_eq_true (by omega)
     clear c7
     by_cases c8 : (rd t132 1) = 3
     ·rw [if_pos c8] at H
      have c8b0 : ((rd t132 1) == 3) = true := beq_iff_eq.mpr c8
      have c8b1 : ((rd t132 1) != 3) = false := bne_eq_false_iff_eq.mpr c8
      clear c8
      by_cases c9 : 2 < (t132.length : Int)
      ·rw [if_pos c9] at H
       have c9b0 : decide (2 < (t132.length : Int)) = true := decide_eq_true c9
       have c9b1 : decide (2 < t132.length) = true := decide_eq_true (by omega)
       clear c9
       by_cases c10 : (rd t132 2) = 7
       ·rw [if_pos c10] at H
        have c10b0 : ((rd t132 2) == 7) = true := beq_iff_eq.mpr c10
        have c10b1 : ((rd t132 2) != 7) = false := bne_eq_false_iff_eq.mpr c10
        clear c10
        by_cases c11 : t140 = 140
        ·rw [if_pos c11] at H
         have c11b0 : (t140 == 140) = true := beq_iff_eq.mpr c11
         have c11b1 : (t140 != 140) = false := bne_eq_false_iff_eq.mpr c11
         clear c11
         by_cases c12 : (t143.length : Int) = 3
         ·rw [if_pos c12] at H
          have c12b0 : ((t143.length : Int) == 3) = true := beq_iff_eq.mpr c12
          have c12b1 : ((t143.length : Int) != 3) = false := bne_eq_false_iff_eq.mpr c12
          clear c12
          by_cases c13 : 1 < (t143.length : Int)
          ·rw [if_pos c13] at H
           have c13b0 : decide (1 < (t143.length : Int)) = true := decide_eq_true c13
           have c13b1 : decide (1 < t143.length) = true := decide_eq_true (by omega)
           clear c13
           obtain rfl := Option.some.inj H
           go_enter Tryd.func10, Tryd.ntmps10
           go_wp2_with (first | ((with_reducible refine gate_dst (N := 10) rfl ?_); (try (refine gate_guard (by rfl) ?_; dsimp only)); refine R_lit_full k34 _ 34 ?hg (N := 10) ?hd (xs := ([(⟨0, 1, 3⟩ : S34), (⟨1, 2, 4⟩ : S34), (⟨0, 2, 5⟩ : S34)] : List (S34))) (inner := [.int .i64 0, .int .i64 1, .int .i64 3, .int .i64 1, .int .i64 2, .int .i64 4, .int .i64 0, .int .i64 2, .int .i64 5]) (ok := fun _ => True) (okp := fun _ => True) ?hr ?hp (fun _ hk => hk) trivial (Below.refl _ _) (Nat.le_refl _) (by simp) ?_; (case hd => rfl); (case hg => rfl); (case hr => first | (go_simp; done) | (go_simp; rfl)); (case hp => exact (Reps.c3 (show Kd.M k34 _ _ _ (⟨0, 1, 3⟩ : S34) [.int .i64 0, .int .i64 1, .int .i64 3] from (k34_mkM _ _ _ (⟨0, 1, 3⟩ : S34) )) (Reps.c3 (show Kd.M k34 _ _ _ (⟨1, 2, 4⟩ : S34) [.int .i64 1, .int .i64 2, .int .i64 4] from (k34_mkM _ _ _ (⟨1, 2, 4⟩ : S34) )) (Reps.c3 (show Kd.M k34 _ _ _ (⟨0, 2, 5⟩ : S34) [.int .i64 0, .int .i64 2, .int .i64 5] from (k34_mkM _ _ _ (⟨0, 2, 5⟩ : S34) )) (Reps.none _ _))))); intro v130 w14 ho15 hb hg_ hnew_; clear hg_; rw [← Ny129.out] at ho15 hnew_; obtain ⟨g72, rfl⟩ := hnew_; have HO131 := Aside0.mk (Kd.R_lower ho15 (below_size (bf HB))); replace HB := bs HB hb; clear hb ho15; skip) | ((with_reducible refine gc 8 rfl ?_); refine gl_ (some 13) rfl rfl Tryd.func8 ((paths_Longest.calls _ _ _ _ _ _ _ _ ?side1 ?side2 A1.out (tt GT)).mono ?_) ag; (case side1 => exact rc HO131); (case side2 => exact (Kd.R_reads' HO131.out).2.1); rintro e w17 ⟨v134, rfl, ho0, hb⟩; refine ⟨_, rfl, ?_⟩; have HO135 := Aside0.mk (Kd.R_lower ho0 (below_size (bf HB))); replace HO131 := rb HO131 hb; replace HB := bs HB hb; (try clear hb); (try clear ho0)) | ((with_reducible refine gate_builtin (b := .append) (xs := #[.tmp 17, .tmp 19]) rfl ?_); (try (refine gate_guard (by rfl) ?_; dsimp only)); at_builtin; refine R_append_full k34 (w0 := w) w.heap.size rfl (.tmp 17) (.tmp 19) 22 34 (.agg #[(.int .i64 0), (.int .i64 0), (.int .i64 0)]) 24 rfl Tryd.underlying22 info34 rfl (by decide) (by omega) g72 y129 (⟨2, 1, 0⟩ : S34) [.int .i64 2, .int .i64 1, .int .i64 0] (fun _ => True) (fun _ => False) rfl rfl ?aP (fun _ hk => hk.elim) ?aF ?aO ?aB ?aS ?aL ?_; (case aP => exact k34_mkM _ _ _ (⟨2, 1, 0⟩ : S34)); (case aB => exact (bf HB)); (case aF => exact (fun _ _ => trivial)); (case aO => exact (Rt_ HO131.out)); (case aS => exact (below_size (bf HB))); (case aL => have := LMc2.out; omega); intro v137 w18 ho hold hb hg hat; rw [← Ny136.out] at ho; have n0_ := Aside0.mk (Kd.R_grown (Rt_ HO135.out) hg (fun k _ => by simp)); have n1_ := Aside0.mk (hb); have n2_ := Aside0.mk (ho); clear HO135; clear HB; clear HO131; have HO131 := Aside0.mk hold; clear hold; have HO135 := n0_; have HB := n1_; have HO138 := n2_; clear n0_ n1_ n2_; clear ho hb hg hat; obtain ⟨Ao19, co19, eo19⟩ := Kd.R_slice HO138.out; subst eo19) | ((with_reducible refine gc 8 rfl ?_); refine gl_ (some 21) rfl rfl Tryd.func8 ((paths_Longest.calls _ _ _ _ _ _ _ _ ?side1 ?side2 A3.out (tt GT)).mono ?_) ag; (case side1 => exact rc HO138); (case side2 => exact (Kd.R_reads' HO138.out).2.1); rintro e w20 ⟨v141, rfl, ho0, hb⟩; refine ⟨_, rfl, ?_⟩; have HO142 := Aside0.mk (Kd.R_lower (Kd.R_new' ho0 (rl HO135)) (below_size (bf HB))); replace HO135 := re_ HO135 (Kd.R_base ho0) hb; replace HO131 := rb HO131 hb; replace HO138 := rb HO138 hb; replace HB := bs HB hb; (try clear hb); (try clear ho0)) | ((with_reducible refine gc 12 rfl ?_); refine gl_ (some 25) rfl rfl Tryd.func12 ((paths_Way.calls _ _ _ _ _ _ _ _ ?side1 ?side2 A4.out (tt GT)).mono ?_) ag; (case side1 => exact rc HO131); (case side2 => exact (Kd.R_reads' HO131.out).2.1); rintro e w21 ⟨v144, rfl, ho0, hb⟩; refine ⟨_, rfl, ?_⟩; have HO145 := Aside0.mk (Kd.R_lower ho0 (below_size (bf HB))); replace HO135 := rb HO135 hb; replace HO138 := rb HO138 hb; replace HO142 := rb HO142 hb; replace HB := bs HB hb; (try clear hb); (try clear ho0); obtain ⟨Ao22, co22, eo22⟩ := Kd.R_slice HO135.out; subst eo22; have p146 : 0 ≤ (1 : Int) := (by omega); have q146 : 1 < (t132.length : Int) := od_; obtain ⟨ad146, e146, hx146_0⟩ := Kd.at_int (Kd.R_reads' HO135.out).2.2 1 p146 q146; cases e146; (try simp only [show (1 : Int).toNat = 1 from rfl, Nat.reduceMul, Nat.reduceEqDiff, Go.Addr.add, ↓reduceIte] at hx146_0); have qi146 : (1 < t132.length) = True := eq_true (by omega); (try rw [show ((1 : Int)).toNat = 1 from rfl] at hx146_0); replace p146 := eq_true p146; replace q146 := eq_true q146; have p147 : 0 ≤ (2 : Int) := (by omega); have q147 : 2 < (t132.length : Int) := od_; obtain ⟨ad147, e147, hx147_0⟩ := Kd.at_int (Kd.R_reads' HO135.out).2.2 2 p147 q147; obtain rfl : ad146 = ad147 := (by injection e147); (try simp only [show (2 : Int).toNat = 2 from rfl, Nat.reduceMul, Nat.reduceEqDiff, Go.Addr.add, ↓reduceIte] at hx147_0); have qi147 : (2 < t132.length) = True := eq_true (by omega); (try rw [show ((2 : Int)).toNat = 2 from rfl] at hx147_0); replace p147 := eq_true p147; replace q147 := eq_true q147; obtain ⟨Ao23, co23, eo23⟩ := Kd.R_slice HO145.out; subst eo23; have p148 : 0 ≤ (1 : Int) := (by omega); have q148 : 1 < (t143.length : Int) := od_; obtain ⟨ad148, e148, hx148_0⟩ := Kd.at_int (Kd.R_reads' HO145.out).2.2 1 p148 q148; cases e148; (try simp only [show (1 : Int).toNat = 1 from rfl, Nat.reduceMul, Nat.reduceEqDiff, Go.Addr.add, ↓reduceIte] at hx148_0); have qi148 : (1 < t143.length) = True := eq_true (by omega); (try rw [show ((1 : Int)).toNat = 1 from rfl] at hx148_0); replace p148 := eq_true p148; replace q148 := eq_true q148))
           go_ret
           exact ⟨ae, bf HB⟩
          ·rw [if_neg c13] at H
           exact absurd H (by simp)
         ·rw [if_neg c12] at H
          have c12b0 : ((t143.length : Int) == 3) = false := beq_eq_false_iff_ne.mpr c12
          have c12b1 : ((t143.length : Int) != 3) = true := bne_iff_ne.mpr c12
          obtain rfl := Option.some.inj H
          go_enter Tryd.func10, Tryd.ntmps10
          go_wp2_with (first | ((with_reducible refine gate_dst (N := 10) rfl ?_); (try (refine gate_guard (by rfl) ?_; dsimp only)); refine R_lit_full k34 _ 34 ?hg (N := 10) ?hd (xs := ([(⟨0, 1, 3⟩ : S34), (⟨1, 2, 4⟩ : S34), (⟨0, 2, 5⟩ : S34)] : List (S34))) (inner := [.int .i64 0, .int .i64 1, .int .i64 3, .int .i64 1, .int .i64 2, .int .i64 4, .int .i64 0, .int .i64 2, .int .i64 5]) (ok := fun _ => True) (okp := fun _ => True) ?hr ?hp (fun _ hk => hk) trivial (Below.refl _ _) (Nat.le_refl _) (by simp) ?_; (case hd => rfl); (case hg => rfl); (case hr => first | (go_simp; done) | (go_simp; rfl)); (case hp => exact (Reps.c3 (show Kd.M k34 _ _ _ (⟨0, 1, 3⟩ : S34) [.int .i64 0, .int .i64 1, .int .i64 3] from (k34_mkM _ _ _ (⟨0, 1, 3⟩ : S34) )) (Reps.c3 (show Kd.M k34 _ _ _ (⟨1, 2, 4⟩ : S34) [.int .i64 1, .int .i64 2, .int .i64 4] from (k34_mkM _ _ _ (⟨1, 2, 4⟩ : S34) )) (Reps.c3 (show Kd.M k34 _ _ _ (⟨0, 2, 5⟩ : S34) [.int .i64 0, .int .i64 2, .int .i64 5] from (k34_mkM _ _ _ (⟨0, 2, 5⟩ : S34) )) (Reps.none _ _))))); intro v130 w24 ho25 hb hg_ hnew_; clear hg_; rw [← Ny129.out] at ho25 hnew_; obtain ⟨g72, rfl⟩ := hnew_; have HO131 := Aside0.mk (Kd.R_lower ho25 (below_size (bf HB))); replace HB := bs HB hb; clear hb ho25; skip) | ((with_reducible refine gc 8 rfl ?_); refine gl_ (some 13) rfl rfl Tryd.func8 ((paths_Longest.calls _ _ _ _ _ _ _ _ ?side1 ?side2 A1.out (tt GT)).mono ?_) ag; (case side1 => exact rc HO131); (case side2 => exact (Kd.R_reads' HO131.out).2.1); rintro e w27 ⟨v134, rfl, ho0, hb⟩; refine ⟨_, rfl, ?_⟩; have HO135 := Aside0.mk (Kd.R_lower ho0 (below_size (bf HB))); replace HO131 := rb HO131 hb; replace HB := bs HB hb; (try clear hb); (try clear ho0)) | ((with_reducible refine gate_builtin (b := .append) (xs := #[.tmp 17, .tmp 19]) rfl ?_); (try (refine gate_guard (by rfl) ?_; dsimp only)); at_builtin; refine R_append_full k34 (w0 := w) w.heap.size rfl (.tmp 17) (.tmp 19) 22 34 (.agg #[(.int .i64 0), (.int .i64 0), (.int .i64 0)]) 24 rfl Tryd.underlying22 info34 rfl (by decide) (by omega) g72 y129 (⟨2, 1, 0⟩ : S34) [.int .i64 2, .int .i64 1, .int .i64 0] (fun _ => True) (fun _ => False) rfl rfl ?aP (fun _ hk => hk.elim) ?aF ?aO ?aB ?aS ?aL ?_; (case aP => exact k34_mkM _ _ _ (⟨2, 1, 0⟩ : S34)); (case aB => exact (bf HB)); (case aF => exact (fun _ _ => trivial)); (case aO => exact (Rt_ HO131.out)); (case aS => exact (below_size (bf HB))); (case aL => have := LMc2.out; omega); intro v137 w28 ho hold hb hg hat; rw [← Ny136.out] at ho; have n0_ := Aside0.mk (Kd.R_grown (Rt_ HO135.out) hg (fun k _ => by simp)); have n1_ := Aside0.mk (hb); have n2_ := Aside0.mk (ho); clear HO135; clear HB; clear HO131; have HO131 := Aside0.mk hold; clear hold; have HO135 := n0_; have HB := n1_; have HO138 := n2_; clear n0_ n1_ n2_; clear ho hb hg hat; obtain ⟨Ao29, co29, eo29⟩ := Kd.R_slice HO138.out; subst eo29) | ((with_reducible refine gc 8 rfl ?_); refine gl_ (some 21) rfl rfl Tryd.func8 ((paths_Longest.calls _ _ _ _ _ _ _ _ ?side1 ?side2 A3.out (tt GT)).mono ?_) ag; (case side1 => exact rc HO138); (case side2 => exact (Kd.R_reads' HO138.out).2.1); rintro e w30 ⟨v141, rfl, ho0, hb⟩; refine ⟨_, rfl, ?_⟩; have HO142 := Aside0.mk (Kd.R_lower (Kd.R_new' ho0 (rl HO135)) (below_size (bf HB))); replace HO135 := re_ HO135 (Kd.R_base ho0) hb; replace HO131 := rb HO131 hb; replace HO138 := rb HO138 hb; replace HB := bs HB hb; (try clear hb); (try clear ho0)) | ((with_reducible refine gc 12 rfl ?_); refine gl_ (some 25) rfl rfl Tryd.func12 ((paths_Way.calls _ _ _ _ _ _ _ _ ?side1 ?side2 A4.out (tt GT)).mono ?_) ag; (case side1 => exact rc HO131); (case side2 => exact (Kd.R_reads' HO131.out).2.1); rintro e w31 ⟨v144, rfl, ho0, hb⟩; refine ⟨_, rfl, ?_⟩; have HO145 := Aside0.mk (Kd.R_lower ho0 (below_size (bf HB))); replace HO135 := rb HO135 hb; replace HO138 := rb HO138 hb; replace HO142 := rb HO142 hb; replace HB := bs HB hb; (try clear hb); (try clear ho0); obtain ⟨Ao32, co32, eo32⟩ := Kd.R_slice HO135.out; subst eo32; have p146 : 0 ≤ (1 : Int) := (by omega); have q146 : 1 < (t132.length : Int) := od_; obtain ⟨ad146, e146, hx146_0⟩ := Kd.at_int (Kd.R_reads' HO135.out).2.2 1 p146 q146; cases e146; (try simp only [show (1 : Int).toNat = 1 from rfl, Nat.reduceMul, Nat.reduceEqDiff, Go.Addr.add, ↓reduceIte] at hx146_0); have qi146 : (1 < t132.length) = True := eq_true (by omega); (try rw [show ((1 : Int)).toNat = 1 from rfl] at hx146_0); replace p146 := eq_true p146; replace q146 := eq_true q146; have p147 : 0 ≤ (2 : Int) := (by omega); have q147 : 2 < (t132.length : Int) := od_; obtain ⟨ad147, e147, hx147_0⟩ := Kd.at_int (Kd.R_reads' HO135.out).2.2 2 p147 q147; obtain rfl : ad146 = ad147 := (by injection e147); (try simp only [show (2 : Int).toNat = 2 from rfl, Nat.reduceMul, Nat.reduceEqDiff, Go.Addr.add, ↓reduceIte] at hx147_0); have qi147 : (2 < t132.length) = True := eq_true (by omega); (try rw [show ((2 : Int)).toNat = 2 from rfl] at hx147_0); replace p147 := eq_true p147; replace q147 := eq_true q147; obtain ⟨Ao33, co33, eo33⟩ := Kd.R_slice HO145.out; subst eo33))
          go_ret
          exact ⟨ae, bf HB⟩
        ·rw [if_neg c11] at H
         have c11b0 : (t140 == 140) = false := beq_eq_false_iff_ne.mpr c11
         have c11b1 : (t140 != 140) = true := bne_iff_ne.mpr c11
         obtain rfl := Option.some.inj H
         go_enter Tryd.func10, Tryd.ntmps10
         go_wp2_with (first | ((with_reducible refine gate_dst (N := 10) rfl ?_); (try (refine gate_guard (by rfl) ?_; dsimp only)); refine R_lit_full k34 _ 34 ?hg (N := 10) ?hd (xs := ([(⟨0, 1, 3⟩ : S34), (⟨1, 2, 4⟩ : S34), (⟨0, 2, 5⟩ : S34)] : List (S34))) (inner := [.int .i64 0, .int .i64 1, .int .i64 3, .int .i64 1, .int .i64 2, .int .i64 4, .int .i64 0, .int .i64 2, .int .i64 5]) (ok := fun _ => True) (okp := fun _ => True) ?hr ?hp (fun _ hk => hk) trivial (Below.refl _ _) (Nat.le_refl _) (by simp) ?_; (case hd => rfl); (case hg => rfl); (case hr => first | (go_simp; done) | (go_simp; rfl)); (case hp => exact (Reps.c3 (show Kd.M k34 _ _ _ (⟨0, 1, 3⟩ : S34) [.int .i64 0, .int .i64 1, .int .i64 3] from (k34_mkM _ _ _ (⟨0, 1, 3⟩ : S34) )) (Reps.c3 (show Kd.M k34 _ _ _ (⟨1, 2, 4⟩ : S34) [.int .i64 1, .int .i64 2, .int .i64 4] from (k34_mkM _ _ _ (⟨1, 2, 4⟩ : S34) )) (Reps.c3 (show Kd.M k34 _ _ _ (⟨0, 2, 5⟩ : S34) [.int .i64 0, .int .i64 2, .int .i64 5] from (k34_mkM _ _ _ (⟨0, 2, 5⟩ : S34) )) (Reps.none _ _))))); intro v130 w34 ho35 hb hg_ hnew_; clear hg_; rw [← Ny129.out] at ho35 hnew_; obtain ⟨g72, rfl⟩ := hnew_; have HO131 := Aside0.mk (Kd.R_lower ho35 (below_size (bf HB))); replace HB := bs HB hb; clear hb ho35; skip) | ((with_reducible refine gc 8 rfl ?_); refine gl_ (some 13) rfl rfl Tryd.func8 ((paths_Longest.calls _ _ _ _ _ _ _ _ ?side1 ?side2 A1.out (tt GT)).mono ?_) ag; (case side1 => exact rc HO131); (case side2 => exact (Kd.R_reads' HO131.out).2.1); rintro e w37 ⟨v134, rfl, ho0, hb⟩; refine ⟨_, rfl, ?_⟩; have HO135 := Aside0.mk (Kd.R_lower ho0 (below_size (bf HB))); replace HO131 := rb HO131 hb; replace HB := bs HB hb; (try clear hb); (try clear ho0)) | ((with_reducible refine gate_builtin (b := .append) (xs := #[.tmp 17, .tmp 19]) rfl ?_); (try (refine gate_guard (by rfl) ?_; dsimp only)); at_builtin; refine R_append_full k34 (w0 := w) w.heap.size rfl (.tmp 17) (.tmp 19) 22 34 (.agg #[(.int .i64 0), (.int .i64 0), (.int .i64 0)]) 24 rfl Tryd.underlying22 info34 rfl (by decide) (by omega) g72 y129 (⟨2, 1, 0⟩ : S34) [.int .i64 2, .int .i64 1, .int .i64 0] (fun _ => True) (fun _ => False) rfl rfl ?aP (fun _ hk => hk.elim) ?aF ?aO ?aB ?aS ?aL ?_; (case aP => exact k34_mkM _ _ _ (⟨2, 1, 0⟩ : S34)); (case aB => exact (bf HB)); (case aF => exact (fun _ _ => trivial)); (case aO => exact (Rt_ HO131.out)); (case aS => exact (below_size (bf HB))); (case aL => have := LMc2.out; omega); intro v137 w38 ho hold hb hg hat; rw [← Ny136.out] at ho; have n0_ := Aside0.mk (Kd.R_grown (Rt_ HO135.out) hg (fun k _ => by simp)); have n1_ := Aside0.mk (hb); have n2_ := Aside0.mk (ho); clear HO135; clear HB; clear HO131; have HO131 := Aside0.mk hold; clear hold; have HO135 := n0_; have HB := n1_; have HO138 := n2_; clear n0_ n1_ n2_; clear ho hb hg hat; obtain ⟨Ao39, co39, eo39⟩ := Kd.R_slice HO138.out; subst eo39) | ((with_reducible refine gc 8 rfl ?_); refine gl_ (some 21) rfl rfl Tryd.func8 ((paths_Longest.calls _ _ _ _ _ _ _ _ ?side1 ?side2 A3.out (tt GT)).mono ?_) ag; (case side1 => exact rc HO138); (case side2 => exact (Kd.R_reads' HO138.out).2.1); rintro e w40 ⟨v141, rfl, ho0, hb⟩; refine ⟨_, rfl, ?_⟩; have HO142 := Aside0.mk (Kd.R_lower (Kd.R_new' ho0 (rl HO135)) (below_size (bf HB))); replace HO135 := re_ HO135 (Kd.R_base ho0) hb; replace HO131 := rb HO131 hb; replace HO138 := rb HO138 hb; replace HB := bs HB hb; (try clear hb); (try clear ho0)) | ((with_reducible refine gc 12 rfl ?_); refine gl_ (some 25) rfl rfl Tryd.func12 ((paths_Way.calls _ _ _ _ _ _ _ _ ?side1 ?side2 A4.out (tt GT)).mono ?_) ag; (case side1 => exact rc HO131); (case side2 => exact (Kd.R_reads' HO131.out).2.1); rintro e w41 ⟨v144, rfl, ho0, hb⟩; refine ⟨_, rfl, ?_⟩; have HO145 := Aside0.mk (Kd.R_lower ho0 (below_size (bf HB))); replace HO135 := rb HO135 hb; replace HO138 := rb HO138 hb; replace HO142 := rb HO142 hb; replace HB := bs HB hb; (try clear hb); (try clear ho0); obtain ⟨Ao42, co42, eo42⟩ := Kd.R_slice HO135.out; subst eo42; have p146 : 0 ≤ (1 : Int) := (by omega); have q146 : 1 < (t132.length : Int) := od_; obtain ⟨ad146, e146, hx146_0⟩ := Kd.at_int (Kd.R_reads' HO135.out).2.2 1 p146 q146; cases e146; (try simp only [show (1 : Int).toNat = 1 from rfl, Nat.reduceMul, Nat.reduceEqDiff, Go.Addr.add, ↓reduceIte] at hx146_0); have qi146 : (1 < t132.length) = True := eq_true (by omega); (try rw [show ((1 : Int)).toNat = 1 from rfl] at hx146_0); replace p146 := eq_true p146; replace q146 := eq_true q146; have p147 : 0 ≤ (2 : Int) := (by omega); have q147 : 2 < (t132.length : Int) := od_; obtain ⟨ad147, e147, hx147_0⟩ := Kd.at_int (Kd.R_reads' HO135.out).2.2 2 p147 q147; obtain rfl : ad146 = ad147 := (by injection e147); (try simp only [show (2 : Int).toNat = 2 from rfl, Nat.reduceMul, Nat.reduceEqDiff, Go.Addr.add, ↓reduceIte] at hx147_0); have qi147 : (2 < t132.length) = True := eq_true (by omega); (try rw [show ((2 : Int)).toNat = 2 from rfl] at hx147_0); replace p147 := eq_true p147; replace q147 := eq_true q147))
         go_ret
         exact ⟨ae, bf HB⟩
       ·rw [if_neg c10] at H
        have c10b0 : ((rd t132 2) == 7) = false := beq_eq_false_iff_ne.mpr c10
        have c10b1 : ((rd t132 2) != 7) = true := bne_iff_ne.mpr c10
        obtain rfl := Option.some.inj H
        go_enter Tryd.func10, Tryd.ntmps10
        go_wp2_with (first | ((with_reducible refine gate_dst (N := 10) rfl ?_); (try (refine gate_guard (by rfl) ?_; dsimp only)); refine R_lit_full k34 _ 34 ?hg (N := 10) ?hd (xs := ([(⟨0, 1, 3⟩ : S34), (⟨1, 2, 4⟩ : S34), (⟨0, 2, 5⟩ : S34)] : List (S34))) (inner := [.int .i64 0, .int .i64 1, .int .i64 3, .int .i64 1, .int .i64 2, .int .i64 4, .int .i64 0, .int .i64 2, .int .i64 5]) (ok := fun _ => True) (okp := fun _ => True) ?hr ?hp (fun _ hk => hk) trivial (Below.refl _ _) (Nat.le_refl _) (by simp) ?_; (case hd => rfl); (case hg => rfl); (case hr => first | (go_simp; done) | (go_simp; rfl)); (case hp => exact (Reps.c3 (show Kd.M k34 _ _ _ (⟨0, 1, 3⟩ : S34) [.int .i64 0, .int .i64 1, .int .i64 3] from (k34_mkM _ _ _ (⟨0, 1, 3⟩ : S34) )) (Reps.c3 (show Kd.M k34 _ _ _ (⟨1, 2, 4⟩ : S34) [.int .i64 1, .int .i64 2, .int .i64 4] from (k34_mkM _ _ _ (⟨1, 2, 4⟩ : S34) )) (Reps.c3 (show Kd.M k34 _ _ _ (⟨0, 2, 5⟩ : S34) [.int .i64 0, .int .i64 2, .int .i64 5] from (k34_mkM _ _ _ (⟨0, 2, 5⟩ : S34) )) (Reps.none _ _))))); intro v130 w43 ho44 hb hg_ hnew_; clear hg_; rw [← Ny129.out] at ho44 hnew_; obtain ⟨g72, rfl⟩ := hnew_; have HO131 := Aside0.mk (Kd.R_lower ho44 (below_size (bf HB))); replace HB := bs HB hb; clear hb ho44; skip) | ((with_reducible refine gc 8 rfl ?_); refine gl_ (some 13) rfl rfl Tryd.func8 ((paths_Longest.calls _ _ _ _ _ _ _ _ ?side1 ?side2 A1.out (tt GT)).mono ?_) ag; (case side1 => exact rc HO131); (case side2 => exact (Kd.R_reads' HO131.out).2.1); rintro e w46 ⟨v134, rfl, ho0, hb⟩; refine ⟨_, rfl, ?_⟩; have HO135 := Aside0.mk (Kd.R_lower ho0 (below_size (bf HB))); replace HO131 := rb HO131 hb; replace HB := bs HB hb; (try clear hb); (try clear ho0)) | ((with_reducible refine gate_builtin (b := .append) (xs := #[.tmp 17, .tmp 19]) rfl ?_); (try (refine gate_guard (by rfl) ?_; dsimp only)); at_builtin; refine R_append_full k34 (w0 := w) w.heap.size rfl (.tmp 17) (.tmp 19) 22 34 (.agg #[(.int .i64 0), (.int .i64 0), (.int .i64 0)]) 24 rfl Tryd.underlying22 info34 rfl (by decide) (by omega) g72 y129 (⟨2, 1, 0⟩ : S34) [.int .i64 2, .int .i64 1, .int .i64 0] (fun _ => True) (fun _ => False) rfl rfl ?aP (fun _ hk => hk.elim) ?aF ?aO ?aB ?aS ?aL ?_; (case aP => exact k34_mkM _ _ _ (⟨2, 1, 0⟩ : S34)); (case aB => exact (bf HB)); (case aF => exact (fun _ _ => trivial)); (case aO => exact (Rt_ HO131.out)); (case aS => exact (below_size (bf HB))); (case aL => have := LMc2.out; omega); intro v137 w47 ho hold hb hg hat; rw [← Ny136.out] at ho; have n0_ := Aside0.mk (Kd.R_grown (Rt_ HO135.out) hg (fun k _ => by simp)); have n1_ := Aside0.mk (hb); have n2_ := Aside0.mk (ho); clear HO135; clear HB; clear HO131; have HO131 := Aside0.mk hold; clear hold; have HO135 := n0_; have HB := n1_; have HO138 := n2_; clear n0_ n1_ n2_; clear ho hb hg hat; obtain ⟨Ao48, co48, eo48⟩ := Kd.R_slice HO138.out; subst eo48) | ((with_reducible refine gc 8 rfl ?_); refine gl_ (some 21) rfl rfl Tryd.func8 ((paths_Longest.calls _ _ _ _ _ _ _ _ ?side1 ?side2 A3.out (tt GT)).mono ?_) ag; (case side1 => exact rc HO138); (case side2 => exact (Kd.R_reads' HO138.out).2.1); rintro e w49 ⟨v141, rfl, ho0, hb⟩; refine ⟨_, rfl, ?_⟩; have HO142 := Aside0.mk (Kd.R_lower (Kd.R_new' ho0 (rl HO135)) (below_size (bf HB))); replace HO135 := re_ HO135 (Kd.R_base ho0) hb; replace HO131 := rb HO131 hb; replace HO138 := rb HO138 hb; replace HB := bs HB hb; (try clear hb); (try clear ho0)) | ((with_reducible refine gc 12 rfl ?_); refine gl_ (some 25) rfl rfl Tryd.func12 ((paths_Way.calls _ _ _ _ _ _ _ _ ?side1 ?side2 A4.out (tt GT)).mono ?_) ag; (case side1 => exact rc HO131); (case side2 => exact (Kd.R_reads' HO131.out).2.1); rintro e w50 ⟨v144, rfl, ho0, hb⟩; refine ⟨_, rfl, ?_⟩; have HO145 := Aside0.mk (Kd.R_lower ho0 (below_size (bf HB))); replace HO135 := rb HO135 hb; replace HO138 := rb HO138 hb; replace HO142 := rb HO142 hb; replace HB := bs HB hb; (try clear hb); (try clear ho0); obtain ⟨Ao51, co51, eo51⟩ := Kd.R_slice HO135.out; subst eo51; have p146 : 0 ≤ (1 : Int) := (by omega); have q146 : 1 < (t132.length : Int) := od_; obtain ⟨ad146, e146, hx146_0⟩ := Kd.at_int (Kd.R_reads' HO135.out).2.2 1 p146 q146; cases e146; (try simp only [show (1 : Int).toNat = 1 from rfl, Nat.reduceMul, Nat.reduceEqDiff, Go.Addr.add, ↓reduceIte] at hx146_0); have qi146 : (1 < t132.length) = True := eq_true (by omega); (try rw [show ((1 : Int)).toNat = 1 from rfl] at hx146_0); replace p146 := eq_true p146; replace q146 := eq_true q146; have p147 : 0 ≤ (2 : Int) := (by omega); have q147 : 2 < (t132.length : Int) := od_; obtain ⟨ad147, e147, hx147_0⟩ := Kd.at_int (Kd.R_reads' HO135.out).2.2 2 p147 q147; obtain rfl : ad146 = ad147 := (by injection e147); (try simp only [show (2 : Int).toNat = 2 from rfl, Nat.reduceMul, Nat.reduceEqDiff, Go.Addr.add, ↓reduceIte] at hx147_0); have qi147 : (2 < t132.length) = True := eq_true (by omega); (try rw [show ((2 : Int)).toNat = 2 from rfl] at hx147_0); replace p147 := eq_true p147; replace q147 := eq_true q147))
        go_ret
        exact ⟨ae, bf HB⟩
      ·rw [if_neg c9] at H
       exact absurd H (by simp)
     ·rw [if_neg c8] at H
      have c8b0 : ((rd t132 1) == 3) = false := beq_eq_false_iff_ne.mpr c8
      have c8b1 : ((rd t132 1) != 3) = true := bne_iff_ne.mpr c8
      obtain rfl := Option.some.inj H
      go_enter Tryd.func10, Tryd.ntmps10
      go_wp2_with (first | ((with_reducible refine gate_dst (N := 10) rfl ?_); (try (refine gate_guard (by rfl) ?_; dsimp only)); refine R_lit_full k34 _ 34 ?hg (N := 10) ?hd (xs := ([(⟨0, 1, 3⟩ : S34), (⟨1, 2, 4⟩ : S34), (⟨0, 2, 5⟩ : S34)] : List (S34))) (inner := [.int .i64 0, .int .i64 1, .int .i64 3, .int .i64 1, .int .i64 2, .int .i64 4, .int .i64 0, .int .i64 2, .int .i64 5]) (ok := fun _ => True) (okp := fun _ => True) ?hr ?hp (fun _ hk => hk) trivial (Below.refl _ _) (Nat.le_refl _) (by simp) ?_; (case hd => rfl); (case hg => rfl); (case hr => first | (go_simp; done) | (go_simp; rfl)); (case hp => exact (Reps.c3 (show Kd.M k34 _ _ _ (⟨0, 1, 3⟩ : S34) [.int .i64 0, .int .i64 1, .int .i64 3] from (k34_mkM _ _ _ (⟨0, 1, 3⟩ : S34) )) (Reps.c3 (show Kd.M k34 _ _ _ (⟨1, 2, 4⟩ : S34) [.int .i64 1, .int .i64 2, .int .i64 4] from (k34_mkM _ _ _ (⟨1, 2, 4⟩ : S34) )) (Reps.c3 (show Kd.M k34 _ _ _ (⟨0, 2, 5⟩ : S34) [.int .i64 0, .int .i64 2, .int .i64 5] from (k34_mkM _ _ _ (⟨0, 2, 5⟩ : S34) )) (Reps.none _ _))))); intro v130 w52 ho53 hb hg_ hnew_; clear hg_; rw [← Ny129.out] at ho53 hnew_; obtain ⟨g72, rfl⟩ := hnew_; have HO131 := Aside0.mk (Kd.R_lower ho53 (below_size (bf HB))); replace HB := bs HB hb; clear hb ho53; skip) | ((with_reducible refine gc 8 rfl ?_); refine gl_ (some 13) rfl rfl Tryd.func8 ((paths_Longest.calls _ _ _ _ _ _ _ _ ?side1 ?side2 A1.out (tt GT)).mono ?_) ag; (case side1 => exact rc HO131); (case side2 => exact (Kd.R_reads' HO131.out).2.1); rintro e w55 ⟨v134, rfl, ho0, hb⟩; refine ⟨_, rfl, ?_⟩; have HO135 := Aside0.mk (Kd.R_lower ho0 (below_size (bf HB))); replace HO131 := rb HO131 hb; replace HB := bs HB hb; (try clear hb); (try clear ho0)) | ((with_reducible refine gate_builtin (b := .append) (xs := #[.tmp 17, .tmp 19]) rfl ?_); (try (refine gate_guard (by rfl) ?_; dsimp only)); at_builtin; refine R_append_full k34 (w0 := w) w.heap.size rfl (.tmp 17) (.tmp 19) 22 34 (.agg #[(.int .i64 0), (.int .i64 0), (.int .i64 0)]) 24 rfl Tryd.underlying22 info34 rfl (by decide) (by omega) g72 y129 (⟨2, 1, 0⟩ : S34) [.int .i64 2, .int .i64 1, .int .i64 0] (fun _ => True) (fun _ => False) rfl rfl ?aP (fun _ hk => hk.elim) ?aF ?aO ?aB ?aS ?aL ?_; (case aP => exact k34_mkM _ _ _ (⟨2, 1, 0⟩ : S34)); (case aB => exact (bf HB)); (case aF => exact (fun _ _ => trivial)); (case aO => exact (Rt_ HO131.out)); (case aS => exact (below_size (bf HB))); (case aL => have := LMc2.out; omega); intro v137 w56 ho hold hb hg hat; rw [← Ny136.out] at ho; have n0_ := Aside0.mk (Kd.R_grown (Rt_ HO135.out) hg (fun k _ => by simp)); have n1_ := Aside0.mk (hb); have n2_ := Aside0.mk (ho); clear HO135; clear HB; clear HO131; have HO131 := Aside0.mk hold; clear hold; have HO135 := n0_; have HB := n1_; have HO138 := n2_; clear n0_ n1_ n2_; clear ho hb hg hat; obtain ⟨Ao57, co57, eo57⟩ := Kd.R_slice HO138.out; subst eo57) | ((with_reducible refine gc 8 rfl ?_); refine gl_ (some 21) rfl rfl Tryd.func8 ((paths_Longest.calls _ _ _ _ _ _ _ _ ?side1 ?side2 A3.out (tt GT)).mono ?_) ag; (case side1 => exact rc HO138); (case side2 => exact (Kd.R_reads' HO138.out).2.1); rintro e w58 ⟨v141, rfl, ho0, hb⟩; refine ⟨_, rfl, ?_⟩; have HO142 := Aside0.mk (Kd.R_lower (Kd.R_new' ho0 (rl HO135)) (below_size (bf HB))); replace HO135 := re_ HO135 (Kd.R_base ho0) hb; replace HO131 := rb HO131 hb; replace HO138 := rb HO138 hb; replace HB := bs HB hb; (try clear hb); (try clear ho0)) | ((with_reducible refine gc 12 rfl ?_); refine gl_ (some 25) rfl rfl Tryd.func12 ((paths_Way.calls _ _ _ _ _ _ _ _ ?side1 ?side2 A4.out (tt GT)).mono ?_) ag; (case side1 => exact rc HO131); (case side2 => exact (Kd.R_reads' HO131.out).2.1); rintro e w59 ⟨v144, rfl, ho0, hb⟩; refine ⟨_, rfl, ?_⟩; have HO145 := Aside0.mk (Kd.R_lower ho0 (below_size (bf HB))); replace HO135 := rb HO135 hb; replace HO138 := rb HO138 hb; replace HO142 := rb HO142 hb; replace HB := bs HB hb; (try clear hb); (try clear ho0); obtain ⟨Ao60, co60, eo60⟩ := Kd.R_slice HO135.out; subst eo60; have p146 : 0 ≤ (1 : Int) := (by omega); have q146 : 1 < (t132.length : Int) := od_; obtain ⟨ad146, e146, hx146_0⟩ := Kd.at_int (Kd.R_reads' HO135.out).2.2 1 p146 q146; cases e146; (try simp only [show (1 : Int).toNat = 1 from rfl, Nat.reduceMul, Nat.reduceEqDiff, Go.Addr.add, ↓reduceIte] at hx146_0); have qi146 : (1 < t132.length) = True := eq_true (by omega); (try rw [show ((1 : Int)).toNat = 1 from rfl] at hx146_0); replace p146 := eq_true p146; replace q146 := eq_true q146))
      go_ret
      exact ⟨ae, bf HB⟩
    ·rw [if_neg c7] at H
     exact absurd H (by simp)
   ·rw [if_neg c6] at H
    have c6b0 : ((t132.length : Int) == 3) = false := beq_eq_false_iff_ne.mpr c6
    have c6b1 : ((t132.length : Int) != 3) = true := bne_iff_ne.mpr c6
    obtain rfl := Option.some.inj H
    go_enter Tryd.func10, Tryd.ntmps10
    go_wp2_with (first | ((with_reducible refine gate_dst (N := 10) rfl ?_); (try (refine gate_guard (by rfl) ?_; dsimp only)); refine R_lit_full k34 _ 34 ?hg (N := 10) ?hd (xs := ([(⟨0, 1, 3⟩ : S34), (⟨1, 2, 4⟩ : S34), (⟨0, 2, 5⟩ : S34)] : List (S34))) (inner := [.int .i64 0, .int .i64 1, .int .i64 3, .int .i64 1, .int .i64 2, .int .i64 4, .int .i64 0, .int .i64 2, .int .i64 5]) (ok := fun _ => True) (okp := fun _ => True) ?hr ?hp (fun _ hk => hk) trivial (Below.refl _ _) (Nat.le_refl _) (by simp) ?_; (case hd => rfl); (case hg => rfl); (case hr => first | (go_simp; done) | (go_simp; rfl)); (case hp => exact (Reps.c3 (show Kd.M k34 _ _ _ (⟨0, 1, 3⟩ : S34) [.int .i64 0, .int .i64 1, .int .i64 3] from (k34_mkM _ _ _ (⟨0, 1, 3⟩ : S34) )) (Reps.c3 (show Kd.M k34 _ _ _ (⟨1, 2, 4⟩ : S34) [.int .i64 1, .int .i64 2, .int .i64 4] from (k34_mkM _ _ _ (⟨1, 2, 4⟩ : S34) )) (Reps.c3 (show Kd.M k34 _ _ _ (⟨0, 2, 5⟩ : S34) [.int .i64 0, .int .i64 2, .int .i64 5] from (k34_mkM _ _ _ (⟨0, 2, 5⟩ : S34) )) (Reps.none _ _))))); intro v130 w61 ho62 hb hg_ hnew_; clear hg_; rw [← Ny129.out] at ho62 hnew_; obtain ⟨g72, rfl⟩ := hnew_; have HO131 := Aside0.mk (Kd.R_lower ho62 (below_size (bf HB))); replace HB := bs HB hb; clear hb ho62; skip) | ((with_reducible refine gc 8 rfl ?_); refine gl_ (some 13) rfl rfl Tryd.func8 ((paths_Longest.calls _ _ _ _ _ _ _ _ ?side1 ?side2 A1.out (tt GT)).mono ?_) ag; (case side1 => exact rc HO131); (case side2 => exact (Kd.R_reads' HO131.out).2.1); rintro e w64 ⟨v134, rfl, ho0, hb⟩; refine ⟨_, rfl, ?_⟩; have HO135 := Aside0.mk (Kd.R_lower ho0 (below_size (bf HB))); replace HO131 := rb HO131 hb; replace HB := bs HB hb; (try clear hb); (try clear ho0)) | ((with_reducible refine gate_builtin (b := .append) (xs := #[.tmp 17, .tmp 19]) rfl ?_); (try (refine gate_guard (by rfl) ?_; dsimp only)); at_builtin; refine R_append_full k34 (w0 := w) w.heap.size rfl (.tmp 17) (.tmp 19) 22 34 (.agg #[(.int .i64 0), (.int .i64 0), (.int .i64 0)]) 24 rfl Tryd.underlying22 info34 rfl (by decide) (by omega) g72 y129 (⟨2, 1, 0⟩ : S34) [.int .i64 2, .int .i64 1, .int .i64 0] (fun _ => True) (fun _ => False) rfl rfl ?aP (fun _ hk => hk.elim) ?aF ?aO ?aB ?aS ?aL ?_; (case aP => exact k34_mkM _ _ _ (⟨2, 1, 0⟩ : S34)); (case aB => exact (bf HB)); (case aF => exact (fun _ _ => trivial)); (case aO => exact (Rt_ HO131.out)); (case aS => exact (below_size (bf HB))); (case aL => have := LMc2.out; omega); intro v137 w65 ho hold hb hg hat; rw [← Ny136.out] at ho; have n0_ := Aside0.mk (Kd.R_grown (Rt_ HO135.out) hg (fun k _ => by simp)); have n1_ := Aside0.mk (hb); have n2_ := Aside0.mk (ho); clear HO135; clear HB; clear HO131; have HO131 := Aside0.mk hold; clear hold; have HO135 := n0_; have HB := n1_; have HO138 := n2_; clear n0_ n1_ n2_; clear ho hb hg hat; obtain ⟨Ao66, co66, eo66⟩ := Kd.R_slice HO138.out; subst eo66) | ((with_reducible refine gc 8 rfl ?_); refine gl_ (some 21) rfl rfl Tryd.func8 ((paths_Longest.calls _ _ _ _ _ _ _ _ ?side1 ?side2 A3.out (tt GT)).mono ?_) ag; (case side1 => exact rc HO138); (case side2 => exact (Kd.R_reads' HO138.out).2.1); rintro e w67 ⟨v141, rfl, ho0, hb⟩; refine ⟨_, rfl, ?_⟩; have HO142 := Aside0.mk (Kd.R_lower (Kd.R_new' ho0 (rl HO135)) (below_size (bf HB))); replace HO135 := re_ HO135 (Kd.R_base ho0) hb; replace HO131 := rb HO131 hb; replace HO138 := rb HO138 hb; replace HB := bs HB hb; (try clear hb); (try clear ho0)) | ((with_reducible refine gc 12 rfl ?_); refine gl_ (some 25) rfl rfl Tryd.func12 ((paths_Way.calls _ _ _ _ _ _ _ _ ?side1 ?side2 A4.out (tt GT)).mono ?_) ag; (case side1 => exact rc HO131); (case side2 => exact (Kd.R_reads' HO131.out).2.1); rintro e w68 ⟨v144, rfl, ho0, hb⟩; refine ⟨_, rfl, ?_⟩; have HO145 := Aside0.mk (Kd.R_lower ho0 (below_size (bf HB))); replace HO135 := rb HO135 hb; replace HO138 := rb HO138 hb; replace HO142 := rb HO142 hb; replace HB := bs HB hb; (try clear hb); (try clear ho0); obtain ⟨Ao69, co69, eo69⟩ := Kd.R_slice HO135.out; subst eo69))
    go_ret
    exact ⟨ae, bf HB⟩
  ·rw [if_neg c5] at H
   have c5b0 : (t133 == 0) = false := beq_eq_false_iff_ne.mpr c5
   have c5b1 : (t133 != 0) = true := bne_iff_ne.mpr c5
   obtain rfl := Option.some.inj H
   go_enter Tryd.func10, Tryd.ntmps10
   go_wp2_with (first | ((with_reducible refine gate_dst (N := 10) rfl ?_); (try (refine gate_guard (by rfl) ?_; dsimp only)); refine R_lit_full k34 _ 34 ?hg (N := 10) ?hd (xs := ([(⟨0, 1, 3⟩ : S34), (⟨1, 2, 4⟩ : S34), (⟨0, 2, 5⟩ : S34)] : List (S34))) (inner := [.int .i64 0, .int .i64 1, .int .i64 3, .int .i64 1, .int .i64 2, .int .i64 4, .int .i64 0, .int .i64 2, .int .i64 5]) (ok := fun _ => True) (okp := fun _ => True) ?hr ?hp (fun _ hk => hk) trivial (Below.refl _ _) (Nat.le_refl _) (by simp) ?_; (case hd => rfl); (case hg => rfl); (case hr => first | (go_simp; done) | (go_simp; rfl)); (case hp => exact (Reps.c3 (show Kd.M k34 _ _ _ (⟨0, 1, 3⟩ : S34) [.int .i64 0, .int .i64 1, .int .i64 3] from (k34_mkM _ _ _ (⟨0, 1, 3⟩ : S34) )) (Reps.c3 (show Kd.M k34 _ _ _ (⟨1, 2, 4⟩ : S34) [.int .i64 1, .int .i64 2, .int .i64 4] from (k34_mkM _ _ _ (⟨1, 2, 4⟩ : S34) )) (Reps.c3 (show Kd.M k34 _ _ _ (⟨0, 2, 5⟩ : S34) [.int .i64 0, .int .i64 2, .int .i64 5] from (k34_mkM _ _ _ (⟨0, 2, 5⟩ : S34) )) (Reps.none _ _))))); intro v130 w70 ho71 hb hg_ hnew_; clear hg_; rw [← Ny129.out] at ho71 hnew_; obtain ⟨g72, rfl⟩ := hnew_; have HO131 := Aside0.mk (Kd.R_lower ho71 (below_size (bf HB))); replace HB := bs HB hb; clear hb ho71; skip) | ((with_reducible refine gc 8 rfl ?_); refine gl_ (some 13) rfl rfl Tryd.func8 ((paths_Longest.calls _ _ _ _ _ _ _ _ ?side1 ?side2 A1.out (tt GT)).mono ?_) ag; (case side1 => exact rc HO131); (case side2 => exact (Kd.R_reads' HO131.out).2.1); rintro e w73 ⟨v134, rfl, ho0, hb⟩; refine ⟨_, rfl, ?_⟩; have HO135 := Aside0.mk (Kd.R_lower ho0 (below_size (bf HB))); replace HO131 := rb HO131 hb; replace HB := bs HB hb; (try clear hb); (try clear ho0)) | ((with_reducible refine gate_builtin (b := .append) (xs := #[.tmp 17, .tmp 19]) rfl ?_); (try (refine gate_guard (by rfl) ?_; dsimp only)); at_builtin; refine R_append_full k34 (w0 := w) w.heap.size rfl (.tmp 17) (.tmp 19) 22 34 (.agg #[(.int .i64 0), (.int .i64 0), (.int .i64 0)]) 24 rfl Tryd.underlying22 info34 rfl (by decide) (by omega) g72 y129 (⟨2, 1, 0⟩ : S34) [.int .i64 2, .int .i64 1, .int .i64 0] (fun _ => True) (fun _ => False) rfl rfl ?aP (fun _ hk => hk.elim) ?aF ?aO ?aB ?aS ?aL ?_; (case aP => exact k34_mkM _ _ _ (⟨2, 1, 0⟩ : S34)); (case aB => exact (bf HB)); (case aF => exact (fun _ _ => trivial)); (case aO => exact (Rt_ HO131.out)); (case aS => exact (below_size (bf HB))); (case aL => have := LMc2.out; omega); intro v137 w74 ho hold hb hg hat; rw [← Ny136.out] at ho; have n0_ := Aside0.mk (Kd.R_grown (Rt_ HO135.out) hg (fun k _ => by simp)); have n1_ := Aside0.mk (hb); have n2_ := Aside0.mk (ho); clear HO135; clear HB; clear HO131; have HO131 := Aside0.mk hold; clear hold; have HO135 := n0_; have HB := n1_; have HO138 := n2_; clear n0_ n1_ n2_; clear ho hb hg hat; obtain ⟨Ao75, co75, eo75⟩ := Kd.R_slice HO138.out; subst eo75) | ((with_reducible refine gc 8 rfl ?_); refine gl_ (some 21) rfl rfl Tryd.func8 ((paths_Longest.calls _ _ _ _ _ _ _ _ ?side1 ?side2 A3.out (tt GT)).mono ?_) ag; (case side1 => exact rc HO138); (case side2 => exact (Kd.R_reads' HO138.out).2.1); rintro e w76 ⟨v141, rfl, ho0, hb⟩; refine ⟨_, rfl, ?_⟩; have HO142 := Aside0.mk (Kd.R_lower (Kd.R_new' ho0 (rl HO135)) (below_size (bf HB))); replace HO135 := re_ HO135 (Kd.R_base ho0) hb; replace HO131 := rb HO131 hb; replace HO138 := rb HO138 hb; replace HB := bs HB hb; (try clear hb); (try clear ho0)) | ((with_reducible refine gc 12 rfl ?_); refine gl_ (some 25) rfl rfl Tryd.func12 ((paths_Way.calls _ _ _ _ _ _ _ _ ?side1 ?side2 A4.out (tt GT)).mono ?_) ag; (case side1 => exact rc HO131); (case side2 => exact (Kd.R_reads' HO131.out).2.1); rintro e w77 ⟨v144, rfl, ho0, hb⟩; refine ⟨_, rfl, ?_⟩; have HO145 := Aside0.mk (Kd.R_lower ho0 (below_size (bf HB))); replace HO135 := rb HO135 hb; replace HO138 := rb HO138 hb; replace HO142 := rb HO142 hb; replace HB := bs HB hb; (try clear hb); (try clear ho0)))
   go_ret
   exact ⟨ae, bf HB⟩
 ·rw [if_neg c2] at H
  exact absurd H (by simp)

/-! ### carrefourlaw14_PathsLongest: function 3 -/
theorem carrefourlaw14_PathsLongest.calls (k : Nat) (a0 : Int) (A1 : Option Addr) (c1 : Nat) (l1 : List (S34)) (r : Bool) (w : World) (hr1 : Kd.C k34 w A1 l1.length l1) (hc1 : l1.length ≤ c1) (h : carrefourlaw14_PathsLongest.f k a0 l1 = some r) (hT : TabOK w) :
  Calls Tryd.prog 3 #[.int .i64 a0, .slice A1 l1.length c1] w fun e w' => e = .returned (.bool r) ∧ Below w.heap.size w w' := by
 have GT := Aside0.mk hT
 clear hT
 have HR1 := Aside0.mk hr1
 have HC1 := Aside0.mk hc1
 clear hr1 hc1
 have HB := Aside0.mk (Below.refl w.heap.size w)
 have H : ((carrefourlaw14_few.f a0 l1).bind fun t149 => (if t149 = true then ((paths_Longest.f k a0 l1).bind fun bt150 => ((carrefourref14_Longest.f k a0 l1).bind fun bt154 => (if bt150.2 = bt154.2 then (carrefourlaw14_PathsLongest.j0 k bt150.1 bt154.1 ((bt150.1.length : Int) != (bt154.1.length : Int))) else (carrefourlaw14_PathsLongest.j0 k bt150.1 bt154.1 true)))) else (some true))) = some r := h
 clear h
 replace H := bi_ H; obtain ⟨t149, A3, H⟩ := H
 (try dsimp only at H)
 by_cases c4 : t149 = true
 ·subst c4
  have H1 : ((paths_Longest.f k a0 l1).bind fun bt150 => ((carrefourref14_Longest.f k a0 l1).bind fun bt154 => (if bt150.2 = bt154.2 then (carrefourlaw14_PathsLongest.j0 k bt150.1 bt154.1 ((bt150.1.length : Int) != (bt154.1.length : Int))) else (carrefourlaw14_PathsLongest.j0 k bt150.1 bt154.1 true)))) = some r := by rw [if_pos rfl] at H; exact H
  clear H
  have H := H1
  clear H1
  replace H := bi_ H; obtain ⟨⟨t150, t151⟩, A5, H⟩ := H
  (try dsimp only at H)
  replace H := bi_ H; obtain ⟨⟨t154, t155⟩, A6, H⟩ := H
  (try dsimp only at H)
  have HC7 := Aside0.mk H
  clear H
  go_enter Tryd.func3, Tryd.ntmps3
  go_upto_region 5 with (first | (go_at_call 7; (with_reducible refine (carrefourlaw14_few.calls _ _ _ _ _ _ ?side1 ?side2 A3.out).mono ?_); (case side1 => repeat (first | exact HR1.out | (with_reducible refine Kd.C_alloc ?_ _) | (with_reducible refine Kd.C_drewN ?_ _) | (with_reducible refine Kd.C_drew ?_))); (case side2 => exact HC1.out); rintro e w' ⟨rfl, ⟨nd, rfl⟩⟩; (try first | exact ⟨rfl, _, World.drewN_drewN _ _ _⟩ | exact ⟨rfl, _, Eq.trans (World.drewN_drewN _ _ _) (congrArg (World.drewN _) (Nat.add_assoc _ _ _))⟩)) | (go_at_call 8; (with_reducible refine (paths_Longest.calls _ _ _ _ _ _ _ _ ?side1 ?side2 A5.out (tt GT)).mono ?_); (case side1 => repeat (first | exact HR1.out | (with_reducible refine Kd.C_alloc ?_ _) | (with_reducible refine Kd.C_drewN ?_ _) | (with_reducible refine Kd.C_drew ?_))); (case side2 => exact HC1.out); rintro e w8 ⟨v152, rfl, ho0, hb⟩; have HO153 := Aside0.mk (Kd.R_lower ho0 (below_size (bf HB))); replace HB := bs HB hb; (try clear hb); (try clear ho0)) | (go_at_call 9; (with_reducible refine (carrefourref14_Longest.calls _ _ _ _ _ _ _ _ ?side1 ?side2 A6.out).mono ?_); (case side1 => repeat (first | exact (Kd.C_below HR1.out HB.out) | (with_reducible refine Kd.C_alloc ?_ _) | (with_reducible refine Kd.C_drewN ?_ _) | (with_reducible refine Kd.C_drew ?_))); (case side2 => exact HC1.out); rintro e w9 ⟨v156, rfl, ho0, hb⟩; have HO157 := Aside0.mk (Kd.R_lower (Kd.R_new' ho0 (rl HO153)) (below_size (bf HB))); replace HO153 := re_ HO153 (Kd.R_base ho0) hb; replace HB := bs HB hb; (try clear hb); (try clear ho0)))
  repeat (go_quiet (first | (go_at_call 7; (with_reducible refine (carrefourlaw14_few.calls _ _ _ _ _ _ ?side1 ?side2 A3.out).mono ?_); (case side1 => repeat (first | exact HR1.out | (with_reducible refine Kd.C_alloc ?_ _) | (with_reducible refine Kd.C_drewN ?_ _) | (with_reducible refine Kd.C_drew ?_))); (case side2 => exact HC1.out); rintro e w' ⟨rfl, ⟨nd, rfl⟩⟩; (try first | exact ⟨rfl, _, World.drewN_drewN _ _ _⟩ | exact ⟨rfl, _, Eq.trans (World.drewN_drewN _ _ _) (congrArg (World.drewN _) (Nat.add_assoc _ _ _))⟩)) | (go_at_call 8; (with_reducible refine (paths_Longest.calls _ _ _ _ _ _ _ _ ?side1 ?side2 A5.out (tt GT)).mono ?_); (case side1 => repeat (first | exact HR1.out | (with_reducible refine Kd.C_alloc ?_ _) | (with_reducible refine Kd.C_drewN ?_ _) | (with_reducible refine Kd.C_drew ?_))); (case side2 => exact HC1.out); rintro e w8 ⟨v152, rfl, ho0, hb⟩; have HO153 := Aside0.mk (Kd.R_lower ho0 (below_size (bf HB))); replace HB := bs HB hb; (try clear hb); (try clear ho0)) | (go_at_call 9; (with_reducible refine (carrefourref14_Longest.calls _ _ _ _ _ _ _ _ ?side1 ?side2 A6.out).mono ?_); (case side1 => repeat (first | exact (Kd.C_below HR1.out HB.out) | (with_reducible refine Kd.C_alloc ?_ _) | (with_reducible refine Kd.C_drewN ?_ _) | (with_reducible refine Kd.C_drew ?_))); (case side2 => exact HC1.out); rintro e w9 ⟨v156, rfl, ho0, hb⟩; have HO157 := Aside0.mk (Kd.R_lower (Kd.R_new' ho0 (rl HO153)) (below_size (bf HB))); replace HO153 := re_ HO153 (Kd.R_base ho0) hb; replace HB := bs HB hb; (try clear hb); (try clear ho0))); go_upto_region 5 with (first | (go_at_call 7; (with_reducible refine (carrefourlaw14_few.calls _ _ _ _ _ _ ?side1 ?side2 A3.out).mono ?_); (case side1 => repeat (first | exact HR1.out | (with_reducible refine Kd.C_alloc ?_ _) | (with_reducible refine Kd.C_drewN ?_ _) | (with_reducible refine Kd.C_drew ?_))); (case side2 => exact HC1.out); rintro e w' ⟨rfl, ⟨nd, rfl⟩⟩; (try first | exact ⟨rfl, _, World.drewN_drewN _ _ _⟩ | exact ⟨rfl, _, Eq.trans (World.drewN_drewN _ _ _) (congrArg (World.drewN _) (Nat.add_assoc _ _ _))⟩)) | (go_at_call 8; (with_reducible refine (paths_Longest.calls _ _ _ _ _ _ _ _ ?side1 ?side2 A5.out (tt GT)).mono ?_); (case side1 => repeat (first | exact HR1.out | (with_reducible refine Kd.C_alloc ?_ _) | (with_reducible refine Kd.C_drewN ?_ _) | (with_reducible refine Kd.C_drew ?_))); (case side2 => exact HC1.out); rintro e w8 ⟨v152, rfl, ho0, hb⟩; have HO153 := Aside0.mk (Kd.R_lower ho0 (below_size (bf HB))); replace HB := bs HB hb; (try clear hb); (try clear ho0)) | (go_at_call 9; (with_reducible refine (carrefourref14_Longest.calls _ _ _ _ _ _ _ _ ?side1 ?side2 A6.out).mono ?_); (case side1 => repeat (first | exact (Kd.C_below HR1.out HB.out) | (with_reducible refine Kd.C_alloc ?_ _) | (with_reducible refine Kd.C_drewN ?_ _) | (with_reducible refine Kd.C_drew ?_))); (case side2 => exact HC1.out); rintro e w9 ⟨v156, rfl, ho0, hb⟩; have HO157 := Aside0.mk (Kd.R_lower (Kd.R_new' ho0 (rl HO153)) (below_size (bf HB))); replace HO153 := re_ HO153 (Kd.R_base ho0) hb; replace HB := bs HB hb; (try clear hb); (try clear ho0))))
  (try simp only [Act.put, si, s0, s1])
  go_cut [35] (fun v35 wc => ∃ (kq : Nat) (x35_6 : Bool), v35 = .bool x35_6 ∧ Aside0 (carrefourlaw14_PathsLongest.j0 kq t150 t154 x35_6 = some r) ∧ Aside0 (kq ≤ k) ∧ Aside0 (Kd.R (Kd.int .i64) 2 wc w.heap.size (fun k_ => some k_ ≠ (v156 : Value).ownBlock) v152 t150) ∧ Aside0 (Kd.R (Kd.int .i64) 2 wc w.heap.size (fun k_ => some k_ ≠ (v152 : Value).ownBlock) v156 t154) ∧ Aside0 (Below w.heap.size w wc))
  case first =>
   have H := HC7.out
   clear HC7
   by_cases c10 : t151 = t155
   ·rw [if_pos c10] at H
    have c10b0 : (t151 == t155) = true := beq_iff_eq.mpr c10
    have c10b1 : (t151 != t155) = false := bne_eq_false_iff_eq.mpr c10
    clear c10
    (first | rw [c10b0] | (simp only [i64_w, i32_w]; rw [c10b0]) | skip)
    have H' := Aside0.mk H
    clear H
    obtain ⟨Ao11, co11, eo11⟩ := Kd.R_slice HO153.out
    subst eo11
    obtain ⟨Ao12, co12, eo12⟩ := Kd.R_slice HO157.out
    subst eo12
    go_wp2
    repeat (go_quiet (fail); try go_wp2)
    go_meet
    case rel => exact ⟨_, (((t150.length : Int) != (t154.length : Int))), (aq), H', ⟨by first | omega | exact Nat.le_refl _⟩, ⟨Rt_ (Kd.R_mono HO153.out (fun _ hk => hk.2))⟩, ⟨Rt_ (Kd.R_mono HO157.out (fun _ hk => hk.2))⟩, ⟨bf HB⟩⟩
   ·rw [if_neg c10] at H
    have c10b0 : (t151 == t155) = false := beq_eq_false_iff_ne.mpr c10
    have c10b1 : (t151 != t155) = true := bne_iff_ne.mpr c10
    (first | rw [c10b0] | (simp only [i64_w, i32_w]; rw [c10b0]) | skip)
    have H' := Aside0.mk H
    clear H
    go_wp2
    repeat (go_quiet (fail); try go_wp2)
    go_meet
    case rel => exact ⟨_, (true), (aq), H', ⟨by first | omega | exact Nat.le_refl _⟩, ⟨Rt_ (Kd.R_mono HO153.out (fun _ hk => hk.2))⟩, ⟨Rt_ (Kd.R_mono HO157.out (fun _ hk => hk.2))⟩, ⟨bf HB⟩⟩
  case rest =>
   clear HC7
   (try clear c1); (try clear p2); (try clear c3); (try clear c4); (try clear c10); (try clear c10b0); (try clear c10b1)
   obtain ⟨kq, x35_6, rfl, HA, HJ6, HO_5, HO_7, HB⟩ := hcut
   cases kq with
   | zero => exact absurd HA.out (by simp [carrefourlaw14_PathsLongest.j0])
   | succ kj6 =>
    have H := HA.out
    clear HA
    simp only [carrefourlaw14_PathsLongest.j0] at H
    by_cases c13 : x35_6 = true
    ·subst c13
     have H1 : (some false) = some r := by rw [if_pos rfl] at H; exact H
     clear H
     have H := H1
     clear H1
     obtain rfl := Option.some.inj H
     go_wp2
     repeat (go_quiet (fail); try go_wp2)
     go_ret
     exact ⟨ae, bf HB⟩
    ·replace c13 := Bool.eq_false_iff.mpr c13
     subst c13
     have H1 : (carrefourlaw14_PathsLongest.l0 kj6 t150 t154 0) = some r := by rw [if_neg (show ¬ (false = true) by decide)] at H; exact H
     clear H
     have H := H1
     clear H1
     have H' := Aside0.mk H
     clear H
     go_wp2
     repeat (go_quiet (fail); try go_wp2)
     go_loopg [9] kj6 (fun kq v9 w' => ∃ (x9_2 : Int), v9 = .int .i64 x9_2 ∧ Aside0 (carrefourlaw14_PathsLongest.l0 kq t150 t154 x9_2 = some r) ∧ Aside0 (kq ≤ kj6) ∧ Aside0 (Kd.R (Kd.int .i64) 2 w' w.heap.size (fun k_ => some k_ ≠ (v156 : Value).ownBlock) v152 t150) ∧ Aside0 (Kd.R (Kd.int .i64) 2 w' w.heap.size (fun k_ => some k_ ≠ (v152 : Value).ownBlock) v156 t154) ∧ Aside0 (Below w.heap.size w w'))
     case atStart => exact ⟨(0), (aq), H', ⟨Nat.le_refl _⟩, ⟨Rt_ HO_5.out⟩, ⟨Rt_ HO_7.out⟩, ⟨bf HB⟩⟩
     case round =>
      clear H'
      (try clear c1); (try clear p2); (try clear c3); (try clear c4); (try clear c10); (try clear c10b0); (try clear c10b1); (try clear c13); (try clear p2)
      obtain ⟨x9_2, rfl, HA, HK2, HO_5, HO_7, HB⟩ := hrel
      cases gk with
      | zero => exact absurd HA.out (by simp [carrefourlaw14_PathsLongest.l0])
      | succ k2 =>
       have H := HA.out
       clear HA
       simp only [carrefourlaw14_PathsLongest.l0] at H
       by_cases c14 : x9_2 < (t150.length : Int)
       ·rw [if_pos c14] at H
        have c14b0 : decide (x9_2 < (t150.length : Int)) = true := decide_eq_true c14
        clear c14
        by_cases c15 : 0 ≤ x9_2
        ·rw [if_pos c15] at H
         have c15b0 : decide (0 ≤ x9_2) = true := decide_eq_true c15
         clear c15
         by_cases c16 : x9_2 < (t154.length : Int)
         ·rw [if_pos c16] at H
          have c16b0 : decide (x9_2 < (t154.length : Int)) = true := decide_eq_true c16
          clear c16
          by_cases c17 : (rd t150 x9_2) = (rd t154 x9_2)
          ·rw [if_pos c17] at H
           have c17b0 : ((rd t150 x9_2) == (rd t154 x9_2)) = true := beq_iff_eq.mpr c17
           have c17b1 : ((rd t150 x9_2) != (rd t154 x9_2)) = false := bne_eq_false_iff_eq.mpr c17
           clear c17
           have H' := Aside0.mk H
           clear H
           obtain ⟨Ao18, co18, eo18⟩ := Kd.R_slice HO_5.out
           subst eo18
           have p158 : 0 ≤ (x9_2 : Int) := od_
           have q158 : x9_2 < (t150.length : Int) := od_
           obtain ⟨ad158, e158, hx158_0⟩ := Kd.at_int (Kd.R_reads' HO_5.out).2.2 x9_2 p158 q158
           cases e158
           replace p158 := eq_true p158
           replace q158 := eq_true q158
           obtain ⟨Ao19, co19, eo19⟩ := Kd.R_slice HO_7.out
           subst eo19
           have p159 : 0 ≤ (x9_2 : Int) := od_
           have q159 : x9_2 < (t154.length : Int) := od_
           obtain ⟨ad159, e159, hx159_0⟩ := Kd.at_int (Kd.R_reads' HO_7.out).2.2 x9_2 p159 q159
           cases e159
           replace p159 := eq_true p159
           replace q159 := eq_true q159
           go_wp2
           repeat (go_quiet (fail); try go_wp2)
           go_roundg k2
           case measure => have := HJ6.out; have := HK2.out; omega
           case rel => exact ⟨(wrap64 (x9_2 + 1)), (aq), H', ⟨by have := HJ6.out; have := HK2.out; omega⟩, ⟨Rt_ HO_5.out⟩, ⟨Rt_ HO_7.out⟩, ⟨bf HB⟩⟩
          ·rw [if_neg c17] at H
           have c17b0 : ((rd t150 x9_2) == (rd t154 x9_2)) = false := beq_eq_false_iff_ne.mpr c17
           have c17b1 : ((rd t150 x9_2) != (rd t154 x9_2)) = true := bne_iff_ne.mpr c17
           obtain rfl := Option.some.inj H
           obtain ⟨Ao20, co20, eo20⟩ := Kd.R_slice HO_5.out
           subst eo20
           have p158 : 0 ≤ (x9_2 : Int) := od_
           have q158 : x9_2 < (t150.length : Int) := od_
           obtain ⟨ad158, e158, hx158_0⟩ := Kd.at_int (Kd.R_reads' HO_5.out).2.2 x9_2 p158 q158
           cases e158
           replace p158 := eq_true p158
           replace q158 := eq_true q158
           obtain ⟨Ao21, co21, eo21⟩ := Kd.R_slice HO_7.out
           subst eo21
           have p159 : 0 ≤ (x9_2 : Int) := od_
           have q159 : x9_2 < (t154.length : Int) := od_
           obtain ⟨ad159, e159, hx159_0⟩ := Kd.at_int (Kd.R_reads' HO_7.out).2.2 x9_2 p159 q159
           cases e159
           replace p159 := eq_true p159
           replace q159 := eq_true q159
           go_wp2
           repeat (go_quiet (fail); try go_wp2)
           go_ret
           exact ⟨ae, bf HB⟩
         ·rw [if_neg c16] at H
          exact absurd H (by simp)
        ·rw [if_neg c15] at H
         exact absurd H (by simp)
       ·rw [if_neg c14] at H
        have c14b0 : decide (x9_2 < (t150.length : Int)) = false := decide_eq_false c14
        clear c14
        replace H := bi_ H; obtain ⟨t160, A22, H⟩ := H
        (try dsimp only at H)
        obtain rfl := Option.some.inj H
        obtain ⟨Ao23, co23, eo23⟩ := Kd.R_slice HO_5.out
        subst eo23
        go_wp2_with (first | (go_at_call 10; (with_reducible refine (carrefourlaw14_awake.calls _ _ _ A22.out (tt GT)).mono ?_); rintro e w24 ⟨rfl, hb⟩; replace HO_5 := Aside0.mk (Kd.R_below (Rt_ HO_5.out) hb); replace HO_7 := Aside0.mk (Kd.R_below (Rt_ HO_7.out) hb); replace HB := bs HB hb; (try clear hb)))
        repeat (go_quiet (first | (go_at_call 10; (with_reducible refine (carrefourlaw14_awake.calls _ _ _ A22.out (tt GT)).mono ?_); rintro e w24 ⟨rfl, hb⟩; replace HO_5 := Aside0.mk (Kd.R_below (Rt_ HO_5.out) hb); replace HO_7 := Aside0.mk (Kd.R_below (Rt_ HO_7.out) hb); replace HB := bs HB hb; (try clear hb))); try go_wp2_with (first | (go_at_call 10; (with_reducible refine (carrefourlaw14_awake.calls _ _ _ A22.out (tt GT)).mono ?_); rintro e w24 ⟨rfl, hb⟩; replace HO_5 := Aside0.mk (Kd.R_below (Rt_ HO_5.out) hb); replace HO_7 := Aside0.mk (Kd.R_below (Rt_ HO_7.out) hb); replace HB := bs HB hb; (try clear hb))))
        go_ret
        exact ⟨ae, bf HB⟩
 ·replace c4 := Bool.eq_false_iff.mpr c4
  subst c4
  have H1 : (some true) = some r := by rw [if_neg (show ¬ (false = true) by decide)] at H; exact H
  clear H
  have H := H1
  clear H1
  obtain rfl := Option.some.inj H
  go_enter Tryd.func3, Tryd.ntmps3
  go_wp2_with (first | (go_at_call 7; (with_reducible refine (carrefourlaw14_few.calls _ _ _ _ _ _ ?side1 ?side2 A3.out).mono ?_); (case side1 => repeat (first | exact HR1.out | (with_reducible refine Kd.C_alloc ?_ _) | (with_reducible refine Kd.C_drewN ?_ _) | (with_reducible refine Kd.C_drew ?_))); (case side2 => exact HC1.out); rintro e w' ⟨rfl, ⟨nd, rfl⟩⟩; (try first | exact ⟨rfl, _, World.drewN_drewN _ _ _⟩ | exact ⟨rfl, _, Eq.trans (World.drewN_drewN _ _ _) (congrArg (World.drewN _) (Nat.add_assoc _ _ _))⟩)))
  repeat (go_quiet (first | (go_at_call 7; (with_reducible refine (carrefourlaw14_few.calls _ _ _ _ _ _ ?side1 ?side2 A3.out).mono ?_); (case side1 => repeat (first | exact HR1.out | (with_reducible refine Kd.C_alloc ?_ _) | (with_reducible refine Kd.C_drewN ?_ _) | (with_reducible refine Kd.C_drew ?_))); (case side2 => exact HC1.out); rintro e w' ⟨rfl, ⟨nd, rfl⟩⟩; (try first | exact ⟨rfl, _, World.drewN_drewN _ _ _⟩ | exact ⟨rfl, _, Eq.trans (World.drewN_drewN _ _ _) (congrArg (World.drewN _) (Nat.add_assoc _ _ _))⟩))); try go_wp2_with (first | (go_at_call 7; (with_reducible refine (carrefourlaw14_few.calls _ _ _ _ _ _ ?side1 ?side2 A3.out).mono ?_); (case side1 => repeat (first | exact HR1.out | (with_reducible refine Kd.C_alloc ?_ _) | (with_reducible refine Kd.C_drewN ?_ _) | (with_reducible refine Kd.C_drew ?_))); (case side2 => exact HC1.out); rintro e w' ⟨rfl, ⟨nd, rfl⟩⟩; (try first | exact ⟨rfl, _, World.drewN_drewN _ _ _⟩ | exact ⟨rfl, _, Eq.trans (World.drewN_drewN _ _ _) (congrArg (World.drewN _) (Nat.add_assoc _ _ _))⟩))))
  go_ret
  exact ⟨ae, bf HB⟩

end Go.Proofs.YtcdddmaibchjjaaDoor.X
