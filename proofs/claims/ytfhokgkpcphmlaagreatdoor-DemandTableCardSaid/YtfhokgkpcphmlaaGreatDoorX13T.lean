/- Walks: each '.calls' says that the Go function comes to what its Lean function tells. Conditions: as each theorem's head says. -/
import Derived.Test.YtfhokgkpcphmlaaGreatDoorXD
import Derived.Test.YtfhokgkpcphmlaaGreatDoorX0
import Derived.Test.YtfhokgkpcphmlaaGreatDoorX6
import Derived.Test.YtfhokgkpcphmlaaGreatDoorX10
import Derived.Test.YtfhokgkpcphmlaaGreatDoorX12
import Derived.Test.YtfhokgkpcphmlaaGreatDoorX13
namespace Go.Proofs.YtfhokgkpcphmlaaGreatDoor.X
open Go.RowKit Go.Proofs.YtfhokgkpcphmlaaGreatDoorW.PrintWords Go.Proofs.YtfhokgkpcphmlaaGreatDoorW.PrintLast Go.Proofs.YtfhokgkpcphmlaaGreatDoorW.PrintMore
attribute [local go_sem] max2_int min2_int max_two min_two max_three min_three max_four min_four   -- for this text's walks alone
set_option linter.unusedVariables false
set_option maxHeartbeats 8000000
set_option maxRecDepth 100000
set_option linter.unusedSimpArgs false

theorem gen1_ {P c K a} {W : World} {φ : World → Prop} (hφ : φ W) (h : ∀ w' : World, φ w' → Code.wp P c K a w') : Code.wp P c K a W := h W hφ

/-! ### demand_Table: function 5 -/
theorem demand_Table.calls (k : Nat) (a0_0 : Int) (a0_1 : Int) (a0_2 : Int) (a0_3 : Int) (a0_4 : Int) (A0_5 : Option Addr) (c0_5 : Nat) (l0_5 : List (S42)) (A0_6 : Option Addr) (c0_6 : Nat) (l0_6 : List (S45)) (a0_7 : Int) (a0_8 : Int) (r1 : List (List (S23))) (r2 : Int) (w : World) (hr0_5 : Kd.C k42 w A0_5 l0_5.length l0_5) (hc0_5 : l0_5.length ≤ c0_5) (hr0_6 : Kd.C k45 w A0_6 l0_6.length l0_6) (hc0_6 : l0_6.length ≤ c0_6) (h : demand_Table.f k a0_0 a0_1 a0_2 a0_3 a0_4 l0_5 l0_6 a0_7 a0_8 = some (r1, r2)) (hT : TabOK w) :
  Calls Tryz.prog 5 #[.agg #[.int .i64 a0_0, .int .i64 a0_1, .int .i64 a0_2, .int .i64 a0_3, .int .i64 a0_4, .slice A0_5 l0_5.length c0_5, .slice A0_6 l0_6.length c0_6, .int .i64 a0_7, .int .i64 a0_8]] w fun e w' => ∃ v0_ : Value, e = .returned (.tuple #[v0_, .int .i64 r2]) ∧ Kd.S (Kd.slice 23 k23) 33 w' w.heap.size (fun _ => True) v0_ r1 ∧ Below w.heap.size w w' := by
 have GT := Aside0.mk hT
 clear hT
 have hu27 := Tryz.underlying27
 have hu42 := Tryz.underlying42
 have hu48 := Tryz.underlying48
 have hu23 := Tryz.underlying23
 have HR0_5 := Aside0.mk hr0_5
 have HC0_5 := Aside0.mk hc0_5
 clear hr0_5 hc0_5
 have HR0_6 := Aside0.mk hr0_6
 have HC0_6 := Aside0.mk hc0_6
 clear hr0_6 hc0_6
 have HB := Aside0.mk (Below.refl w.heap.size w)
 have H : (demand_Table.l0 k ([] : List (List (S23))) l0_5 (l0_5.length : Int) 0 a0_0 a0_1 a0_2 a0_3 a0_4 l0_5 l0_6 a0_7 a0_8) = some (r1, r2) := h
 clear h
 have H' := Aside0.mk H
 clear H
 go_enter Tryz.func5, Tryz.ntmps5
 go_wp2_with (first | ((with_reducible refine gd 1 rfl ?_); refine bx_ 1 27 #[.int .i64 a0_0, .int .i64 a0_1, .int .i64 a0_2, .int .i64 a0_3, .int .i64 a0_4, .slice A0_5 l0_5.length c0_5, .slice A0_6 l0_6.length c0_6, .int .i64 a0_7, .int .i64 a0_8] rfl rfl ?_; intro gb333 hg w2 BK333 hb; have GE333 := bz HB hg; replace HB := bs HB hb; clear hb hg; have hcz3 := X.k9 BK333))
 go_loopg [4, 15] k (fun kq v4 v15 w' => ∃ (x4_1 : List (List (S23))) (x15_1 : Int), v15 = .int .i64 x15_1 ∧ Aside0 (demand_Table.l0 kq x4_1 l0_5 (l0_5.length : Int) x15_1 a0_0 a0_1 a0_2 a0_3 a0_4 l0_5 l0_6 a0_7 a0_8 = some (r1, r2)) ∧ Aside0 (kq ≤ k) ∧ Aside0 (Kd.S (Kd.slice 23 k23) 33 w' w.heap.size (fun _ => True) v4 x4_1) ∧ Aside0 (w'.heap[gb333]? = some (.cells #[.int .i64 a0_0, .int .i64 a0_1, .int .i64 a0_2, .int .i64 a0_3, .int .i64 a0_4, (.slice A0_5 l0_5.length c0_5), (.slice A0_6 l0_6.length c0_6), .int .i64 a0_7, .int .i64 a0_8] 27 (0, 0))) ∧ Aside0 (Below w.heap.size w w'))
 case atStart => exact ⟨(([] : List (List (S23)))), (0), (aq), H', ⟨Nat.le_refl _⟩, ⟨by first | exact Kd.S_nil _ _ _ _ _ | exact Kd.N_nil _ _ _ _ _ | exact Kd.V_nil _ _ _ _ _ | exact Kd.Q_nil _ _ _ _ _ | exact Kd.R_nil _ _ _ _ _⟩, bu_ BK333, ⟨bf HB⟩⟩
 case round =>
  clear H'
  (try clear p2); (try clear hcz3)
  obtain ⟨x4_1, x15_1, rfl, HA, HK1, HO_4, BK333, HB⟩ := hrel
  cases gk with
  | zero => exact absurd HA.out (by simp [demand_Table.l0])
  | succ k1 =>
   have H := HA.out
   clear HA
   simp only [demand_Table.l0] at H
   by_cases c4 : x15_1 < (l0_5.length : Int)
   ·rw [if_pos c4] at H
    have c4b0 : decide (x15_1 < (l0_5.length : Int)) = true := decide_eq_true c4
    clear c4
    by_cases c5 : 0 ≤ x15_1
    ·rw [if_pos c5] at H
     have c5b0 : decide (0 ≤ x15_1) = true := decide_eq_true c5
     clear c5
     by_cases c6 : x15_1 < (l0_5.length : Int)
     ·rw [if_pos c6] at H
      have c6b0 : decide (x15_1 < (l0_5.length : Int)) = true := decide_eq_true c6
      clear c6
      by_cases c7 : 0 ≤ (((rd_T42 l0_5 x15_1).f1).length : Int)
      ·rw [if_pos c7] at H
       have c7b0 := eq_true c7
       have c7b1 : decide (0 ≤ (((rd_T42 l0_5 x15_1).f1).length : Int)) = true := decide_eq_true c7
       clear c7
       by_cases c8 : ((((rd_T42 l0_5 x15_1).f1).length : Int) : Int).toNat ≤ 17592186044416
       ·rw [if_pos c8] at H
        have c8b0 := eq_true c8
        have c8b1 : decide (((((rd_T42 l0_5 x15_1).f1).length : Int) : Int).toNat ≤ 17592186044416) = true := decide_eq_true c8
        clear c8
        obtain ⟨y336, hy336⟩ : ∃ y_ : List (S23), y_ = (List.replicate ((((rd_T42 l0_5 x15_1).f1).length : Int) : Int).toNat z23) := ⟨_, rfl⟩
        replace H : (demand_Table.l1 k1 x4_1 y336 l0_5 (l0_5.length : Int) x15_1 ((rd_T42 l0_5 x15_1).f1) (((rd_T42 l0_5 x15_1).f1).length : Int) 0 a0_0 a0_1 a0_2 a0_3 a0_4 l0_5 l0_6 a0_7 a0_8) = some (r1, r2) := by first | (rw [hy336]; with_reducible exact H) | (have H2_ := (Option.bind_some _ _).symm.trans H; rw [hy336]; with_reducible exact H2_) | (have H2_ := (Option.bind_some _ _).symm.trans H; with_reducible exact H2_) | with_reducible exact H | (rw [hy336]; exact H) | exact H
        have Ny336 := Aside0.mk hy336
        clear hy336
        have H' := Aside0.mk H
        clear H
        have p334 : 0 ≤ (x15_1 : Int) := od_
        have q334 : x15_1 < (l0_5.length : Int) := od_
        obtain ⟨ad334, A334_1, c334_1, A334_2, c334_2, A334_3, c334_3, A334_4, c334_4, A334_5, c334_5, e334, hx334_0, hx334_1, hx334_2, hx334_3, hx334_4, hx334_5, hx334_6, hl334_1, hi334_1, hl334_2, hi334_2, hl334_3, hi334_3, hl334_4, hi334_4, hl334_5, hi334_5⟩ := at_T42 HR0_5.out x15_1 p334 q334
        cases e334
        replace hx334_0 := hx_ HB hx334_0
        replace hx334_1 := hx_ HB hx334_1
        replace hx334_2 := hx_ HB hx334_2
        replace hx334_3 := hx_ HB hx334_3
        replace hx334_4 := hx_ HB hx334_4
        replace hx334_5 := hx_ HB hx334_5
        replace hx334_6 := hx_ HB hx334_6
        have HR334_1 := Aside0.mk hi334_1
        have HC334_1 := Aside0.mk hl334_1
        clear hi334_1 hl334_1
        have HR334_2 := Aside0.mk hi334_2
        have HC334_2 := Aside0.mk hl334_2
        clear hi334_2 hl334_2
        have HR334_3 := Aside0.mk hi334_3
        have HC334_3 := Aside0.mk hl334_3
        clear hi334_3 hl334_3
        have HR334_4 := Aside0.mk hi334_4
        have HC334_4 := Aside0.mk hl334_4
        clear hi334_4 hl334_4
        have HR334_5 := Aside0.mk hi334_5
        have HC334_5 := Aside0.mk hl334_5
        clear hi334_5 hl334_5
        replace p334 := eq_true p334
        replace q334 := eq_true q334
        go_wp2_with (first | ((with_reducible refine gd 6 rfl ?_); refine bx_ 6 42 #[.string (⟨#[]⟩ : ByteArray), .slice none 0 0, .slice none 0 0, .slice none 0 0, .slice none 0 0, .slice none 0 0, .int .i64 0] rfl rfl ?_; intro gb335 hg w9 BK335 hb; have GE335 := bz HB hg; have ⟨NB333_335, NB335_333⟩ := nb BK333 hg; replace HO_4 := Aside0.mk (Kd.S_below (St_ HO_4.out) hb); replace BK333 := bb BK333 hb; replace HB := bs HB hb; clear hb hg; have hnb10 := nn NB335_333; have hcz11 := X.k7 BK335) | ((with_reducible refine gate_dst (N := 22) rfl ?_); refine Kd.R_make k23 _ 23 rfl (N := 22) rfl 33 _ _ rfl (((rd_T42 l0_5 x15_1).f1).length : Int) rfl rfl Tryz.underlying33 (.agg #[(.int .i64 0), (.int .i64 0)]) 16 info23 rfl (by decide) (by omega) z23 (ok := fun _ => True) (okp := fun _ => True) (k23_mkM _ _ _ z23 ) (fun _ hk => hk) trivial (od_) (Nat.le_trans (Nat.mul_le_mul_right _ (od_ : (((rd_T42 l0_5 x15_1).f1).length : Int).toNat ≤ 17592186044416)) (by omega)) (Below.refl _ _) (Nat.le_refl _) ?_; intro v337 w12 ho13 hb hg_ hnew_; clear hg_ hnew_; (first | rw [← Ny336.out] at ho13 | (simp only [Int.reduceToNat] at ho13; rw [← Ny336.out] at ho13)); have HO338 := Aside0.mk (Kd.R_lower ho13 (below_size (bf HB))); replace HO_4 := Aside0.mk (Kd.S_elder' (St_ (Kd.S_mono (Kd.S_far (p := ⟨gb335, 6, none⟩) (Kd.S_far (p := ⟨gb335, 5, none⟩) (Kd.S_far (p := ⟨gb335, 4, none⟩) (Kd.S_far (p := ⟨gb335, 3, none⟩) (Kd.S_far (p := ⟨gb335, 2, none⟩) (Kd.S_far (p := ⟨gb335, 1, none⟩) (Kd.S_far (p := ⟨gb335, 0, none⟩) (Kd.S_types HO_4.out BK335.out (by decide)) (fun _ hk => hk.2) (.string ((rd_T42 l0_5 x15_1).f0))) (fun _ hk => hk.2) (.slice A334_1 ((rd_T42 l0_5 x15_1).f1).length c334_1)) (fun _ hk => hk.2) (.slice A334_2 ((rd_T42 l0_5 x15_1).f2).length c334_2)) (fun _ hk => hk.2) (.slice A334_3 ((rd_T42 l0_5 x15_1).f3).length c334_3)) (fun _ hk => hk.2) (.slice A334_4 ((rd_T42 l0_5 x15_1).f4).length c334_4)) (fun _ hk => hk.2) (.slice A334_5 ((rd_T42 l0_5 x15_1).f5).length c334_5)) (fun _ hk => hk.2) (.int .i64 ((rd_T42 l0_5 x15_1).f6))) (fun _ h_ => h_.1))) (Kd.R_base ho13) hb); replace BK333 := bb BK333 hb; replace BK335 := bp_ #[.string ((rd_T42 l0_5 x15_1).f0), .slice A334_1 ((rd_T42 l0_5 x15_1).f1).length c334_1, .slice A334_2 ((rd_T42 l0_5 x15_1).f2).length c334_2, .slice A334_3 ((rd_T42 l0_5 x15_1).f3).length c334_3, .slice A334_4 ((rd_T42 l0_5 x15_1).f4).length c334_4, .slice A334_5 ((rd_T42 l0_5 x15_1).f5).length c334_5, .int .i64 ((rd_T42 l0_5 x15_1).f6)] BK335 hb; replace HB := bs HB hb; clear hb ho13; have hcz14 := X.k7 BK335))
        go_loopg [26] k1 (fun kq v26 w' => ∃ (x7_2 : List (S23)) (x26_2 : Int), v26 = .int .i64 x26_2 ∧ Aside0 (demand_Table.l1 kq x4_1 x7_2 l0_5 (l0_5.length : Int) x15_1 ((rd_T42 l0_5 x15_1).f1) (((rd_T42 l0_5 x15_1).f1).length : Int) x26_2 a0_0 a0_1 a0_2 a0_3 a0_4 l0_5 l0_6 a0_7 a0_8 = some (r1, r2)) ∧ Aside0 (kq ≤ k1) ∧ Aside0 (Kd.S (Kd.slice 23 k23) 33 w' w.heap.size (fun k_ => some k_ ≠ (v337 : Value).ownBlock) u4 x4_1) ∧ Aside0 (Kd.R k23 23 w' w.heap.size (fun _ => True) v337 x7_2) ∧ Aside0 (w'.heap[gb333]? = some (.cells #[.int .i64 a0_0, .int .i64 a0_1, .int .i64 a0_2, .int .i64 a0_3, .int .i64 a0_4, (.slice (some ad334) l0_5.length c0_5), (.slice A0_6 l0_6.length c0_6), .int .i64 a0_7, .int .i64 a0_8] 27 (0, 0))) ∧ Aside0 (w'.heap[gb335]? = some (.cells #[.string ((rd_T42 l0_5 x15_1).f0), (.slice A334_1 ((rd_T42 l0_5 x15_1).f1).length c334_1), (.slice A334_2 ((rd_T42 l0_5 x15_1).f2).length c334_2), (.slice A334_3 ((rd_T42 l0_5 x15_1).f3).length c334_3), (.slice A334_4 ((rd_T42 l0_5 x15_1).f4).length c334_4), (.slice A334_5 ((rd_T42 l0_5 x15_1).f5).length c334_5), .int .i64 ((rd_T42 l0_5 x15_1).f6)] 42 (0, 0))) ∧ Aside0 (Below w.heap.size w w'))
        case atStart => exact ⟨(y336), (0), (aq), H', ⟨Nat.le_refl _⟩, ⟨St_ (Kd.S_mono HO_4.out (fun _ hk => hk.2))⟩, ⟨Rt_ HO338.out⟩, bu_ BK333, bu_ BK335, ⟨bf HB⟩⟩
        case round =>
         clear H'
         (try clear c1); (try clear p2); (try clear c3); (try clear p3); (try clear q3); (try clear hx3); (try clear c4); (try clear c4b0); (try clear c5); (try clear c5b0); (try clear c6); (try clear c6b0); (try clear c7); (try clear c7b0); (try clear c7b1); (try clear c8); (try clear c8b0); (try clear c8b1); (try clear c10); (try clear hcz11); (try clear hcz14); (try clear hcz3); (try clear hx334_0); (try clear hx334_1); (try clear hx334_2); (try clear hx334_3); (try clear hx334_4); (try clear hx334_5); (try clear hx334_6); (try clear p2); (try clear p334); (try clear q334)
         obtain ⟨x7_2, x26_2, rfl, HA, HK2, HO_4, HO_7, BK333, BK335, HB⟩ := hrel
         cases gk with
         | zero => exact absurd HA.out (by simp [demand_Table.l1])
         | succ k2 =>
          have H := HA.out
          clear HA
          simp only [demand_Table.l1] at H
          by_cases c15 : x26_2 < (((rd_T42 l0_5 x15_1).f1).length : Int)
          ·rw [if_pos c15] at H
           have c15b0 : decide (x26_2 < (((rd_T42 l0_5 x15_1).f1).length : Int)) = true := decide_eq_true c15
           clear c15
           by_cases c16 : 0 ≤ x26_2
           ·rw [if_pos c16] at H
            have c16b0 : decide (0 ≤ x26_2) = true := decide_eq_true c16
            clear c16
            by_cases c17 : x26_2 < (((rd_T42 l0_5 x15_1).f1).length : Int)
            ·rw [if_pos c17] at H
             have c17b0 : decide (x26_2 < (((rd_T42 l0_5 x15_1).f1).length : Int)) = true := decide_eq_true c17
             clear c17
             replace H := bi_ H; obtain ⟨⟨t341, t342, t343⟩, A18, H⟩ := H
             (try dsimp only at H)
             have p339 : 0 ≤ (x26_2 : Int) := od_
             have q339 : x26_2 < (((rd_T42 l0_5 x15_1).f1).length : Int) := od_
             obtain ⟨ad339, e339, hx339_0, hx339_1, hx339_2, hx339_3, hx339_4, hx339_5, hx339_6, hx339_7, hx339_8, hx339_9, hx339_10⟩ := at_T48 HR334_1.out x26_2 p339 q339
             cases e339
             replace hx339_0 := hx_ HB hx339_0
             replace hx339_1 := hx_ HB hx339_1
             replace hx339_2 := hx_ HB hx339_2
             replace hx339_3 := hx_ HB hx339_3
             replace hx339_4 := hx_ HB hx339_4
             replace hx339_5 := hx_ HB hx339_5
             replace hx339_6 := hx_ HB hx339_6
             replace hx339_7 := hx_ HB hx339_7
             replace hx339_8 := hx_ HB hx339_8
             replace hx339_9 := hx_ HB hx339_9
             replace hx339_10 := hx_ HB hx339_10
             replace p339 := eq_true p339
             replace q339 := eq_true q339
             go_upto_region 9 with (first | ((with_reducible refine gd 9 rfl ?_); refine bx_ 9 48 #[.string (⟨#[]⟩ : ByteArray), .int .i64 0, .int .i64 0, .int .i64 0, .int .i64 0, .int .i64 0, .int .i64 0, .int .i64 0, .int .i64 0, .int .i64 0, .int .i64 0] rfl rfl ?_; intro gb340 hg w22 BK340 hb; have GE340 := bz HB hg; have ⟨NB333_340, NB340_333⟩ := nb BK333 hg; have ⟨NB335_340, NB340_335⟩ := nb BK335 hg; replace HO_4 := Aside0.mk (Kd.S_below (St_ HO_4.out) hb); replace HO_7 := Aside0.mk (Kd.R_below (Rt_ HO_7.out) hb); replace BK333 := bb BK333 hb; replace BK335 := bb BK335 hb; replace HB := bs HB hb; clear hb hg; have hnb23 := nn NB340_333; have hnb24 := nn NB340_335; have hcz25 := X.k11 BK340; have hnb26 := nn NB333_335; have hcz27 := X.k9 BK333))
             refine gen1_ (φ := fun w' => Aside0 (Kd.S (Kd.slice 23 k23) 33 w' w.heap.size (fun k_ => some k_ ≠ (v337 : Value).ownBlock) u4 x4_1) ∧ Aside0 (Kd.R k23 23 w' w.heap.size (fun _ => True) v337 x7_2) ∧ Aside0 (w'.heap[gb333]? = some (.cells #[.int .i64 a0_0, .int .i64 a0_1, .int .i64 a0_2, .int .i64 a0_3, .int .i64 a0_4, .slice (some ad334) l0_5.length c0_5, .slice A0_6 l0_6.length c0_6, .int .i64 a0_7, .int .i64 a0_8] 27 (0, 0))) ∧ Aside0 (w'.heap[gb335]? = some (.cells #[.string ((rd_T42 l0_5 x15_1).f0), .slice (some ad339) ((rd_T42 l0_5 x15_1).f1).length c334_1, .slice A334_2 ((rd_T42 l0_5 x15_1).f2).length c334_2, .slice A334_3 ((rd_T42 l0_5 x15_1).f3).length c334_3, .slice A334_4 ((rd_T42 l0_5 x15_1).f4).length c334_4, .slice A334_5 ((rd_T42 l0_5 x15_1).f5).length c334_5, .int .i64 ((rd_T42 l0_5 x15_1).f6)] 42 (0, 0))) ∧ Aside0 (w'.heap[gb340]? = some (.cells #[.string ((rd_T48 ((rd_T42 l0_5 x15_1).f1) x26_2).f0), .int .i64 ((rd_T48 ((rd_T42 l0_5 x15_1).f1) x26_2).f1), .int .i64 ((rd_T48 ((rd_T42 l0_5 x15_1).f1) x26_2).f2), .int .i64 ((rd_T48 ((rd_T42 l0_5 x15_1).f1) x26_2).f3.f0), .int .i64 ((rd_T48 ((rd_T42 l0_5 x15_1).f1) x26_2).f3.f1), .int .i64 ((rd_T48 ((rd_T42 l0_5 x15_1).f1) x26_2).f4), .int .i64 ((rd_T48 ((rd_T42 l0_5 x15_1).f1) x26_2).f5), .int .i64 ((rd_T48 ((rd_T42 l0_5 x15_1).f1) x26_2).f6), .int .i64 ((rd_T48 ((rd_T42 l0_5 x15_1).f1) x26_2).f7), .int .i64 ((rd_T48 ((rd_T42 l0_5 x15_1).f1) x26_2).f8), .int .i64 ((rd_T48 ((rd_T42 l0_5 x15_1).f1) x26_2).f9)] 48 (0, 0))) ∧ Aside0 (Below w.heap.size w w')) ⟨⟨(St_ (Kd.S_mono (Kd.S_far (p := ⟨gb340, 10, none⟩) (Kd.S_far (p := ⟨gb340, 9, none⟩) (Kd.S_far (p := ⟨gb340, 8, none⟩) (Kd.S_far (p := ⟨gb340, 7, none⟩) (Kd.S_far (p := ⟨gb340, 6, none⟩) (Kd.S_far (p := ⟨gb340, 5, none⟩) (Kd.S_far (p := ⟨gb340, 4, none⟩) (Kd.S_far (p := ⟨gb340, 3, none⟩) (Kd.S_far (p := ⟨gb340, 2, none⟩) (Kd.S_far (p := ⟨gb340, 1, none⟩) (Kd.S_far (p := ⟨gb340, 0, none⟩) (Kd.S_types HO_4.out BK340.out (by decide)) (fun _ hk => hk.2) (.string ((rd_T48 ((rd_T42 l0_5 x15_1).f1) x26_2).f0))) (fun _ hk => hk.2) (.int .i64 ((rd_T48 ((rd_T42 l0_5 x15_1).f1) x26_2).f1))) (fun _ hk => hk.2) (.int .i64 ((rd_T48 ((rd_T42 l0_5 x15_1).f1) x26_2).f2))) (fun _ hk => hk.2) (.int .i64 ((rd_T48 ((rd_T42 l0_5 x15_1).f1) x26_2).f3.f0))) (fun _ hk => hk.2) (.int .i64 ((rd_T48 ((rd_T42 l0_5 x15_1).f1) x26_2).f3.f1))) (fun _ hk => hk.2) (.int .i64 ((rd_T48 ((rd_T42 l0_5 x15_1).f1) x26_2).f4))) (fun _ hk => hk.2) (.int .i64 ((rd_T48 ((rd_T42 l0_5 x15_1).f1) x26_2).f5))) (fun _ hk => hk.2) (.int .i64 ((rd_T48 ((rd_T42 l0_5 x15_1).f1) x26_2).f6))) (fun _ hk => hk.2) (.int .i64 ((rd_T48 ((rd_T42 l0_5 x15_1).f1) x26_2).f7))) (fun _ hk => hk.2) (.int .i64 ((rd_T48 ((rd_T42 l0_5 x15_1).f1) x26_2).f8))) (fun _ hk => hk.2) (.int .i64 ((rd_T48 ((rd_T42 l0_5 x15_1).f1) x26_2).f9))) (fun _ h_ => h_.1)))⟩, ⟨(Rt_ (Kd.R_mono (Kd.R_far (p := ⟨gb340, 10, none⟩) (Kd.R_far (p := ⟨gb340, 9, none⟩) (Kd.R_far (p := ⟨gb340, 8, none⟩) (Kd.R_far (p := ⟨gb340, 7, none⟩) (Kd.R_far (p := ⟨gb340, 6, none⟩) (Kd.R_far (p := ⟨gb340, 5, none⟩) (Kd.R_far (p := ⟨gb340, 4, none⟩) (Kd.R_far (p := ⟨gb340, 3, none⟩) (Kd.R_far (p := ⟨gb340, 2, none⟩) (Kd.R_far (p := ⟨gb340, 1, none⟩) (Kd.R_far (p := ⟨gb340, 0, none⟩) (Kd.R_types HO_7.out BK340.out (by decide)) (fun _ hk => hk.2) (.string ((rd_T48 ((rd_T42 l0_5 x15_1).f1) x26_2).f0))) (fun _ hk => hk.2) (.int .i64 ((rd_T48 ((rd_T42 l0_5 x15_1).f1) x26_2).f1))) (fun _ hk => hk.2) (.int .i64 ((rd_T48 ((rd_T42 l0_5 x15_1).f1) x26_2).f2))) (fun _ hk => hk.2) (.int .i64 ((rd_T48 ((rd_T42 l0_5 x15_1).f1) x26_2).f3.f0))) (fun _ hk => hk.2) (.int .i64 ((rd_T48 ((rd_T42 l0_5 x15_1).f1) x26_2).f3.f1))) (fun _ hk => hk.2) (.int .i64 ((rd_T48 ((rd_T42 l0_5 x15_1).f1) x26_2).f4))) (fun _ hk => hk.2) (.int .i64 ((rd_T48 ((rd_T42 l0_5 x15_1).f1) x26_2).f5))) (fun _ hk => hk.2) (.int .i64 ((rd_T48 ((rd_T42 l0_5 x15_1).f1) x26_2).f6))) (fun _ hk => hk.2) (.int .i64 ((rd_T48 ((rd_T42 l0_5 x15_1).f1) x26_2).f7))) (fun _ hk => hk.2) (.int .i64 ((rd_T48 ((rd_T42 l0_5 x15_1).f1) x26_2).f8))) (fun _ hk => hk.2) (.int .i64 ((rd_T48 ((rd_T42 l0_5 x15_1).f1) x26_2).f9))) (fun _ h_ => h_.1)))⟩, bu_ BK333, bu_ BK335, bq_ BK340 (e := by simp), ⟨bf HB⟩⟩ ?_
             (try clear hcz25); (try clear hcz27); (try clear hx339_0); (try clear hx339_1); (try clear hx339_10); (try clear hx339_2); (try clear hx339_3); (try clear hx339_4); (try clear hx339_5); (try clear hx339_6); (try clear hx339_7); (try clear hx339_8); (try clear hx339_9); (try clear HO_4); (try clear HO_7); (try clear BK333); (try clear BK335); (try clear BK340); (try clear HB)
             rintro wg_ ⟨HO_4, HO_7, BK333, BK335, BK340, HB⟩
             have hcg1 := X.k11 BK340
             have hcg2 := X.k9 BK333
             go_upto_region 10 with (first | ((with_reducible refine gc 10 rfl ?_); refine gm_ (some 35) rfl rfl Tryz.func10 (demand_Ratio.calls _ ((rd_T48 ((rd_T42 l0_5 x15_1).f1) x26_2).f0) ((rd_T48 ((rd_T42 l0_5 x15_1).f1) x26_2).f1) ((rd_T48 ((rd_T42 l0_5 x15_1).f1) x26_2).f2) ((rd_T48 ((rd_T42 l0_5 x15_1).f1) x26_2).f3.f0) ((rd_T48 ((rd_T42 l0_5 x15_1).f1) x26_2).f3.f1) ((rd_T48 ((rd_T42 l0_5 x15_1).f1) x26_2).f4) ((rd_T48 ((rd_T42 l0_5 x15_1).f1) x26_2).f5) ((rd_T48 ((rd_T42 l0_5 x15_1).f1) x26_2).f6) ((rd_T48 ((rd_T42 l0_5 x15_1).f1) x26_2).f7) ((rd_T48 ((rd_T42 l0_5 x15_1).f1) x26_2).f8) ((rd_T48 ((rd_T42 l0_5 x15_1).f1) x26_2).f9) _ _ _ _ _ _ A18.out (tt GT)) ag ?_; intro w28 hb; replace HO_4 := Aside0.mk (Kd.S_below HO_4.out hb); replace HO_7 := Aside0.mk (Kd.R_below HO_7.out hb); replace BK333 := bb BK333 hb; replace BK335 := bb BK335 hb; replace BK340 := bb BK340 hb; replace HB := bs HB hb; (try clear hb)) | ((with_reducible refine gd 10 rfl ?_); refine bx_ 10 23 #[.int .i64 0, .int .i64 0] rfl rfl ?_; intro gb344 hg w29 BK344 hb; have GE344 := bz HB hg; have ⟨NB333_344, NB344_333⟩ := nb BK333 hg; have ⟨NB335_344, NB344_335⟩ := nb BK335 hg; have ⟨NB340_344, NB344_340⟩ := nb BK340 hg; replace HO_4 := Aside0.mk (Kd.S_below (Kd.S_elderB (St_ HO_4.out) gb344 (Nat.le_of_eq hg.symm)) hb); replace HO_7 := Aside0.mk (Kd.R_below (Kd.R_elderB (Rt_ HO_7.out) gb344 (Nat.le_of_eq hg.symm)) hb); replace BK333 := bb BK333 hb; replace BK335 := bb BK335 hb; replace BK340 := bb BK340 hb; replace HB := bs HB hb; clear hb hg; have hnb30 := nn NB344_333; have hnb31 := nn NB344_335; have hnb32 := nn NB344_340; have hcz33 := X.k2 BK344) | ((with_reducible refine gate_store (t := 23) (p := 10) rfl ?_); refine store_event (t := 23) (p := 10) (v := ?vo_w34) (w1 := ((w29.setCell ⟨gb344, 0, none⟩ (.int .i64 t341)).setCell ⟨gb344, 1, none⟩ (.int .i64 t342))) ?hg ?ho ?hn ?hr ?_; (case ho => rfl); (case hg => rfl); (case hn => rfl); (case hr => first | (go_simp; done) | (go_simp; rfl)); intro w34 hw; have n0_ : Aside0 (Kd.S (Kd.slice 23 k23) 33 w34 w.heap.size (fun k_ => some k_ ≠ (v337 : Value).ownBlock ∧ k_ ≠ gb344) u4 x4_1) := ⟨(by rw [hw]; exact (St_ (Kd.S_mono (Kd.S_far (p := ⟨gb344, 1, none⟩) (Kd.S_far (p := ⟨gb344, 0, none⟩) (Kd.S_mono HO_4.out (fun k_ hk => (⟨hk, hk.2⟩ : _ ∧ k_ ≠ gb344))) (fun _ hk => hk.2) (.int .i64 t341)) (fun _ hk => hk.2) (.int .i64 t342)) (fun _ hk => ⟨hk.1.1, hk.1.2⟩))))⟩; have n1_ : Aside0 (Kd.R k23 23 w34 w.heap.size (fun k_ => k_ ≠ gb344) v337 x7_2) := ⟨(by rw [hw]; exact (Rt_ (Kd.R_mono (Kd.R_far (p := ⟨gb344, 1, none⟩) (Kd.R_far (p := ⟨gb344, 0, none⟩) (Kd.R_mono HO_7.out (fun k_ hk => (⟨hk, hk.2⟩ : _ ∧ k_ ≠ gb344))) (fun _ hk => hk.2) (.int .i64 t341)) (fun _ hk => hk.2) (.int .i64 t342)) (fun _ hk => hk.1.2))))⟩; have n2_ : Aside0 (w34.heap[gb333]? = some (.cells #[.int .i64 a0_0, .int .i64 a0_1, .int .i64 a0_2, .int .i64 a0_3, .int .i64 a0_4, .slice (some ad334) l0_5.length c0_5, .slice A0_6 l0_6.length c0_6, .int .i64 a0_7, .int .i64 a0_8] 27 (0, 0))) := ⟨(by rw [hw]; exact (bx BK333))⟩; have n3_ : Aside0 (w34.heap[gb335]? = some (.cells #[.string ((rd_T42 l0_5 x15_1).f0), .slice (some ad339) ((rd_T42 l0_5 x15_1).f1).length c334_1, .slice A334_2 ((rd_T42 l0_5 x15_1).f2).length c334_2, .slice A334_3 ((rd_T42 l0_5 x15_1).f3).length c334_3, .slice A334_4 ((rd_T42 l0_5 x15_1).f4).length c334_4, .slice A334_5 ((rd_T42 l0_5 x15_1).f5).length c334_5, .int .i64 ((rd_T42 l0_5 x15_1).f6)] 42 (0, 0))) := ⟨(by rw [hw]; exact (bx BK335))⟩; have n4_ : Aside0 (w34.heap[gb340]? = some (.cells #[.string ((rd_T48 ((rd_T42 l0_5 x15_1).f1) x26_2).f0), .int .i64 ((rd_T48 ((rd_T42 l0_5 x15_1).f1) x26_2).f1), .int .i64 ((rd_T48 ((rd_T42 l0_5 x15_1).f1) x26_2).f2), .int .i64 ((rd_T48 ((rd_T42 l0_5 x15_1).f1) x26_2).f3.f0), .int .i64 ((rd_T48 ((rd_T42 l0_5 x15_1).f1) x26_2).f3.f1), .int .i64 ((rd_T48 ((rd_T42 l0_5 x15_1).f1) x26_2).f4), .int .i64 ((rd_T48 ((rd_T42 l0_5 x15_1).f1) x26_2).f5), .int .i64 ((rd_T48 ((rd_T42 l0_5 x15_1).f1) x26_2).f6), .int .i64 ((rd_T48 ((rd_T42 l0_5 x15_1).f1) x26_2).f7), .int .i64 ((rd_T48 ((rd_T42 l0_5 x15_1).f1) x26_2).f8), .int .i64 ((rd_T48 ((rd_T42 l0_5 x15_1).f1) x26_2).f9)] 48 (0, 0))) := ⟨(by rw [hw]; exact (bx BK340))⟩; have n5_ : Aside0 (w34.heap[gb344]? = some (.cells #[.int .i64 t341, .int .i64 t342] 23 (0, 0))) := ⟨(by rw [hw]; exact (br_ BK344))⟩; have n6_ : Aside0 (Below w.heap.size w w34) := ⟨(by rw [hw]; exact (bf HB))⟩; clear hw; clear HO_4; clear HO_7; clear BK333; clear BK335; clear BK340; clear BK344; clear HB; have HO_4 := n0_; have HO_7 := n1_; have BK333 := n2_; have BK335 := n3_; have BK340 := n4_; have BK344 := n5_; have HB := n6_; clear n0_ n1_ n2_ n3_ n4_ n5_ n6_; have hcz35 := X.k2 BK344))
             by_cases c19 : t343 = 0
             ·rw [if_pos c19] at H
              have c19b0 : (t343 == 0) = true := beq_iff_eq.mpr c19
              have c19b1 : (t343 != 0) = false := bne_eq_false_iff_eq.mpr c19
              clear c19
              by_cases c20 : x26_2 < (x7_2.length : Int)
              ·rw [if_pos c20] at H
               have c20b0 : decide (x26_2 < (x7_2.length : Int)) = true := decide_eq_true c20
               clear c20
               obtain ⟨y345, hy345⟩ : ∃ y_ : List (S23), y_ = (x7_2.set (x26_2 : Int).toNat (⟨t341, t342⟩ : S23)) := ⟨_, rfl⟩
               replace H : (demand_Table.l1 k2 x4_1 y345 l0_5 (l0_5.length : Int) x15_1 ((rd_T42 l0_5 x15_1).f1) (((rd_T42 l0_5 x15_1).f1).length : Int) (wrap64 (x26_2 + 1)) a0_0 a0_1 a0_2 a0_3 a0_4 l0_5 l0_6 a0_7 a0_8) = some (r1, r2) := by first | (rw [hy345]; with_reducible exact H) | (have H2_ := (Option.bind_some _ _).symm.trans H; rw [hy345]; with_reducible exact H2_) | (have H2_ := (Option.bind_some _ _).symm.trans H; with_reducible exact H2_) | with_reducible exact H | (rw [hy345]; exact H) | exact H
               have Ny345 := Aside0.mk hy345
               clear hy345
               have H' := Aside0.mk H
               clear H
               (have p21 : 0 ≤ (x26_2 : Int) := od_; have q21 : (x26_2 : Int) < ((x7_2.length : Int) : Int) := od_; obtain ⟨go21, co21, eo21, gb21, gl21, cl21, HG21⟩ := Kd.R_form HO_7.out (by omega); (first | cases eo21 | (injection eo21 with ea_ en_ ec_; (first | subst ea_ | (injection ea_ with ea_; subst ea_)); subst ec_; clear en_)); have GB21 := Aside0.mk gb21; have GG21 := Aside0.mk HG21; clear gb21 gl21 HG21; obtain ⟨ce21, hcl21, hM21, hcc21, hfr21⟩ := Kd.R_elem HO_7.out z23 (x26_2 : Int) p21 q21; obtain rfl := k23_openM hM21; have hx21_0 : w34.cell? ⟨go21, (x26_2 : Int).toNat * 2, none⟩ = some (.int .i64 ((rd_T23 x7_2 x26_2).f0)) := hcc21 0 _ rfl; have hx21_1 : w34.cell? ⟨go21, (x26_2 : Int).toNat * 2 + 1, none⟩ = some (.int .i64 ((rd_T23 x7_2 x26_2).f1)) := hcc21 1 _ rfl; have hf21_0 : w34.frozen? ⟨go21, (x26_2 : Int).toNat * 2, none⟩ = false := hfr21 0; have hf21_1 : w34.frozen? ⟨go21, (x26_2 : Int).toNat * 2 + 1, none⟩ = false := hfr21 1; clear hcl21 hcc21 hfr21 hM21; replace p21 := eq_true p21; replace q21 := eq_true q21; have HX36 := Aside0.mk (show Kd.R k23 23 w34 w.heap.size (fun k_ => k_ ≠ gb344) (.slice (some ⟨go21, 0, none⟩) x7_2.length co21) x7_2 from (Rt_ HO_7.out)); obtain ⟨ce36, hcl36, hM36, hcc36, hfr36⟩ := Kd.R_elem HX36.out z23 (x26_2 : Int) (od_) (by have h_ : (x26_2 : Int) < ((x7_2.length : Int) : Int) := od_; first | exact h_ | (have e_ := (Kd.R_reads' HO_7.out).1; omega) | simpa using h_); obtain rfl := k23_openM hM36; have HP36 := Kd.R_seg HX36.out (x26_2 : Int) (od_) (by have h_ : (x26_2 : Int) < ((x7_2.length : Int) : Int) := od_; first | exact h_ | (have e_ := (Kd.R_reads' HO_7.out).1; omega) | simpa using h_) (seg := [.int .i64 t341, .int .i64 t342]) (j := 0) hcl36 hcc36 (show 2 ≤ 2 from by decide) (x' := (⟨t341, t342⟩ : S23)) (k23_mkM _ _ _ (⟨t341, t342⟩ : S23) ) (fun _ hk => hk); have hx36_0 := hcc36 0 _ rfl; (try simp only [show (k23).sz = 2 from rfl, Nat.mul_one, Nat.add_zero] at hx36_0); have hf36_0 := hfr36 0; (try simp only [show (k23).sz = 2 from rfl, Nat.mul_one, Nat.add_zero] at hf36_0); have hx36_1 := hcc36 1 _ rfl; (try simp only [show (k23).sz = 2 from rfl, Nat.mul_one, Nat.add_zero] at hx36_1); have hf36_1 := hfr36 1; (try simp only [show (k23).sz = 2 from rfl, Nat.mul_one, Nat.add_zero] at hf36_1); clear hcl36 hcc36 hfr36 hM36)
               go_wp2_with (first | ((with_reducible refine gate_store (t := 23) (p := 44) rfl ?_); refine store_event (t := 23) (p := 44) (v := ?vo_w37) (w1 := ((w34.setCell ⟨go21, (x26_2 : Int).toNat * 2, none⟩ (.int .i64 t341)).setCell ⟨go21, (x26_2 : Int).toNat * 2 + 1, none⟩ (.int .i64 t342))) ?hg ?ho ?hn ?hr ?_; (case ho => rfl); (case hg => rfl); (case hn => rfl); (case hr => first | (go_simp; done) | (go_simp; rfl)); intro w37 hw; have hg : w34.grownBy w37 (some go21) := (by rw [hw]; exact HP36.2); have hp_ : Kd.R k23 23 w37 w.heap.size (fun k_ => k_ ≠ gb344) (.slice (some ⟨go21, 0, none⟩) x7_2.length co21) y345 := (by rw [hw, Ny345.out]; exact HP36.1); clear HP36; replace HO_4 := Aside0.mk (Kd.S_after (v := (.slice (some ⟨go21, 0, none⟩) x7_2.length co21)) (v1 := (.slice (some ⟨go21, 0, none⟩) x7_2.length co21)) (ok := (fun k_ => k_ ≠ gb344)) (St_ (Kd.S_mono HO_4.out (fun _ hk => ⟨hk.2, hk.1⟩))) hg (.inl rfl)); replace BK333 := Aside0.mk (blk_grown (g := gb333) (o := .cells #[.int .i64 a0_0, .int .i64 a0_1, .int .i64 a0_2, .int .i64 a0_3, .int .i64 a0_4, .slice (some ad334) l0_5.length c0_5, .slice A0_6 l0_6.length c0_6, .int .i64 a0_7, .int .i64 a0_8] 27 (0, 0)) (bx BK333) hg (Kd.R_ne HO_7.out BK333.out (by decide))); replace BK335 := Aside0.mk (blk_grown (g := gb335) (o := .cells #[.string ((rd_T42 l0_5 x15_1).f0), .slice (some ad339) ((rd_T42 l0_5 x15_1).f1).length c334_1, .slice A334_2 ((rd_T42 l0_5 x15_1).f2).length c334_2, .slice A334_3 ((rd_T42 l0_5 x15_1).f3).length c334_3, .slice A334_4 ((rd_T42 l0_5 x15_1).f4).length c334_4, .slice A334_5 ((rd_T42 l0_5 x15_1).f5).length c334_5, .int .i64 ((rd_T42 l0_5 x15_1).f6)] 42 (0, 0)) (bx BK335) hg (Kd.R_ne HO_7.out BK335.out (by decide))); replace BK340 := Aside0.mk (blk_grown (g := gb340) (o := .cells #[.string ((rd_T48 ((rd_T42 l0_5 x15_1).f1) x26_2).f0), .int .i64 ((rd_T48 ((rd_T42 l0_5 x15_1).f1) x26_2).f1), .int .i64 ((rd_T48 ((rd_T42 l0_5 x15_1).f1) x26_2).f2), .int .i64 ((rd_T48 ((rd_T42 l0_5 x15_1).f1) x26_2).f3.f0), .int .i64 ((rd_T48 ((rd_T42 l0_5 x15_1).f1) x26_2).f3.f1), .int .i64 ((rd_T48 ((rd_T42 l0_5 x15_1).f1) x26_2).f4), .int .i64 ((rd_T48 ((rd_T42 l0_5 x15_1).f1) x26_2).f5), .int .i64 ((rd_T48 ((rd_T42 l0_5 x15_1).f1) x26_2).f6), .int .i64 ((rd_T48 ((rd_T42 l0_5 x15_1).f1) x26_2).f7), .int .i64 ((rd_T48 ((rd_T42 l0_5 x15_1).f1) x26_2).f8), .int .i64 ((rd_T48 ((rd_T42 l0_5 x15_1).f1) x26_2).f9)] 48 (0, 0)) (bx BK340) hg (Kd.R_ne HO_7.out BK340.out (by decide))); replace BK344 := Aside0.mk (blk_grown (g := gb344) (o := .cells #[.int .i64 t341, .int .i64 t342] 23 (0, 0)) (bx BK344) hg (Kd.R_away HO_7.out (fun _ hk => hk))); replace HO_7 := Aside0.mk (hp_); replace HB := Aside0.mk ((by rw [hw]; exact below_set (below_set (HB.out) GB21.out) GB21.out : Below w.heap.size w w37)); clear hg hw hp_))
               go_roundg k2
               case measure => have := HK1.out; have := HK2.out; omega
               case rel => exact ⟨(y345), (wrap64 (x26_2 + 1)), (aq), H', ⟨by have := HK1.out; have := HK2.out; omega⟩, ⟨St_ (Kd.S_mono HO_4.out (fun _ hk => hk.2))⟩, ⟨Rt_ (Kd.R_mono HO_7.out (fun _ hk => trivial))⟩, bu_ BK333, bu_ BK335, ⟨bf HB⟩⟩
              ·rw [if_neg c20] at H
               exact absurd H (by simp)
             ·rw [if_neg c19] at H
              have c19b0 : (t343 == 0) = false := beq_eq_false_iff_ne.mpr c19
              have c19b1 : (t343 != 0) = true := bne_iff_ne.mpr c19
              simp only [Option.some.injEq, Prod.mk.injEq] at H
              obtain ⟨rfl, rfl⟩ := H
              go_wp2
              go_ret2
              exact ⟨_, ae, by first | exact Kd.S_nil _ _ _ _ _ | exact Kd.N_nil _ _ _ _ _ | exact Kd.V_nil _ _ _ _ _ | exact Kd.Q_nil _ _ _ _ _ | exact Kd.R_nil _ _ _ _ _, bf HB⟩
            ·rw [if_neg c17] at H
             exact absurd H (by simp)
           ·rw [if_neg c16] at H
            exact absurd H (by simp)
          ·rw [if_neg c15] at H
           have c15b0 : decide (x26_2 < (((rd_T42 l0_5 x15_1).f1).length : Int)) = false := decide_eq_false c15
           clear c15
           by_cases c50 : x4_1.length < 5864062014805
           ·rw [if_pos c50] at H
            have LMc50 := Aside0.mk c50
            clear c50
            obtain ⟨y346, hy346⟩ : ∃ y_ : List (List (S23)), y_ = (x4_1 ++ [x7_2]) := ⟨_, rfl⟩
            replace H : (demand_Table.l0 k2 y346 l0_5 (l0_5.length : Int) (wrap64 (x15_1 + 1)) a0_0 a0_1 a0_2 a0_3 a0_4 l0_5 l0_6 a0_7 a0_8) = some (r1, r2) := by first | (rw [hy346]; with_reducible exact H) | (have H2_ := (Option.bind_some _ _).symm.trans H; rw [hy346]; with_reducible exact H2_) | (have H2_ := (Option.bind_some _ _).symm.trans H; with_reducible exact H2_) | with_reducible exact H | (rw [hy346]; exact H) | exact H
            have Ny346 := Aside0.mk hy346
            clear hy346
            have H' := Aside0.mk H
            clear H
            obtain ⟨Ao52, co52, eo52⟩ := Kd.R_slice HO_7.out
            subst eo52
            go_wp2_with (first | ((with_reducible refine gate_builtin (b := .append) (xs := #[.tmp 46, .tmp 48]) rfl ?_); at_builtin; refine Kd.S_append (Kd.slice 23 k23) (w0 := w) w.heap.size rfl (.tmp 46) (.tmp 48) 29 33 (.slice none 0 0) 24 rfl Tryz.underlying29 info33 rfl (by decide) (by omega) u4 x4_1 x7_2 [.slice Ao52 x7_2.length co52] (fun _ => True) (fun k_ => some k_ = (.slice Ao52 x7_2.length co52 : Value).ownBlock) rfl rfl ?aP (fun k_ hk_ => ((Kd.R_mono (ok' := fun k_ => ((fun _ => True)) k_ ∧ some k_ ≠ (u4 : Value).ownBlock) (Kd.R_apart' (HO_7.out) (Kd.S_typed HO_4.out) (by decide)) (fun k_ hk => ⟨trivial, hk.2⟩))).1 k_ hk_.symm) ?aF ?aO ?aB ?aS ?aL ?_; (case aP => exact Kd.M_row (Kd.R_mono (Kd.R_tight rfl (Kd.R_mono (ok' := fun k_ => ((fun _ => True)) k_ ∧ some k_ ≠ (u4 : Value).ownBlock) (Kd.R_apart' (HO_7.out) (Kd.S_typed HO_4.out) (by decide)) (fun k_ hk => ⟨trivial, hk.2⟩))) (fun _ h_ => h_))); (case aB => exact (bf HB)); (case aF => exact (fun _ _ => trivial)); (case aO => exact (St_ (Kd.S_mono HO_4.out (fun k_ hk => ⟨trivial, fun e_ => hk e_⟩)))); (case aS => exact (below_size (bf HB))); (case aL => have := LMc50.out; omega); intro v347 w51 ho hb hg hat; rw [← Ny346.out] at ho; have n0_ := Aside0.mk (blk_grown (g := gb333) (o := .cells #[.int .i64 a0_0, .int .i64 a0_1, .int .i64 a0_2, .int .i64 a0_3, .int .i64 a0_4, .slice (some ad334) l0_5.length c0_5, .slice A0_6 l0_6.length c0_6, .int .i64 a0_7, .int .i64 a0_8] 27 (0, 0)) (bx BK333) hg (Kd.S_ne HO_4.out BK333.out (by decide))); have n1_ := Aside0.mk (blk_grown (g := gb335) (o := .cells #[.string ((rd_T42 l0_5 x15_1).f0), .slice A334_1 ((rd_T42 l0_5 x15_1).f1).length c334_1, .slice A334_2 ((rd_T42 l0_5 x15_1).f2).length c334_2, .slice A334_3 ((rd_T42 l0_5 x15_1).f3).length c334_3, .slice A334_4 ((rd_T42 l0_5 x15_1).f4).length c334_4, .slice A334_5 ((rd_T42 l0_5 x15_1).f5).length c334_5, .int .i64 ((rd_T42 l0_5 x15_1).f6)] 42 (0, 0)) (bx BK335) hg (Kd.S_ne HO_4.out BK335.out (by decide))); have n2_ := Aside0.mk (hb); have n3_ := Aside0.mk (ho); clear BK333; clear BK335; clear HB; clear HO_4; clear HO_7; have BK333 := n0_; have BK335 := n1_; have HB := n2_; have HO348 := n3_; clear n0_ n1_ n2_ n3_; clear ho hb hg hat))
            go_roundg k2
            case measure => have := HK1.out; have := HK2.out; omega
            case rel => exact ⟨(y346), (wrap64 (x15_1 + 1)), (aq), H', ⟨by have := HK1.out; have := HK2.out; omega⟩, ⟨St_ HO348.out⟩, bu_ BK333, ⟨bf HB⟩⟩
           ·rw [if_neg c50] at H
            exact absurd H (by simp)
       ·rw [if_neg c8] at H
        exact absurd H (by simp)
      ·rw [if_neg c7] at H
       exact absurd H (by simp)
     ·rw [if_neg c6] at H
      exact absurd H (by simp)
    ·rw [if_neg c5] at H
     exact absurd H (by simp)
   ·rw [if_neg c4] at H
    have c4b0 : decide (x15_1 < (l0_5.length : Int)) = false := decide_eq_false c4
    clear c4
    simp only [Option.some.injEq, Prod.mk.injEq] at H
    obtain ⟨rfl, rfl⟩ := H
    go_wp2
    go_ret2
    exact ⟨_, ae, by (with_reducible repeat (first | apply Kd.S_alloc | apply Kd.S_drewN | apply Kd.S_drew)); exact HO_4.out, bf HB⟩

end Go.Proofs.YtfhokgkpcphmlaaGreatDoor.X
