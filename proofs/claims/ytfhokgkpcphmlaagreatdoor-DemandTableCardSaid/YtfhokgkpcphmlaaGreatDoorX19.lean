/- Walks: each '.calls' says that the Go function comes to what its Lean function tells. Conditions: as each theorem's head says. -/
import Derived.Test.YtfhokgkpcphmlaaGreatDoorXD
import Derived.Test.YtfhokgkpcphmlaaGreatDoorX0
import Derived.Test.YtfhokgkpcphmlaaGreatDoorX18
namespace Go.Proofs.YtfhokgkpcphmlaaGreatDoor.X
open Go.RowKit Go.Proofs.YtfhokgkpcphmlaaGreatDoorW.PrintWords Go.Proofs.YtfhokgkpcphmlaaGreatDoorW.PrintLast Go.Proofs.YtfhokgkpcphmlaaGreatDoorW.PrintMore
attribute [local go_sem] max2_int min2_int max_two min_two max_three min_three max_four min_four   -- for this text's walks alone
set_option linter.unusedVariables false
set_option maxHeartbeats 8000000
set_option maxRecDepth 100000
set_option linter.unusedSimpArgs false

/-! ### carrefourref09_Table: function 6 -/
def carrefourref09_Table.T9 : Bool × List (List Nat × List Nat) := (true, [([], []), ([0], [0]), ([], []), ([1, 2], [1, 2]), ([3], [3]), ([4], [4]), ([], []), ([5, 6], [5, 6]), ([7], [7]), ([], []), ([9], [9]), ([8, 10], [8, 10]), ([11], [11]), ([12], [12]), ([12], [12]), ([], []), ([15, 13, 11, 0, 1, 2, 3, 4, 5, 6, 7, 8, 9, 10, 11, 12, 13, 15], [13, 15]), ([14, 16, 0, 1, 2, 3, 4, 5, 6, 7, 8, 9, 10, 11, 12, 13, 14, 15, 16], [14])])
def carrefourref09_Table.B9 : List Nat := [0, 1, 0, 7, 15, 31, 0, 127, 255, 0, 512, 2047, 4095, 8191, 8191, 0, 49151, 131071]
theorem carrefourref09_Table.tab9 : rtab .any (opsOf Tryz.f6 9) = carrefourref09_Table.T9 := by kernel_rfl
theorem carrefourref09_Table.bits9 : waitsOk carrefourref09_Table.T9.2 carrefourref09_Table.B9 = true := by kernel_rfl
theorem carrefourref09_Table.calls (k : Nat) (a0_0 : Int) (a0_1 : Int) (a0_2 : Int) (a0_3 : Int) (a0_4 : Int) (A0_5 : Option Addr) (c0_5 : Nat) (l0_5 : List (S42)) (A0_6 : Option Addr) (c0_6 : Nat) (l0_6 : List (S45)) (a0_7 : Int) (a0_8 : Int) (r1 : List (List (S23))) (r2 : Int) (w : World) (hr0_5 : Kd.C k42 w A0_5 l0_5.length l0_5) (hc0_5 : l0_5.length ≤ c0_5) (hr0_6 : Kd.C k45 w A0_6 l0_6.length l0_6) (hc0_6 : l0_6.length ≤ c0_6) (h : carrefourref09_Table.f k a0_0 a0_1 a0_2 a0_3 a0_4 l0_5 l0_6 a0_7 a0_8 = some (r1, r2)) :
  Calls Tryz.prog 6 #[.agg #[.int .i64 a0_0, .int .i64 a0_1, .int .i64 a0_2, .int .i64 a0_3, .int .i64 a0_4, .slice A0_5 l0_5.length c0_5, .slice A0_6 l0_6.length c0_6, .int .i64 a0_7, .int .i64 a0_8]] w fun e w' => ∃ v0_ : Value, e = .returned (.tuple #[v0_, .int .i64 r2]) ∧ Kd.S (Kd.slice 23 k23) 33 w' w.heap.size (fun _ => True) v0_ r1 ∧ Below w.heap.size w w' := by
 have hu27 := Tryz.underlying27
 have hu48 := Tryz.underlying48
 have hu23 := Tryz.underlying23
 have HR0_5 := Aside0.mk hr0_5
 have HC0_5 := Aside0.mk hc0_5
 clear hr0_5 hc0_5
 have HR0_6 := Aside0.mk hr0_6
 have HC0_6 := Aside0.mk hc0_6
 clear hr0_6 hc0_6
 have HB := Aside0.mk (Below.refl w.heap.size w)
 have H : (carrefourref09_Table.l0 k ([] : List (List (S23))) 0 a0_0 a0_1 a0_2 a0_3 a0_4 l0_5 l0_6 a0_7 a0_8) = some (r1, r2) := h
 clear h
 have H' := Aside0.mk H
 clear H
 go_enter Tryz.func6, Tryz.ntmps6
 go_wp2_with (first | ((with_reducible refine gd 1 rfl ?_); refine bx_ 1 27 #[.int .i64 a0_0, .int .i64 a0_1, .int .i64 a0_2, .int .i64 a0_3, .int .i64 a0_4, .slice A0_5 l0_5.length c0_5, .slice A0_6 l0_6.length c0_6, .int .i64 a0_7, .int .i64 a0_8] rfl rfl ?_; intro gb582 hg w2 BK582 hb; have GE582 := bz HB hg; replace HB := bs HB hb; clear hb hg))
 go_loopg [4, 5] k (fun kq v4 v5 w' => ∃ (x4_1 : List (List (S23))) (x5_1 : Int), v5 = .int .i64 x5_1 ∧ Aside0 (carrefourref09_Table.l0 kq x4_1 x5_1 a0_0 a0_1 a0_2 a0_3 a0_4 l0_5 l0_6 a0_7 a0_8 = some (r1, r2)) ∧ Aside0 (kq ≤ k) ∧ Aside0 (Kd.S (Kd.slice 23 k23) 33 w' w.heap.size (fun _ => True) v4 x4_1) ∧ Aside0 (w'.heap[gb582]? = some (.cells #[.int .i64 a0_0, .int .i64 a0_1, .int .i64 a0_2, .int .i64 a0_3, .int .i64 a0_4, (.slice A0_5 l0_5.length c0_5), (.slice A0_6 l0_6.length c0_6), .int .i64 a0_7, .int .i64 a0_8] 27 (0, 0))) ∧ Aside0 (Below w.heap.size w w'))
 case atStart => exact ⟨(([] : List (List (S23)))), (0), (aq), H', ⟨Nat.le_refl _⟩, ⟨by first | exact Kd.S_nil _ _ _ _ _ | exact Kd.N_nil _ _ _ _ _ | exact Kd.V_nil _ _ _ _ _ | exact Kd.Q_nil _ _ _ _ _ | exact Kd.R_nil _ _ _ _ _⟩, bu_ BK582, ⟨bf HB⟩⟩
 case round =>
  clear H'
  (try clear p2)
  obtain ⟨x4_1, x5_1, rfl, HA, HK1, HO_4, BK582, HB⟩ := hrel
  cases gk with
  | zero => exact absurd HA.out (by simp [carrefourref09_Table.l0])
  | succ k1 =>
   have H := HA.out
   clear HA
   simp only [carrefourref09_Table.l0] at H
   by_cases c3 : x5_1 < (l0_5.length : Int)
   ·rw [if_pos c3] at H
    have c3b0 : decide (x5_1 < (l0_5.length : Int)) = true := decide_eq_true c3
    clear c3
    have H' := Aside0.mk H
    clear H
    have hcz4 := X.k9 BK582
    go_wp2
    go_loopg [6, 7] k1 (fun kq v6 v7 w' => ∃ (x6_2 : List (S23)) (x7_2 : Int), v7 = .int .i64 x7_2 ∧ Aside0 (carrefourref09_Table.l1 kq x4_1 x5_1 x6_2 x7_2 a0_0 a0_1 a0_2 a0_3 a0_4 l0_5 l0_6 a0_7 a0_8 = some (r1, r2)) ∧ Aside0 (kq ≤ k1) ∧ Aside0 (Kd.S (Kd.slice 23 k23) 33 w' w.heap.size (fun k_ => some k_ ≠ (v6 : Value).ownBlock) u4 x4_1) ∧ Aside0 (Kd.R k23 23 w' w.heap.size (fun _ => True) v6 x6_2) ∧ Aside0 (w'.heap[gb582]? = some (.cells #[.int .i64 a0_0, .int .i64 a0_1, .int .i64 a0_2, .int .i64 a0_3, .int .i64 a0_4, (.slice A0_5 l0_5.length c0_5), (.slice A0_6 l0_6.length c0_6), .int .i64 a0_7, .int .i64 a0_8] 27 (0, 0))) ∧ Aside0 (Below w.heap.size w w'))
    case atStart => exact ⟨(([] : List (S23))), (0), (aq), H', ⟨Nat.le_refl _⟩, ⟨St_ (Kd.S_mono HO_4.out (fun _ hk => (by simp [Value.ownBlock])))⟩, ⟨by first | exact Kd.R_nil _ _ _ _ _ | exact Kd.N_nil _ _ _ _ _ | exact Kd.V_nil _ _ _ _ _ | exact Kd.Q_nil _ _ _ _ _ | exact Kd.S_nil _ _ _ _ _⟩, bu_ BK582, ⟨bf HB⟩⟩
    case round =>
     clear H'
     (try clear p2); (try clear c3); (try clear c3b0); (try clear hcz4); (try clear p2)
     obtain ⟨x6_2, x7_2, rfl, HA, HK2, HO_4, HO_6, BK582, HB⟩ := hrel
     cases gk with
     | zero => exact absurd HA.out (by simp [carrefourref09_Table.l1])
     | succ k2 =>
      have H := HA.out
      clear HA
      simp only [carrefourref09_Table.l1] at H
      by_cases c5 : 0 ≤ x5_1
      ·rw [if_pos c5] at H
       have c5b0 : decide (0 ≤ x5_1) = true := decide_eq_true c5
       clear c5
       by_cases c6 : x5_1 < (l0_5.length : Int)
       ·rw [if_pos c6] at H
        have c6b0 : decide (x5_1 < (l0_5.length : Int)) = true := decide_eq_true c6
        clear c6
        by_cases c7 : x7_2 < (((rd_T42 l0_5 x5_1).f1).length : Int)
        ·rw [if_pos c7] at H
         have c7b0 : decide (x7_2 < (((rd_T42 l0_5 x5_1).f1).length : Int)) = true := decide_eq_true c7
         clear c7
         by_cases c8 : 0 ≤ x7_2
         ·rw [if_pos c8] at H
          have c8b0 : decide (0 ≤ x7_2) = true := decide_eq_true c8
          clear c8
          replace H := bi_ H; obtain ⟨⟨t586, t587, t588⟩, A9, H⟩ := H
          (try dsimp only at H)
          by_cases c10 : t588 = 0
          ·rw [if_pos c10] at H
           have c10b0 : (t588 == 0) = true := beq_iff_eq.mpr c10
           have c10b1 : (t588 != 0) = false := bne_eq_false_iff_eq.mpr c10
           clear c10
           by_cases c11 : x6_2.length < 8796093022208
           ·rw [if_pos c11] at H
            have LMc11 := Aside0.mk c11
            clear c11
            obtain ⟨y590, hy590⟩ : ∃ y_ : List (S23), y_ = (x6_2 ++ [(⟨t586, t587⟩ : S23)]) := ⟨_, rfl⟩
            replace H : (carrefourref09_Table.l1 k2 x4_1 x5_1 y590 (wrap64 (x7_2 + 1)) a0_0 a0_1 a0_2 a0_3 a0_4 l0_5 l0_6 a0_7 a0_8) = some (r1, r2) := by first | (rw [hy590]; with_reducible exact H) | (have H2_ := (Option.bind_some _ _).symm.trans H; rw [hy590]; with_reducible exact H2_) | (have H2_ := (Option.bind_some _ _).symm.trans H; with_reducible exact H2_) | with_reducible exact H | (rw [hy590]; exact H) | exact H
            have Ny590 := Aside0.mk hy590
            clear hy590
            have H' := Aside0.mk H
            clear H
            have hcz12 := X.k9 BK582
            have p583 : 0 ≤ (x5_1 : Int) := od_
            have q583 : x5_1 < (l0_5.length : Int) := od_
            obtain ⟨ad583, A583_1, c583_1, A583_2, c583_2, A583_3, c583_3, A583_4, c583_4, A583_5, c583_5, e583, hx583_0, hx583_1, hx583_2, hx583_3, hx583_4, hx583_5, hx583_6, hl583_1, hi583_1, hl583_2, hi583_2, hl583_3, hi583_3, hl583_4, hi583_4, hl583_5, hi583_5⟩ := at_T42 HR0_5.out x5_1 p583 q583
            cases e583
            replace hx583_0 := hx_ HB hx583_0
            replace hx583_1 := hx_ HB hx583_1
            replace hx583_2 := hx_ HB hx583_2
            replace hx583_3 := hx_ HB hx583_3
            replace hx583_4 := hx_ HB hx583_4
            replace hx583_5 := hx_ HB hx583_5
            replace hx583_6 := hx_ HB hx583_6
            have HR583_1 := Aside0.mk hi583_1
            have HC583_1 := Aside0.mk hl583_1
            clear hi583_1 hl583_1
            have HR583_2 := Aside0.mk hi583_2
            have HC583_2 := Aside0.mk hl583_2
            clear hi583_2 hl583_2
            have HR583_3 := Aside0.mk hi583_3
            have HC583_3 := Aside0.mk hl583_3
            clear hi583_3 hl583_3
            have HR583_4 := Aside0.mk hi583_4
            have HC583_4 := Aside0.mk hl583_4
            clear hi583_4 hl583_4
            have HR583_5 := Aside0.mk hi583_5
            have HC583_5 := Aside0.mk hl583_5
            clear hi583_5 hl583_5
            replace p583 := eq_true p583
            replace q583 := eq_true q583
            try go_wp2
            replace HO_4 := Aside0.mk (Kd.S_drew HO_4.out)
            replace HO_6 := Aside0.mk (Kd.R_drew HO_6.out)
            replace BK582 := Aside0.mk (blk_drew BK582.out)
            replace HB := Aside0.mk (below_drew1 HB.out)
            have p584 : 0 ≤ (x5_1 : Int) := od_
            have q584 : x5_1 < (l0_5.length : Int) := od_
            obtain ⟨ad584, A584_1, c584_1, A584_2, c584_2, A584_3, c584_3, A584_4, c584_4, A584_5, c584_5, e584, hx584_0, hx584_1, hx584_2, hx584_3, hx584_4, hx584_5, hx584_6, hl584_1, hi584_1, hl584_2, hi584_2, hl584_3, hi584_3, hl584_4, hi584_4, hl584_5, hi584_5⟩ := at_T42 HR0_5.out x5_1 p584 q584
            have hw584_6 := hx584_6
            have hw584_5 := hx584_5
            have hw584_4 := hx584_4
            have hw584_3 := hx584_3
            have hw584_2 := hx584_2
            have hw584_1 := hx584_1
            have hw584_0 := hx584_0
            obtain rfl : ad583 = ad584 := (by injection e584)
            replace hx584_0 := hx_ HB hx584_0
            replace hx584_1 := hx_ HB hx584_1
            replace hx584_2 := hx_ HB hx584_2
            replace hx584_3 := hx_ HB hx584_3
            replace hx584_4 := hx_ HB hx584_4
            replace hx584_5 := hx_ HB hx584_5
            replace hx584_6 := hx_ HB hx584_6
            have HR584_1 := Aside0.mk hi584_1
            have HC584_1 := Aside0.mk hl584_1
            clear hi584_1 hl584_1
            have HR584_2 := Aside0.mk hi584_2
            have HC584_2 := Aside0.mk hl584_2
            clear hi584_2 hl584_2
            have HR584_3 := Aside0.mk hi584_3
            have HC584_3 := Aside0.mk hl584_3
            clear hi584_3 hl584_3
            have HR584_4 := Aside0.mk hi584_4
            have HC584_4 := Aside0.mk hl584_4
            clear hi584_4 hl584_4
            have HR584_5 := Aside0.mk hi584_5
            have HC584_5 := Aside0.mk hl584_5
            clear hi584_5 hl584_5
            replace p584 := eq_true p584
            replace q584 := eq_true q584
            have p585 : 0 ≤ (x7_2 : Int) := od_
            have q585 : x7_2 < (((rd_T42 l0_5 x5_1).f1).length : Int) := od_
            obtain ⟨ad585, e585, hx585_0, hx585_1, hx585_2, hx585_3, hx585_4, hx585_5, hx585_6, hx585_7, hx585_8, hx585_9, hx585_10⟩ := at_T48 HR584_1.out x7_2 p585 q585
            have hw585_10 := hx585_10
            have hw585_9 := hx585_9
            have hw585_8 := hx585_8
            have hw585_7 := hx585_7
            have hw585_6 := hx585_6
            have hw585_5 := hx585_5
            have hw585_4 := hx585_4
            have hw585_3 := hx585_3
            have hw585_2 := hx585_2
            have hw585_1 := hx585_1
            have hw585_0 := hx585_0
            cases e585
            replace hx585_0 := hx_ HB hx585_0
            replace hx585_1 := hx_ HB hx585_1
            replace hx585_2 := hx_ HB hx585_2
            replace hx585_3 := hx_ HB hx585_3
            replace hx585_4 := hx_ HB hx585_4
            replace hx585_5 := hx_ HB hx585_5
            replace hx585_6 := hx_ HB hx585_6
            replace hx585_7 := hx_ HB hx585_7
            replace hx585_8 := hx_ HB hx585_8
            replace hx585_9 := hx_ HB hx585_9
            replace hx585_10 := hx_ HB hx585_10
            replace p585 := eq_true p585
            replace q585 := eq_true q585
            refine start_ (n := 18) (S := fun w' => c_ w' gb582 0 (.int .i64 a0_0) ∧ c_ w' gb582 1 (.int .i64 a0_1) ∧ c_ w' gb582 2 (.int .i64 a0_2) ∧ c_ w' gb582 3 (.int .i64 a0_3) ∧ c_ w' gb582 4 (.int .i64 a0_4) ∧ c_ w' gb582 5 (.slice (some ad583) l0_5.length c0_5) ∧ c_ w' gb582 6 (.slice A0_6 l0_6.length c0_6) ∧ c_ w' gb582 7 (.int .i64 a0_7) ∧ c_ w' gb582 8 (.int .i64 a0_8) ∧ w'.cell? (ad583.add ((x5_1).toNat * 7)) = some (.string ((rd_T42 l0_5 x5_1).f0)) ∧ w'.cell? ⟨(ad583.add ((x5_1).toNat * 7)).block, (ad583.add ((x5_1).toNat * 7)).off + 1, none⟩ = some (.slice (some ad585) ((rd_T42 l0_5 x5_1).f1).length c584_1) ∧ w'.cell? ⟨(ad583.add ((x5_1).toNat * 7)).block, (ad583.add ((x5_1).toNat * 7)).off + 2, none⟩ = some (.slice A584_2 ((rd_T42 l0_5 x5_1).f2).length c584_2) ∧ w'.cell? ⟨(ad583.add ((x5_1).toNat * 7)).block, (ad583.add ((x5_1).toNat * 7)).off + 3, none⟩ = some (.slice A584_3 ((rd_T42 l0_5 x5_1).f3).length c584_3) ∧ w'.cell? ⟨(ad583.add ((x5_1).toNat * 7)).block, (ad583.add ((x5_1).toNat * 7)).off + 4, none⟩ = some (.slice A584_4 ((rd_T42 l0_5 x5_1).f4).length c584_4) ∧ w'.cell? ⟨(ad583.add ((x5_1).toNat * 7)).block, (ad583.add ((x5_1).toNat * 7)).off + 5, none⟩ = some (.slice A584_5 ((rd_T42 l0_5 x5_1).f5).length c584_5) ∧ w'.cell? ⟨(ad583.add ((x5_1).toNat * 7)).block, (ad583.add ((x5_1).toNat * 7)).off + 6, none⟩ = some (.int .i64 ((rd_T42 l0_5 x5_1).f6)) ∧ w'.cell? (ad585.add ((x7_2).toNat * 11)) = some (.string ((rd_T48 ((rd_T42 l0_5 x5_1).f1) x7_2).f0)) ∧ w'.cell? ⟨(ad585.add ((x7_2).toNat * 11)).block, (ad585.add ((x7_2).toNat * 11)).off + 1, none⟩ = some (.int .i64 ((rd_T48 ((rd_T42 l0_5 x5_1).f1) x7_2).f1)) ∧ w'.cell? ⟨(ad585.add ((x7_2).toNat * 11)).block, (ad585.add ((x7_2).toNat * 11)).off + 2, none⟩ = some (.int .i64 ((rd_T48 ((rd_T42 l0_5 x5_1).f1) x7_2).f2)) ∧ w'.cell? ⟨(ad585.add ((x7_2).toNat * 11)).block, (ad585.add ((x7_2).toNat * 11)).off + 3, none⟩ = some (.int .i64 ((rd_T48 ((rd_T42 l0_5 x5_1).f1) x7_2).f3.f0)) ∧ w'.cell? ⟨(ad585.add ((x7_2).toNat * 11)).block, (ad585.add ((x7_2).toNat * 11)).off + 4, none⟩ = some (.int .i64 ((rd_T48 ((rd_T42 l0_5 x5_1).f1) x7_2).f3.f1)) ∧ w'.cell? ⟨(ad585.add ((x7_2).toNat * 11)).block, (ad585.add ((x7_2).toNat * 11)).off + 5, none⟩ = some (.int .i64 ((rd_T48 ((rd_T42 l0_5 x5_1).f1) x7_2).f4)) ∧ w'.cell? ⟨(ad585.add ((x7_2).toNat * 11)).block, (ad585.add ((x7_2).toNat * 11)).off + 6, none⟩ = some (.int .i64 ((rd_T48 ((rd_T42 l0_5 x5_1).f1) x7_2).f5)) ∧ w'.cell? ⟨(ad585.add ((x7_2).toNat * 11)).block, (ad585.add ((x7_2).toNat * 11)).off + 7, none⟩ = some (.int .i64 ((rd_T48 ((rd_T42 l0_5 x5_1).f1) x7_2).f6)) ∧ w'.cell? ⟨(ad585.add ((x7_2).toNat * 11)).block, (ad585.add ((x7_2).toNat * 11)).off + 8, none⟩ = some (.int .i64 ((rd_T48 ((rd_T42 l0_5 x5_1).f1) x7_2).f7)) ∧ w'.cell? ⟨(ad585.add ((x7_2).toNat * 11)).block, (ad585.add ((x7_2).toNat * 11)).off + 9, none⟩ = some (.int .i64 ((rd_T48 ((rd_T42 l0_5 x5_1).f1) x7_2).f8)) ∧ w'.cell? ⟨(ad585.add ((x7_2).toNat * 11)).block, (ad585.add ((x7_2).toNat * 11)).off + 10, none⟩ = some (.int .i64 ((rd_T48 ((rd_T42 l0_5 x5_1).f1) x7_2).f9))) (ds := []) (m_ 18 0) (by kernel_rfl) rfl rfl ⟨ct BK582 0, ct BK582 1, ct BK582 2, ct BK582 3, ct BK582 4, ct BK582 5, ct BK582 6, ct BK582 7, ct BK582 8, (hx_ HB hw584_0), (hx_ HB hw584_1), (hx_ HB hw584_2), (hx_ HB hw584_3), (hx_ HB hw584_4), (hx_ HB hw584_5), (hx_ HB hw584_6), (hx_ HB hw585_0), (hx_ HB hw585_1), (hx_ HB hw585_2), (hx_ HB hw585_3), (hx_ HB hw585_4), (hx_ HB hw585_5), (hx_ HB hw585_6), (hx_ HB hw585_7), (hx_ HB hw585_8), (hx_ HB hw585_9), (hx_ HB hw585_10)⟩ (fun hHeld => ?_); refine with_tabW carrefourref09_Table.tab9 carrefourref09_Table.bits9 (fun HT_ HW_ => ?_)
            generalize wr.drew = w13 at HO_4 HO_6 BK582 HB HR584_1 HR584_2 HR584_3 HR584_4 HR584_5 hx584_0 hx584_1 hx584_2 hx584_3 hx584_4 hx584_5 hx584_6 hx585_0 hx585_1 hx585_10 hx585_2 hx585_3 hx585_4 hx585_5 hx585_6 hx585_7 hx585_8 hx585_9 hHeld ⊢
            refine pu_ 0 (some 29) (m_ 18 1) rfl rfl (ao HT_) ?_
            refine pu_ 2 (some 31) (m_ 18 5) rfl rfl (ao HT_) ?_
            refine pu_ 6 (some 35) (m_ 18 69) rfl rfl (ao HT_) ?_
            refine pu_ 9 (some 38) (m_ 18 581) rfl rfl (ao HT_) ?_
            refine tk_ 1 (some 30) (m_ 18 583) rfl rfl (tw HT_ HW_) hHeld ?_
            refine pu_ 3 (some 32) (m_ 18 591) rfl rfl (ao HT_) ?_
            refine pu_ 4 (some 33) (m_ 18 607) rfl rfl (ao HT_) ?_
            refine tk_ 5 (some 34) (m_ 18 639) rfl rfl (tw HT_ HW_) hHeld ?_
            refine pu_ 7 (some 36) (m_ 18 767) rfl rfl (ao HT_) ?_
            refine tk_ 8 (some 37) (m_ 18 1023) rfl rfl (tw HT_ HW_) hHeld ?_
            refine tk_ 10 (some 39) (m_ 18 2047) rfl rfl (tw HT_ HW_) hHeld ?_
            refine join_ (σ := Nat) 2 (m_ 18 65535) (fun s_ => [(40, .tuple #[.agg #[.int .i64 t586, .int .i64 t587], .int .i64 t588]), (8, .pointer (some ⟨s_, 0, none⟩)), (28, .tuple #[.agg #[.int .i64 t586, .int .i64 t587], .int .i64 t588]), (41, .agg #[.int .i64 t586, .int .i64 t587]), (42, .int .i64 t588)]) (fun s_ w' => (c_ w' gb582 0 (.int .i64 a0_0) ∧ c_ w' gb582 1 (.int .i64 a0_1) ∧ c_ w' gb582 2 (.int .i64 a0_2) ∧ c_ w' gb582 3 (.int .i64 a0_3) ∧ c_ w' gb582 4 (.int .i64 a0_4) ∧ c_ w' gb582 5 (.slice (some ad583) l0_5.length c0_5) ∧ c_ w' gb582 6 (.slice A0_6 l0_6.length c0_6) ∧ c_ w' gb582 7 (.int .i64 a0_7) ∧ c_ w' gb582 8 (.int .i64 a0_8) ∧ w'.cell? (ad583.add ((x5_1).toNat * 7)) = some (.string ((rd_T42 l0_5 x5_1).f0)) ∧ w'.cell? ⟨(ad583.add ((x5_1).toNat * 7)).block, (ad583.add ((x5_1).toNat * 7)).off + 1, none⟩ = some (.slice (some ad585) ((rd_T42 l0_5 x5_1).f1).length c584_1) ∧ w'.cell? ⟨(ad583.add ((x5_1).toNat * 7)).block, (ad583.add ((x5_1).toNat * 7)).off + 2, none⟩ = some (.slice A584_2 ((rd_T42 l0_5 x5_1).f2).length c584_2) ∧ w'.cell? ⟨(ad583.add ((x5_1).toNat * 7)).block, (ad583.add ((x5_1).toNat * 7)).off + 3, none⟩ = some (.slice A584_3 ((rd_T42 l0_5 x5_1).f3).length c584_3) ∧ w'.cell? ⟨(ad583.add ((x5_1).toNat * 7)).block, (ad583.add ((x5_1).toNat * 7)).off + 4, none⟩ = some (.slice A584_4 ((rd_T42 l0_5 x5_1).f4).length c584_4) ∧ w'.cell? ⟨(ad583.add ((x5_1).toNat * 7)).block, (ad583.add ((x5_1).toNat * 7)).off + 5, none⟩ = some (.slice A584_5 ((rd_T42 l0_5 x5_1).f5).length c584_5) ∧ w'.cell? ⟨(ad583.add ((x5_1).toNat * 7)).block, (ad583.add ((x5_1).toNat * 7)).off + 6, none⟩ = some (.int .i64 ((rd_T42 l0_5 x5_1).f6)) ∧ w'.cell? (ad585.add ((x7_2).toNat * 11)) = some (.string ((rd_T48 ((rd_T42 l0_5 x5_1).f1) x7_2).f0)) ∧ w'.cell? ⟨(ad585.add ((x7_2).toNat * 11)).block, (ad585.add ((x7_2).toNat * 11)).off + 1, none⟩ = some (.int .i64 ((rd_T48 ((rd_T42 l0_5 x5_1).f1) x7_2).f1)) ∧ w'.cell? ⟨(ad585.add ((x7_2).toNat * 11)).block, (ad585.add ((x7_2).toNat * 11)).off + 2, none⟩ = some (.int .i64 ((rd_T48 ((rd_T42 l0_5 x5_1).f1) x7_2).f2)) ∧ w'.cell? ⟨(ad585.add ((x7_2).toNat * 11)).block, (ad585.add ((x7_2).toNat * 11)).off + 3, none⟩ = some (.int .i64 ((rd_T48 ((rd_T42 l0_5 x5_1).f1) x7_2).f3.f0)) ∧ w'.cell? ⟨(ad585.add ((x7_2).toNat * 11)).block, (ad585.add ((x7_2).toNat * 11)).off + 4, none⟩ = some (.int .i64 ((rd_T48 ((rd_T42 l0_5 x5_1).f1) x7_2).f3.f1)) ∧ w'.cell? ⟨(ad585.add ((x7_2).toNat * 11)).block, (ad585.add ((x7_2).toNat * 11)).off + 5, none⟩ = some (.int .i64 ((rd_T48 ((rd_T42 l0_5 x5_1).f1) x7_2).f4)) ∧ w'.cell? ⟨(ad585.add ((x7_2).toNat * 11)).block, (ad585.add ((x7_2).toNat * 11)).off + 6, none⟩ = some (.int .i64 ((rd_T48 ((rd_T42 l0_5 x5_1).f1) x7_2).f5)) ∧ w'.cell? ⟨(ad585.add ((x7_2).toNat * 11)).block, (ad585.add ((x7_2).toNat * 11)).off + 7, none⟩ = some (.int .i64 ((rd_T48 ((rd_T42 l0_5 x5_1).f1) x7_2).f6)) ∧ w'.cell? ⟨(ad585.add ((x7_2).toNat * 11)).block, (ad585.add ((x7_2).toNat * 11)).off + 8, none⟩ = some (.int .i64 ((rd_T48 ((rd_T42 l0_5 x5_1).f1) x7_2).f7)) ∧ w'.cell? ⟨(ad585.add ((x7_2).toNat * 11)).block, (ad585.add ((x7_2).toNat * 11)).off + 9, none⟩ = some (.int .i64 ((rd_T48 ((rd_T42 l0_5 x5_1).f1) x7_2).f8)) ∧ w'.cell? ⟨(ad585.add ((x7_2).toNat * 11)).block, (ad585.add ((x7_2).toNat * 11)).off + 10, none⟩ = some (.int .i64 ((rd_T48 ((rd_T42 l0_5 x5_1).f1) x7_2).f9))) ∧ (Kd.S (Kd.slice 23 k23) 33 w' w.heap.size (fun k_ => some k_ ≠ (u6 : Value).ownBlock ∧ k_ ≠ s_) u4 x4_1) ∧ (Kd.R k23 23 w' w.heap.size (fun k_ => k_ ≠ s_) u6 x6_2) ∧ (w'.heap[gb582]? = some (.cells #[.int .i64 a0_0, .int .i64 a0_1, .int .i64 a0_2, .int .i64 a0_3, .int .i64 a0_4, .slice (some ad583) l0_5.length c0_5, .slice A0_6 l0_6.length c0_6, .int .i64 a0_7, .int .i64 a0_8] 27 (0, 0))) ∧ (w'.heap[s_]? = some (.cells #[.int .i64 0, .int .i64 0] 23 (0, 0))) ∧ (w.heap.size ≤ s_) ∧ (w.heap.size ≤ s_) ∧ (gb582 ≠ s_) ∧ (s_ ≠ gb582) ∧ (Below w.heap.size w w')) ?_ ?_
            rotate_left
            ·intro hCont
             refine two_ (i := 11) (j := 15) (Ni := some 40) (Nj := some 8) (m_ 18 4095) (m_ 18 34815) rfl rfl rfl rfl (two_of HT_.out (by kernel_rfl)) (by decide) (by decide) (fun K hK => ?_) (fun K hK => ?_)
             ·skip
              refine gs_ rfl Tryz.func11 (carrefourref09_Ratio.calls _ ((rd_T48 ((rd_T42 l0_5 x5_1).f1) x7_2).f0) ((rd_T48 ((rd_T42 l0_5 x5_1).f1) x7_2).f1) ((rd_T48 ((rd_T42 l0_5 x5_1).f1) x7_2).f2) ((rd_T48 ((rd_T42 l0_5 x5_1).f1) x7_2).f3.f0) ((rd_T48 ((rd_T42 l0_5 x5_1).f1) x7_2).f3.f1) ((rd_T48 ((rd_T42 l0_5 x5_1).f1) x7_2).f4) ((rd_T48 ((rd_T42 l0_5 x5_1).f1) x7_2).f5) ((rd_T48 ((rd_T42 l0_5 x5_1).f1) x7_2).f6) ((rd_T48 ((rd_T42 l0_5 x5_1).f1) x7_2).f7) ((rd_T48 ((rd_T42 l0_5 x5_1).f1) x7_2).f8) ((rd_T48 ((rd_T42 l0_5 x5_1).f1) x7_2).f9) _ _ _ _ _ _ A9.out) ag ?_
              intro w14 hb
              replace HO_4 := Aside0.mk (Kd.S_below (St_ HO_4.out) hb)
              replace HO_6 := Aside0.mk (Kd.R_below (Rt_ HO_6.out) hb)
              replace BK582 := bb BK582 hb
              replace HB := bs HB hb
              (try clear hb)
              refine hK.out _ _ ⟨ct BK582 0, ct BK582 1, ct BK582 2, ct BK582 3, ct BK582 4, ct BK582 5, ct BK582 6, ct BK582 7, ct BK582 8, (hx_ HB hw584_0), (hx_ HB hw584_1), (hx_ HB hw584_2), (hx_ HB hw584_3), (hx_ HB hw584_4), (hx_ HB hw584_5), (hx_ HB hw584_6), (hx_ HB hw585_0), (hx_ HB hw585_1), (hx_ HB hw585_2), (hx_ HB hw585_3), (hx_ HB hw585_4), (hx_ HB hw585_5), (hx_ HB hw585_6), (hx_ HB hw585_7), (hx_ HB hw585_8), (hx_ HB hw585_9), (hx_ HB hw585_10)⟩ (fun hHeld => ?_)
              clear hK K
              refine nr_ (some 40) ?_
              refine pu_ 12 (some 28) (m_ 18 8191) rfl rfl (ao HT_) ?_
              refine pu_ 13 (some 41) (m_ 18 16383) rfl rfl (ao HT_) ?_
              refine pu_ 14 (some 42) (m_ 18 32767) rfl rfl (ao HT_) ?_
              refine o1_ 15 (some 8) (m_ 18 65535) rfl rfl (oo HT_) (fun K hK => ?_)
              refine box_step ?hg (N := 8) ?hd (cs := #[.int .i64 0, .int .i64 0]) (t := 23) ?hr ?_; (case hd => rfl); (case hg => rfl); (case hr => first | (go_simp; done) | (go_simp; rfl))
              intro gb589 hg w15 hbox hb
              have BK589 := Aside0.mk (hbox)
              have GW589 := bz HB hg
              have GE589 := bz HB hg
              have NB582_589 := bl BK582 hg
              have NB589_582 := bg BK582 hg
              replace HO_4 := Aside0.mk (Kd.S_below (Kd.S_elderB (St_ HO_4.out) gb589 (Nat.le_of_eq hg.symm)) hb)
              replace HO_6 := Aside0.mk (Kd.R_below (Kd.R_elderB (Rt_ HO_6.out) gb589 (Nat.le_of_eq hg.symm)) hb)
              replace BK582 := bb BK582 hb
              replace HB := bs HB hb
              clear hb hg
              refine hK.out _ _ ⟨ct BK582 0, ct BK582 1, ct BK582 2, ct BK582 3, ct BK582 4, ct BK582 5, ct BK582 6, ct BK582 7, ct BK582 8, (hx_ HB hw584_0), (hx_ HB hw584_1), (hx_ HB hw584_2), (hx_ HB hw584_3), (hx_ HB hw584_4), (hx_ HB hw584_5), (hx_ HB hw584_6), (hx_ HB hw585_0), (hx_ HB hw585_1), (hx_ HB hw585_2), (hx_ HB hw585_3), (hx_ HB hw585_4), (hx_ HB hw585_5), (hx_ HB hw585_6), (hx_ HB hw585_7), (hx_ HB hw585_8), (hx_ HB hw585_9), (hx_ HB hw585_10)⟩ (fun hHeld => ?_)
              clear hK K
              refine nr_ (some 8) ?_
              exact norm_ (by simp only [putAll, Act.put, si, s0, s1]) (hCont (gb589) _ ⟨hHeld, (St_ HO_4.out), (Rt_ (Kd.R_mono HO_6.out (fun _ hk => hk.2))), (bx BK582), (bx BK589), GW589.out, GE589.out, NB582_589.out, NB589_582.out, (bf HB)⟩)
             ·skip
              refine box_step ?hg (N := 8) ?hd (cs := #[.int .i64 0, .int .i64 0]) (t := 23) ?hr ?_; (case hd => rfl); (case hg => rfl); (case hr => first | (go_simp; done) | (go_simp; rfl))
              intro gb589 hg w14 hbox hb
              have BK589 := Aside0.mk (hbox)
              have GW589 := bz HB hg
              have GE589 := bz HB hg
              have NB582_589 := bl BK582 hg
              have NB589_582 := bg BK582 hg
              replace HO_4 := Aside0.mk (Kd.S_below (Kd.S_elderB (St_ HO_4.out) gb589 (Nat.le_of_eq hg.symm)) hb)
              replace HO_6 := Aside0.mk (Kd.R_below (Kd.R_elderB (Rt_ HO_6.out) gb589 (Nat.le_of_eq hg.symm)) hb)
              replace BK582 := bb BK582 hb
              replace HB := bs HB hb
              clear hb hg
              refine hK.out _ _ ⟨ct BK582 0, ct BK582 1, ct BK582 2, ct BK582 3, ct BK582 4, ct BK582 5, ct BK582 6, ct BK582 7, ct BK582 8, (hx_ HB hw584_0), (hx_ HB hw584_1), (hx_ HB hw584_2), (hx_ HB hw584_3), (hx_ HB hw584_4), (hx_ HB hw584_5), (hx_ HB hw584_6), (hx_ HB hw585_0), (hx_ HB hw585_1), (hx_ HB hw585_2), (hx_ HB hw585_3), (hx_ HB hw585_4), (hx_ HB hw585_5), (hx_ HB hw585_6), (hx_ HB hw585_7), (hx_ HB hw585_8), (hx_ HB hw585_9), (hx_ HB hw585_10)⟩ (fun hHeld => ?_)
              clear hK K
              refine nr_ (some 8) ?_
              refine o1_ 11 (some 40) (m_ 18 36863) rfl rfl (oo HT_) (fun K hK => ?_)
              refine gs_ rfl Tryz.func11 (carrefourref09_Ratio.calls _ ((rd_T48 ((rd_T42 l0_5 x5_1).f1) x7_2).f0) ((rd_T48 ((rd_T42 l0_5 x5_1).f1) x7_2).f1) ((rd_T48 ((rd_T42 l0_5 x5_1).f1) x7_2).f2) ((rd_T48 ((rd_T42 l0_5 x5_1).f1) x7_2).f3.f0) ((rd_T48 ((rd_T42 l0_5 x5_1).f1) x7_2).f3.f1) ((rd_T48 ((rd_T42 l0_5 x5_1).f1) x7_2).f4) ((rd_T48 ((rd_T42 l0_5 x5_1).f1) x7_2).f5) ((rd_T48 ((rd_T42 l0_5 x5_1).f1) x7_2).f6) ((rd_T48 ((rd_T42 l0_5 x5_1).f1) x7_2).f7) ((rd_T48 ((rd_T42 l0_5 x5_1).f1) x7_2).f8) ((rd_T48 ((rd_T42 l0_5 x5_1).f1) x7_2).f9) _ _ _ _ _ _ A9.out) ag ?_
              intro w15 hb
              replace HO_4 := Aside0.mk (Kd.S_below (St_ HO_4.out) hb)
              replace HO_6 := Aside0.mk (Kd.R_below (Rt_ HO_6.out) hb)
              replace BK582 := bb BK582 hb
              replace BK589 := bb BK589 hb
              replace HB := bs HB hb
              (try clear hb)
              refine hK.out _ _ ⟨ct BK582 0, ct BK582 1, ct BK582 2, ct BK582 3, ct BK582 4, ct BK582 5, ct BK582 6, ct BK582 7, ct BK582 8, (hx_ HB hw584_0), (hx_ HB hw584_1), (hx_ HB hw584_2), (hx_ HB hw584_3), (hx_ HB hw584_4), (hx_ HB hw584_5), (hx_ HB hw584_6), (hx_ HB hw585_0), (hx_ HB hw585_1), (hx_ HB hw585_2), (hx_ HB hw585_3), (hx_ HB hw585_4), (hx_ HB hw585_5), (hx_ HB hw585_6), (hx_ HB hw585_7), (hx_ HB hw585_8), (hx_ HB hw585_9), (hx_ HB hw585_10)⟩ (fun hHeld => ?_)
              clear hK K
              refine nr_ (some 40) ?_
              refine pu_ 12 (some 28) (m_ 18 40959) rfl rfl (ao HT_) ?_
              refine pu_ 13 (some 41) (m_ 18 49151) rfl rfl (ao HT_) ?_
              refine pu_ 14 (some 42) (m_ 18 65535) rfl rfl (ao HT_) ?_
              exact norm_ (by simp only [putAll, Act.put, si, s0, s1]) (hCont (gb589) _ ⟨hHeld, (St_ HO_4.out), (Rt_ (Kd.R_mono HO_6.out (fun _ hk => hk.2))), (bx BK582), (bx BK589), GW589.out, GE589.out, NB582_589.out, NB589_582.out, (bf HB)⟩)
            rintro gb589 w16 ⟨hS_, h0_, h1_, h2_, h3_, h4_, h5_, h6_, h7_, h8_⟩
            have n0_ : Aside0 (Kd.S (Kd.slice 23 k23) 33 w16 w.heap.size (fun k_ => some k_ ≠ (u6 : Value).ownBlock ∧ k_ ≠ gb589) u4 x4_1) := ⟨h0_⟩
            have n1_ : Aside0 (Kd.R k23 23 w16 w.heap.size (fun k_ => k_ ≠ gb589) u6 x6_2) := ⟨h1_⟩
            have n2_ : Aside0 (w16.heap[gb582]? = some (.cells #[.int .i64 a0_0, .int .i64 a0_1, .int .i64 a0_2, .int .i64 a0_3, .int .i64 a0_4, .slice (some ad583) l0_5.length c0_5, .slice A0_6 l0_6.length c0_6, .int .i64 a0_7, .int .i64 a0_8] 27 (0, 0))) := ⟨h2_⟩
            have n3_ : Aside0 (w16.heap[gb589]? = some (.cells #[.int .i64 0, .int .i64 0] 23 (0, 0))) := ⟨h3_⟩
            have n4_ : Aside0 (w.heap.size ≤ gb589) := ⟨h4_⟩
            have n5_ : Aside0 (w.heap.size ≤ gb589) := ⟨h5_⟩
            have n6_ : Aside0 (gb582 ≠ gb589) := ⟨h6_⟩
            have n7_ : Aside0 (gb589 ≠ gb582) := ⟨h7_⟩
            have n8_ : Aside0 (Below w.heap.size w w16) := ⟨h8_⟩
            clear HO_4
            clear HO_6
            clear BK582
            clear HB
            clear h0_ h1_ h2_ h3_ h4_ h5_ h6_ h7_ h8_
            have HO_4 := n0_
            have HO_6 := n1_
            have BK582 := n2_
            have BK589 := n3_
            have GW589 := n4_
            have GE589 := n5_
            have NB582_589 := n6_
            have NB589_582 := n7_
            have HB := n8_
            clear n0_ n1_ n2_ n3_ n4_ n5_ n6_ n7_ n8_
            have hHeld : c_ w16 gb582 0 (.int .i64 a0_0) ∧ c_ w16 gb582 1 (.int .i64 a0_1) ∧ c_ w16 gb582 2 (.int .i64 a0_2) ∧ c_ w16 gb582 3 (.int .i64 a0_3) ∧ c_ w16 gb582 4 (.int .i64 a0_4) ∧ c_ w16 gb582 5 (.slice (some ad583) l0_5.length c0_5) ∧ c_ w16 gb582 6 (.slice A0_6 l0_6.length c0_6) ∧ c_ w16 gb582 7 (.int .i64 a0_7) ∧ c_ w16 gb582 8 (.int .i64 a0_8) ∧ w16.cell? (ad583.add ((x5_1).toNat * 7)) = some (.string ((rd_T42 l0_5 x5_1).f0)) ∧ w16.cell? ⟨(ad583.add ((x5_1).toNat * 7)).block, (ad583.add ((x5_1).toNat * 7)).off + 1, none⟩ = some (.slice (some ad585) ((rd_T42 l0_5 x5_1).f1).length c584_1) ∧ w16.cell? ⟨(ad583.add ((x5_1).toNat * 7)).block, (ad583.add ((x5_1).toNat * 7)).off + 2, none⟩ = some (.slice A584_2 ((rd_T42 l0_5 x5_1).f2).length c584_2) ∧ w16.cell? ⟨(ad583.add ((x5_1).toNat * 7)).block, (ad583.add ((x5_1).toNat * 7)).off + 3, none⟩ = some (.slice A584_3 ((rd_T42 l0_5 x5_1).f3).length c584_3) ∧ w16.cell? ⟨(ad583.add ((x5_1).toNat * 7)).block, (ad583.add ((x5_1).toNat * 7)).off + 4, none⟩ = some (.slice A584_4 ((rd_T42 l0_5 x5_1).f4).length c584_4) ∧ w16.cell? ⟨(ad583.add ((x5_1).toNat * 7)).block, (ad583.add ((x5_1).toNat * 7)).off + 5, none⟩ = some (.slice A584_5 ((rd_T42 l0_5 x5_1).f5).length c584_5) ∧ w16.cell? ⟨(ad583.add ((x5_1).toNat * 7)).block, (ad583.add ((x5_1).toNat * 7)).off + 6, none⟩ = some (.int .i64 ((rd_T42 l0_5 x5_1).f6)) ∧ w16.cell? (ad585.add ((x7_2).toNat * 11)) = some (.string ((rd_T48 ((rd_T42 l0_5 x5_1).f1) x7_2).f0)) ∧ w16.cell? ⟨(ad585.add ((x7_2).toNat * 11)).block, (ad585.add ((x7_2).toNat * 11)).off + 1, none⟩ = some (.int .i64 ((rd_T48 ((rd_T42 l0_5 x5_1).f1) x7_2).f1)) ∧ w16.cell? ⟨(ad585.add ((x7_2).toNat * 11)).block, (ad585.add ((x7_2).toNat * 11)).off + 2, none⟩ = some (.int .i64 ((rd_T48 ((rd_T42 l0_5 x5_1).f1) x7_2).f2)) ∧ w16.cell? ⟨(ad585.add ((x7_2).toNat * 11)).block, (ad585.add ((x7_2).toNat * 11)).off + 3, none⟩ = some (.int .i64 ((rd_T48 ((rd_T42 l0_5 x5_1).f1) x7_2).f3.f0)) ∧ w16.cell? ⟨(ad585.add ((x7_2).toNat * 11)).block, (ad585.add ((x7_2).toNat * 11)).off + 4, none⟩ = some (.int .i64 ((rd_T48 ((rd_T42 l0_5 x5_1).f1) x7_2).f3.f1)) ∧ w16.cell? ⟨(ad585.add ((x7_2).toNat * 11)).block, (ad585.add ((x7_2).toNat * 11)).off + 5, none⟩ = some (.int .i64 ((rd_T48 ((rd_T42 l0_5 x5_1).f1) x7_2).f4)) ∧ w16.cell? ⟨(ad585.add ((x7_2).toNat * 11)).block, (ad585.add ((x7_2).toNat * 11)).off + 6, none⟩ = some (.int .i64 ((rd_T48 ((rd_T42 l0_5 x5_1).f1) x7_2).f5)) ∧ w16.cell? ⟨(ad585.add ((x7_2).toNat * 11)).block, (ad585.add ((x7_2).toNat * 11)).off + 7, none⟩ = some (.int .i64 ((rd_T48 ((rd_T42 l0_5 x5_1).f1) x7_2).f6)) ∧ w16.cell? ⟨(ad585.add ((x7_2).toNat * 11)).block, (ad585.add ((x7_2).toNat * 11)).off + 8, none⟩ = some (.int .i64 ((rd_T48 ((rd_T42 l0_5 x5_1).f1) x7_2).f7)) ∧ w16.cell? ⟨(ad585.add ((x7_2).toNat * 11)).block, (ad585.add ((x7_2).toNat * 11)).off + 9, none⟩ = some (.int .i64 ((rd_T48 ((rd_T42 l0_5 x5_1).f1) x7_2).f8)) ∧ w16.cell? ⟨(ad585.add ((x7_2).toNat * 11)).block, (ad585.add ((x7_2).toNat * 11)).off + 10, none⟩ = some (.int .i64 ((rd_T48 ((rd_T42 l0_5 x5_1).f1) x7_2).f9)) := hS_
            refine norm_ (a' := ?_) ?_ ?_
            rotate_left
            ·simp only [putAll, Act.put, si, s0, s1]
             rfl
            refine o1_ 16 (none) (m_ 18 131071) rfl rfl (oo HT_) (fun K hK => ?_)
            have hs17 : c_ w16 gb589 0 (.int .i64 0) := ct BK589 0
            have hfs17 := blk_frozen BK589.out 0
            have hns17_0 := nn NB582_589
            have hs18 : c_ w16 gb589 1 (.int .i64 0) := ct BK589 1
            have hfs18 := blk_frozen BK589.out 1
            have hns18_0 := nn NB582_589
            refine skip_ (w1 := ?_) (by rfl) rfl ?_ ?_
            rotate_left
            ·go_simp
             rfl
            refine hK.out _ _ (by obtain ⟨d0, d1, d2, d3, d4, d5, d6, d7, d8, d9, d10, d11, d12, d13, d14, d15, d16, d17, d18, d19, d20, d21, d22, d23, d24, d25, d26⟩ := hHeld; exact ⟨fa_ NB582_589 (fa_ NB582_589 d0), fa_ NB582_589 (fa_ NB582_589 d1), fa_ NB582_589 (fa_ NB582_589 d2), fa_ NB582_589 (fa_ NB582_589 d3), fa_ NB582_589 (fa_ NB582_589 d4), fa_ NB582_589 (fa_ NB582_589 d5), fa_ NB582_589 (fa_ NB582_589 d6), fa_ NB582_589 (fa_ NB582_589 d7), fa_ NB582_589 (fa_ NB582_589 d8), fb_ hw584_0 GW589 (fb_ hw584_0 GW589 d9), fb_ hw584_1 GW589 (fb_ hw584_1 GW589 d10), fb_ hw584_2 GW589 (fb_ hw584_2 GW589 d11), fb_ hw584_3 GW589 (fb_ hw584_3 GW589 d12), fb_ hw584_4 GW589 (fb_ hw584_4 GW589 d13), fb_ hw584_5 GW589 (fb_ hw584_5 GW589 d14), fb_ hw584_6 GW589 (fb_ hw584_6 GW589 d15), fb_ hw585_0 GW589 (fb_ hw585_0 GW589 d16), fb_ hw585_1 GW589 (fb_ hw585_1 GW589 d17), fb_ hw585_2 GW589 (fb_ hw585_2 GW589 d18), fb_ hw585_3 GW589 (fb_ hw585_3 GW589 d19), fb_ hw585_4 GW589 (fb_ hw585_4 GW589 d20), fb_ hw585_5 GW589 (fb_ hw585_5 GW589 d21), fb_ hw585_6 GW589 (fb_ hw585_6 GW589 d22), fb_ hw585_7 GW589 (fb_ hw585_7 GW589 d23), fb_ hw585_8 GW589 (fb_ hw585_8 GW589 d24), fb_ hw585_9 GW589 (fb_ hw585_9 GW589 d25), fb_ hw585_10 GW589 (fb_ hw585_10 GW589 d26)⟩) (fun hHeld => ?_)
            clear hK K
            refine pu_ 17 (some 9) (m_ 18 262143) rfl rfl (ao HT_) ?_
            refine done_ (done_of HT_.out (by kernel_rfl)) ?_
            have hnb19 := nn NB589_582
            have hcz20 := X.k2 BK589
            try go_wp2_with (first | ((with_reducible refine gate_builtin (b := .append) (xs := #[.tmp 46, .tmp 48]) rfl ?_); at_builtin; refine Kd.R_append k23 (w0 := w) w.heap.size rfl (.tmp 46) (.tmp 48) 33 23 (.agg #[(.int .i64 0), (.int .i64 0)]) 16 rfl Tryz.underlying33 info23 rfl (by decide) (by omega) u6 x6_2 (⟨t586, t587⟩ : S23) [.int .i64 t586, .int .i64 t587] (fun k_ => k_ ≠ gb589) (fun _ => False) rfl (by first | (go_simp; done) | (go_simp; rfl)) ?aP (fun _ hk => hk.elim) ?aF ?aO ?aB ?aS ?aL ?_; (case aP => exact k23_mkM _ _ _ (⟨t586, t587⟩ : S23)); (case aB => exact (bf HB)); (case aF => exact (fun k_ hk => Kd.freshB (g := gb589) (o := .cells #[.int .i64 t586, .int .i64 t587] 23 (0, 0)) (br_ BK589) k_ hk)); (case aO => exact (Rt_ (Kd.R_mono (Kd.R_far (p := ⟨gb589, 1, none⟩) (Kd.R_far (p := ⟨gb589, 0, none⟩) (Kd.R_mono HO_6.out (fun k_ hk => (⟨hk, hk⟩ : _ ∧ k_ ≠ gb589))) (fun _ hk => hk.2) (.int .i64 t586)) (fun _ hk => hk.2) (.int .i64 t587)) (fun _ hk => hk.1)))); (case aS => exact (below_size (bf HB))); (case aL => have := LMc11.out; omega); intro v591 w21 ho hb hg hat; rw [← Ny590.out] at ho; have n0_ := Aside0.mk (Kd.S_after (ok := (fun k_ => k_ ≠ gb589)) (St_ (Kd.S_mono (Kd.S_far (p := ⟨gb589, 1, none⟩) (Kd.S_far (p := ⟨gb589, 0, none⟩) (Kd.S_mono HO_4.out (fun k_ hk => (⟨hk, hk.2⟩ : _ ∧ k_ ≠ gb589))) (fun _ hk => hk.2) (.int .i64 t586)) (fun _ hk => hk.2) (.int .i64 t587)) (fun _ hk => ⟨hk.1.2, hk.1.1⟩))) hg hat); have n1_ := Aside0.mk (blk_grown (g := gb582) (o := .cells #[.int .i64 a0_0, .int .i64 a0_1, .int .i64 a0_2, .int .i64 a0_3, .int .i64 a0_4, .slice (some ad583) l0_5.length c0_5, .slice A0_6 l0_6.length c0_6, .int .i64 a0_7, .int .i64 a0_8] 27 (0, 0)) (bx BK582) hg (Kd.R_ne HO_6.out BK582.out (by decide))); have n2_ := Aside0.mk (blk_grown (g := gb589) (o := .cells #[.int .i64 t586, .int .i64 t587] 23 (0, 0)) (br_ BK589) hg (Kd.R_away HO_6.out (fun _ hk => hk))); have n3_ := Aside0.mk (hb); have n4_ := Aside0.mk (ho); clear HO_4; clear BK582; clear BK589; clear HB; clear HO_6; have HO_4 := n0_; have BK582 := n1_; have BK589 := n2_; have HB := n3_; have HO592 := n4_; clear n0_ n1_ n2_ n3_ n4_; clear ho hb hg hat))
            go_roundg k2
            case measure => have := HK1.out; have := HK2.out; omega
            case rel => exact ⟨(y590), (wrap64 (x7_2 + 1)), (aq), H', ⟨by have := HK1.out; have := HK2.out; omega⟩, ⟨St_ (Kd.S_mono HO_4.out (fun _ hk => hk.2))⟩, ⟨Rt_ (Kd.R_mono HO592.out (fun _ hk => trivial))⟩, bu_ BK582, ⟨bf HB⟩⟩
           ·rw [if_neg c11] at H
            exact absurd H (by simp)
          ·rw [if_neg c10] at H
           have c10b0 : (t588 == 0) = false := beq_eq_false_iff_ne.mpr c10
           have c10b1 : (t588 != 0) = true := bne_iff_ne.mpr c10
           simp only [Option.some.injEq, Prod.mk.injEq] at H
           obtain ⟨rfl, rfl⟩ := H
           have hcz22 := X.k9 BK582
           have p583 : 0 ≤ (x5_1 : Int) := od_
           have q583 : x5_1 < (l0_5.length : Int) := od_
           obtain ⟨ad583, A583_1, c583_1, A583_2, c583_2, A583_3, c583_3, A583_4, c583_4, A583_5, c583_5, e583, hx583_0, hx583_1, hx583_2, hx583_3, hx583_4, hx583_5, hx583_6, hl583_1, hi583_1, hl583_2, hi583_2, hl583_3, hi583_3, hl583_4, hi583_4, hl583_5, hi583_5⟩ := at_T42 HR0_5.out x5_1 p583 q583
           cases e583
           replace hx583_0 := hx_ HB hx583_0
           replace hx583_1 := hx_ HB hx583_1
           replace hx583_2 := hx_ HB hx583_2
           replace hx583_3 := hx_ HB hx583_3
           replace hx583_4 := hx_ HB hx583_4
           replace hx583_5 := hx_ HB hx583_5
           replace hx583_6 := hx_ HB hx583_6
           have HR583_1 := Aside0.mk hi583_1
           have HC583_1 := Aside0.mk hl583_1
           clear hi583_1 hl583_1
           have HR583_2 := Aside0.mk hi583_2
           have HC583_2 := Aside0.mk hl583_2
           clear hi583_2 hl583_2
           have HR583_3 := Aside0.mk hi583_3
           have HC583_3 := Aside0.mk hl583_3
           clear hi583_3 hl583_3
           have HR583_4 := Aside0.mk hi583_4
           have HC583_4 := Aside0.mk hl583_4
           clear hi583_4 hl583_4
           have HR583_5 := Aside0.mk hi583_5
           have HC583_5 := Aside0.mk hl583_5
           clear hi583_5 hl583_5
           replace p583 := eq_true p583
           replace q583 := eq_true q583
           try go_wp2
           replace HO_4 := Aside0.mk (Kd.S_drew HO_4.out)
           replace HO_6 := Aside0.mk (Kd.R_drew HO_6.out)
           replace BK582 := Aside0.mk (blk_drew BK582.out)
           replace HB := Aside0.mk (below_drew1 HB.out)
           have p584 : 0 ≤ (x5_1 : Int) := od_
           have q584 : x5_1 < (l0_5.length : Int) := od_
           obtain ⟨ad584, A584_1, c584_1, A584_2, c584_2, A584_3, c584_3, A584_4, c584_4, A584_5, c584_5, e584, hx584_0, hx584_1, hx584_2, hx584_3, hx584_4, hx584_5, hx584_6, hl584_1, hi584_1, hl584_2, hi584_2, hl584_3, hi584_3, hl584_4, hi584_4, hl584_5, hi584_5⟩ := at_T42 HR0_5.out x5_1 p584 q584
           have hw584_6 := hx584_6
           have hw584_5 := hx584_5
           have hw584_4 := hx584_4
           have hw584_3 := hx584_3
           have hw584_2 := hx584_2
           have hw584_1 := hx584_1
           have hw584_0 := hx584_0
           obtain rfl : ad583 = ad584 := (by injection e584)
           replace hx584_0 := hx_ HB hx584_0
           replace hx584_1 := hx_ HB hx584_1
           replace hx584_2 := hx_ HB hx584_2
           replace hx584_3 := hx_ HB hx584_3
           replace hx584_4 := hx_ HB hx584_4
           replace hx584_5 := hx_ HB hx584_5
           replace hx584_6 := hx_ HB hx584_6
           have HR584_1 := Aside0.mk hi584_1
           have HC584_1 := Aside0.mk hl584_1
           clear hi584_1 hl584_1
           have HR584_2 := Aside0.mk hi584_2
           have HC584_2 := Aside0.mk hl584_2
           clear hi584_2 hl584_2
           have HR584_3 := Aside0.mk hi584_3
           have HC584_3 := Aside0.mk hl584_3
           clear hi584_3 hl584_3
           have HR584_4 := Aside0.mk hi584_4
           have HC584_4 := Aside0.mk hl584_4
           clear hi584_4 hl584_4
           have HR584_5 := Aside0.mk hi584_5
           have HC584_5 := Aside0.mk hl584_5
           clear hi584_5 hl584_5
           replace p584 := eq_true p584
           replace q584 := eq_true q584
           have p585 : 0 ≤ (x7_2 : Int) := od_
           have q585 : x7_2 < (((rd_T42 l0_5 x5_1).f1).length : Int) := od_
           obtain ⟨ad585, e585, hx585_0, hx585_1, hx585_2, hx585_3, hx585_4, hx585_5, hx585_6, hx585_7, hx585_8, hx585_9, hx585_10⟩ := at_T48 HR584_1.out x7_2 p585 q585
           have hw585_10 := hx585_10
           have hw585_9 := hx585_9
           have hw585_8 := hx585_8
           have hw585_7 := hx585_7
           have hw585_6 := hx585_6
           have hw585_5 := hx585_5
           have hw585_4 := hx585_4
           have hw585_3 := hx585_3
           have hw585_2 := hx585_2
           have hw585_1 := hx585_1
           have hw585_0 := hx585_0
           cases e585
           replace hx585_0 := hx_ HB hx585_0
           replace hx585_1 := hx_ HB hx585_1
           replace hx585_2 := hx_ HB hx585_2
           replace hx585_3 := hx_ HB hx585_3
           replace hx585_4 := hx_ HB hx585_4
           replace hx585_5 := hx_ HB hx585_5
           replace hx585_6 := hx_ HB hx585_6
           replace hx585_7 := hx_ HB hx585_7
           replace hx585_8 := hx_ HB hx585_8
           replace hx585_9 := hx_ HB hx585_9
           replace hx585_10 := hx_ HB hx585_10
           replace p585 := eq_true p585
           replace q585 := eq_true q585
           refine start_ (n := 18) (S := fun w' => c_ w' gb582 0 (.int .i64 a0_0) ∧ c_ w' gb582 1 (.int .i64 a0_1) ∧ c_ w' gb582 2 (.int .i64 a0_2) ∧ c_ w' gb582 3 (.int .i64 a0_3) ∧ c_ w' gb582 4 (.int .i64 a0_4) ∧ c_ w' gb582 5 (.slice (some ad583) l0_5.length c0_5) ∧ c_ w' gb582 6 (.slice A0_6 l0_6.length c0_6) ∧ c_ w' gb582 7 (.int .i64 a0_7) ∧ c_ w' gb582 8 (.int .i64 a0_8) ∧ w'.cell? (ad583.add ((x5_1).toNat * 7)) = some (.string ((rd_T42 l0_5 x5_1).f0)) ∧ w'.cell? ⟨(ad583.add ((x5_1).toNat * 7)).block, (ad583.add ((x5_1).toNat * 7)).off + 1, none⟩ = some (.slice (some ad585) ((rd_T42 l0_5 x5_1).f1).length c584_1) ∧ w'.cell? ⟨(ad583.add ((x5_1).toNat * 7)).block, (ad583.add ((x5_1).toNat * 7)).off + 2, none⟩ = some (.slice A584_2 ((rd_T42 l0_5 x5_1).f2).length c584_2) ∧ w'.cell? ⟨(ad583.add ((x5_1).toNat * 7)).block, (ad583.add ((x5_1).toNat * 7)).off + 3, none⟩ = some (.slice A584_3 ((rd_T42 l0_5 x5_1).f3).length c584_3) ∧ w'.cell? ⟨(ad583.add ((x5_1).toNat * 7)).block, (ad583.add ((x5_1).toNat * 7)).off + 4, none⟩ = some (.slice A584_4 ((rd_T42 l0_5 x5_1).f4).length c584_4) ∧ w'.cell? ⟨(ad583.add ((x5_1).toNat * 7)).block, (ad583.add ((x5_1).toNat * 7)).off + 5, none⟩ = some (.slice A584_5 ((rd_T42 l0_5 x5_1).f5).length c584_5) ∧ w'.cell? ⟨(ad583.add ((x5_1).toNat * 7)).block, (ad583.add ((x5_1).toNat * 7)).off + 6, none⟩ = some (.int .i64 ((rd_T42 l0_5 x5_1).f6)) ∧ w'.cell? (ad585.add ((x7_2).toNat * 11)) = some (.string ((rd_T48 ((rd_T42 l0_5 x5_1).f1) x7_2).f0)) ∧ w'.cell? ⟨(ad585.add ((x7_2).toNat * 11)).block, (ad585.add ((x7_2).toNat * 11)).off + 1, none⟩ = some (.int .i64 ((rd_T48 ((rd_T42 l0_5 x5_1).f1) x7_2).f1)) ∧ w'.cell? ⟨(ad585.add ((x7_2).toNat * 11)).block, (ad585.add ((x7_2).toNat * 11)).off + 2, none⟩ = some (.int .i64 ((rd_T48 ((rd_T42 l0_5 x5_1).f1) x7_2).f2)) ∧ w'.cell? ⟨(ad585.add ((x7_2).toNat * 11)).block, (ad585.add ((x7_2).toNat * 11)).off + 3, none⟩ = some (.int .i64 ((rd_T48 ((rd_T42 l0_5 x5_1).f1) x7_2).f3.f0)) ∧ w'.cell? ⟨(ad585.add ((x7_2).toNat * 11)).block, (ad585.add ((x7_2).toNat * 11)).off + 4, none⟩ = some (.int .i64 ((rd_T48 ((rd_T42 l0_5 x5_1).f1) x7_2).f3.f1)) ∧ w'.cell? ⟨(ad585.add ((x7_2).toNat * 11)).block, (ad585.add ((x7_2).toNat * 11)).off + 5, none⟩ = some (.int .i64 ((rd_T48 ((rd_T42 l0_5 x5_1).f1) x7_2).f4)) ∧ w'.cell? ⟨(ad585.add ((x7_2).toNat * 11)).block, (ad585.add ((x7_2).toNat * 11)).off + 6, none⟩ = some (.int .i64 ((rd_T48 ((rd_T42 l0_5 x5_1).f1) x7_2).f5)) ∧ w'.cell? ⟨(ad585.add ((x7_2).toNat * 11)).block, (ad585.add ((x7_2).toNat * 11)).off + 7, none⟩ = some (.int .i64 ((rd_T48 ((rd_T42 l0_5 x5_1).f1) x7_2).f6)) ∧ w'.cell? ⟨(ad585.add ((x7_2).toNat * 11)).block, (ad585.add ((x7_2).toNat * 11)).off + 8, none⟩ = some (.int .i64 ((rd_T48 ((rd_T42 l0_5 x5_1).f1) x7_2).f7)) ∧ w'.cell? ⟨(ad585.add ((x7_2).toNat * 11)).block, (ad585.add ((x7_2).toNat * 11)).off + 9, none⟩ = some (.int .i64 ((rd_T48 ((rd_T42 l0_5 x5_1).f1) x7_2).f8)) ∧ w'.cell? ⟨(ad585.add ((x7_2).toNat * 11)).block, (ad585.add ((x7_2).toNat * 11)).off + 10, none⟩ = some (.int .i64 ((rd_T48 ((rd_T42 l0_5 x5_1).f1) x7_2).f9))) (ds := []) (m_ 18 0) (by kernel_rfl) rfl rfl ⟨ct BK582 0, ct BK582 1, ct BK582 2, ct BK582 3, ct BK582 4, ct BK582 5, ct BK582 6, ct BK582 7, ct BK582 8, (hx_ HB hw584_0), (hx_ HB hw584_1), (hx_ HB hw584_2), (hx_ HB hw584_3), (hx_ HB hw584_4), (hx_ HB hw584_5), (hx_ HB hw584_6), (hx_ HB hw585_0), (hx_ HB hw585_1), (hx_ HB hw585_2), (hx_ HB hw585_3), (hx_ HB hw585_4), (hx_ HB hw585_5), (hx_ HB hw585_6), (hx_ HB hw585_7), (hx_ HB hw585_8), (hx_ HB hw585_9), (hx_ HB hw585_10)⟩ (fun hHeld => ?_); refine with_tabW carrefourref09_Table.tab9 carrefourref09_Table.bits9 (fun HT_ HW_ => ?_)
           generalize wr.drew = w23 at HO_4 HO_6 BK582 HB HR584_1 HR584_2 HR584_3 HR584_4 HR584_5 hx584_0 hx584_1 hx584_2 hx584_3 hx584_4 hx584_5 hx584_6 hx585_0 hx585_1 hx585_10 hx585_2 hx585_3 hx585_4 hx585_5 hx585_6 hx585_7 hx585_8 hx585_9 hHeld ⊢
           refine pu_ 0 (some 29) (m_ 18 1) rfl rfl (ao HT_) ?_
           refine pu_ 2 (some 31) (m_ 18 5) rfl rfl (ao HT_) ?_
           refine pu_ 6 (some 35) (m_ 18 69) rfl rfl (ao HT_) ?_
           refine pu_ 9 (some 38) (m_ 18 581) rfl rfl (ao HT_) ?_
           refine tk_ 1 (some 30) (m_ 18 583) rfl rfl (tw HT_ HW_) hHeld ?_
           refine pu_ 3 (some 32) (m_ 18 591) rfl rfl (ao HT_) ?_
           refine pu_ 4 (some 33) (m_ 18 607) rfl rfl (ao HT_) ?_
           refine tk_ 5 (some 34) (m_ 18 639) rfl rfl (tw HT_ HW_) hHeld ?_
           refine pu_ 7 (some 36) (m_ 18 767) rfl rfl (ao HT_) ?_
           refine tk_ 8 (some 37) (m_ 18 1023) rfl rfl (tw HT_ HW_) hHeld ?_
           refine tk_ 10 (some 39) (m_ 18 2047) rfl rfl (tw HT_ HW_) hHeld ?_
           refine join_ (σ := Nat) 2 (m_ 18 65535) (fun s_ => [(40, .tuple #[.agg #[.int .i64 t586, .int .i64 t587], .int .i64 t588]), (8, .pointer (some ⟨s_, 0, none⟩)), (28, .tuple #[.agg #[.int .i64 t586, .int .i64 t587], .int .i64 t588]), (41, .agg #[.int .i64 t586, .int .i64 t587]), (42, .int .i64 t588)]) (fun s_ w' => (c_ w' gb582 0 (.int .i64 a0_0) ∧ c_ w' gb582 1 (.int .i64 a0_1) ∧ c_ w' gb582 2 (.int .i64 a0_2) ∧ c_ w' gb582 3 (.int .i64 a0_3) ∧ c_ w' gb582 4 (.int .i64 a0_4) ∧ c_ w' gb582 5 (.slice (some ad583) l0_5.length c0_5) ∧ c_ w' gb582 6 (.slice A0_6 l0_6.length c0_6) ∧ c_ w' gb582 7 (.int .i64 a0_7) ∧ c_ w' gb582 8 (.int .i64 a0_8) ∧ w'.cell? (ad583.add ((x5_1).toNat * 7)) = some (.string ((rd_T42 l0_5 x5_1).f0)) ∧ w'.cell? ⟨(ad583.add ((x5_1).toNat * 7)).block, (ad583.add ((x5_1).toNat * 7)).off + 1, none⟩ = some (.slice (some ad585) ((rd_T42 l0_5 x5_1).f1).length c584_1) ∧ w'.cell? ⟨(ad583.add ((x5_1).toNat * 7)).block, (ad583.add ((x5_1).toNat * 7)).off + 2, none⟩ = some (.slice A584_2 ((rd_T42 l0_5 x5_1).f2).length c584_2) ∧ w'.cell? ⟨(ad583.add ((x5_1).toNat * 7)).block, (ad583.add ((x5_1).toNat * 7)).off + 3, none⟩ = some (.slice A584_3 ((rd_T42 l0_5 x5_1).f3).length c584_3) ∧ w'.cell? ⟨(ad583.add ((x5_1).toNat * 7)).block, (ad583.add ((x5_1).toNat * 7)).off + 4, none⟩ = some (.slice A584_4 ((rd_T42 l0_5 x5_1).f4).length c584_4) ∧ w'.cell? ⟨(ad583.add ((x5_1).toNat * 7)).block, (ad583.add ((x5_1).toNat * 7)).off + 5, none⟩ = some (.slice A584_5 ((rd_T42 l0_5 x5_1).f5).length c584_5) ∧ w'.cell? ⟨(ad583.add ((x5_1).toNat * 7)).block, (ad583.add ((x5_1).toNat * 7)).off + 6, none⟩ = some (.int .i64 ((rd_T42 l0_5 x5_1).f6)) ∧ w'.cell? (ad585.add ((x7_2).toNat * 11)) = some (.string ((rd_T48 ((rd_T42 l0_5 x5_1).f1) x7_2).f0)) ∧ w'.cell? ⟨(ad585.add ((x7_2).toNat * 11)).block, (ad585.add ((x7_2).toNat * 11)).off + 1, none⟩ = some (.int .i64 ((rd_T48 ((rd_T42 l0_5 x5_1).f1) x7_2).f1)) ∧ w'.cell? ⟨(ad585.add ((x7_2).toNat * 11)).block, (ad585.add ((x7_2).toNat * 11)).off + 2, none⟩ = some (.int .i64 ((rd_T48 ((rd_T42 l0_5 x5_1).f1) x7_2).f2)) ∧ w'.cell? ⟨(ad585.add ((x7_2).toNat * 11)).block, (ad585.add ((x7_2).toNat * 11)).off + 3, none⟩ = some (.int .i64 ((rd_T48 ((rd_T42 l0_5 x5_1).f1) x7_2).f3.f0)) ∧ w'.cell? ⟨(ad585.add ((x7_2).toNat * 11)).block, (ad585.add ((x7_2).toNat * 11)).off + 4, none⟩ = some (.int .i64 ((rd_T48 ((rd_T42 l0_5 x5_1).f1) x7_2).f3.f1)) ∧ w'.cell? ⟨(ad585.add ((x7_2).toNat * 11)).block, (ad585.add ((x7_2).toNat * 11)).off + 5, none⟩ = some (.int .i64 ((rd_T48 ((rd_T42 l0_5 x5_1).f1) x7_2).f4)) ∧ w'.cell? ⟨(ad585.add ((x7_2).toNat * 11)).block, (ad585.add ((x7_2).toNat * 11)).off + 6, none⟩ = some (.int .i64 ((rd_T48 ((rd_T42 l0_5 x5_1).f1) x7_2).f5)) ∧ w'.cell? ⟨(ad585.add ((x7_2).toNat * 11)).block, (ad585.add ((x7_2).toNat * 11)).off + 7, none⟩ = some (.int .i64 ((rd_T48 ((rd_T42 l0_5 x5_1).f1) x7_2).f6)) ∧ w'.cell? ⟨(ad585.add ((x7_2).toNat * 11)).block, (ad585.add ((x7_2).toNat * 11)).off + 8, none⟩ = some (.int .i64 ((rd_T48 ((rd_T42 l0_5 x5_1).f1) x7_2).f7)) ∧ w'.cell? ⟨(ad585.add ((x7_2).toNat * 11)).block, (ad585.add ((x7_2).toNat * 11)).off + 9, none⟩ = some (.int .i64 ((rd_T48 ((rd_T42 l0_5 x5_1).f1) x7_2).f8)) ∧ w'.cell? ⟨(ad585.add ((x7_2).toNat * 11)).block, (ad585.add ((x7_2).toNat * 11)).off + 10, none⟩ = some (.int .i64 ((rd_T48 ((rd_T42 l0_5 x5_1).f1) x7_2).f9))) ∧ (Kd.S (Kd.slice 23 k23) 33 w' w.heap.size (fun k_ => some k_ ≠ (u6 : Value).ownBlock ∧ k_ ≠ s_) u4 x4_1) ∧ (Kd.R k23 23 w' w.heap.size (fun k_ => k_ ≠ s_) u6 x6_2) ∧ (w'.heap[gb582]? = some (.cells #[.int .i64 a0_0, .int .i64 a0_1, .int .i64 a0_2, .int .i64 a0_3, .int .i64 a0_4, .slice (some ad583) l0_5.length c0_5, .slice A0_6 l0_6.length c0_6, .int .i64 a0_7, .int .i64 a0_8] 27 (0, 0))) ∧ (w'.heap[s_]? = some (.cells #[.int .i64 0, .int .i64 0] 23 (0, 0))) ∧ (w.heap.size ≤ s_) ∧ (w.heap.size ≤ s_) ∧ (gb582 ≠ s_) ∧ (s_ ≠ gb582) ∧ (Below w.heap.size w w')) ?_ ?_
           rotate_left
           ·intro hCont
            refine two_ (i := 11) (j := 15) (Ni := some 40) (Nj := some 8) (m_ 18 4095) (m_ 18 34815) rfl rfl rfl rfl (two_of HT_.out (by kernel_rfl)) (by decide) (by decide) (fun K hK => ?_) (fun K hK => ?_)
            ·skip
             refine gs_ rfl Tryz.func11 (carrefourref09_Ratio.calls _ ((rd_T48 ((rd_T42 l0_5 x5_1).f1) x7_2).f0) ((rd_T48 ((rd_T42 l0_5 x5_1).f1) x7_2).f1) ((rd_T48 ((rd_T42 l0_5 x5_1).f1) x7_2).f2) ((rd_T48 ((rd_T42 l0_5 x5_1).f1) x7_2).f3.f0) ((rd_T48 ((rd_T42 l0_5 x5_1).f1) x7_2).f3.f1) ((rd_T48 ((rd_T42 l0_5 x5_1).f1) x7_2).f4) ((rd_T48 ((rd_T42 l0_5 x5_1).f1) x7_2).f5) ((rd_T48 ((rd_T42 l0_5 x5_1).f1) x7_2).f6) ((rd_T48 ((rd_T42 l0_5 x5_1).f1) x7_2).f7) ((rd_T48 ((rd_T42 l0_5 x5_1).f1) x7_2).f8) ((rd_T48 ((rd_T42 l0_5 x5_1).f1) x7_2).f9) _ _ _ _ _ _ A9.out) ag ?_
             intro w24 hb
             replace HO_4 := Aside0.mk (Kd.S_below (St_ HO_4.out) hb)
             replace HO_6 := Aside0.mk (Kd.R_below (Rt_ HO_6.out) hb)
             replace BK582 := bb BK582 hb
             replace HB := bs HB hb
             (try clear hb)
             refine hK.out _ _ ⟨ct BK582 0, ct BK582 1, ct BK582 2, ct BK582 3, ct BK582 4, ct BK582 5, ct BK582 6, ct BK582 7, ct BK582 8, (hx_ HB hw584_0), (hx_ HB hw584_1), (hx_ HB hw584_2), (hx_ HB hw584_3), (hx_ HB hw584_4), (hx_ HB hw584_5), (hx_ HB hw584_6), (hx_ HB hw585_0), (hx_ HB hw585_1), (hx_ HB hw585_2), (hx_ HB hw585_3), (hx_ HB hw585_4), (hx_ HB hw585_5), (hx_ HB hw585_6), (hx_ HB hw585_7), (hx_ HB hw585_8), (hx_ HB hw585_9), (hx_ HB hw585_10)⟩ (fun hHeld => ?_)
             clear hK K
             refine nr_ (some 40) ?_
             refine pu_ 12 (some 28) (m_ 18 8191) rfl rfl (ao HT_) ?_
             refine pu_ 13 (some 41) (m_ 18 16383) rfl rfl (ao HT_) ?_
             refine pu_ 14 (some 42) (m_ 18 32767) rfl rfl (ao HT_) ?_
             refine o1_ 15 (some 8) (m_ 18 65535) rfl rfl (oo HT_) (fun K hK => ?_)
             refine box_step ?hg (N := 8) ?hd (cs := #[.int .i64 0, .int .i64 0]) (t := 23) ?hr ?_; (case hd => rfl); (case hg => rfl); (case hr => first | (go_simp; done) | (go_simp; rfl))
             intro gb589 hg w25 hbox hb
             have BK589 := Aside0.mk (hbox)
             have GW589 := bz HB hg
             have GE589 := bz HB hg
             have NB582_589 := bl BK582 hg
             have NB589_582 := bg BK582 hg
             replace HO_4 := Aside0.mk (Kd.S_below (Kd.S_elderB (St_ HO_4.out) gb589 (Nat.le_of_eq hg.symm)) hb)
             replace HO_6 := Aside0.mk (Kd.R_below (Kd.R_elderB (Rt_ HO_6.out) gb589 (Nat.le_of_eq hg.symm)) hb)
             replace BK582 := bb BK582 hb
             replace HB := bs HB hb
             clear hb hg
             refine hK.out _ _ ⟨ct BK582 0, ct BK582 1, ct BK582 2, ct BK582 3, ct BK582 4, ct BK582 5, ct BK582 6, ct BK582 7, ct BK582 8, (hx_ HB hw584_0), (hx_ HB hw584_1), (hx_ HB hw584_2), (hx_ HB hw584_3), (hx_ HB hw584_4), (hx_ HB hw584_5), (hx_ HB hw584_6), (hx_ HB hw585_0), (hx_ HB hw585_1), (hx_ HB hw585_2), (hx_ HB hw585_3), (hx_ HB hw585_4), (hx_ HB hw585_5), (hx_ HB hw585_6), (hx_ HB hw585_7), (hx_ HB hw585_8), (hx_ HB hw585_9), (hx_ HB hw585_10)⟩ (fun hHeld => ?_)
             clear hK K
             refine nr_ (some 8) ?_
             exact norm_ (by simp only [putAll, Act.put, si, s0, s1]) (hCont (gb589) _ ⟨hHeld, (St_ HO_4.out), (Rt_ (Kd.R_mono HO_6.out (fun _ hk => hk.2))), (bx BK582), (bx BK589), GW589.out, GE589.out, NB582_589.out, NB589_582.out, (bf HB)⟩)
            ·skip
             refine box_step ?hg (N := 8) ?hd (cs := #[.int .i64 0, .int .i64 0]) (t := 23) ?hr ?_; (case hd => rfl); (case hg => rfl); (case hr => first | (go_simp; done) | (go_simp; rfl))
             intro gb589 hg w24 hbox hb
             have BK589 := Aside0.mk (hbox)
             have GW589 := bz HB hg
             have GE589 := bz HB hg
             have NB582_589 := bl BK582 hg
             have NB589_582 := bg BK582 hg
             replace HO_4 := Aside0.mk (Kd.S_below (Kd.S_elderB (St_ HO_4.out) gb589 (Nat.le_of_eq hg.symm)) hb)
             replace HO_6 := Aside0.mk (Kd.R_below (Kd.R_elderB (Rt_ HO_6.out) gb589 (Nat.le_of_eq hg.symm)) hb)
             replace BK582 := bb BK582 hb
             replace HB := bs HB hb
             clear hb hg
             refine hK.out _ _ ⟨ct BK582 0, ct BK582 1, ct BK582 2, ct BK582 3, ct BK582 4, ct BK582 5, ct BK582 6, ct BK582 7, ct BK582 8, (hx_ HB hw584_0), (hx_ HB hw584_1), (hx_ HB hw584_2), (hx_ HB hw584_3), (hx_ HB hw584_4), (hx_ HB hw584_5), (hx_ HB hw584_6), (hx_ HB hw585_0), (hx_ HB hw585_1), (hx_ HB hw585_2), (hx_ HB hw585_3), (hx_ HB hw585_4), (hx_ HB hw585_5), (hx_ HB hw585_6), (hx_ HB hw585_7), (hx_ HB hw585_8), (hx_ HB hw585_9), (hx_ HB hw585_10)⟩ (fun hHeld => ?_)
             clear hK K
             refine nr_ (some 8) ?_
             refine o1_ 11 (some 40) (m_ 18 36863) rfl rfl (oo HT_) (fun K hK => ?_)
             refine gs_ rfl Tryz.func11 (carrefourref09_Ratio.calls _ ((rd_T48 ((rd_T42 l0_5 x5_1).f1) x7_2).f0) ((rd_T48 ((rd_T42 l0_5 x5_1).f1) x7_2).f1) ((rd_T48 ((rd_T42 l0_5 x5_1).f1) x7_2).f2) ((rd_T48 ((rd_T42 l0_5 x5_1).f1) x7_2).f3.f0) ((rd_T48 ((rd_T42 l0_5 x5_1).f1) x7_2).f3.f1) ((rd_T48 ((rd_T42 l0_5 x5_1).f1) x7_2).f4) ((rd_T48 ((rd_T42 l0_5 x5_1).f1) x7_2).f5) ((rd_T48 ((rd_T42 l0_5 x5_1).f1) x7_2).f6) ((rd_T48 ((rd_T42 l0_5 x5_1).f1) x7_2).f7) ((rd_T48 ((rd_T42 l0_5 x5_1).f1) x7_2).f8) ((rd_T48 ((rd_T42 l0_5 x5_1).f1) x7_2).f9) _ _ _ _ _ _ A9.out) ag ?_
             intro w25 hb
             replace HO_4 := Aside0.mk (Kd.S_below (St_ HO_4.out) hb)
             replace HO_6 := Aside0.mk (Kd.R_below (Rt_ HO_6.out) hb)
             replace BK582 := bb BK582 hb
             replace BK589 := bb BK589 hb
             replace HB := bs HB hb
             (try clear hb)
             refine hK.out _ _ ⟨ct BK582 0, ct BK582 1, ct BK582 2, ct BK582 3, ct BK582 4, ct BK582 5, ct BK582 6, ct BK582 7, ct BK582 8, (hx_ HB hw584_0), (hx_ HB hw584_1), (hx_ HB hw584_2), (hx_ HB hw584_3), (hx_ HB hw584_4), (hx_ HB hw584_5), (hx_ HB hw584_6), (hx_ HB hw585_0), (hx_ HB hw585_1), (hx_ HB hw585_2), (hx_ HB hw585_3), (hx_ HB hw585_4), (hx_ HB hw585_5), (hx_ HB hw585_6), (hx_ HB hw585_7), (hx_ HB hw585_8), (hx_ HB hw585_9), (hx_ HB hw585_10)⟩ (fun hHeld => ?_)
             clear hK K
             refine nr_ (some 40) ?_
             refine pu_ 12 (some 28) (m_ 18 40959) rfl rfl (ao HT_) ?_
             refine pu_ 13 (some 41) (m_ 18 49151) rfl rfl (ao HT_) ?_
             refine pu_ 14 (some 42) (m_ 18 65535) rfl rfl (ao HT_) ?_
             exact norm_ (by simp only [putAll, Act.put, si, s0, s1]) (hCont (gb589) _ ⟨hHeld, (St_ HO_4.out), (Rt_ (Kd.R_mono HO_6.out (fun _ hk => hk.2))), (bx BK582), (bx BK589), GW589.out, GE589.out, NB582_589.out, NB589_582.out, (bf HB)⟩)
           rintro gb589 w26 ⟨hS_, h0_, h1_, h2_, h3_, h4_, h5_, h6_, h7_, h8_⟩
           have n0_ : Aside0 (Kd.S (Kd.slice 23 k23) 33 w26 w.heap.size (fun k_ => some k_ ≠ (u6 : Value).ownBlock ∧ k_ ≠ gb589) u4 x4_1) := ⟨h0_⟩
           have n1_ : Aside0 (Kd.R k23 23 w26 w.heap.size (fun k_ => k_ ≠ gb589) u6 x6_2) := ⟨h1_⟩
           have n2_ : Aside0 (w26.heap[gb582]? = some (.cells #[.int .i64 a0_0, .int .i64 a0_1, .int .i64 a0_2, .int .i64 a0_3, .int .i64 a0_4, .slice (some ad583) l0_5.length c0_5, .slice A0_6 l0_6.length c0_6, .int .i64 a0_7, .int .i64 a0_8] 27 (0, 0))) := ⟨h2_⟩
           have n3_ : Aside0 (w26.heap[gb589]? = some (.cells #[.int .i64 0, .int .i64 0] 23 (0, 0))) := ⟨h3_⟩
           have n4_ : Aside0 (w.heap.size ≤ gb589) := ⟨h4_⟩
           have n5_ : Aside0 (w.heap.size ≤ gb589) := ⟨h5_⟩
           have n6_ : Aside0 (gb582 ≠ gb589) := ⟨h6_⟩
           have n7_ : Aside0 (gb589 ≠ gb582) := ⟨h7_⟩
           have n8_ : Aside0 (Below w.heap.size w w26) := ⟨h8_⟩
           clear HO_4
           clear HO_6
           clear BK582
           clear HB
           clear h0_ h1_ h2_ h3_ h4_ h5_ h6_ h7_ h8_
           have HO_4 := n0_
           have HO_6 := n1_
           have BK582 := n2_
           have BK589 := n3_
           have GW589 := n4_
           have GE589 := n5_
           have NB582_589 := n6_
           have NB589_582 := n7_
           have HB := n8_
           clear n0_ n1_ n2_ n3_ n4_ n5_ n6_ n7_ n8_
           have hHeld : c_ w26 gb582 0 (.int .i64 a0_0) ∧ c_ w26 gb582 1 (.int .i64 a0_1) ∧ c_ w26 gb582 2 (.int .i64 a0_2) ∧ c_ w26 gb582 3 (.int .i64 a0_3) ∧ c_ w26 gb582 4 (.int .i64 a0_4) ∧ c_ w26 gb582 5 (.slice (some ad583) l0_5.length c0_5) ∧ c_ w26 gb582 6 (.slice A0_6 l0_6.length c0_6) ∧ c_ w26 gb582 7 (.int .i64 a0_7) ∧ c_ w26 gb582 8 (.int .i64 a0_8) ∧ w26.cell? (ad583.add ((x5_1).toNat * 7)) = some (.string ((rd_T42 l0_5 x5_1).f0)) ∧ w26.cell? ⟨(ad583.add ((x5_1).toNat * 7)).block, (ad583.add ((x5_1).toNat * 7)).off + 1, none⟩ = some (.slice (some ad585) ((rd_T42 l0_5 x5_1).f1).length c584_1) ∧ w26.cell? ⟨(ad583.add ((x5_1).toNat * 7)).block, (ad583.add ((x5_1).toNat * 7)).off + 2, none⟩ = some (.slice A584_2 ((rd_T42 l0_5 x5_1).f2).length c584_2) ∧ w26.cell? ⟨(ad583.add ((x5_1).toNat * 7)).block, (ad583.add ((x5_1).toNat * 7)).off + 3, none⟩ = some (.slice A584_3 ((rd_T42 l0_5 x5_1).f3).length c584_3) ∧ w26.cell? ⟨(ad583.add ((x5_1).toNat * 7)).block, (ad583.add ((x5_1).toNat * 7)).off + 4, none⟩ = some (.slice A584_4 ((rd_T42 l0_5 x5_1).f4).length c584_4) ∧ w26.cell? ⟨(ad583.add ((x5_1).toNat * 7)).block, (ad583.add ((x5_1).toNat * 7)).off + 5, none⟩ = some (.slice A584_5 ((rd_T42 l0_5 x5_1).f5).length c584_5) ∧ w26.cell? ⟨(ad583.add ((x5_1).toNat * 7)).block, (ad583.add ((x5_1).toNat * 7)).off + 6, none⟩ = some (.int .i64 ((rd_T42 l0_5 x5_1).f6)) ∧ w26.cell? (ad585.add ((x7_2).toNat * 11)) = some (.string ((rd_T48 ((rd_T42 l0_5 x5_1).f1) x7_2).f0)) ∧ w26.cell? ⟨(ad585.add ((x7_2).toNat * 11)).block, (ad585.add ((x7_2).toNat * 11)).off + 1, none⟩ = some (.int .i64 ((rd_T48 ((rd_T42 l0_5 x5_1).f1) x7_2).f1)) ∧ w26.cell? ⟨(ad585.add ((x7_2).toNat * 11)).block, (ad585.add ((x7_2).toNat * 11)).off + 2, none⟩ = some (.int .i64 ((rd_T48 ((rd_T42 l0_5 x5_1).f1) x7_2).f2)) ∧ w26.cell? ⟨(ad585.add ((x7_2).toNat * 11)).block, (ad585.add ((x7_2).toNat * 11)).off + 3, none⟩ = some (.int .i64 ((rd_T48 ((rd_T42 l0_5 x5_1).f1) x7_2).f3.f0)) ∧ w26.cell? ⟨(ad585.add ((x7_2).toNat * 11)).block, (ad585.add ((x7_2).toNat * 11)).off + 4, none⟩ = some (.int .i64 ((rd_T48 ((rd_T42 l0_5 x5_1).f1) x7_2).f3.f1)) ∧ w26.cell? ⟨(ad585.add ((x7_2).toNat * 11)).block, (ad585.add ((x7_2).toNat * 11)).off + 5, none⟩ = some (.int .i64 ((rd_T48 ((rd_T42 l0_5 x5_1).f1) x7_2).f4)) ∧ w26.cell? ⟨(ad585.add ((x7_2).toNat * 11)).block, (ad585.add ((x7_2).toNat * 11)).off + 6, none⟩ = some (.int .i64 ((rd_T48 ((rd_T42 l0_5 x5_1).f1) x7_2).f5)) ∧ w26.cell? ⟨(ad585.add ((x7_2).toNat * 11)).block, (ad585.add ((x7_2).toNat * 11)).off + 7, none⟩ = some (.int .i64 ((rd_T48 ((rd_T42 l0_5 x5_1).f1) x7_2).f6)) ∧ w26.cell? ⟨(ad585.add ((x7_2).toNat * 11)).block, (ad585.add ((x7_2).toNat * 11)).off + 8, none⟩ = some (.int .i64 ((rd_T48 ((rd_T42 l0_5 x5_1).f1) x7_2).f7)) ∧ w26.cell? ⟨(ad585.add ((x7_2).toNat * 11)).block, (ad585.add ((x7_2).toNat * 11)).off + 9, none⟩ = some (.int .i64 ((rd_T48 ((rd_T42 l0_5 x5_1).f1) x7_2).f8)) ∧ w26.cell? ⟨(ad585.add ((x7_2).toNat * 11)).block, (ad585.add ((x7_2).toNat * 11)).off + 10, none⟩ = some (.int .i64 ((rd_T48 ((rd_T42 l0_5 x5_1).f1) x7_2).f9)) := hS_
           refine norm_ (a' := ?_) ?_ ?_
           rotate_left
           ·simp only [putAll, Act.put, si, s0, s1]
            rfl
           refine o1_ 16 (none) (m_ 18 131071) rfl rfl (oo HT_) (fun K hK => ?_)
           have hs27 : c_ w26 gb589 0 (.int .i64 0) := ct BK589 0
           have hfs27 := blk_frozen BK589.out 0
           have hns27_0 := nn NB582_589
           have hs28 : c_ w26 gb589 1 (.int .i64 0) := ct BK589 1
           have hfs28 := blk_frozen BK589.out 1
           have hns28_0 := nn NB582_589
           refine skip_ (w1 := ?_) (by rfl) rfl ?_ ?_
           rotate_left
           ·go_simp
            rfl
           refine hK.out _ _ (by obtain ⟨d0, d1, d2, d3, d4, d5, d6, d7, d8, d9, d10, d11, d12, d13, d14, d15, d16, d17, d18, d19, d20, d21, d22, d23, d24, d25, d26⟩ := hHeld; exact ⟨fa_ NB582_589 (fa_ NB582_589 d0), fa_ NB582_589 (fa_ NB582_589 d1), fa_ NB582_589 (fa_ NB582_589 d2), fa_ NB582_589 (fa_ NB582_589 d3), fa_ NB582_589 (fa_ NB582_589 d4), fa_ NB582_589 (fa_ NB582_589 d5), fa_ NB582_589 (fa_ NB582_589 d6), fa_ NB582_589 (fa_ NB582_589 d7), fa_ NB582_589 (fa_ NB582_589 d8), fb_ hw584_0 GW589 (fb_ hw584_0 GW589 d9), fb_ hw584_1 GW589 (fb_ hw584_1 GW589 d10), fb_ hw584_2 GW589 (fb_ hw584_2 GW589 d11), fb_ hw584_3 GW589 (fb_ hw584_3 GW589 d12), fb_ hw584_4 GW589 (fb_ hw584_4 GW589 d13), fb_ hw584_5 GW589 (fb_ hw584_5 GW589 d14), fb_ hw584_6 GW589 (fb_ hw584_6 GW589 d15), fb_ hw585_0 GW589 (fb_ hw585_0 GW589 d16), fb_ hw585_1 GW589 (fb_ hw585_1 GW589 d17), fb_ hw585_2 GW589 (fb_ hw585_2 GW589 d18), fb_ hw585_3 GW589 (fb_ hw585_3 GW589 d19), fb_ hw585_4 GW589 (fb_ hw585_4 GW589 d20), fb_ hw585_5 GW589 (fb_ hw585_5 GW589 d21), fb_ hw585_6 GW589 (fb_ hw585_6 GW589 d22), fb_ hw585_7 GW589 (fb_ hw585_7 GW589 d23), fb_ hw585_8 GW589 (fb_ hw585_8 GW589 d24), fb_ hw585_9 GW589 (fb_ hw585_9 GW589 d25), fb_ hw585_10 GW589 (fb_ hw585_10 GW589 d26)⟩) (fun hHeld => ?_)
           clear hK K
           refine pu_ 17 (some 9) (m_ 18 262143) rfl rfl (ao HT_) ?_
           refine done_ (done_of HT_.out (by kernel_rfl)) ?_
           try go_wp2
           go_ret2
           exact ⟨_, ae, by first | exact Kd.S_nil _ _ _ _ _ | exact Kd.N_nil _ _ _ _ _ | exact Kd.V_nil _ _ _ _ _ | exact Kd.Q_nil _ _ _ _ _ | exact Kd.R_nil _ _ _ _ _, bf HB⟩
         ·rw [if_neg c8] at H
          exact absurd H (by simp)
        ·rw [if_neg c7] at H
         have c7b0 : decide (x7_2 < (((rd_T42 l0_5 x5_1).f1).length : Int)) = false := decide_eq_false c7
         clear c7
         by_cases c29 : x4_1.length < 5864062014805
         ·rw [if_pos c29] at H
          have LMc29 := Aside0.mk c29
          clear c29
          obtain ⟨y593, hy593⟩ : ∃ y_ : List (List (S23)), y_ = (x4_1 ++ [x6_2]) := ⟨_, rfl⟩
          replace H : (carrefourref09_Table.l0 k2 y593 (wrap64 (x5_1 + 1)) a0_0 a0_1 a0_2 a0_3 a0_4 l0_5 l0_6 a0_7 a0_8) = some (r1, r2) := by first | (rw [hy593]; with_reducible exact H) | (have H2_ := (Option.bind_some _ _).symm.trans H; rw [hy593]; with_reducible exact H2_) | (have H2_ := (Option.bind_some _ _).symm.trans H; with_reducible exact H2_) | with_reducible exact H | (rw [hy593]; exact H) | exact H
          have Ny593 := Aside0.mk hy593
          clear hy593
          have H' := Aside0.mk H
          clear H
          have hcz30 := X.k9 BK582
          have p583 : 0 ≤ (x5_1 : Int) := od_
          have q583 : x5_1 < (l0_5.length : Int) := od_
          obtain ⟨ad583, A583_1, c583_1, A583_2, c583_2, A583_3, c583_3, A583_4, c583_4, A583_5, c583_5, e583, hx583_0, hx583_1, hx583_2, hx583_3, hx583_4, hx583_5, hx583_6, hl583_1, hi583_1, hl583_2, hi583_2, hl583_3, hi583_3, hl583_4, hi583_4, hl583_5, hi583_5⟩ := at_T42 HR0_5.out x5_1 p583 q583
          cases e583
          replace hx583_0 := hx_ HB hx583_0
          replace hx583_1 := hx_ HB hx583_1
          replace hx583_2 := hx_ HB hx583_2
          replace hx583_3 := hx_ HB hx583_3
          replace hx583_4 := hx_ HB hx583_4
          replace hx583_5 := hx_ HB hx583_5
          replace hx583_6 := hx_ HB hx583_6
          have HR583_1 := Aside0.mk hi583_1
          have HC583_1 := Aside0.mk hl583_1
          clear hi583_1 hl583_1
          have HR583_2 := Aside0.mk hi583_2
          have HC583_2 := Aside0.mk hl583_2
          clear hi583_2 hl583_2
          have HR583_3 := Aside0.mk hi583_3
          have HC583_3 := Aside0.mk hl583_3
          clear hi583_3 hl583_3
          have HR583_4 := Aside0.mk hi583_4
          have HC583_4 := Aside0.mk hl583_4
          clear hi583_4 hl583_4
          have HR583_5 := Aside0.mk hi583_5
          have HC583_5 := Aside0.mk hl583_5
          clear hi583_5 hl583_5
          replace p583 := eq_true p583
          replace q583 := eq_true q583
          obtain ⟨Ao32, co32, eo32⟩ := Kd.R_slice HO_6.out
          subst eo32
          go_wp2_with (first | ((with_reducible refine gate_builtin (b := .append) (xs := #[.tmp 50, .tmp 52]) rfl ?_); at_builtin; refine Kd.S_append (Kd.slice 23 k23) (w0 := w) w.heap.size rfl (.tmp 50) (.tmp 52) 29 33 (.slice none 0 0) 24 rfl Tryz.underlying29 info33 rfl (by decide) (by omega) u4 x4_1 x6_2 [.slice Ao32 x6_2.length co32] (fun _ => True) (fun k_ => some k_ = (.slice Ao32 x6_2.length co32 : Value).ownBlock) rfl rfl ?aP (fun k_ hk_ => ((Kd.R_mono (ok' := fun k_ => ((fun _ => True)) k_ ∧ some k_ ≠ (u4 : Value).ownBlock) (Kd.R_apart' (HO_6.out) (Kd.S_typed HO_4.out) (by decide)) (fun k_ hk => ⟨trivial, hk.2⟩))).1 k_ hk_.symm) ?aF ?aO ?aB ?aS ?aL ?_; (case aP => exact Kd.M_row (Kd.R_mono (Kd.R_tight rfl (Kd.R_mono (ok' := fun k_ => ((fun _ => True)) k_ ∧ some k_ ≠ (u4 : Value).ownBlock) (Kd.R_apart' (HO_6.out) (Kd.S_typed HO_4.out) (by decide)) (fun k_ hk => ⟨trivial, hk.2⟩))) (fun _ h_ => h_))); (case aB => exact (bf HB)); (case aF => exact (fun _ _ => trivial)); (case aO => exact (St_ (Kd.S_mono HO_4.out (fun k_ hk => ⟨trivial, fun e_ => hk e_⟩)))); (case aS => exact (below_size (bf HB))); (case aL => have := LMc29.out; omega); intro v594 w31 ho hb hg hat; rw [← Ny593.out] at ho; have n0_ := Aside0.mk (blk_grown (g := gb582) (o := .cells #[.int .i64 a0_0, .int .i64 a0_1, .int .i64 a0_2, .int .i64 a0_3, .int .i64 a0_4, .slice (some ad583) l0_5.length c0_5, .slice A0_6 l0_6.length c0_6, .int .i64 a0_7, .int .i64 a0_8] 27 (0, 0)) (bx BK582) hg (Kd.S_ne HO_4.out BK582.out (by decide))); have n1_ := Aside0.mk (hb); have n2_ := Aside0.mk (ho); clear BK582; clear HB; clear HO_4; clear HO_6; have BK582 := n0_; have HB := n1_; have HO595 := n2_; clear n0_ n1_ n2_; clear ho hb hg hat))
          go_roundg k2
          case measure => have := HK1.out; have := HK2.out; omega
          case rel => exact ⟨(y593), (wrap64 (x5_1 + 1)), (aq), H', ⟨by have := HK1.out; have := HK2.out; omega⟩, ⟨St_ HO595.out⟩, bu_ BK582, ⟨bf HB⟩⟩
         ·rw [if_neg c29] at H
          exact absurd H (by simp)
       ·rw [if_neg c6] at H
        exact absurd H (by simp)
      ·rw [if_neg c5] at H
       exact absurd H (by simp)
   ·rw [if_neg c3] at H
    have c3b0 : decide (x5_1 < (l0_5.length : Int)) = false := decide_eq_false c3
    clear c3
    simp only [Option.some.injEq, Prod.mk.injEq] at H
    obtain ⟨rfl, rfl⟩ := H
    have hcz33 := X.k9 BK582
    go_wp2
    go_ret2
    exact ⟨_, ae, by (with_reducible repeat (first | apply Kd.S_alloc | apply Kd.S_drewN | apply Kd.S_drew)); exact HO_4.out, bf HB⟩

end Go.Proofs.YtfhokgkpcphmlaaGreatDoor.X
