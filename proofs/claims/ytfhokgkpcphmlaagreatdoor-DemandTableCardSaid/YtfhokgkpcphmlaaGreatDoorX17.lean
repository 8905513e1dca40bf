/- Walks: each '.calls' says that the Go function comes to what its Lean function tells. Conditions: as each theorem's head says. -/
import Derived.Test.YtfhokgkpcphmlaaGreatDoorXD
import Derived.Test.YtfhokgkpcphmlaaGreatDoorX0
import Derived.Test.YtfhokgkpcphmlaaGreatDoorX14
import Derived.Test.YtfhokgkpcphmlaaGreatDoorX16
namespace Go.Proofs.YtfhokgkpcphmlaaGreatDoor.X
open Go.RowKit Go.Proofs.YtfhokgkpcphmlaaGreatDoorW.PrintWords Go.Proofs.YtfhokgkpcphmlaaGreatDoorW.PrintLast Go.Proofs.YtfhokgkpcphmlaaGreatDoorW.PrintMore
attribute [local go_sem] max2_int min2_int max_two min_two max_three min_three max_four min_four   -- for this text's walks alone
set_option linter.unusedVariables false
set_option maxHeartbeats 8000000
set_option maxRecDepth 100000
set_option linter.unusedSimpArgs false

/-! ### carrefourref02_divided: function 74 -/
theorem carrefourref02_divided.calls (k : Nat) (P0_ : Nat → Prop) (A0 : Option Addr) (c0 : Nat) (l0 : List Int) (P1_ : Nat → Prop) (A1 : Option Addr) (c1 : Nat) (l1 : List Int) (r1 : Int) (r2 : Bool) (w : World) (hs0 : Kd.V (Kd.int .u64) 74 w w.heap.size (fun k_ => P0_ k_) (.slice A0 l0.length c0) l0) (hs1 : Kd.V (Kd.int .u64) 74 w w.heap.size (fun k_ => P1_ k_) (.slice A1 l1.length c1) l1) (h : carrefourref02_divided.f k l0 l1 = some (r1, r2)) :
  Calls Tryz.prog 74 #[.slice A0 l0.length c0, .slice A1 l1.length c1] w fun e w' => e = .returned (.tuple #[.int .u64 r1, .bool r2]) ∧ Below w.heap.size w w' := by
 have HO0 := Aside0.mk (show Kd.V (Kd.int .u64) 74 w w.heap.size (fun k_ => ((P0_ k_ ∨ P1_ k_) ∨ w.heap.size ≤ k_)) (.slice A0 l0.length c0) l0 from Kd.V_mono hs0 (fun k_ hk => .inl (.inl hk)))
 have HO1 := Aside0.mk (show Kd.V (Kd.int .u64) 74 w w.heap.size (fun k_ => ((P0_ k_ ∨ P1_ k_) ∨ w.heap.size ≤ k_)) (.slice A1 l1.length c1) l1 from Kd.V_mono hs1 (fun k_ hk => .inl (.inr hk)))
 have HB := Aside0.mk (Below.refl w.heap.size w)
 have H : (carrefourref02_divided.l0 k l0 0 ([] : List (List Int)) l1) = some (r1, r2) := h
 clear h
 have H' := Aside0.mk H
 clear H
 go_enter Tryz.func74, Tryz.ntmps74
 go_wp2
 go_loopg [7, 8] k (fun kq v7 v8 w' => ∃ (x7_1 : List (List Int)) (x8_1 : List Int), Aside0 (carrefourref02_divided.l0 kq l0 0 x7_1 x8_1 = some (r1, r2)) ∧ Aside0 (kq ≤ k) ∧ Aside0 (Kd.V (Kd.int .u64) 74 w' w.heap.size (fun k_ => ((P0_ k_ ∨ P1_ k_) ∨ w.heap.size ≤ k_) ∧ some k_ ≠ (v7 : Value).ownBlock) (.slice A0 l0.length c0) l0) ∧ Aside0 (Kd.N (Kd.slice 74 (Kd.int .u64)) 94 w' w.heap.size (fun k_ => ((P0_ k_ ∨ P1_ k_) ∨ w.heap.size ≤ k_)) v7 x7_1) ∧ Aside0 (Kd.V (Kd.int .u64) 74 w' w.heap.size (fun k_ => ((P0_ k_ ∨ P1_ k_) ∨ w.heap.size ≤ k_) ∧ some k_ ≠ (v7 : Value).ownBlock) v8 x8_1) ∧ Aside0 (Below w.heap.size w w'))
 case atStart => exact ⟨(([] : List (List Int))), (l1), H', ⟨Nat.le_refl _⟩, ⟨Vt_ (Kd.V_mono HO0.out (fun _ hk => ⟨hk, (by simp [Value.ownBlock])⟩))⟩, ⟨by first | exact Kd.S_nil _ _ _ _ _ | exact Kd.N_nil _ _ _ _ _ | exact Kd.V_nil _ _ _ _ _ | exact Kd.Q_nil _ _ _ _ _ | exact Kd.R_nil _ _ _ _ _⟩, ⟨Vt_ (Kd.V_mono HO1.out (fun _ hk => ⟨hk, (by simp [Value.ownBlock])⟩))⟩, ⟨bf HB⟩⟩
 case round =>
  clear H'
  (try clear c1); (try clear p2)
  obtain ⟨x7_1, x8_1, HA, HK1, HO_0, HO_7, HO_8, HB⟩ := hrel
  cases gk with
  | zero => exact absurd HA.out (by simp [carrefourref02_divided.l0])
  | succ k1 =>
   have H := HA.out
   clear HA
   simp only [carrefourref02_divided.l0] at H
   replace H := bi_ H; obtain ⟨t467, A3, H⟩ := H
   (try dsimp only at H)
   by_cases c4 : t467 ≤ 0
   ·rw [if_pos c4] at H
    have c4b0 : decide (t467 ≤ 0) = true := decide_eq_true c4
    clear c4
    by_cases c5 : x7_1.length < 5864062014805
    ·rw [if_pos c5] at H
     have LMc5 := Aside0.mk c5
     clear c5
     obtain ⟨y468, hy468⟩ : ∃ y_ : List (List Int), y_ = (x7_1 ++ [x8_1]) := ⟨_, rfl⟩
     replace H : ((carrefourref02_twice.f k1 x8_1).bind fun t471 => (carrefourref02_divided.l0 k1 l0 0 y468 t471)) = some (r1, r2) := by first | (rw [hy468]; with_reducible exact H) | (have H2_ := (Option.bind_some _ _).symm.trans H; rw [hy468]; with_reducible exact H2_) | (have H2_ := (Option.bind_some _ _).symm.trans H; with_reducible exact H2_) | with_reducible exact H | (rw [hy468]; exact H) | exact H
     have Ny468 := Aside0.mk hy468
     clear hy468
     replace H := bi_ H; obtain ⟨t471, A6, H⟩ := H
     (try dsimp only at H)
     have H' := Aside0.mk H
     clear H
     obtain ⟨Ao7, co7, eo7⟩ := Kd.V_slice HO_8.out
     subst eo7
     go_wp2_with (first | ((with_reducible refine gc 72 rfl ?_); refine gm_ (some 13) rfl rfl Tryz.func72 (carrefourref01_Order.calls _ _ _ _ _ _ _ _ _ ?side1 ?side2 ?side3 ?side4 A3.out) ag ?_; (case side1 => repeat (first | exact (Kd.V_reads' HO_8.out).2.2 | (with_reducible refine Kd.C_alloc ?_ _) | (with_reducible refine Kd.C_drewN ?_ _) | (with_reducible refine Kd.C_drew ?_))); (case side2 => exact (Kd.V_reads' HO_8.out).2.1); (case side3 => repeat (first | exact (Kd.V_reads' HO_0.out).2.2 | (with_reducible refine Kd.C_alloc ?_ _) | (with_reducible refine Kd.C_drewN ?_ _) | (with_reducible refine Kd.C_drew ?_))); (case side4 => exact (Kd.V_reads' HO_0.out).2.1); intro w8 hb; replace HO_0 := Aside0.mk (Kd.V_below (Vt_ HO_0.out) hb); replace HO_7 := Aside0.mk (Kd.N_below (Nt_ HO_7.out) hb); replace HO_8 := Aside0.mk (Kd.V_below (Vt_ HO_8.out) hb); replace HB := bs HB hb; (try clear hb)) | ((with_reducible refine gate_builtin (b := .append) (xs := #[.tmp 17, .tmp 19]) rfl ?_); at_builtin; refine Kd.N_append (Kd.slice 74 (Kd.int .u64)) (w0 := w) w.heap.size rfl (.tmp 17) (.tmp 19) 148 94 (.slice none 0 0) 24 rfl Tryz.underlying148 info94 rfl (by decide) (by omega) u7 x7_1 x8_1 [.slice Ao7 x8_1.length co7] (fun k_ => ((P0_ k_ ∨ P1_ k_) ∨ w.heap.size ≤ k_)) (fun k_ => ((fun k_ => ((P0_ k_ ∨ P1_ k_) ∨ w.heap.size ≤ k_))) k_ ∧ some k_ ≠ (u7 : Value).ownBlock) rfl rfl ?aP (fun _ hk => hk) ?aF ?aO ?aB ?aS ?aL ?_; (case aP => exact (Kd.FK_slice_mk (Kd.V_reads' (Kd.V_mono (ok' := (fun k_ => ((fun k_ => ((P0_ k_ ∨ P1_ k_) ∨ w.heap.size ≤ k_))) k_ ∧ some k_ ≠ (u7 : Value).ownBlock)) (HO_8.out) (fun k_ hk => ⟨hk.1, hk.2⟩))).2.1 (Kd.V_F (Kd.V_mono (ok' := (fun k_ => ((fun k_ => ((P0_ k_ ∨ P1_ k_) ∨ w.heap.size ≤ k_))) k_ ∧ some k_ ≠ (u7 : Value).ownBlock)) (HO_8.out) (fun k_ hk => ⟨hk.1, hk.2⟩))))); (case aB => exact (bf HB)); (case aF => exact (fun k_ hk => (.inr (Nat.le_trans (below_size (bf HB)) hk)))); (case aO => exact (Nt_ HO_7.out)); (case aS => exact (below_size (bf HB))); (case aL => have := LMc5.out; omega); intro v469 w9 ho hb hg hat; rw [← Ny468.out] at ho; have n0_ := Aside0.mk (Kd.V_afterv (ok := (fun k_ => ((P0_ k_ ∨ P1_ k_) ∨ w.heap.size ≤ k_))) (Vt_ HO_0.out) hg hat); have n1_ := Aside0.mk (Kd.V_afterv (ok := (fun k_ => ((P0_ k_ ∨ P1_ k_) ∨ w.heap.size ≤ k_))) (Vt_ HO_8.out) hg hat); have n2_ := Aside0.mk (hb); have n3_ := Aside0.mk (ho); clear HO_0; clear HO_8; clear HB; clear HO_7; have HO_0 := n0_; have HO_8 := n1_; have HB := n2_; have HO470 := n3_; clear n0_ n1_ n2_ n3_; clear ho hb hg hat) | ((with_reducible refine gc 94 rfl ?_); refine gl_ (some 16) rfl rfl Tryz.func94 ((carrefourref02_twice.calls _ _ _ _ _ _ ?side1 ?side2 A6.out).mono ?_) ag; (case side1 => repeat (first | exact (Kd.V_reads' HO_8.out).2.2 | (with_reducible refine Kd.C_alloc ?_ _) | (with_reducible refine Kd.C_drewN ?_ _) | (with_reducible refine Kd.C_drew ?_))); (case side2 => exact (Kd.V_reads' HO_8.out).2.1); rintro e w10 ⟨v472, rfl, ho0, hb⟩; refine ⟨_, rfl, ?_⟩; have HO473 := Aside0.mk (Kd.R_lower (Kd.R_newM (M := fun k_ => (w.heap.size ≤ k_)) ho0 (below_size (bf HB)) (fun k_ h_ => h_)) (below_size (bf HB))); replace HO_0 := Aside0.mk (Kd.V_elder' (Vt_ HO_0.out) (Kd.R_base ho0) hb); replace HO_8 := Aside0.mk (Kd.V_elder' (Vt_ HO_8.out) (Kd.R_base ho0) hb); replace HO470 := Aside0.mk (Kd.N_elder' (Nt_ HO470.out) (Kd.R_base ho0) hb); replace HB := bs HB hb; (try clear hb); (try clear ho0)))
     go_roundg k1
     case measure => have := HK1.out; omega
     case rel => exact ⟨(y468), (t471), H', ⟨by have := HK1.out; omega⟩, ⟨Vt_ (Kd.V_mono HO_0.out (fun _ hk => And.intro hk.1.1 hk.1.2))⟩, ⟨Nt_ (Kd.N_mono HO470.out (fun _ hk => hk.1))⟩, ⟨Kd.V_mono (Kd.R_V (Rt_ (Kd.R_mono (Kd.R_apart' HO473.out (Kd.N_typed HO470.out) (by decide)) (fun _ hk => And.intro hk.1.1 hk.2)))) (fun k_ hk => by first | exact ⟨(.inr (hk.1)), hk.2⟩ | exact (.inr (hk)))⟩, ⟨bf HB⟩⟩
    ·rw [if_neg c5] at H
     exact absurd H (by simp)
   ·rw [if_neg c4] at H
    have c4b0 : decide (t467 ≤ 0) = false := decide_eq_false c4
    clear c4
    by_cases c11 : (x7_1.length : Int) > 64
    ·rw [if_pos c11] at H
     have c11b0 : decide (64 < (x7_1.length : Int)) = true := decide_eq_true c11
     have c11b1 : decide (64 < x7_1.length) = true := decide_eq_true (by omega)
     clear c11
     simp only [Option.some.injEq, Prod.mk.injEq] at H
     obtain ⟨rfl, rfl⟩ := H
     obtain ⟨Ao12, co12, eo12⟩ := Kd.V_slice HO_8.out
     subst eo12
     go_wp2_with (first | ((with_reducible refine gc 72 rfl ?_); refine gm_ (some 13) rfl rfl Tryz.func72 (carrefourref01_Order.calls _ _ _ _ _ _ _ _ _ ?side1 ?side2 ?side3 ?side4 A3.out) ag ?_; (case side1 => repeat (first | exact (Kd.V_reads' HO_8.out).2.2 | (with_reducible refine Kd.C_alloc ?_ _) | (with_reducible refine Kd.C_drewN ?_ _) | (with_reducible refine Kd.C_drew ?_))); (case side2 => exact (Kd.V_reads' HO_8.out).2.1); (case side3 => repeat (first | exact (Kd.V_reads' HO_0.out).2.2 | (with_reducible refine Kd.C_alloc ?_ _) | (with_reducible refine Kd.C_drewN ?_ _) | (with_reducible refine Kd.C_drew ?_))); (case side4 => exact (Kd.V_reads' HO_0.out).2.1); intro w13 hb; replace HO_0 := Aside0.mk (Kd.V_below (Vt_ HO_0.out) hb); replace HO_7 := Aside0.mk (Kd.N_below (Nt_ HO_7.out) hb); replace HO_8 := Aside0.mk (Kd.V_below (Vt_ HO_8.out) hb); replace HB := bs HB hb; (try clear hb); obtain ⟨Ao14, co14, eo14⟩ := Kd.N_slice HO_7.out; subst eo14))
     go_ret2
     exact ⟨ae, bf HB⟩
    ·rw [if_neg c11] at H
     have c11b0 : decide (64 < (x7_1.length : Int)) = false := decide_eq_false c11
     have c11b1 : decide (64 < x7_1.length) = false := decide_eq_false (by omega)
     clear c11
     have H' := Aside0.mk H
     clear H
     obtain ⟨Ao15, co15, eo15⟩ := Kd.V_slice HO_8.out
     subst eo15
     go_wp2_with (first | ((with_reducible refine gc 72 rfl ?_); refine gm_ (some 13) rfl rfl Tryz.func72 (carrefourref01_Order.calls _ _ _ _ _ _ _ _ _ ?side1 ?side2 ?side3 ?side4 A3.out) ag ?_; (case side1 => repeat (first | exact (Kd.V_reads' HO_8.out).2.2 | (with_reducible refine Kd.C_alloc ?_ _) | (with_reducible refine Kd.C_drewN ?_ _) | (with_reducible refine Kd.C_drew ?_))); (case side2 => exact (Kd.V_reads' HO_8.out).2.1); (case side3 => repeat (first | exact (Kd.V_reads' HO_0.out).2.2 | (with_reducible refine Kd.C_alloc ?_ _) | (with_reducible refine Kd.C_drewN ?_ _) | (with_reducible refine Kd.C_drew ?_))); (case side4 => exact (Kd.V_reads' HO_0.out).2.1); intro w16 hb; replace HO_0 := Aside0.mk (Kd.V_below (Vt_ HO_0.out) hb); replace HO_7 := Aside0.mk (Kd.N_below (Nt_ HO_7.out) hb); replace HO_8 := Aside0.mk (Kd.V_below (Vt_ HO_8.out) hb); replace HB := bs HB hb; (try clear hb); obtain ⟨Ao17, co17, eo17⟩ := Kd.N_slice HO_7.out; subst eo17))
     go_loopg [0, 6, 9] k1 (fun kq v0 v6 v9 w' => ∃ (x0_2 : List Int) (x6_2 : Int) (x9_2 : Int), v6 = .int .u64 x6_2 ∧ v9 = .int .i64 x9_2 ∧ Aside0 (carrefourref02_divided.l1 kq x0_2 x6_2 x7_1 x9_2 = some (r1, r2)) ∧ Aside0 (kq ≤ k1) ∧ Aside0 (Kd.V (Kd.int .u64) 74 w' w.heap.size (fun k_ => ((P0_ k_ ∨ P1_ k_) ∨ w.heap.size ≤ k_) ∧ some k_ ≠ ((.slice Ao17 x7_1.length co17) : Value).ownBlock) v0 x0_2) ∧ Aside0 (Kd.N (Kd.slice 74 (Kd.int .u64)) 94 w' w.heap.size (fun k_ => ((P0_ k_ ∨ P1_ k_) ∨ w.heap.size ≤ k_)) (.slice Ao17 x7_1.length co17) x7_1) ∧ Aside0 (Below w.heap.size w w'))
     case atStart => exact ⟨(l0), (0), (wrap64 ((x7_1.length : Int) - 1)), (aq), (aq), H', ⟨Nat.le_refl _⟩, ⟨Vt_ HO_0.out⟩, ⟨Nt_ HO_7.out⟩, ⟨bf HB⟩⟩
     case round =>
      clear H'
      (try clear c1); (try clear p2); (try clear c4); (try clear c4b0); (try clear c5); (try clear p6); (try clear c7); (try clear c9); (try clear c11); (try clear c11b0); (try clear c11b1); (try clear p2)
      obtain ⟨x0_2, x6_2, x9_2, rfl, rfl, HA, HK2, HO_0, HO_7, HB⟩ := hrel
      cases gk with
      | zero => exact absurd HA.out (by simp [carrefourref02_divided.l1])
      | succ k2 =>
       have H := HA.out
       clear HA
       simp only [carrefourref02_divided.l1] at H
       by_cases c18 : x9_2 ≥ 0
       ·rw [if_pos c18] at H
        have c18b0 : decide (0 ≤ x9_2) = true := decide_eq_true c18
        clear c18
        by_cases c19 : 0 ≤ x9_2
        ·rw [if_pos c19] at H
         have c19b0 : decide (0 ≤ x9_2) = true := decide_eq_true c19
         clear c19
         by_cases c20 : x9_2 < (x7_1.length : Int)
         ·rw [if_pos c20] at H
          have c20b0 : decide (x9_2 < (x7_1.length : Int)) = true := decide_eq_true c20
          clear c20
          replace H := bi_ H; obtain ⟨t475, A21, H⟩ := H
          (try dsimp only at H)
          by_cases c22 : t475 ≤ 0
          ·rw [if_pos c22] at H
           have c22b0 : decide (t475 ≤ 0) = true := decide_eq_true c22
           clear c22
           replace H := bi_ H; obtain ⟨t477, A23, H⟩ := H
           (try dsimp only at H)
           replace H := bi_ H; obtain ⟨t480, A24, H⟩ := H
           (try dsimp only at H)
           have H' := Aside0.mk H
           clear H
           have p474 : 0 ≤ (x9_2 : Int) := od_
           have q474 : x9_2 < (x7_1.length : Int) := od_
           obtain ⟨ad474, A474_0, c474_0, e474, hx474_0, hl474_0, hi474_0⟩ := at_L21 (Kd.N_reads' HO_7.out).2.2 x9_2 p474 q474
           cases e474
           obtain ⟨ce474, hce474, hMe474, hcc474⟩ := Kd.N_get HO_7.out [] x9_2 p474 (by first | exact q474 | exact od_ | (have e_ := (Kd.N_reads' HO_7.out).1; omega))
           obtain ⟨ua474_0, uc474_0, rfl, ul474_0, ge474_0⟩ := Kd.FK_slice_open hMe474
           have hv474_0 := hcc474 0 _ rfl
           rw [Nat.add_zero, show ((Kd.slice 74 (Kd.int .u64))).sz = 1 from rfl, Nat.mul_one] at hv474_0
           replace hv474_0 := Option.some.inj (hv474_0.symm.trans hx474_0)
           injection hv474_0 with hva_ hvn_ hvc_
           rw [hva_] at ge474_0
           rw [hvc_] at ul474_0
           have HL474_0 := Aside0.mk (show Kd.V (Kd.int .u64) 74 _ w.heap.size _ _ (rd_L21 x7_1 x9_2) from Kd.V_mk ul474_0 ge474_0)
           clear hva_ hvn_ hvc_ ge474_0 ul474_0
           clear hcc474 hce474
           have HR474_0 := Aside0.mk hi474_0
           have HC474_0 := Aside0.mk hl474_0
           clear hi474_0 hl474_0
           replace p474 := eq_true p474
           replace q474 := eq_true q474
           obtain ⟨Ao25, co25, eo25⟩ := Kd.V_slice HO_0.out
           subst eo25
           go_wp2_with (first | ((with_reducible refine gc 72 rfl ?_); refine gm_ (some 38) rfl rfl Tryz.func72 (carrefourref01_Order.calls _ _ _ (rd_L21 x7_1 x9_2) _ _ _ _ _ ?side1 ?side2 ?side3 ?side4 A21.out) ag ?_; (case side1 => repeat (first | exact (by repeat (first | (with_reducible exact HR474_0.out) | (with_reducible refine Kd.C_alloc ?_ _) | (with_reducible refine Kd.C_drewN ?_ _) | (with_reducible refine Kd.C_drew ?_) | exact HR474_0.out)) | (with_reducible refine Kd.C_alloc ?_ _) | (with_reducible refine Kd.C_drewN ?_ _) | (with_reducible refine Kd.C_drew ?_))); (case side2 => exact HC474_0.out); (case side3 => repeat (first | exact (Kd.V_reads' HO_0.out).2.2 | (with_reducible refine Kd.C_alloc ?_ _) | (with_reducible refine Kd.C_drewN ?_ _) | (with_reducible refine Kd.C_drew ?_))); (case side4 => exact (Kd.V_reads' HO_0.out).2.1); intro w26 hb; replace HO_0 := Aside0.mk (Kd.V_below (Vt_ HO_0.out) hb); replace HO_7 := Aside0.mk (Kd.N_below (Nt_ HO_7.out) hb); replace HL474_0 := Aside0.mk (Kd.V_below (Vt_ HL474_0.out) hb); replace HR474_0 := Aside0.mk (Kd.C_below (by repeat (first | (with_reducible exact HR474_0.out) | (with_reducible refine Kd.C_alloc ?_ _) | (with_reducible refine Kd.C_drewN ?_ _) | (with_reducible refine Kd.C_drew ?_) | exact HR474_0.out)) hb); replace HB := bs HB hb; (try clear hb); have p476 : 0 ≤ (x9_2 : Int) := od_; have q476 : x9_2 < (x7_1.length : Int) := od_; obtain ⟨ad476, A476_0, c476_0, e476, hx476_0, hl476_0, hi476_0⟩ := at_L21 (Kd.N_reads' HO_7.out).2.2 x9_2 p476 q476; obtain rfl : ad474 = ad476 := (by injection e476); obtain ⟨ce476, hce476, hMe476, hcc476⟩ := Kd.N_get HO_7.out [] x9_2 p476 (by first | exact q476 | exact od_ | (have e_ := (Kd.N_reads' HO_7.out).1; omega)); obtain ⟨ua476_0, uc476_0, rfl, ul476_0, ge476_0⟩ := Kd.FK_slice_open hMe476; have hv476_0 := hcc476 0 _ rfl; rw [Nat.add_zero, show ((Kd.slice 74 (Kd.int .u64))).sz = 1 from rfl, Nat.mul_one] at hv476_0; replace hv476_0 := Option.some.inj (hv476_0.symm.trans hx476_0); injection hv476_0 with hva_ hvn_ hvc_; rw [hva_] at ge476_0; rw [hvc_] at ul476_0; have HL476_0 := Aside0.mk (show Kd.V (Kd.int .u64) 74 _ w.heap.size _ _ (rd_L21 x7_1 x9_2) from Kd.V_mk ul476_0 ge476_0); clear hva_ hvn_ hvc_ ge476_0 ul476_0; clear hcc476 hce476; have HR476_0 := Aside0.mk hi476_0; have HC476_0 := Aside0.mk hl476_0; clear hi476_0 hl476_0; replace p476 := eq_true p476; replace q476 := eq_true q476) | ((with_reducible refine gc 95 rfl ?_); refine gl_ (some 45) rfl rfl Tryz.func95 ((carrefourref01_Minus.calls _ _ _ _ _ _ (rd_L21 x7_1 x9_2) _ _ ?side1 ?side2 ?side3 ?side4 A23.out).mono ?_) ag; (case side1 => repeat (first | exact (Kd.V_reads' HO_0.out).2.2 | (with_reducible refine Kd.C_alloc ?_ _) | (with_reducible refine Kd.C_drewN ?_ _) | (with_reducible refine Kd.C_drew ?_))); (case side2 => exact (Kd.V_reads' HO_0.out).2.1); (case side3 => repeat (first | exact (by repeat (first | (with_reducible exact HR476_0.out) | (with_reducible refine Kd.C_alloc ?_ _) | (with_reducible refine Kd.C_drewN ?_ _) | (with_reducible refine Kd.C_drew ?_) | exact HR476_0.out)) | (with_reducible refine Kd.C_alloc ?_ _) | (with_reducible refine Kd.C_drewN ?_ _) | (with_reducible refine Kd.C_drew ?_))); (case side4 => exact HC476_0.out); rintro e w27 ⟨v478, rfl, ho0, hb⟩; refine ⟨_, rfl, ?_⟩; have HO479 := Aside0.mk (Kd.R_lower (Kd.R_newM (M := fun k_ => (w.heap.size ≤ k_)) ho0 (below_size (bf HB)) (fun k_ h_ => h_)) (below_size (bf HB))); replace HO_0 := Aside0.mk (Kd.V_elder' (Vt_ HO_0.out) (Kd.R_base ho0) hb); replace HO_7 := Aside0.mk (Kd.N_elder' (Nt_ HO_7.out) (Kd.R_base ho0) hb); replace HL474_0 := Aside0.mk (Kd.V_elder' (Vt_ HL474_0.out) (Kd.R_base ho0) hb); replace HL476_0 := Aside0.mk (Kd.V_elder' (Vt_ HL476_0.out) (Kd.R_base ho0) hb); replace HR474_0 := Aside0.mk (Kd.C_below (by repeat (first | (with_reducible exact HR474_0.out) | (with_reducible refine Kd.C_alloc ?_ _) | (with_reducible refine Kd.C_drewN ?_ _) | (with_reducible refine Kd.C_drew ?_) | exact HR474_0.out)) hb); replace HR476_0 := Aside0.mk (Kd.C_below (by repeat (first | (with_reducible exact HR476_0.out) | (with_reducible refine Kd.C_alloc ?_ _) | (with_reducible refine Kd.C_drewN ?_ _) | (with_reducible refine Kd.C_drew ?_) | exact HR476_0.out)) hb); replace HB := bs HB hb; (try clear hb); (try clear ho0); obtain ⟨Ao28, co28, eo28⟩ := Kd.R_slice HO479.out; subst eo28) | ((with_reducible refine gc 43 rfl ?_); refine gl_ (some 46) rfl rfl Tryz.func43 ((carrefourref02_trim.calls _ _ _ _ _ _ ?side1 ?side2 A24.out).mono ?_) ag; (case side1 => exact rc HO479); (case side2 => exact (Kd.R_reads' HO479.out).2.1); rintro e w29 ⟨v481, rfl, ho0, hb⟩; refine ⟨_, rfl, ?_⟩; have HO482 := Aside0.mk (Kd.R_lower (Kd.R_new' (Kd.R_newM (M := fun k_ => (w.heap.size ≤ k_)) ho0 (below_size (bf HB)) (fun k_ h_ => h_)) (rl HO479)) (below_size (bf HB))); replace HO_0 := Aside0.mk (Kd.V_elder' (Vt_ HO_0.out) (Kd.R_base ho0) hb); replace HO_7 := Aside0.mk (Kd.N_elder' (Nt_ HO_7.out) (Kd.R_base ho0) hb); replace HL474_0 := Aside0.mk (Kd.V_elder' (Vt_ HL474_0.out) (Kd.R_base ho0) hb); replace HL476_0 := Aside0.mk (Kd.V_elder' (Vt_ HL476_0.out) (Kd.R_base ho0) hb); replace HO479 := re_ HO479 (Kd.R_base ho0) hb; replace HR474_0 := Aside0.mk (Kd.C_below (by repeat (first | (with_reducible exact HR474_0.out) | (with_reducible refine Kd.C_alloc ?_ _) | (with_reducible refine Kd.C_drewN ?_ _) | (with_reducible refine Kd.C_drew ?_) | exact HR474_0.out)) hb); replace HR476_0 := Aside0.mk (Kd.C_below (by repeat (first | (with_reducible exact HR476_0.out) | (with_reducible refine Kd.C_alloc ?_ _) | (with_reducible refine Kd.C_drewN ?_ _) | (with_reducible refine Kd.C_drew ?_) | exact HR476_0.out)) hb); replace HB := bs HB hb; (try clear hb); (try clear ho0)))
           go_roundg k2
           case measure => have := HK1.out; have := HK2.out; omega
           case rel => exact ⟨(t480), (IntKind.u64.wrap ((IntKind.u64.wrap (x6_2 * 2)) + 1)), (wrap64 (x9_2 - 1)), (aq), (aq), H', ⟨by have := HK1.out; have := HK2.out; omega⟩, ⟨Kd.V_mono (Kd.R_V (Rt_ (Kd.R_mono (Kd.R_apart' HO482.out (Kd.N_typed HO_7.out) (by decide)) (fun _ hk => And.intro hk.1.1.1 hk.2)))) (fun k_ hk => by first | exact ⟨(.inr (hk.1)), hk.2⟩ | exact (.inr (hk)))⟩, ⟨Nt_ (Kd.N_mono HO_7.out (fun _ hk => hk.1.1))⟩, ⟨bf HB⟩⟩
          ·rw [if_neg c22] at H
           have c22b0 : decide (t475 ≤ 0) = false := decide_eq_false c22
           clear c22
           have H' := Aside0.mk H
           clear H
           have p474 : 0 ≤ (x9_2 : Int) := od_
           have q474 : x9_2 < (x7_1.length : Int) := od_
           obtain ⟨ad474, A474_0, c474_0, e474, hx474_0, hl474_0, hi474_0⟩ := at_L21 (Kd.N_reads' HO_7.out).2.2 x9_2 p474 q474
           cases e474
           obtain ⟨ce474, hce474, hMe474, hcc474⟩ := Kd.N_get HO_7.out [] x9_2 p474 (by first | exact q474 | exact od_ | (have e_ := (Kd.N_reads' HO_7.out).1; omega))
           obtain ⟨ua474_0, uc474_0, rfl, ul474_0, ge474_0⟩ := Kd.FK_slice_open hMe474
           have hv474_0 := hcc474 0 _ rfl
           rw [Nat.add_zero, show ((Kd.slice 74 (Kd.int .u64))).sz = 1 from rfl, Nat.mul_one] at hv474_0
           replace hv474_0 := Option.some.inj (hv474_0.symm.trans hx474_0)
           injection hv474_0 with hva_ hvn_ hvc_
           rw [hva_] at ge474_0
           rw [hvc_] at ul474_0
           have HL474_0 := Aside0.mk (show Kd.V (Kd.int .u64) 74 _ w.heap.size _ _ (rd_L21 x7_1 x9_2) from Kd.V_mk ul474_0 ge474_0)
           clear hva_ hvn_ hvc_ ge474_0 ul474_0
           clear hcc474 hce474
           have HR474_0 := Aside0.mk hi474_0
           have HC474_0 := Aside0.mk hl474_0
           clear hi474_0 hl474_0
           replace p474 := eq_true p474
           replace q474 := eq_true q474
           obtain ⟨Ao30, co30, eo30⟩ := Kd.V_slice HO_0.out
           subst eo30
           go_wp2_with (first | ((with_reducible refine gc 72 rfl ?_); refine gm_ (some 38) rfl rfl Tryz.func72 (carrefourref01_Order.calls _ _ _ (rd_L21 x7_1 x9_2) _ _ _ _ _ ?side1 ?side2 ?side3 ?side4 A21.out) ag ?_; (case side1 => repeat (first | exact (by repeat (first | (with_reducible exact HR474_0.out) | (with_reducible refine Kd.C_alloc ?_ _) | (with_reducible refine Kd.C_drewN ?_ _) | (with_reducible refine Kd.C_drew ?_) | exact HR474_0.out)) | (with_reducible refine Kd.C_alloc ?_ _) | (with_reducible refine Kd.C_drewN ?_ _) | (with_reducible refine Kd.C_drew ?_))); (case side2 => exact HC474_0.out); (case side3 => repeat (first | exact (Kd.V_reads' HO_0.out).2.2 | (with_reducible refine Kd.C_alloc ?_ _) | (with_reducible refine Kd.C_drewN ?_ _) | (with_reducible refine Kd.C_drew ?_))); (case side4 => exact (Kd.V_reads' HO_0.out).2.1); intro w31 hb; replace HO_0 := Aside0.mk (Kd.V_below (Vt_ HO_0.out) hb); replace HO_7 := Aside0.mk (Kd.N_below (Nt_ HO_7.out) hb); replace HL474_0 := Aside0.mk (Kd.V_below (Vt_ HL474_0.out) hb); replace HR474_0 := Aside0.mk (Kd.C_below (by repeat (first | (with_reducible exact HR474_0.out) | (with_reducible refine Kd.C_alloc ?_ _) | (with_reducible refine Kd.C_drewN ?_ _) | (with_reducible refine Kd.C_drew ?_) | exact HR474_0.out)) hb); replace HB := bs HB hb; (try clear hb)))
           go_roundg k2
           case measure => have := HK1.out; have := HK2.out; omega
           case rel => exact ⟨(x0_2), (IntKind.u64.wrap (x6_2 * 2)), (wrap64 (x9_2 - 1)), (aq), (aq), H', ⟨by have := HK1.out; have := HK2.out; omega⟩, ⟨Vt_ HO_0.out⟩, ⟨Nt_ HO_7.out⟩, ⟨bf HB⟩⟩
         ·rw [if_neg c20] at H
          exact absurd H (by simp)
        ·rw [if_neg c19] at H
         exact absurd H (by simp)
       ·rw [if_neg c18] at H
        have c18b0 : decide (0 ≤ x9_2) = false := decide_eq_false c18
        clear c18
        simp only [Option.some.injEq, Prod.mk.injEq] at H
        obtain ⟨rfl, rfl⟩ := H
        go_wp2
        go_ret2
        exact ⟨ae, bf HB⟩

/-! ### carrefourref02_lowest: function 46 -/
theorem carrefourref02_lowest.calls (k : Nat) (P0_ : Nat → Prop) (A0 : Option Addr) (c0 : Nat) (l0 : List Int) (P1_ : Nat → Prop) (A1 : Option Addr) (c1 : Nat) (l1 : List Int) (a2 : Bool) (r1 : Int) (r2 : Int) (r3 : Int) (w : World) (hs0 : Kd.V (Kd.int .u64) 74 w w.heap.size (fun k_ => P0_ k_) (.slice A0 l0.length c0) l0) (hs1 : Kd.V (Kd.int .u64) 74 w w.heap.size (fun k_ => P1_ k_) (.slice A1 l1.length c1) l1) (h : carrefourref02_lowest.f k l0 l1 a2 = some (r1, r2, r3)) :
  Calls Tryz.prog 46 #[.slice A0 l0.length c0, .slice A1 l1.length c1, .bool a2] w fun e w' => e = .returned (.tuple #[.agg #[.int .i64 r1, .int .i64 r2], .int .i64 r3]) ∧ Below w.heap.size w w' := by
 have hu23 := Tryz.underlying23
 have HO0 := Aside0.mk (show Kd.V (Kd.int .u64) 74 w w.heap.size (fun k_ => ((P0_ k_ ∨ P1_ k_) ∨ w.heap.size ≤ k_)) (.slice A0 l0.length c0) l0 from Kd.V_mono hs0 (fun k_ hk => .inl (.inl hk)))
 have HO1 := Aside0.mk (show Kd.V (Kd.int .u64) 74 w w.heap.size (fun k_ => ((P0_ k_ ∨ P1_ k_) ∨ w.heap.size ≤ k_)) (.slice A1 l1.length c1) l1 from Kd.V_mono hs1 (fun k_ hk => .inl (.inr hk)))
 have HB := Aside0.mk (Below.refl w.heap.size w)
 have H : (carrefourref02_lowest.l0 k l0 l1 a2 l0 l1) = some (r1, r2, r3) := h
 clear h
 have H' := Aside0.mk H
 clear H
 go_enter Tryz.func46, Tryz.ntmps46
 go_wp2_with (first | ((with_reducible refine gd 6 rfl ?_); refine bx_ 6 23 #[.int .i64 0, .int .i64 0] rfl rfl ?_; intro gb483 hg w4 BK483 hb; have GE483 := bz HB hg; replace HO0 := Aside0.mk (Kd.V_below (Kd.V_elderB (Vt_ HO0.out) gb483 (Nat.le_of_eq hg.symm)) hb); replace HO1 := Aside0.mk (Kd.V_below (Kd.V_elderB (Vt_ HO1.out) gb483 (Nat.le_of_eq hg.symm)) hb); replace HB := bs HB hb; clear hb hg))
 go_loopg [8, 9] k (fun kq v8 v9 w' => ∃ (x8_1 : List Int) (x9_1 : List Int), Aside0 (carrefourref02_lowest.l0 kq l0 l1 a2 x8_1 x9_1 = some (r1, r2, r3)) ∧ Aside0 (kq ≤ k) ∧ Aside0 (Kd.V (Kd.int .u64) 74 w' w.heap.size (fun k_ => ((P0_ k_ ∨ P1_ k_) ∨ w.heap.size ≤ k_) ∧ k_ ≠ gb483) (.slice A0 l0.length c0) l0) ∧ Aside0 (Kd.V (Kd.int .u64) 74 w' w.heap.size (fun k_ => ((P0_ k_ ∨ P1_ k_) ∨ w.heap.size ≤ k_) ∧ k_ ≠ gb483) (.slice A1 l1.length c1) l1) ∧ Aside0 (Kd.V (Kd.int .u64) 74 w' w.heap.size (fun k_ => ((P0_ k_ ∨ P1_ k_) ∨ w.heap.size ≤ k_) ∧ k_ ≠ gb483) v8 x8_1) ∧ Aside0 (Kd.V (Kd.int .u64) 74 w' w.heap.size (fun k_ => ((P0_ k_ ∨ P1_ k_) ∨ w.heap.size ≤ k_) ∧ k_ ≠ gb483) v9 x9_1) ∧ Aside0 (w'.heap[gb483]? = some (.cells #[.int .i64 0, .int .i64 0] 23 (0, 0))) ∧ Aside0 (Below w.heap.size w w'))
 case atStart => exact ⟨(l0), (l1), H', ⟨Nat.le_refl _⟩, ⟨Vt_ HO0.out⟩, ⟨Vt_ HO1.out⟩, ⟨Vt_ HO0.out⟩, ⟨Vt_ HO1.out⟩, bu_ BK483, ⟨bf HB⟩⟩
 case round =>
  clear H'
  (try clear c1); (try clear p2); (try clear c4)
  obtain ⟨x8_1, x9_1, HA, HK1, HO_0, HO_1, HO_8, HO_9, BK483, HB⟩ := hrel
  cases gk with
  | zero => exact absurd HA.out (by simp [carrefourref02_lowest.l0])
  | succ k1 =>
   have H := HA.out
   clear HA
   simp only [carrefourref02_lowest.l0] at H
   replace H := bi_ H; obtain ⟨t484, A5, H⟩ := H
   (try dsimp only at H)
   by_cases c6 : t484 = 0
   ·rw [if_pos c6] at H
    have c6b0 : (t484 == 0) = true := beq_iff_eq.mpr c6
    have c6b1 : (t484 != 0) = false := bne_eq_false_iff_eq.mpr c6
    clear c6
    replace H := bi_ H; obtain ⟨⟨t488, t489⟩, A7, H⟩ := H
    (try dsimp only at H)
    replace H := bi_ H; obtain ⟨⟨t490, t491⟩, A8, H⟩ := H
    (try dsimp only at H)
    by_cases c9 : t489 = true
    ·subst c9
     have H1 : (if t491 = true then (if a2 = true then ((carrefourref02_made.f k1 t488 t490 (t488 != 0)).bind fun bt492 => (some (bt492.1, bt492.2.1, bt492.2.2))) else ((carrefourref02_made.f k1 t488 t490 false).bind fun bt495 => (some (bt495.1, bt495.2.1, bt495.2.2)))) else (some (0, 0, 2))) = some (r1, r2, r3) := by rw [if_pos rfl] at H; exact H
     clear H
     have H := H1
     clear H1
     by_cases c10 : t491 = true
     ·subst c10
      have H1 : (if a2 = true then ((carrefourref02_made.f k1 t488 t490 (t488 != 0)).bind fun bt492 => (some (bt492.1, bt492.2.1, bt492.2.2))) else ((carrefourref02_made.f k1 t488 t490 false).bind fun bt495 => (some (bt495.1, bt495.2.1, bt495.2.2)))) = some (r1, r2, r3) := by rw [if_pos rfl] at H; exact H
      clear H
      have H := H1
      clear H1
      by_cases c11 : a2 = true
      ·subst c11
       have H1 : ((carrefourref02_made.f k1 t488 t490 (t488 != 0)).bind fun bt492 => (some (bt492.1, bt492.2.1, bt492.2.2))) = some (r1, r2, r3) := by rw [if_pos rfl] at H; exact H
       clear H
       have H := H1
       clear H1
       replace H := bi_ H; obtain ⟨⟨t492, t493, t494⟩, A12, H⟩ := H
       (try dsimp only at H)
       simp only [Option.some.injEq, Prod.mk.injEq] at H
       obtain ⟨rfl, rfl, rfl⟩ := H
       obtain ⟨Ao13, co13, eo13⟩ := Kd.V_slice HO_9.out
       subst eo13
       go_wp2_with (first | ((with_reducible refine gate_callee (f := 72) rfl ?_); refine goesL_ (some 18) rfl rfl Tryz.func72 (by kernel_rfl) rfl #[.slice Ao13 x9_1.length co13, .slice none 0 0] rfl ag ?_; (refine (carrefourref01_Order.calls _ _ _ _ _ _ ([] : List Int) _ _ ?side1 ?side2 ?side3 ?side4 A5.out).mono ?_); (case side1 => repeat (first | exact (Kd.V_reads' HO_9.out).2.2 | (with_reducible refine Kd.C_alloc ?_ _) | (with_reducible refine Kd.C_drewN ?_ _) | (with_reducible refine Kd.C_drew ?_))); (case side2 => exact (Kd.V_reads' HO_9.out).2.1); (case side3 => exact Kd.C_nil _ _); (case side4 => exact Nat.le_refl _); rintro e w14 ⟨rfl, hb⟩; refine ⟨_, rfl, ?_⟩; replace HO_0 := Aside0.mk (Kd.V_below (Vt_ HO_0.out) hb); replace HO_1 := Aside0.mk (Kd.V_below (Vt_ HO_1.out) hb); replace HO_8 := Aside0.mk (Kd.V_below (Vt_ HO_8.out) hb); replace HO_9 := Aside0.mk (Kd.V_below (Vt_ HO_9.out) hb); replace BK483 := bb BK483 hb; replace HB := bs HB hb; (try clear hb); obtain ⟨Ao15, co15, eo15⟩ := Kd.V_slice HO_8.out; subst eo15) | ((with_reducible refine gc 74 rfl ?_); refine gm_ (some 28) rfl rfl Tryz.func74 (carrefourref02_divided.calls _ (fun k_ => (((P0_ k_ ∨ P1_ k_) ∨ w.heap.size ≤ k_) ∧ k_ ≠ gb483)) _ _ _ (fun k_ => (((P0_ k_ ∨ P1_ k_) ∨ w.heap.size ≤ k_) ∧ k_ ≠ gb483)) _ _ _ _ _ _ ?side1 ?side2 A7.out) ag ?_; (case side1 => exact HO_0.out); (case side2 => exact HO_8.out); intro w16 hb; replace HO_0 := Aside0.mk (Kd.V_below (Vt_ HO_0.out) hb); replace HO_1 := Aside0.mk (Kd.V_below (Vt_ HO_1.out) hb); replace HO_8 := Aside0.mk (Kd.V_below (Vt_ HO_8.out) hb); replace HO_9 := Aside0.mk (Kd.V_below (Vt_ HO_9.out) hb); replace BK483 := bb BK483 hb; replace HB := bs HB hb; (try clear hb)) | ((with_reducible refine gc 74 rfl ?_); refine gm_ (some 34) rfl rfl Tryz.func74 (carrefourref02_divided.calls _ (fun k_ => (((P0_ k_ ∨ P1_ k_) ∨ w.heap.size ≤ k_) ∧ k_ ≠ gb483)) _ _ _ (fun k_ => (((P0_ k_ ∨ P1_ k_) ∨ w.heap.size ≤ k_) ∧ k_ ≠ gb483)) _ _ _ _ _ _ ?side1 ?side2 A8.out) ag ?_; (case side1 => exact HO_1.out); (case side2 => exact HO_8.out); intro w17 hb; replace HO_0 := Aside0.mk (Kd.V_below (Vt_ HO_0.out) hb); replace HO_1 := Aside0.mk (Kd.V_below (Vt_ HO_1.out) hb); replace HO_8 := Aside0.mk (Kd.V_below (Vt_ HO_8.out) hb); replace HO_9 := Aside0.mk (Kd.V_below (Vt_ HO_9.out) hb); replace BK483 := bb BK483 hb; replace HB := bs HB hb; (try clear hb)) | ((with_reducible refine gc 68 rfl ?_); refine gm_ (some 51) rfl rfl Tryz.func68 (carrefourref02_made.calls _ _ _ (t488 != 0) _ _ _ _ A12.out) ag ?_; intro w18 hb; replace HO_0 := Aside0.mk (Kd.V_below (Vt_ HO_0.out) hb); replace HO_1 := Aside0.mk (Kd.V_below (Vt_ HO_1.out) hb); replace HO_8 := Aside0.mk (Kd.V_below (Vt_ HO_8.out) hb); replace HO_9 := Aside0.mk (Kd.V_below (Vt_ HO_9.out) hb); replace BK483 := bb BK483 hb; replace HB := bs HB hb; (try clear hb); have hcz19 := X.k2 BK483))
       refine bodyPost_ret (results_ct rfl _ _ gb483 23 #[.int .i64 t492, .int .i64 t493] (0, 0) _ rfl (br_ BK483) Tryz.underlying23 rfl (by kernel_rfl)) rfl ?_
       exact ⟨ae, bf HB⟩
      ·replace c11 := Bool.eq_false_iff.mpr c11
       subst c11
       have H1 : ((carrefourref02_made.f k1 t488 t490 false).bind fun bt495 => (some (bt495.1, bt495.2.1, bt495.2.2))) = some (r1, r2, r3) := by rw [if_neg (show ¬ (false = true) by decide)] at H; exact H
       clear H
       have H := H1
       clear H1
       replace H := bi_ H; obtain ⟨⟨t495, t496, t497⟩, A20, H⟩ := H
       (try dsimp only at H)
       simp only [Option.some.injEq, Prod.mk.injEq] at H
       obtain ⟨rfl, rfl, rfl⟩ := H
       obtain ⟨Ao21, co21, eo21⟩ := Kd.V_slice HO_9.out
       subst eo21
       go_wp2_with (first | ((with_reducible refine gate_callee (f := 72) rfl ?_); refine goesL_ (some 18) rfl rfl Tryz.func72 (by kernel_rfl) rfl #[.slice Ao21 x9_1.length co21, .slice none 0 0] rfl ag ?_; (refine (carrefourref01_Order.calls _ _ _ _ _ _ ([] : List Int) _ _ ?side1 ?side2 ?side3 ?side4 A5.out).mono ?_); (case side1 => repeat (first | exact (Kd.V_reads' HO_9.out).2.2 | (with_reducible refine Kd.C_alloc ?_ _) | (with_reducible refine Kd.C_drewN ?_ _) | (with_reducible refine Kd.C_drew ?_))); (case side2 => exact (Kd.V_reads' HO_9.out).2.1); (case side3 => exact Kd.C_nil _ _); (case side4 => exact Nat.le_refl _); rintro e w22 ⟨rfl, hb⟩; refine ⟨_, rfl, ?_⟩; replace HO_0 := Aside0.mk (Kd.V_below (Vt_ HO_0.out) hb); replace HO_1 := Aside0.mk (Kd.V_below (Vt_ HO_1.out) hb); replace HO_8 := Aside0.mk (Kd.V_below (Vt_ HO_8.out) hb); replace HO_9 := Aside0.mk (Kd.V_below (Vt_ HO_9.out) hb); replace BK483 := bb BK483 hb; replace HB := bs HB hb; (try clear hb); obtain ⟨Ao23, co23, eo23⟩ := Kd.V_slice HO_8.out; subst eo23) | ((with_reducible refine gc 74 rfl ?_); refine gm_ (some 28) rfl rfl Tryz.func74 (carrefourref02_divided.calls _ (fun k_ => (((P0_ k_ ∨ P1_ k_) ∨ w.heap.size ≤ k_) ∧ k_ ≠ gb483)) _ _ _ (fun k_ => (((P0_ k_ ∨ P1_ k_) ∨ w.heap.size ≤ k_) ∧ k_ ≠ gb483)) _ _ _ _ _ _ ?side1 ?side2 A7.out) ag ?_; (case side1 => exact HO_0.out); (case side2 => exact HO_8.out); intro w24 hb; replace HO_0 := Aside0.mk (Kd.V_below (Vt_ HO_0.out) hb); replace HO_1 := Aside0.mk (Kd.V_below (Vt_ HO_1.out) hb); replace HO_8 := Aside0.mk (Kd.V_below (Vt_ HO_8.out) hb); replace HO_9 := Aside0.mk (Kd.V_below (Vt_ HO_9.out) hb); replace BK483 := bb BK483 hb; replace HB := bs HB hb; (try clear hb)) | ((with_reducible refine gc 74 rfl ?_); refine gm_ (some 34) rfl rfl Tryz.func74 (carrefourref02_divided.calls _ (fun k_ => (((P0_ k_ ∨ P1_ k_) ∨ w.heap.size ≤ k_) ∧ k_ ≠ gb483)) _ _ _ (fun k_ => (((P0_ k_ ∨ P1_ k_) ∨ w.heap.size ≤ k_) ∧ k_ ≠ gb483)) _ _ _ _ _ _ ?side1 ?side2 A8.out) ag ?_; (case side1 => exact HO_1.out); (case side2 => exact HO_8.out); intro w25 hb; replace HO_0 := Aside0.mk (Kd.V_below (Vt_ HO_0.out) hb); replace HO_1 := Aside0.mk (Kd.V_below (Vt_ HO_1.out) hb); replace HO_8 := Aside0.mk (Kd.V_below (Vt_ HO_8.out) hb); replace HO_9 := Aside0.mk (Kd.V_below (Vt_ HO_9.out) hb); replace BK483 := bb BK483 hb; replace HB := bs HB hb; (try clear hb)) | ((with_reducible refine gc 68 rfl ?_); refine gm_ (some 51) rfl rfl Tryz.func68 (carrefourref02_made.calls _ _ _ _ _ _ _ _ A20.out) ag ?_; intro w26 hb; replace HO_0 := Aside0.mk (Kd.V_below (Vt_ HO_0.out) hb); replace HO_1 := Aside0.mk (Kd.V_below (Vt_ HO_1.out) hb); replace HO_8 := Aside0.mk (Kd.V_below (Vt_ HO_8.out) hb); replace HO_9 := Aside0.mk (Kd.V_below (Vt_ HO_9.out) hb); replace BK483 := bb BK483 hb; replace HB := bs HB hb; (try clear hb); have hcz27 := X.k2 BK483))
       refine bodyPost_ret (results_ct rfl _ _ gb483 23 #[.int .i64 t495, .int .i64 t496] (0, 0) _ rfl (br_ BK483) Tryz.underlying23 rfl (by kernel_rfl)) rfl ?_
       exact ⟨ae, bf HB⟩
     ·replace c10 := Bool.eq_false_iff.mpr c10
      subst c10
      have H1 : (some (0, 0, 2)) = some (r1, r2, r3) := by rw [if_neg (show ¬ (false = true) by decide)] at H; exact H
      clear H
      have H := H1
      clear H1
      simp only [Option.some.injEq, Prod.mk.injEq] at H
      obtain ⟨rfl, rfl, rfl⟩ := H
      obtain ⟨Ao28, co28, eo28⟩ := Kd.V_slice HO_9.out
      subst eo28
      go_wp2_with (first | ((with_reducible refine gate_callee (f := 72) rfl ?_); refine goesL_ (some 18) rfl rfl Tryz.func72 (by kernel_rfl) rfl #[.slice Ao28 x9_1.length co28, .slice none 0 0] rfl ag ?_; (refine (carrefourref01_Order.calls _ _ _ _ _ _ ([] : List Int) _ _ ?side1 ?side2 ?side3 ?side4 A5.out).mono ?_); (case side1 => repeat (first | exact (Kd.V_reads' HO_9.out).2.2 | (with_reducible refine Kd.C_alloc ?_ _) | (with_reducible refine Kd.C_drewN ?_ _) | (with_reducible refine Kd.C_drew ?_))); (case side2 => exact (Kd.V_reads' HO_9.out).2.1); (case side3 => exact Kd.C_nil _ _); (case side4 => exact Nat.le_refl _); rintro e w29 ⟨rfl, hb⟩; refine ⟨_, rfl, ?_⟩; replace HO_0 := Aside0.mk (Kd.V_below (Vt_ HO_0.out) hb); replace HO_1 := Aside0.mk (Kd.V_below (Vt_ HO_1.out) hb); replace HO_8 := Aside0.mk (Kd.V_below (Vt_ HO_8.out) hb); replace HO_9 := Aside0.mk (Kd.V_below (Vt_ HO_9.out) hb); replace BK483 := bb BK483 hb; replace HB := bs HB hb; (try clear hb); obtain ⟨Ao30, co30, eo30⟩ := Kd.V_slice HO_8.out; subst eo30) | ((with_reducible refine gc 74 rfl ?_); refine gm_ (some 28) rfl rfl Tryz.func74 (carrefourref02_divided.calls _ (fun k_ => (((P0_ k_ ∨ P1_ k_) ∨ w.heap.size ≤ k_) ∧ k_ ≠ gb483)) _ _ _ (fun k_ => (((P0_ k_ ∨ P1_ k_) ∨ w.heap.size ≤ k_) ∧ k_ ≠ gb483)) _ _ _ _ _ _ ?side1 ?side2 A7.out) ag ?_; (case side1 => exact HO_0.out); (case side2 => exact HO_8.out); intro w31 hb; replace HO_0 := Aside0.mk (Kd.V_below (Vt_ HO_0.out) hb); replace HO_1 := Aside0.mk (Kd.V_below (Vt_ HO_1.out) hb); replace HO_8 := Aside0.mk (Kd.V_below (Vt_ HO_8.out) hb); replace HO_9 := Aside0.mk (Kd.V_below (Vt_ HO_9.out) hb); replace BK483 := bb BK483 hb; replace HB := bs HB hb; (try clear hb)) | ((with_reducible refine gc 74 rfl ?_); refine gm_ (some 34) rfl rfl Tryz.func74 (carrefourref02_divided.calls _ (fun k_ => (((P0_ k_ ∨ P1_ k_) ∨ w.heap.size ≤ k_) ∧ k_ ≠ gb483)) _ _ _ (fun k_ => (((P0_ k_ ∨ P1_ k_) ∨ w.heap.size ≤ k_) ∧ k_ ≠ gb483)) _ _ _ _ _ _ ?side1 ?side2 A8.out) ag ?_; (case side1 => exact HO_1.out); (case side2 => exact HO_8.out); intro w32 hb; replace HO_0 := Aside0.mk (Kd.V_below (Vt_ HO_0.out) hb); replace HO_1 := Aside0.mk (Kd.V_below (Vt_ HO_1.out) hb); replace HO_8 := Aside0.mk (Kd.V_below (Vt_ HO_8.out) hb); replace HO_9 := Aside0.mk (Kd.V_below (Vt_ HO_9.out) hb); replace BK483 := bb BK483 hb; replace HB := bs HB hb; (try clear hb); have hcz33 := X.k2 BK483))
      refine bodyPost_ret (results_ct rfl _ _ gb483 23 #[.int .i64 0, .int .i64 0] (0, 0) _ rfl (br_ BK483) Tryz.underlying23 rfl (by kernel_rfl)) rfl ?_
      exact ⟨ae, bf HB⟩
    ·replace c9 := Bool.eq_false_iff.mpr c9
     subst c9
     have H1 : (some (0, 0, 2)) = some (r1, r2, r3) := by rw [if_neg (show ¬ (false = true) by decide)] at H; exact H
     clear H
     have H := H1
     clear H1
     simp only [Option.some.injEq, Prod.mk.injEq] at H
     obtain ⟨rfl, rfl, rfl⟩ := H
     obtain ⟨Ao34, co34, eo34⟩ := Kd.V_slice HO_9.out
     subst eo34
     go_wp2_with (first | ((with_reducible refine gate_callee (f := 72) rfl ?_); refine goesL_ (some 18) rfl rfl Tryz.func72 (by kernel_rfl) rfl #[.slice Ao34 x9_1.length co34, .slice none 0 0] rfl ag ?_; (refine (carrefourref01_Order.calls _ _ _ _ _ _ ([] : List Int) _ _ ?side1 ?side2 ?side3 ?side4 A5.out).mono ?_); (case side1 => repeat (first | exact (Kd.V_reads' HO_9.out).2.2 | (with_reducible refine Kd.C_alloc ?_ _) | (with_reducible refine Kd.C_drewN ?_ _) | (with_reducible refine Kd.C_drew ?_))); (case side2 => exact (Kd.V_reads' HO_9.out).2.1); (case side3 => exact Kd.C_nil _ _); (case side4 => exact Nat.le_refl _); rintro e w35 ⟨rfl, hb⟩; refine ⟨_, rfl, ?_⟩; replace HO_0 := Aside0.mk (Kd.V_below (Vt_ HO_0.out) hb); replace HO_1 := Aside0.mk (Kd.V_below (Vt_ HO_1.out) hb); replace HO_8 := Aside0.mk (Kd.V_below (Vt_ HO_8.out) hb); replace HO_9 := Aside0.mk (Kd.V_below (Vt_ HO_9.out) hb); replace BK483 := bb BK483 hb; replace HB := bs HB hb; (try clear hb); obtain ⟨Ao36, co36, eo36⟩ := Kd.V_slice HO_8.out; subst eo36) | ((with_reducible refine gc 74 rfl ?_); refine gm_ (some 28) rfl rfl Tryz.func74 (carrefourref02_divided.calls _ (fun k_ => (((P0_ k_ ∨ P1_ k_) ∨ w.heap.size ≤ k_) ∧ k_ ≠ gb483)) _ _ _ (fun k_ => (((P0_ k_ ∨ P1_ k_) ∨ w.heap.size ≤ k_) ∧ k_ ≠ gb483)) _ _ _ _ _ _ ?side1 ?side2 A7.out) ag ?_; (case side1 => exact HO_0.out); (case side2 => exact HO_8.out); intro w37 hb; replace HO_0 := Aside0.mk (Kd.V_below (Vt_ HO_0.out) hb); replace HO_1 := Aside0.mk (Kd.V_below (Vt_ HO_1.out) hb); replace HO_8 := Aside0.mk (Kd.V_below (Vt_ HO_8.out) hb); replace HO_9 := Aside0.mk (Kd.V_below (Vt_ HO_9.out) hb); replace BK483 := bb BK483 hb; replace HB := bs HB hb; (try clear hb)) | ((with_reducible refine gc 74 rfl ?_); refine gm_ (some 34) rfl rfl Tryz.func74 (carrefourref02_divided.calls _ (fun k_ => (((P0_ k_ ∨ P1_ k_) ∨ w.heap.size ≤ k_) ∧ k_ ≠ gb483)) _ _ _ (fun k_ => (((P0_ k_ ∨ P1_ k_) ∨ w.heap.size ≤ k_) ∧ k_ ≠ gb483)) _ _ _ _ _ _ ?side1 ?side2 A8.out) ag ?_; (case side1 => exact HO_1.out); (case side2 => exact HO_8.out); intro w38 hb; replace HO_0 := Aside0.mk (Kd.V_below (Vt_ HO_0.out) hb); replace HO_1 := Aside0.mk (Kd.V_below (Vt_ HO_1.out) hb); replace HO_8 := Aside0.mk (Kd.V_below (Vt_ HO_8.out) hb); replace HO_9 := Aside0.mk (Kd.V_below (Vt_ HO_9.out) hb); replace BK483 := bb BK483 hb; replace HB := bs HB hb; (try clear hb); have hcz39 := X.k2 BK483))
     refine bodyPost_ret (results_ct rfl _ _ gb483 23 #[.int .i64 0, .int .i64 0] (0, 0) _ rfl (br_ BK483) Tryz.underlying23 rfl (by kernel_rfl)) rfl ?_
     exact ⟨ae, bf HB⟩
   ·rw [if_neg c6] at H
    have c6b0 : (t484 == 0) = false := beq_eq_false_iff_ne.mpr c6
    have c6b1 : (t484 != 0) = true := bne_iff_ne.mpr c6
    replace H := bi_ H; obtain ⟨t485, A40, H⟩ := H
    (try dsimp only at H)
    have H' := Aside0.mk H
    clear H
    obtain ⟨Ao41, co41, eo41⟩ := Kd.V_slice HO_9.out
    subst eo41
    go_wp2_with (first | ((with_reducible refine gate_callee (f := 72) rfl ?_); refine goesL_ (some 18) rfl rfl Tryz.func72 (by kernel_rfl) rfl #[.slice Ao41 x9_1.length co41, .slice none 0 0] rfl ag ?_; (refine (carrefourref01_Order.calls _ _ _ _ _ _ ([] : List Int) _ _ ?side1 ?side2 ?side3 ?side4 A5.out).mono ?_); (case side1 => repeat (first | exact (Kd.V_reads' HO_9.out).2.2 | (with_reducible refine Kd.C_alloc ?_ _) | (with_reducible refine Kd.C_drewN ?_ _) | (with_reducible refine Kd.C_drew ?_))); (case side2 => exact (Kd.V_reads' HO_9.out).2.1); (case side3 => exact Kd.C_nil _ _); (case side4 => exact Nat.le_refl _); rintro e w42 ⟨rfl, hb⟩; refine ⟨_, rfl, ?_⟩; replace HO_0 := Aside0.mk (Kd.V_below (Vt_ HO_0.out) hb); replace HO_1 := Aside0.mk (Kd.V_below (Vt_ HO_1.out) hb); replace HO_8 := Aside0.mk (Kd.V_below (Vt_ HO_8.out) hb); replace HO_9 := Aside0.mk (Kd.V_below (Vt_ HO_9.out) hb); replace BK483 := bb BK483 hb; replace HB := bs HB hb; (try clear hb); obtain ⟨Ao43, co43, eo43⟩ := Kd.V_slice HO_8.out; subst eo43) | ((with_reducible refine gc 73 rfl ?_); refine gl_ (some 22) rfl rfl Tryz.func73 ((carrefourref02_rest.calls _ (fun k_ => (((P0_ k_ ∨ P1_ k_) ∨ w.heap.size ≤ k_) ∧ k_ ≠ gb483)) _ _ _ (fun k_ => (((P0_ k_ ∨ P1_ k_) ∨ w.heap.size ≤ k_) ∧ k_ ≠ gb483)) _ _ _ _ _ ?side1 ?side2 A40.out).mono ?_) ag; (case side1 => exact HO_8.out); (case side2 => exact HO_9.out); rintro e w44 ⟨v486, rfl, ho0, hb⟩; refine ⟨_, rfl, ?_⟩; have HO487 := Aside0.mk (Kd.V_lower (Kd.V_mono (ok' := fun k_ => ((P0_ k_ ∨ P1_ k_) ∨ w.heap.size ≤ k_) ∧ k_ ≠ gb483) ho0 (fun k_ hk_ => ⟨Or.elim hk_ (fun hs_ => Or.elim hs_ (fun hs_ => hs_.1) (fun hs_ => hs_.1)) (fun hn_ => (.inr (Nat.le_trans (below_size (bf HB)) hn_))), Or.elim hk_ (fun hs_ => Or.elim hs_ (fun hs_ => hs_.2) (fun hs_ => hs_.2)) (fun hn_ => (Kd.freshB (g := gb483) (o := .cells #[.int .i64 0, .int .i64 0] 23 (0, 0)) (bx BK483) k_ hn_))⟩)) (below_size (bf HB))); replace HO_0 := Aside0.mk (Kd.V_below (Vt_ HO_0.out) hb); replace HO_1 := Aside0.mk (Kd.V_below (Vt_ HO_1.out) hb); replace HO_8 := Aside0.mk (Kd.V_below (Vt_ HO_8.out) hb); replace HO_9 := Aside0.mk (Kd.V_below (Vt_ HO_9.out) hb); replace BK483 := bb BK483 hb; replace HB := bs HB hb; (try clear hb); (try clear ho0)))
    go_roundg k1
    case measure => have := HK1.out; omega
    case rel => exact ⟨(x9_1), (t485), H', ⟨by have := HK1.out; omega⟩, ⟨Vt_ HO_0.out⟩, ⟨Vt_ HO_1.out⟩, ⟨Vt_ HO_9.out⟩, ⟨Vt_ HO487.out⟩, bu_ BK483, ⟨bf HB⟩⟩

end Go.Proofs.YtfhokgkpcphmlaaGreatDoor.X
