/- Walks: each '.calls' says that the Go function comes to what its Lean function tells. Conditions: as each theorem's head says. -/
import Derived.Test.YtfhokgkpcphmlaaGreatDoorXD
import Derived.Test.YtfhokgkpcphmlaaGreatDoorX0
import Derived.Test.YtfhokgkpcphmlaaGreatDoorX1
import Derived.Test.YtfhokgkpcphmlaaGreatDoorX5
import Derived.Test.YtfhokgkpcphmlaaGreatDoorX13
import Derived.Test.YtfhokgkpcphmlaaGreatDoorX13T
import Derived.Test.YtfhokgkpcphmlaaGreatDoorX19
import Derived.Test.YtfhokgkpcphmlaaGreatDoorX24
namespace Go.Proofs.YtfhokgkpcphmlaaGreatDoor.X
open Go.RowKit Go.Proofs.YtfhokgkpcphmlaaGreatDoorW.PrintWords Go.Proofs.YtfhokgkpcphmlaaGreatDoorW.PrintLast Go.Proofs.YtfhokgkpcphmlaaGreatDoorW.PrintMore
attribute [local go_sem] max2_int min2_int max_two min_two max_three min_three max_four min_four   -- for this text's walks alone
set_option linter.unusedVariables false
set_option maxHeartbeats 8000000
set_option maxRecDepth 100000
set_option linter.unusedSimpArgs false

attribute [local go_sem high] eqA23
/-! ### carrefourlaw09_DemandTable: function 3 -/
theorem carrefourlaw09_DemandTable.calls (k : Nat) (a0_0 : Int) (a0_1 : Int) (a0_2 : Int) (a0_3 : Int) (a0_4 : Int) (A0_5 : Option Addr) (c0_5 : Nat) (l0_5 : List (S42)) (A0_6 : Option Addr) (c0_6 : Nat) (l0_6 : List (S45)) (a0_7 : Int) (a0_8 : Int) (r : Bool) (w : World) (hr0_5 : Kd.C k42 w A0_5 l0_5.length l0_5) (hc0_5 : l0_5.length ≤ c0_5) (hr0_6 : Kd.C k45 w A0_6 l0_6.length l0_6) (hc0_6 : l0_6.length ≤ c0_6) (h : carrefourlaw09_DemandTable.f k a0_0 a0_1 a0_2 a0_3 a0_4 l0_5 l0_6 a0_7 a0_8 = some r) (hT : TabOK w) :
  Calls Tryz.prog 3 #[.agg #[.int .i64 a0_0, .int .i64 a0_1, .int .i64 a0_2, .int .i64 a0_3, .int .i64 a0_4, .slice A0_5 l0_5.length c0_5, .slice A0_6 l0_6.length c0_6, .int .i64 a0_7, .int .i64 a0_8]] w fun e w' => e = .returned (.bool r) ∧ Below w.heap.size w w' := by
 have GT := Aside0.mk hT
 clear hT
 have hu27 := Tryz.underlying27
 have hu23 := Tryz.underlying23
 have HR0_5 := Aside0.mk hr0_5
 have HC0_5 := Aside0.mk hc0_5
 clear hr0_5 hc0_5
 have HR0_6 := Aside0.mk hr0_6
 have HC0_6 := Aside0.mk hc0_6
 clear hr0_6 hc0_6
 have HB := Aside0.mk (Below.refl w.heap.size w)
 have H : ((carrefourlaw06_Few.f k a0_0 a0_1 a0_2 a0_3 a0_4 l0_5 l0_6 a0_7 a0_8).bind fun t664 => (if t664 = true then ((demand_Table.f k a0_0 a0_1 a0_2 a0_3 a0_4 l0_5 l0_6 a0_7 a0_8).bind fun bt665 => ((carrefourref09_Table.f k a0_0 a0_1 a0_2 a0_3 a0_4 l0_5 l0_6 a0_7 a0_8).bind fun bt669 => (if bt665.2 = bt669.2 then (carrefourlaw09_DemandTable.j0 k bt665.1 bt669.1 ((bt665.1.length : Int) != (bt669.1.length : Int))) else (carrefourlaw09_DemandTable.j0 k bt665.1 bt669.1 true)))) else (some true))) = some r := h
 clear h
 replace H := bi_ H; obtain ⟨t664, A2, H⟩ := H
 (try dsimp only at H)
 by_cases c3 : t664 = true
 ·subst c3
  have H1 : ((demand_Table.f k a0_0 a0_1 a0_2 a0_3 a0_4 l0_5 l0_6 a0_7 a0_8).bind fun bt665 => ((carrefourref09_Table.f k a0_0 a0_1 a0_2 a0_3 a0_4 l0_5 l0_6 a0_7 a0_8).bind fun bt669 => (if bt665.2 = bt669.2 then (carrefourlaw09_DemandTable.j0 k bt665.1 bt669.1 ((bt665.1.length : Int) != (bt669.1.length : Int))) else (carrefourlaw09_DemandTable.j0 k bt665.1 bt669.1 true)))) = some r := by rw [if_pos rfl] at H; exact H
  clear H
  have H := H1
  clear H1
  replace H := bi_ H; obtain ⟨⟨t665, t668⟩, A4, H⟩ := H
  (try dsimp only at H)
  replace H := bi_ H; obtain ⟨⟨t669, t672⟩, A5, H⟩ := H
  (try dsimp only at H)
  have HC6 := Aside0.mk H
  clear H
  go_enter Tryz.func3, Tryz.ntmps3
  go_upto_region 5 with (first | ((with_reducible refine gate_dst (N := 1) rfl ?_); (try (refine gate_guard (by rfl) ?_; dsimp only)); refine box_event ?hg (N := 1) ?hd (cs := #[.int .i64 a0_0, .int .i64 a0_1, .int .i64 a0_2, .int .i64 a0_3, .int .i64 a0_4, .slice A0_5 l0_5.length c0_5, .slice A0_6 l0_6.length c0_6, .int .i64 a0_7, .int .i64 a0_8]) (t := 27) ?hr ?_; (case hd => rfl); (case hg => rfl); (case hr => first | (go_simp; done) | (go_simp; rfl)); intro gb663 hg w7 hbox hb; have BK663 := Aside0.mk (hbox); have GE663 := bz HB hg; replace HB := bs HB hb; clear hb hg; have hcz8 := X.k9 BK663) | (go_at_call 4; (with_reducible refine (carrefourlaw06_Few.calls _ _ _ _ _ _ _ _ _ _ _ _ _ _ _ _ ?side1 ?side2 ?side3 ?side4 A2.out).mono ?_); (case side1 => repeat (first | exact (Kd.C_below HR0_5.out HB.out) | (with_reducible refine Kd.C_alloc ?_ _) | (with_reducible refine Kd.C_drewN ?_ _) | (with_reducible refine Kd.C_drew ?_))); (case side2 => exact HC0_5.out); (case side3 => repeat (first | exact (Kd.C_below HR0_6.out HB.out) | (with_reducible refine Kd.C_alloc ?_ _) | (with_reducible refine Kd.C_drewN ?_ _) | (with_reducible refine Kd.C_drew ?_))); (case side4 => exact HC0_6.out); rintro e w9 ⟨rfl, hb⟩; replace BK663 := bb BK663 hb; replace HB := bs HB hb; (try clear hb); have hcz10 := X.k9 BK663) | (go_at_call 5; (with_reducible refine (demand_Table.calls _ _ _ _ _ _ _ _ _ _ _ _ _ _ _ _ _ ?side1 ?side2 ?side3 ?side4 A4.out (tt GT)).mono ?_); (case side1 => repeat (first | exact (Kd.C_below HR0_5.out HB.out) | (with_reducible refine Kd.C_alloc ?_ _) | (with_reducible refine Kd.C_drewN ?_ _) | (with_reducible refine Kd.C_drew ?_))); (case side2 => exact HC0_5.out); (case side3 => repeat (first | exact (Kd.C_below HR0_6.out HB.out) | (with_reducible refine Kd.C_alloc ?_ _) | (with_reducible refine Kd.C_drewN ?_ _) | (with_reducible refine Kd.C_drew ?_))); (case side4 => exact HC0_6.out); rintro e w11 ⟨v666, rfl, ho0, hb⟩; have HO667 := Aside0.mk (Kd.S_lower ho0 (below_size (bf HB))); replace BK663 := bb BK663 hb; replace HB := bs HB hb; (try clear hb); (try clear ho0); have hcz12 := X.k9 BK663) | (go_at_call 6; (with_reducible refine (carrefourref09_Table.calls _ _ _ _ _ _ _ _ _ _ _ _ _ _ _ _ _ ?side1 ?side2 ?side3 ?side4 A5.out).mono ?_); (case side1 => repeat (first | exact (Kd.C_below HR0_5.out HB.out) | (with_reducible refine Kd.C_alloc ?_ _) | (with_reducible refine Kd.C_drewN ?_ _) | (with_reducible refine Kd.C_drew ?_))); (case side2 => exact HC0_5.out); (case side3 => repeat (first | exact (Kd.C_below HR0_6.out HB.out) | (with_reducible refine Kd.C_alloc ?_ _) | (with_reducible refine Kd.C_drewN ?_ _) | (with_reducible refine Kd.C_drew ?_))); (case side4 => exact HC0_6.out); rintro e w13 ⟨v670, rfl, ho0, hb⟩; have HO671 := Aside0.mk (Kd.S_lower (Kd.S_new' ho0 (Kd.S_lt (St_ HO667.out))) (below_size (bf HB))); replace HO667 := Aside0.mk (Kd.S_elder' (St_ HO667.out) (Kd.S_base ho0) hb); replace BK663 := bb BK663 hb; replace HB := bs HB hb; (try clear hb); (try clear ho0)))
  repeat (go_quiet (first | ((with_reducible refine gate_dst (N := 1) rfl ?_); (try (refine gate_guard (by rfl) ?_; dsimp only)); refine box_event ?hg (N := 1) ?hd (cs := #[.int .i64 a0_0, .int .i64 a0_1, .int .i64 a0_2, .int .i64 a0_3, .int .i64 a0_4, .slice A0_5 l0_5.length c0_5, .slice A0_6 l0_6.length c0_6, .int .i64 a0_7, .int .i64 a0_8]) (t := 27) ?hr ?_; (case hd => rfl); (case hg => rfl); (case hr => first | (go_simp; done) | (go_simp; rfl)); intro gb663 hg w7 hbox hb; have BK663 := Aside0.mk (hbox); have GE663 := bz HB hg; replace HB := bs HB hb; clear hb hg; have hcz8 := X.k9 BK663) | (go_at_call 4; (with_reducible refine (carrefourlaw06_Few.calls _ _ _ _ _ _ _ _ _ _ _ _ _ _ _ _ ?side1 ?side2 ?side3 ?side4 A2.out).mono ?_); (case side1 => repeat (first | exact (Kd.C_below HR0_5.out HB.out) | (with_reducible refine Kd.C_alloc ?_ _) | (with_reducible refine Kd.C_drewN ?_ _) | (with_reducible refine Kd.C_drew ?_))); (case side2 => exact HC0_5.out); (case side3 => repeat (first | exact (Kd.C_below HR0_6.out HB.out) | (with_reducible refine Kd.C_alloc ?_ _) | (with_reducible refine Kd.C_drewN ?_ _) | (with_reducible refine Kd.C_drew ?_))); (case side4 => exact HC0_6.out); rintro e w9 ⟨rfl, hb⟩; replace BK663 := bb BK663 hb; replace HB := bs HB hb; (try clear hb); have hcz10 := X.k9 BK663) | (go_at_call 5; (with_reducible refine (demand_Table.calls _ _ _ _ _ _ _ _ _ _ _ _ _ _ _ _ _ ?side1 ?side2 ?side3 ?side4 A4.out (tt GT)).mono ?_); (case side1 => repeat (first | exact (Kd.C_below HR0_5.out HB.out) | (with_reducible refine Kd.C_alloc ?_ _) | (with_reducible refine Kd.C_drewN ?_ _) | (with_reducible refine Kd.C_drew ?_))); (case side2 => exact HC0_5.out); (case side3 => repeat (first | exact (Kd.C_below HR0_6.out HB.out) | (with_reducible refine Kd.C_alloc ?_ _) | (with_reducible refine Kd.C_drewN ?_ _) | (with_reducible refine Kd.C_drew ?_))); (case side4 => exact HC0_6.out); rintro e w11 ⟨v666, rfl, ho0, hb⟩; have HO667 := Aside0.mk (Kd.S_lower ho0 (below_size (bf HB))); replace BK663 := bb BK663 hb; replace HB := bs HB hb; (try clear hb); (try clear ho0); have hcz12 := X.k9 BK663) | (go_at_call 6; (with_reducible refine (carrefourref09_Table.calls _ _ _ _ _ _ _ _ _ _ _ _ _ _ _ _ _ ?side1 ?side2 ?side3 ?side4 A5.out).mono ?_); (case side1 => repeat (first | exact (Kd.C_below HR0_5.out HB.out) | (with_reducible refine Kd.C_alloc ?_ _) | (with_reducible refine Kd.C_drewN ?_ _) | (with_reducible refine Kd.C_drew ?_))); (case side2 => exact HC0_5.out); (case side3 => repeat (first | exact (Kd.C_below HR0_6.out HB.out) | (with_reducible refine Kd.C_alloc ?_ _) | (with_reducible refine Kd.C_drewN ?_ _) | (with_reducible refine Kd.C_drew ?_))); (case side4 => exact HC0_6.out); rintro e w13 ⟨v670, rfl, ho0, hb⟩; have HO671 := Aside0.mk (Kd.S_lower (Kd.S_new' ho0 (Kd.S_lt (St_ HO667.out))) (below_size (bf HB))); replace HO667 := Aside0.mk (Kd.S_elder' (St_ HO667.out) (Kd.S_base ho0) hb); replace BK663 := bb BK663 hb; replace HB := bs HB hb; (try clear hb); (try clear ho0))); go_upto_region 5 with (first | ((with_reducible refine gate_dst (N := 1) rfl ?_); (try (refine gate_guard (by rfl) ?_; dsimp only)); refine box_event ?hg (N := 1) ?hd (cs := #[.int .i64 a0_0, .int .i64 a0_1, .int .i64 a0_2, .int .i64 a0_3, .int .i64 a0_4, .slice A0_5 l0_5.length c0_5, .slice A0_6 l0_6.length c0_6, .int .i64 a0_7, .int .i64 a0_8]) (t := 27) ?hr ?_; (case hd => rfl); (case hg => rfl); (case hr => first | (go_simp; done) | (go_simp; rfl)); intro gb663 hg w7 hbox hb; have BK663 := Aside0.mk (hbox); have GE663 := bz HB hg; replace HB := bs HB hb; clear hb hg; have hcz8 := X.k9 BK663) | (go_at_call 4; (with_reducible refine (carrefourlaw06_Few.calls _ _ _ _ _ _ _ _ _ _ _ _ _ _ _ _ ?side1 ?side2 ?side3 ?side4 A2.out).mono ?_); (case side1 => repeat (first | exact (Kd.C_below HR0_5.out HB.out) | (with_reducible refine Kd.C_alloc ?_ _) | (with_reducible refine Kd.C_drewN ?_ _) | (with_reducible refine Kd.C_drew ?_))); (case side2 => exact HC0_5.out); (case side3 => repeat (first | exact (Kd.C_below HR0_6.out HB.out) | (with_reducible refine Kd.C_alloc ?_ _) | (with_reducible refine Kd.C_drewN ?_ _) | (with_reducible refine Kd.C_drew ?_))); (case side4 => exact HC0_6.out); rintro e w9 ⟨rfl, hb⟩; replace BK663 := bb BK663 hb; replace HB := bs HB hb; (try clear hb); have hcz10 := X.k9 BK663) | (go_at_call 5; (with_reducible refine (demand_Table.calls _ _ _ _ _ _ _ _ _ _ _ _ _ _ _ _ _ ?side1 ?side2 ?side3 ?side4 A4.out (tt GT)).mono ?_); (case side1 => repeat (first | exact (Kd.C_below HR0_5.out HB.out) | (with_reducible refine Kd.C_alloc ?_ _) | (with_reducible refine Kd.C_drewN ?_ _) | (with_reducible refine Kd.C_drew ?_))); (case side2 => exact HC0_5.out); (case side3 => repeat (first | exact (Kd.C_below HR0_6.out HB.out) | (with_reducible refine Kd.C_alloc ?_ _) | (with_reducible refine Kd.C_drewN ?_ _) | (with_reducible refine Kd.C_drew ?_))); (case side4 => exact HC0_6.out); rintro e w11 ⟨v666, rfl, ho0, hb⟩; have HO667 := Aside0.mk (Kd.S_lower ho0 (below_size (bf HB))); replace BK663 := bb BK663 hb; replace HB := bs HB hb; (try clear hb); (try clear ho0); have hcz12 := X.k9 BK663) | (go_at_call 6; (with_reducible refine (carrefourref09_Table.calls _ _ _ _ _ _ _ _ _ _ _ _ _ _ _ _ _ ?side1 ?side2 ?side3 ?side4 A5.out).mono ?_); (case side1 => repeat (first | exact (Kd.C_below HR0_5.out HB.out) | (with_reducible refine Kd.C_alloc ?_ _) | (with_reducible refine Kd.C_drewN ?_ _) | (with_reducible refine Kd.C_drew ?_))); (case side2 => exact HC0_5.out); (case side3 => repeat (first | exact (Kd.C_below HR0_6.out HB.out) | (with_reducible refine Kd.C_alloc ?_ _) | (with_reducible refine Kd.C_drewN ?_ _) | (with_reducible refine Kd.C_drew ?_))); (case side4 => exact HC0_6.out); rintro e w13 ⟨v670, rfl, ho0, hb⟩; have HO671 := Aside0.mk (Kd.S_lower (Kd.S_new' ho0 (Kd.S_lt (St_ HO667.out))) (below_size (bf HB))); replace HO667 := Aside0.mk (Kd.S_elder' (St_ HO667.out) (Kd.S_base ho0) hb); replace BK663 := bb BK663 hb; replace HB := bs HB hb; (try clear hb); (try clear ho0))))
  (try simp only [Act.put, si, s0, s1])
  go_cut [31] (fun v31 wc => ∃ (kq : Nat) (x31_5 : Bool), v31 = .bool x31_5 ∧ Aside0 (carrefourlaw09_DemandTable.j0 kq t665 t669 x31_5 = some r) ∧ Aside0 (kq ≤ k) ∧ Aside0 (Kd.S (Kd.slice 23 k23) 33 wc w.heap.size (fun k_ => some k_ ≠ (v670 : Value).ownBlock) v666 t665) ∧ Aside0 (Kd.S (Kd.slice 23 k23) 33 wc w.heap.size (fun k_ => some k_ ≠ (v666 : Value).ownBlock) v670 t669) ∧ Aside0 (wc.heap[gb663]? = some (.cells #[.int .i64 a0_0, .int .i64 a0_1, .int .i64 a0_2, .int .i64 a0_3, .int .i64 a0_4, (.slice A0_5 l0_5.length c0_5), (.slice A0_6 l0_6.length c0_6), .int .i64 a0_7, .int .i64 a0_8] 27 (0, 0))) ∧ Aside0 (Below w.heap.size w wc))
  case first =>
   have H := HC6.out
   clear HC6
   by_cases c14 : t668 = t672
   ·rw [if_pos c14] at H
    have c14b0 : (t668 == t672) = true := beq_iff_eq.mpr c14
    have c14b1 : (t668 != t672) = false := bne_eq_false_iff_eq.mpr c14
    clear c14
    (first | rw [c14b0] | (simp only [i64_w, i32_w]; rw [c14b0]) | skip)
    have H' := Aside0.mk H
    clear H
    obtain ⟨Ao15, co15, eo15⟩ := Kd.S_slice HO667.out
    subst eo15
    obtain ⟨Ao16, co16, eo16⟩ := Kd.S_slice HO671.out
    subst eo16
    go_wp2
    repeat (go_quiet (fail); try go_wp2)
    go_meet
    case rel => exact ⟨_, (((t665.length : Int) != (t669.length : Int))), (aq), H', ⟨by first | omega | exact Nat.le_refl _⟩, ⟨St_ (Kd.S_mono HO667.out (fun _ hk => hk.2))⟩, ⟨St_ (Kd.S_mono HO671.out (fun _ hk => hk.2))⟩, bu_ BK663, ⟨bf HB⟩⟩
   ·rw [if_neg c14] at H
    have c14b0 : (t668 == t672) = false := beq_eq_false_iff_ne.mpr c14
    have c14b1 : (t668 != t672) = true := bne_iff_ne.mpr c14
    (first | rw [c14b0] | (simp only [i64_w, i32_w]; rw [c14b0]) | skip)
    have H' := Aside0.mk H
    clear H
    go_wp2
    repeat (go_quiet (fail); try go_wp2)
    go_meet
    case rel => exact ⟨_, (true), (aq), H', ⟨by first | omega | exact Nat.le_refl _⟩, ⟨St_ (Kd.S_mono HO667.out (fun _ hk => hk.2))⟩, ⟨St_ (Kd.S_mono HO671.out (fun _ hk => hk.2))⟩, bu_ BK663, ⟨bf HB⟩⟩
  case rest =>
   clear HC6
   (try clear c1); (try clear p2); (try clear c3); (try clear c14); (try clear c14b0); (try clear c14b1); (try clear hcz10); (try clear hcz12); (try clear hcz8)
   obtain ⟨kq, x31_5, rfl, HA, HJ5, HO_3, HO_5, BK663, HB⟩ := hcut
   cases kq with
   | zero => exact absurd HA.out (by simp [carrefourlaw09_DemandTable.j0])
   | succ kj5 =>
    have H := HA.out
    clear HA
    simp only [carrefourlaw09_DemandTable.j0] at H
    by_cases c17 : x31_5 = true
    ·subst c17
     have H1 : (some false) = some r := by rw [if_pos rfl] at H; exact H
     clear H
     have H := H1
     clear H1
     obtain rfl := Option.some.inj H
     go_wp2
     repeat (go_quiet (fail); try go_wp2)
     go_ret
     exact ⟨ae, bf HB⟩
    ·replace c17 := Bool.eq_false_iff.mpr c17
     subst c17
     have H1 : (carrefourlaw09_DemandTable.l0 kj5 t665 t669 0) = some r := by rw [if_neg (show ¬ (false = true) by decide)] at H; exact H
     clear H
     have H := H1
     clear H1
     have H' := Aside0.mk H
     clear H
     go_wp2
     repeat (go_quiet (fail); try go_wp2)
     go_loopg [7] kj5 (fun kq v7 w' => ∃ (x7_2 : Int), v7 = .int .i64 x7_2 ∧ Aside0 (carrefourlaw09_DemandTable.l0 kq t665 t669 x7_2 = some r) ∧ Aside0 (kq ≤ kj5) ∧ Aside0 (Kd.S (Kd.slice 23 k23) 33 w' w.heap.size (fun k_ => some k_ ≠ (v670 : Value).ownBlock) v666 t665) ∧ Aside0 (Kd.S (Kd.slice 23 k23) 33 w' w.heap.size (fun k_ => some k_ ≠ (v666 : Value).ownBlock) v670 t669) ∧ Aside0 (w'.heap[gb663]? = some (.cells #[.int .i64 a0_0, .int .i64 a0_1, .int .i64 a0_2, .int .i64 a0_3, .int .i64 a0_4, (.slice A0_5 l0_5.length c0_5), (.slice A0_6 l0_6.length c0_6), .int .i64 a0_7, .int .i64 a0_8] 27 (0, 0))) ∧ Aside0 (Below w.heap.size w w'))
     case atStart => exact ⟨(0), (aq), H', ⟨Nat.le_refl _⟩, ⟨St_ HO_3.out⟩, ⟨St_ HO_5.out⟩, bu_ BK663, ⟨bf HB⟩⟩
     case round =>
      clear H'
      (try clear c1); (try clear p2); (try clear c3); (try clear c14); (try clear c14b0); (try clear c14b1); (try clear c17); (try clear hcz10); (try clear hcz12); (try clear hcz8); (try clear p2)
      obtain ⟨x7_2, rfl, HA, HK2, HO_3, HO_5, BK663, HB⟩ := hrel
      cases gk with
      | zero => exact absurd HA.out (by simp [carrefourlaw09_DemandTable.l0])
      | succ k2 =>
       have H := HA.out
       clear HA
       simp only [carrefourlaw09_DemandTable.l0] at H
       by_cases c18 : x7_2 < (t665.length : Int)
       ·rw [if_pos c18] at H
        have c18b0 : decide (x7_2 < (t665.length : Int)) = true := decide_eq_true c18
        clear c18
        by_cases c19 : 0 ≤ x7_2
        ·rw [if_pos c19] at H
         have c19b0 : decide (0 ≤ x7_2) = true := decide_eq_true c19
         clear c19
         by_cases c20 : x7_2 < (t669.length : Int)
         ·rw [if_pos c20] at H
          have c20b0 : decide (x7_2 < (t669.length : Int)) = true := decide_eq_true c20
          clear c20
          by_cases c21 : ((rd_L19 t665 x7_2).length : Int) = ((rd_L19 t669 x7_2).length : Int)
          ·rw [if_pos c21] at H
           have c21b0 : (((rd_L19 t665 x7_2).length : Int) == ((rd_L19 t669 x7_2).length : Int)) = true := beq_iff_eq.mpr c21
           have c21b1 : (((rd_L19 t665 x7_2).length : Int) != ((rd_L19 t669 x7_2).length : Int)) = false := bne_eq_false_iff_eq.mpr c21
           have c21b2 : ((rd_L19 t665 x7_2).length == (rd_L19 t669 x7_2).length) = true := by first | simpa using c21 | (simp at c21 ⊢; omega)
           clear c21
           have H' := Aside0.mk H
           clear H
           obtain ⟨Ao22, co22, eo22⟩ := Kd.S_slice HO_3.out
           subst eo22
           have p674 : 0 ≤ (x7_2 : Int) := od_
           have q674 : x7_2 < (t665.length : Int) := od_
           obtain ⟨ad674, A674_0, c674_0, e674, hx674_0, hl674_0, hi674_0⟩ := at_L19 (Kd.S_reads' HO_3.out).2.2 x7_2 p674 q674
           cases e674
           obtain ⟨ce674, hce674, hMe674, hcc674⟩ := Kd.S_get HO_3.out [] x7_2 p674 (by first | exact q674 | exact od_ | (have e_ := (Kd.S_reads' HO_3.out).1; omega))
           obtain ⟨ve674_0, rfl, ge674_0⟩ := hMe674
           have hv674_0 := hcc674 0 _ rfl
           rw [Nat.add_zero, show ((Kd.slice 23 k23)).sz = 1 from rfl, Nat.mul_one] at hv674_0
           replace hv674_0 := Option.some.inj (hv674_0.symm.trans hx674_0)
           rw [hv674_0] at ge674_0
           have HL674_0 := Aside0.mk (show Kd.R k23 23 _ _ _ _ (rd_L19 t665 x7_2) from ge674_0)
           clear hv674_0 ge674_0
           clear hcc674 hce674
           have HR674_0 := Aside0.mk hi674_0
           have HC674_0 := Aside0.mk hl674_0
           clear hi674_0 hl674_0
           replace p674 := eq_true p674
           replace q674 := eq_true q674
           obtain ⟨Ao23, co23, eo23⟩ := Kd.S_slice HO_5.out
           subst eo23
           have p675 : 0 ≤ (x7_2 : Int) := od_
           have q675 : x7_2 < (t669.length : Int) := od_
           obtain ⟨ad675, A675_0, c675_0, e675, hx675_0, hl675_0, hi675_0⟩ := at_L19 (Kd.S_reads' HO_5.out).2.2 x7_2 p675 q675
           cases e675
           obtain ⟨ce675, hce675, hMe675, hcc675⟩ := Kd.S_get HO_5.out [] x7_2 p675 (by first | exact q675 | exact od_ | (have e_ := (Kd.S_reads' HO_5.out).1; omega))
           obtain ⟨ve675_0, rfl, ge675_0⟩ := hMe675
           have hv675_0 := hcc675 0 _ rfl
           rw [Nat.add_zero, show ((Kd.slice 23 k23)).sz = 1 from rfl, Nat.mul_one] at hv675_0
           replace hv675_0 := Option.some.inj (hv675_0.symm.trans hx675_0)
           rw [hv675_0] at ge675_0
           have HL675_0 := Aside0.mk (show Kd.R k23 23 _ _ _ _ (rd_L19 t669 x7_2) from ge675_0)
           clear hv675_0 ge675_0
           clear hcc675 hce675
           have HR675_0 := Aside0.mk hi675_0
           have HC675_0 := Aside0.mk hl675_0
           clear hi675_0 hl675_0
           replace p675 := eq_true p675
           replace q675 := eq_true q675
           go_wp2
           repeat (go_quiet (fail); try go_wp2)
           go_loopg [8] k2 (fun kq v8 w' => ∃ (x8_3 : Int), v8 = .int .i64 x8_3 ∧ Aside0 (carrefourlaw09_DemandTable.l1 kq t665 t669 x7_2 x8_3 = some r) ∧ Aside0 (kq ≤ k2) ∧ Aside0 (Kd.S (Kd.slice 23 k23) 33 w' w.heap.size (fun k_ => some k_ ≠ ((.slice (some ad675) t669.length co23) : Value).ownBlock) (.slice (some ad674) t665.length co22) t665) ∧ Aside0 (Kd.S (Kd.slice 23 k23) 33 w' w.heap.size (fun k_ => some k_ ≠ ((.slice (some ad674) t665.length co22) : Value).ownBlock) (.slice (some ad675) t669.length co23) t669) ∧ Aside0 (w'.heap[gb663]? = some (.cells #[.int .i64 a0_0, .int .i64 a0_1, .int .i64 a0_2, .int .i64 a0_3, .int .i64 a0_4, (.slice A0_5 l0_5.length c0_5), (.slice A0_6 l0_6.length c0_6), .int .i64 a0_7, .int .i64 a0_8] 27 (0, 0))) ∧ Aside0 (Kd.C k23 w' A674_0 (rd_L19 t665 x7_2).length (rd_L19 t665 x7_2)) ∧ Aside0 (Kd.C k23 w' A675_0 (rd_L19 t669 x7_2).length (rd_L19 t669 x7_2)) ∧ Aside0 (Below w.heap.size w w'))
           case atStart => exact ⟨(0), (aq), H', ⟨Nat.le_refl _⟩, ⟨St_ HO_3.out⟩, ⟨St_ HO_5.out⟩, bu_ BK663, ⟨by repeat (first | (with_reducible exact HR674_0.out) | (with_reducible refine Kd.C_alloc ?_ _) | (with_reducible refine Kd.C_drewN ?_ _) | (with_reducible refine Kd.C_drew ?_) | exact HR674_0.out)⟩, ⟨by repeat (first | (with_reducible exact HR675_0.out) | (with_reducible refine Kd.C_alloc ?_ _) | (with_reducible refine Kd.C_drewN ?_ _) | (with_reducible refine Kd.C_drew ?_) | exact HR675_0.out)⟩, ⟨bf HB⟩⟩
           case round =>
            clear H'
            (try clear c1); (try clear c2); (try clear p2); (try clear c3); (try clear c6); (try clear p6); (try clear q6); (try clear hx6); (try clear c14); (try clear c14b0); (try clear c14b1); (try clear c17); (try clear c18); (try clear c18b0); (try clear c19); (try clear c19b0); (try clear c20); (try clear c20b0); (try clear c21); (try clear c21b0); (try clear c21b1); (try clear c21b2); (try clear hcz10); (try clear hcz12); (try clear hcz8); (try clear hx674_0); (try clear hx675_0); (try clear p2); (try clear p674); (try clear p675); (try clear q674); (try clear q675)
            obtain ⟨x8_3, rfl, HA, HK3, HO_3, HO_5, BK663, HR674_0, HR675_0, HB⟩ := hrel
            cases gk with
            | zero => exact absurd HA.out (by simp [carrefourlaw09_DemandTable.l1])
            | succ k3 =>
             have H := HA.out
             clear HA
             simp only [carrefourlaw09_DemandTable.l1] at H
             by_cases c24 : 0 ≤ x7_2
             ·rw [if_pos c24] at H
              have c24b0 : decide (0 ≤ x7_2) = true := decide_eq_true c24
              clear c24
              by_cases c25 : x7_2 < (t665.length : Int)
              ·rw [if_pos c25] at H
               have c25b0 : decide (x7_2 < (t665.length : Int)) = true := decide_eq_true c25
               clear c25
               by_cases c26 : x8_3 < ((rd_L19 t665 x7_2).length : Int)
               ·rw [if_pos c26] at H
                have c26b0 : decide (x8_3 < ((rd_L19 t665 x7_2).length : Int)) = true := decide_eq_true c26
                clear c26
                by_cases c27 : 0 ≤ x8_3
                ·rw [if_pos c27] at H
                 have c27b0 : decide (0 ≤ x8_3) = true := decide_eq_true c27
                 clear c27
                 by_cases c28 : x7_2 < (t669.length : Int)
                 ·rw [if_pos c28] at H
                  have c28b0 : decide (x7_2 < (t669.length : Int)) = true := decide_eq_true c28
                  clear c28
                  by_cases c29 : x8_3 < ((rd_L19 t669 x7_2).length : Int)
                  ·rw [if_pos c29] at H
                   have c29b0 : decide (x8_3 < ((rd_L19 t669 x7_2).length : Int)) = true := decide_eq_true c29
                   clear c29
                   by_cases c30 : (!(((rd_T23 (rd_L19 t665 x7_2) x8_3).f0) == ((rd_T23 (rd_L19 t669 x7_2) x8_3).f0)) || (!(((rd_T23 (rd_L19 t665 x7_2) x8_3).f1) == ((rd_T23 (rd_L19 t669 x7_2) x8_3).f1)))) = true
                   ·rw [if_pos c30] at H
                    have c30b0 : (!(((rd_T23 (rd_L19 t665 x7_2) x8_3).f0) == ((rd_T23 (rd_L19 t669 x7_2) x8_3).f0)) || (!(((rd_T23 (rd_L19 t665 x7_2) x8_3).f1) == ((rd_T23 (rd_L19 t669 x7_2) x8_3).f1)))) = true := c30
                    clear c30
                    obtain rfl := Option.some.inj H
                    have p676 : 0 ≤ (x7_2 : Int) := od_
                    have q676 : x7_2 < (t665.length : Int) := od_
                    obtain ⟨ad676, A676_0, c676_0, e676, hx676_0, hl676_0, hi676_0⟩ := at_L19 (Kd.S_reads' HO_3.out).2.2 x7_2 p676 q676
                    obtain rfl : ad674 = ad676 := (by injection e676)
                    obtain ⟨ce676, hce676, hMe676, hcc676⟩ := Kd.S_get HO_3.out [] x7_2 p676 (by first | exact q676 | exact od_ | (have e_ := (Kd.S_reads' HO_3.out).1; omega))
                    obtain ⟨ve676_0, rfl, ge676_0⟩ := hMe676
                    have hv676_0 := hcc676 0 _ rfl
                    rw [Nat.add_zero, show ((Kd.slice 23 k23)).sz = 1 from rfl, Nat.mul_one] at hv676_0
                    replace hv676_0 := Option.some.inj (hv676_0.symm.trans hx676_0)
                    rw [hv676_0] at ge676_0
                    have HL676_0 := Aside0.mk (show Kd.R k23 23 _ _ _ _ (rd_L19 t665 x7_2) from ge676_0)
                    clear hv676_0 ge676_0
                    clear hcc676 hce676
                    have HR676_0 := Aside0.mk hi676_0
                    have HC676_0 := Aside0.mk hl676_0
                    clear hi676_0 hl676_0
                    replace p676 := eq_true p676
                    replace q676 := eq_true q676
                    have p677 : 0 ≤ (x7_2 : Int) := od_
                    have q677 : x7_2 < (t665.length : Int) := od_
                    obtain ⟨ad677, A677_0, c677_0, e677, hx677_0, hl677_0, hi677_0⟩ := at_L19 (Kd.S_reads' HO_3.out).2.2 x7_2 p677 q677
                    obtain rfl : ad674 = ad677 := (by injection e677)
                    obtain ⟨ce677, hce677, hMe677, hcc677⟩ := Kd.S_get HO_3.out [] x7_2 p677 (by first | exact q677 | exact od_ | (have e_ := (Kd.S_reads' HO_3.out).1; omega))
                    obtain ⟨ve677_0, rfl, ge677_0⟩ := hMe677
                    have hv677_0 := hcc677 0 _ rfl
                    rw [Nat.add_zero, show ((Kd.slice 23 k23)).sz = 1 from rfl, Nat.mul_one] at hv677_0
                    replace hv677_0 := Option.some.inj (hv677_0.symm.trans hx677_0)
                    rw [hv677_0] at ge677_0
                    have HL677_0 := Aside0.mk (show Kd.R k23 23 _ _ _ _ (rd_L19 t665 x7_2) from ge677_0)
                    clear hv677_0 ge677_0
                    clear hcc677 hce677
                    have HR677_0 := Aside0.mk hi677_0
                    have HC677_0 := Aside0.mk hl677_0
                    clear hi677_0 hl677_0
                    replace p677 := eq_true p677
                    replace q677 := eq_true q677
                    have ea_ := Option.some.inj (hx676_0.symm.trans hx677_0)
                    injection ea_ with ea_ en_ ec_
                    subst ea_
                    subst ec_
                    clear en_
                    have p678 : 0 ≤ (x8_3 : Int) := od_
                    have q678 : x8_3 < ((rd_L19 t665 x7_2).length : Int) := od_
                    obtain ⟨ad678, e678, hx678_0, hx678_1⟩ := at_T23 (by repeat (first | (with_reducible exact HR677_0.out) | (with_reducible refine Kd.C_alloc ?_ _) | (with_reducible refine Kd.C_drewN ?_ _) | (with_reducible refine Kd.C_drew ?_) | exact HR677_0.out)) x8_3 p678 q678
                    cases e678
                    replace p678 := eq_true p678
                    replace q678 := eq_true q678
                    have p679 : 0 ≤ (x7_2 : Int) := od_
                    have q679 : x7_2 < (t669.length : Int) := od_
                    obtain ⟨ad679, A679_0, c679_0, e679, hx679_0, hl679_0, hi679_0⟩ := at_L19 (Kd.S_reads' HO_5.out).2.2 x7_2 p679 q679
                    obtain rfl : ad675 = ad679 := (by injection e679)
                    obtain ⟨ce679, hce679, hMe679, hcc679⟩ := Kd.S_get HO_5.out [] x7_2 p679 (by first | exact q679 | exact od_ | (have e_ := (Kd.S_reads' HO_5.out).1; omega))
                    obtain ⟨ve679_0, rfl, ge679_0⟩ := hMe679
                    have hv679_0 := hcc679 0 _ rfl
                    rw [Nat.add_zero, show ((Kd.slice 23 k23)).sz = 1 from rfl, Nat.mul_one] at hv679_0
                    replace hv679_0 := Option.some.inj (hv679_0.symm.trans hx679_0)
                    rw [hv679_0] at ge679_0
                    have HL679_0 := Aside0.mk (show Kd.R k23 23 _ _ _ _ (rd_L19 t669 x7_2) from ge679_0)
                    clear hv679_0 ge679_0
                    clear hcc679 hce679
                    have HR679_0 := Aside0.mk hi679_0
                    have HC679_0 := Aside0.mk hl679_0
                    clear hi679_0 hl679_0
                    replace p679 := eq_true p679
                    replace q679 := eq_true q679
                    have p680 : 0 ≤ (x8_3 : Int) := od_
                    have q680 : x8_3 < ((rd_L19 t669 x7_2).length : Int) := od_
                    obtain ⟨ad680, e680, hx680_0, hx680_1⟩ := at_T23 (by repeat (first | (with_reducible exact HR679_0.out) | (with_reducible refine Kd.C_alloc ?_ _) | (with_reducible refine Kd.C_drewN ?_ _) | (with_reducible refine Kd.C_drew ?_) | exact HR679_0.out)) x8_3 p680 q680
                    cases e680
                    replace p680 := eq_true p680
                    replace q680 := eq_true q680
                    go_wp2
                    repeat (go_quiet (fail); try go_wp2)
                    go_ret
                    exact ⟨ae, bf HB⟩
                   ·rw [if_neg c30] at H
                    have c30b0 : (!(((rd_T23 (rd_L19 t665 x7_2) x8_3).f0) == ((rd_T23 (rd_L19 t669 x7_2) x8_3).f0)) || (!(((rd_T23 (rd_L19 t665 x7_2) x8_3).f1) == ((rd_T23 (rd_L19 t669 x7_2) x8_3).f1)))) = false := by simpa using c30
                    clear c30
                    have H' := Aside0.mk H
                    clear H
                    have p676 : 0 ≤ (x7_2 : Int) := od_
                    have q676 : x7_2 < (t665.length : Int) := od_
                    obtain ⟨ad676, A676_0, c676_0, e676, hx676_0, hl676_0, hi676_0⟩ := at_L19 (Kd.S_reads' HO_3.out).2.2 x7_2 p676 q676
                    obtain rfl : ad674 = ad676 := (by injection e676)
                    obtain ⟨ce676, hce676, hMe676, hcc676⟩ := Kd.S_get HO_3.out [] x7_2 p676 (by first | exact q676 | exact od_ | (have e_ := (Kd.S_reads' HO_3.out).1; omega))
                    obtain ⟨ve676_0, rfl, ge676_0⟩ := hMe676
                    have hv676_0 := hcc676 0 _ rfl
                    rw [Nat.add_zero, show ((Kd.slice 23 k23)).sz = 1 from rfl, Nat.mul_one] at hv676_0
                    replace hv676_0 := Option.some.inj (hv676_0.symm.trans hx676_0)
                    rw [hv676_0] at ge676_0
                    have HL676_0 := Aside0.mk (show Kd.R k23 23 _ _ _ _ (rd_L19 t665 x7_2) from ge676_0)
                    clear hv676_0 ge676_0
                    clear hcc676 hce676
                    have HR676_0 := Aside0.mk hi676_0
                    have HC676_0 := Aside0.mk hl676_0
                    clear hi676_0 hl676_0
                    replace p676 := eq_true p676
                    replace q676 := eq_true q676
                    have p677 : 0 ≤ (x7_2 : Int) := od_
                    have q677 : x7_2 < (t665.length : Int) := od_
                    obtain ⟨ad677, A677_0, c677_0, e677, hx677_0, hl677_0, hi677_0⟩ := at_L19 (Kd.S_reads' HO_3.out).2.2 x7_2 p677 q677
                    obtain rfl : ad674 = ad677 := (by injection e677)
                    obtain ⟨ce677, hce677, hMe677, hcc677⟩ := Kd.S_get HO_3.out [] x7_2 p677 (by first | exact q677 | exact od_ | (have e_ := (Kd.S_reads' HO_3.out).1; omega))
                    obtain ⟨ve677_0, rfl, ge677_0⟩ := hMe677
                    have hv677_0 := hcc677 0 _ rfl
                    rw [Nat.add_zero, show ((Kd.slice 23 k23)).sz = 1 from rfl, Nat.mul_one] at hv677_0
                    replace hv677_0 := Option.some.inj (hv677_0.symm.trans hx677_0)
                    rw [hv677_0] at ge677_0
                    have HL677_0 := Aside0.mk (show Kd.R k23 23 _ _ _ _ (rd_L19 t665 x7_2) from ge677_0)
                    clear hv677_0 ge677_0
                    clear hcc677 hce677
                    have HR677_0 := Aside0.mk hi677_0
                    have HC677_0 := Aside0.mk hl677_0
                    clear hi677_0 hl677_0
                    replace p677 := eq_true p677
                    replace q677 := eq_true q677
                    have ea_ := Option.some.inj (hx676_0.symm.trans hx677_0)
                    injection ea_ with ea_ en_ ec_
                    subst ea_
                    subst ec_
                    clear en_
                    have p678 : 0 ≤ (x8_3 : Int) := od_
                    have q678 : x8_3 < ((rd_L19 t665 x7_2).length : Int) := od_
                    obtain ⟨ad678, e678, hx678_0, hx678_1⟩ := at_T23 (by repeat (first | (with_reducible exact HR677_0.out) | (with_reducible refine Kd.C_alloc ?_ _) | (with_reducible refine Kd.C_drewN ?_ _) | (with_reducible refine Kd.C_drew ?_) | exact HR677_0.out)) x8_3 p678 q678
                    cases e678
                    replace p678 := eq_true p678
                    replace q678 := eq_true q678
                    have p679 : 0 ≤ (x7_2 : Int) := od_
                    have q679 : x7_2 < (t669.length : Int) := od_
                    obtain ⟨ad679, A679_0, c679_0, e679, hx679_0, hl679_0, hi679_0⟩ := at_L19 (Kd.S_reads' HO_5.out).2.2 x7_2 p679 q679
                    obtain rfl : ad675 = ad679 := (by injection e679)
                    obtain ⟨ce679, hce679, hMe679, hcc679⟩ := Kd.S_get HO_5.out [] x7_2 p679 (by first | exact q679 | exact od_ | (have e_ := (Kd.S_reads' HO_5.out).1; omega))
                    obtain ⟨ve679_0, rfl, ge679_0⟩ := hMe679
                    have hv679_0 := hcc679 0 _ rfl
                    rw [Nat.add_zero, show ((Kd.slice 23 k23)).sz = 1 from rfl, Nat.mul_one] at hv679_0
                    replace hv679_0 := Option.some.inj (hv679_0.symm.trans hx679_0)
                    rw [hv679_0] at ge679_0
                    have HL679_0 := Aside0.mk (show Kd.R k23 23 _ _ _ _ (rd_L19 t669 x7_2) from ge679_0)
                    clear hv679_0 ge679_0
                    clear hcc679 hce679
                    have HR679_0 := Aside0.mk hi679_0
                    have HC679_0 := Aside0.mk hl679_0
                    clear hi679_0 hl679_0
                    replace p679 := eq_true p679
                    replace q679 := eq_true q679
                    have p680 : 0 ≤ (x8_3 : Int) := od_
                    have q680 : x8_3 < ((rd_L19 t669 x7_2).length : Int) := od_
                    obtain ⟨ad680, e680, hx680_0, hx680_1⟩ := at_T23 (by repeat (first | (with_reducible exact HR679_0.out) | (with_reducible refine Kd.C_alloc ?_ _) | (with_reducible refine Kd.C_drewN ?_ _) | (with_reducible refine Kd.C_drew ?_) | exact HR679_0.out)) x8_3 p680 q680
                    cases e680
                    replace p680 := eq_true p680
                    replace q680 := eq_true q680
                    go_wp2
                    repeat (go_quiet (fail); try go_wp2)
                    go_roundg k3
                    case measure => have := HJ5.out; have := HK2.out; have := HK3.out; omega
                    case rel => exact ⟨(wrap64 (x8_3 + 1)), (aq), H', ⟨by have := HJ5.out; have := HK2.out; have := HK3.out; omega⟩, ⟨St_ HO_3.out⟩, ⟨St_ HO_5.out⟩, bu_ BK663, ⟨by repeat (first | (with_reducible exact HR674_0.out) | (with_reducible refine Kd.C_alloc ?_ _) | (with_reducible refine Kd.C_drewN ?_ _) | (with_reducible refine Kd.C_drew ?_) | exact HR674_0.out)⟩, ⟨by repeat (first | (with_reducible exact HR675_0.out) | (with_reducible refine Kd.C_alloc ?_ _) | (with_reducible refine Kd.C_drewN ?_ _) | (with_reducible refine Kd.C_drew ?_) | exact HR675_0.out)⟩, ⟨bf HB⟩⟩
                  ·rw [if_neg c29] at H
                   exact absurd H (by simp)
                 ·rw [if_neg c28] at H
                  exact absurd H (by simp)
                ·rw [if_neg c27] at H
                 exact absurd H (by simp)
               ·rw [if_neg c26] at H
                have c26b0 : decide (x8_3 < ((rd_L19 t665 x7_2).length : Int)) = false := decide_eq_false c26
                clear c26
                have H' := Aside0.mk H
                clear H
                have p676 : 0 ≤ (x7_2 : Int) := od_
                have q676 : x7_2 < (t665.length : Int) := od_
                obtain ⟨ad676, A676_0, c676_0, e676, hx676_0, hl676_0, hi676_0⟩ := at_L19 (Kd.S_reads' HO_3.out).2.2 x7_2 p676 q676
                obtain rfl : ad674 = ad676 := (by injection e676)
                obtain ⟨ce676, hce676, hMe676, hcc676⟩ := Kd.S_get HO_3.out [] x7_2 p676 (by first | exact q676 | exact od_ | (have e_ := (Kd.S_reads' HO_3.out).1; omega))
                obtain ⟨ve676_0, rfl, ge676_0⟩ := hMe676
                have hv676_0 := hcc676 0 _ rfl
                rw [Nat.add_zero, show ((Kd.slice 23 k23)).sz = 1 from rfl, Nat.mul_one] at hv676_0
                replace hv676_0 := Option.some.inj (hv676_0.symm.trans hx676_0)
                rw [hv676_0] at ge676_0
                have HL676_0 := Aside0.mk (show Kd.R k23 23 _ _ _ _ (rd_L19 t665 x7_2) from ge676_0)
                clear hv676_0 ge676_0
                clear hcc676 hce676
                have HR676_0 := Aside0.mk hi676_0
                have HC676_0 := Aside0.mk hl676_0
                clear hi676_0 hl676_0
                replace p676 := eq_true p676
                replace q676 := eq_true q676
                go_wp2
                repeat (go_quiet (fail); try go_wp2)
                go_roundg k3
                case measure => have := HJ5.out; have := HK2.out; have := HK3.out; omega
                case rel => exact ⟨(wrap64 (x7_2 + 1)), (aq), H', ⟨by have := HJ5.out; have := HK2.out; have := HK3.out; omega⟩, ⟨St_ HO_3.out⟩, ⟨St_ HO_5.out⟩, bu_ BK663, ⟨bf HB⟩⟩
              ·rw [if_neg c25] at H
               exact absurd H (by simp)
             ·rw [if_neg c24] at H
              exact absurd H (by simp)
          ·rw [if_neg c21] at H
           have c21b0 : (((rd_L19 t665 x7_2).length : Int) == ((rd_L19 t669 x7_2).length : Int)) = false := beq_eq_false_iff_ne.mpr c21
           have c21b1 : (((rd_L19 t665 x7_2).length : Int) != ((rd_L19 t669 x7_2).length : Int)) = true := bne_iff_ne.mpr c21
           have c21b2 : ((rd_L19 t665 x7_2).length == (rd_L19 t669 x7_2).length) = false := by first | simpa using c21 | (simp at c21 ⊢; omega)
           obtain rfl := Option.some.inj H
           obtain ⟨Ao31, co31, eo31⟩ := Kd.S_slice HO_3.out
           subst eo31
           have p674 : 0 ≤ (x7_2 : Int) := od_
           have q674 : x7_2 < (t665.length : Int) := od_
           obtain ⟨ad674, A674_0, c674_0, e674, hx674_0, hl674_0, hi674_0⟩ := at_L19 (Kd.S_reads' HO_3.out).2.2 x7_2 p674 q674
           cases e674
           obtain ⟨ce674, hce674, hMe674, hcc674⟩ := Kd.S_get HO_3.out [] x7_2 p674 (by first | exact q674 | exact od_ | (have e_ := (Kd.S_reads' HO_3.out).1; omega))
           obtain ⟨ve674_0, rfl, ge674_0⟩ := hMe674
           have hv674_0 := hcc674 0 _ rfl
           rw [Nat.add_zero, show ((Kd.slice 23 k23)).sz = 1 from rfl, Nat.mul_one] at hv674_0
           replace hv674_0 := Option.some.inj (hv674_0.symm.trans hx674_0)
           rw [hv674_0] at ge674_0
           have HL674_0 := Aside0.mk (show Kd.R k23 23 _ _ _ _ (rd_L19 t665 x7_2) from ge674_0)
           clear hv674_0 ge674_0
           clear hcc674 hce674
           have HR674_0 := Aside0.mk hi674_0
           have HC674_0 := Aside0.mk hl674_0
           clear hi674_0 hl674_0
           replace p674 := eq_true p674
           replace q674 := eq_true q674
           obtain ⟨Ao32, co32, eo32⟩ := Kd.S_slice HO_5.out
           subst eo32
           have p675 : 0 ≤ (x7_2 : Int) := od_
           have q675 : x7_2 < (t669.length : Int) := od_
           obtain ⟨ad675, A675_0, c675_0, e675, hx675_0, hl675_0, hi675_0⟩ := at_L19 (Kd.S_reads' HO_5.out).2.2 x7_2 p675 q675
           cases e675
           obtain ⟨ce675, hce675, hMe675, hcc675⟩ := Kd.S_get HO_5.out [] x7_2 p675 (by first | exact q675 | exact od_ | (have e_ := (Kd.S_reads' HO_5.out).1; omega))
           obtain ⟨ve675_0, rfl, ge675_0⟩ := hMe675
           have hv675_0 := hcc675 0 _ rfl
           rw [Nat.add_zero, show ((Kd.slice 23 k23)).sz = 1 from rfl, Nat.mul_one] at hv675_0
           replace hv675_0 := Option.some.inj (hv675_0.symm.trans hx675_0)
           rw [hv675_0] at ge675_0
           have HL675_0 := Aside0.mk (show Kd.R k23 23 _ _ _ _ (rd_L19 t669 x7_2) from ge675_0)
           clear hv675_0 ge675_0
           clear hcc675 hce675
           have HR675_0 := Aside0.mk hi675_0
           have HC675_0 := Aside0.mk hl675_0
           clear hi675_0 hl675_0
           replace p675 := eq_true p675
           replace q675 := eq_true q675
           go_wp2
           repeat (go_quiet (fail); try go_wp2)
           go_ret
           exact ⟨ae, bf HB⟩
         ·rw [if_neg c20] at H
          exact absurd H (by simp)
        ·rw [if_neg c19] at H
         exact absurd H (by simp)
       ·rw [if_neg c18] at H
        have c18b0 : decide (x7_2 < (t665.length : Int)) = false := decide_eq_false c18
        clear c18
        replace H := bi_ H; obtain ⟨t673, A33, H⟩ := H
        (try dsimp only at H)
        obtain rfl := Option.some.inj H
        obtain ⟨Ao34, co34, eo34⟩ := Kd.S_slice HO_3.out
        subst eo34
        go_wp2_with (first | (go_at_call 7; (with_reducible refine (carrefourlaw09_awake.calls _ _ _ A33.out (tt GT)).mono ?_); rintro e w35 ⟨rfl, hb⟩; replace HO_3 := Aside0.mk (Kd.S_below (St_ HO_3.out) hb); replace HO_5 := Aside0.mk (Kd.S_below (St_ HO_5.out) hb); replace HB := bs HB hb; (try clear hb)))
        repeat (go_quiet (first | (go_at_call 7; (with_reducible refine (carrefourlaw09_awake.calls _ _ _ A33.out (tt GT)).mono ?_); rintro e w35 ⟨rfl, hb⟩; replace HO_3 := Aside0.mk (Kd.S_below (St_ HO_3.out) hb); replace HO_5 := Aside0.mk (Kd.S_below (St_ HO_5.out) hb); replace HB := bs HB hb; (try clear hb))); try go_wp2_with (first | (go_at_call 7; (with_reducible refine (carrefourlaw09_awake.calls _ _ _ A33.out (tt GT)).mono ?_); rintro e w35 ⟨rfl, hb⟩; replace HO_3 := Aside0.mk (Kd.S_below (St_ HO_3.out) hb); replace HO_5 := Aside0.mk (Kd.S_below (St_ HO_5.out) hb); replace HB := bs HB hb; (try clear hb))))
        go_ret
        exact ⟨ae, bf HB⟩
 ·replace c3 := Bool.eq_false_iff.mpr c3
  subst c3
  have H1 : (some true) = some r := by rw [if_neg (show ¬ (false = true) by decide)] at H; exact H
  clear H
  have H := H1
  clear H1
  obtain rfl := Option.some.inj H
  go_enter Tryz.func3, Tryz.ntmps3
  go_wp2_with (first | ((with_reducible refine gate_dst (N := 1) rfl ?_); (try (refine gate_guard (by rfl) ?_; dsimp only)); refine box_event ?hg (N := 1) ?hd (cs := #[.int .i64 a0_0, .int .i64 a0_1, .int .i64 a0_2, .int .i64 a0_3, .int .i64 a0_4, .slice A0_5 l0_5.length c0_5, .slice A0_6 l0_6.length c0_6, .int .i64 a0_7, .int .i64 a0_8]) (t := 27) ?hr ?_; (case hd => rfl); (case hg => rfl); (case hr => first | (go_simp; done) | (go_simp; rfl)); intro gb663 hg w36 hbox hb; have BK663 := Aside0.mk (hbox); have GE663 := bz HB hg; replace HB := bs HB hb; clear hb hg; have hcz37 := X.k9 BK663) | (go_at_call 4; (with_reducible refine (carrefourlaw06_Few.calls _ _ _ _ _ _ _ _ _ _ _ _ _ _ _ _ ?side1 ?side2 ?side3 ?side4 A2.out).mono ?_); (case side1 => repeat (first | exact (Kd.C_below HR0_5.out HB.out) | (with_reducible refine Kd.C_alloc ?_ _) | (with_reducible refine Kd.C_drewN ?_ _) | (with_reducible refine Kd.C_drew ?_))); (case side2 => exact HC0_5.out); (case side3 => repeat (first | exact (Kd.C_below HR0_6.out HB.out) | (with_reducible refine Kd.C_alloc ?_ _) | (with_reducible refine Kd.C_drewN ?_ _) | (with_reducible refine Kd.C_drew ?_))); (case side4 => exact HC0_6.out); rintro e w38 ⟨rfl, hb⟩; replace HB := bs HB hb; (try clear hb)))
  repeat (go_quiet (first | ((with_reducible refine gate_dst (N := 1) rfl ?_); (try (refine gate_guard (by rfl) ?_; dsimp only)); refine box_event ?hg (N := 1) ?hd (cs := #[.int .i64 a0_0, .int .i64 a0_1, .int .i64 a0_2, .int .i64 a0_3, .int .i64 a0_4, .slice A0_5 l0_5.length c0_5, .slice A0_6 l0_6.length c0_6, .int .i64 a0_7, .int .i64 a0_8]) (t := 27) ?hr ?_; (case hd => rfl); (case hg => rfl); (case hr => first | (go_simp; done) | (go_simp; rfl)); intro gb663 hg w36 hbox hb; have BK663 := Aside0.mk (hbox); have GE663 := bz HB hg; replace HB := bs HB hb; clear hb hg; have hcz37 := X.k9 BK663) | (go_at_call 4; (with_reducible refine (carrefourlaw06_Few.calls _ _ _ _ _ _ _ _ _ _ _ _ _ _ _ _ ?side1 ?side2 ?side3 ?side4 A2.out).mono ?_); (case side1 => repeat (first | exact (Kd.C_below HR0_5.out HB.out) | (with_reducible refine Kd.C_alloc ?_ _) | (with_reducible refine Kd.C_drewN ?_ _) | (with_reducible refine Kd.C_drew ?_))); (case side2 => exact HC0_5.out); (case side3 => repeat (first | exact (Kd.C_below HR0_6.out HB.out) | (with_reducible refine Kd.C_alloc ?_ _) | (with_reducible refine Kd.C_drewN ?_ _) | (with_reducible refine Kd.C_drew ?_))); (case side4 => exact HC0_6.out); rintro e w38 ⟨rfl, hb⟩; replace HB := bs HB hb; (try clear hb))); try go_wp2_with (first | ((with_reducible refine gate_dst (N := 1) rfl ?_); (try (refine gate_guard (by rfl) ?_; dsimp only)); refine box_event ?hg (N := 1) ?hd (cs := #[.int .i64 a0_0, .int .i64 a0_1, .int .i64 a0_2, .int .i64 a0_3, .int .i64 a0_4, .slice A0_5 l0_5.length c0_5, .slice A0_6 l0_6.length c0_6, .int .i64 a0_7, .int .i64 a0_8]) (t := 27) ?hr ?_; (case hd => rfl); (case hg => rfl); (case hr => first | (go_simp; done) | (go_simp; rfl)); intro gb663 hg w36 hbox hb; have BK663 := Aside0.mk (hbox); have GE663 := bz HB hg; replace HB := bs HB hb; clear hb hg; have hcz37 := X.k9 BK663) | (go_at_call 4; (with_reducible refine (carrefourlaw06_Few.calls _ _ _ _ _ _ _ _ _ _ _ _ _ _ _ _ ?side1 ?side2 ?side3 ?side4 A2.out).mono ?_); (case side1 => repeat (first | exact (Kd.C_below HR0_5.out HB.out) | (with_reducible refine Kd.C_alloc ?_ _) | (with_reducible refine Kd.C_drewN ?_ _) | (with_reducible refine Kd.C_drew ?_))); (case side2 => exact HC0_5.out); (case side3 => repeat (first | exact (Kd.C_below HR0_6.out HB.out) | (with_reducible refine Kd.C_alloc ?_ _) | (with_reducible refine Kd.C_drewN ?_ _) | (with_reducible refine Kd.C_drew ?_))); (case side4 => exact HC0_6.out); rintro e w38 ⟨rfl, hb⟩; replace HB := bs HB hb; (try clear hb))))
  go_ret
  exact ⟨ae, bf HB⟩

end Go.Proofs.YtfhokgkpcphmlaaGreatDoor.X
