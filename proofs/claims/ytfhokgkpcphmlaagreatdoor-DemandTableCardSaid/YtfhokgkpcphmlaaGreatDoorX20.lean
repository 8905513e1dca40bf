/- Walks: each '.calls' says that the Go function comes to what its Lean function tells. Conditions: as each theorem's head says. -/
import Derived.Test.YtfhokgkpcphmlaaGreatDoorXD
import Derived.Test.YtfhokgkpcphmlaaGreatDoorX0
import Derived.Test.YtfhokgkpcphmlaaGreatDoorX7
import Derived.Test.YtfhokgkpcphmlaaGreatDoorX10
import Derived.Test.YtfhokgkpcphmlaaGreatDoorX12
namespace Go.Proofs.YtfhokgkpcphmlaaGreatDoor.X
open Go.RowKit Go.Proofs.YtfhokgkpcphmlaaGreatDoorW.PrintWords Go.Proofs.YtfhokgkpcphmlaaGreatDoorW.PrintLast Go.Proofs.YtfhokgkpcphmlaaGreatDoorW.PrintMore
attribute [local go_sem] max2_int min2_int max_two min_two max_three min_three max_four min_four   -- for this text's walks alone
set_option linter.unusedVariables false
set_option maxHeartbeats 8000000
set_option maxRecDepth 100000
set_option linter.unusedSimpArgs false

/-! ### demand_Volume: function 12 -/
theorem demand_Volume.calls (k : Nat) (a0_0 : ByteArray) (a0_1 : Int) (a0_2 : Int) (a0_3 : Int) (a0_4 : Int) (a0_5 : Int) (a0_6 : Int) (a0_7 : Int) (a0_8 : Int) (a0_9 : Int) (a0_10 : Int) (a1_0 : Int) (a1_1 : Int) (r1 : Int) (r2 : Int) (r3 : Int) (w : World) (h : demand_Volume.f k a0_0 a0_1 a0_2 a0_3 a0_4 a0_5 a0_6 a0_7 a0_8 a0_9 a0_10 a1_0 a1_1 = some (r1, r2, r3)) (hT : TabOK w) :
  Calls Tryz.prog 12 #[.agg #[.string a0_0, .int .i64 a0_1, .int .i64 a0_2, .int .i64 a0_3, .int .i64 a0_4, .int .i64 a0_5, .int .i64 a0_6, .int .i64 a0_7, .int .i64 a0_8, .int .i64 a0_9, .int .i64 a0_10], .agg #[.int .i64 a1_0, .int .i64 a1_1]] w fun e w' => e = .returned (.tuple #[.agg #[.int .i64 r1, .int .i64 r2], .int .i64 r3]) ∧ Below w.heap.size w w' := by
 have GT := Aside0.mk hT
 clear hT
 have hu48 := Tryz.underlying48
 have hu23 := Tryz.underlying23
 have hu65 := Tryz.underlying65
 have HB := Aside0.mk (Below.refl w.heap.size w)
 have H : ((demand_volume.f k a0_0 a0_1 a0_2 a0_3 a0_4 a0_5 a0_6 a0_7 a0_8 a0_9 a0_10 a1_0 a1_1).bind fun bt599 => (some (bt599.1, bt599.2.1, bt599.2.2))) = some (r1, r2, r3) := h
 clear h
 replace H := bi_ H; obtain ⟨⟨t599, t600, t601⟩, A3, H⟩ := H
 (try dsimp only at H)
 simp only [Option.some.injEq, Prod.mk.injEq] at H
 obtain ⟨rfl, rfl, rfl⟩ := H
 go_enter Tryz.func12, Tryz.ntmps12
 try go_wp2_with (first | ((with_reducible refine gd 2 rfl ?_); refine bx_ 2 48 #[.string a0_0, .int .i64 a0_1, .int .i64 a0_2, .int .i64 a0_3, .int .i64 a0_4, .int .i64 a0_5, .int .i64 a0_6, .int .i64 a0_7, .int .i64 a0_8, .int .i64 a0_9, .int .i64 a0_10] rfl rfl ?_; intro gb596 hg w4 BK596 hb; have GE596 := bz HB hg; replace HB := bs HB hb; clear hb hg) | ((with_reducible refine gd 3 rfl ?_); refine bx_ 3 23 #[.int .i64 a1_0, .int .i64 a1_1] rfl rfl ?_; intro gb597 hg w5 BK597 hb; have GE597 := bz HB hg; have ⟨NB596_597, NB597_596⟩ := nb BK596 hg; replace BK596 := bb BK596 hb; replace HB := bs HB hb; clear hb hg) | ((with_reducible refine gd 4 rfl ?_); refine bx_ 4 23 #[.int .i64 0, .int .i64 0] rfl rfl ?_; intro gb598 hg w6 BK598 hb; have GE598 := bz HB hg; have ⟨NB596_598, NB598_596⟩ := nb BK596 hg; have ⟨NB597_598, NB598_597⟩ := nb BK597 hg; replace BK596 := bb BK596 hb; replace BK597 := bb BK597 hb; replace HB := bs HB hb; clear hb hg; have hnb7 := nn NB596_597; have hnb8 := nn NB596_598; have hcz9 := X.k11 BK596; have hnb10 := nn NB597_598; have hcz11 := X.k2 BK597) | ((with_reducible refine gc 14 rfl ?_); refine gm_ (some 9) rfl rfl Tryz.func14 (demand_volume.calls _ _ _ _ _ _ _ _ _ _ _ _ _ _ _ _ _ _ A3.out (tt GT)) ag ?_; intro w12 hb; replace BK596 := bb BK596 hb; replace BK597 := bb BK597 hb; replace BK598 := bb BK598 hb; replace HB := bs HB hb; (try clear hb)) | ((with_reducible refine gd 6 rfl ?_); refine bx_ 6 65 #[.int .i64 0, .int .i64 0, .int .i64 0] rfl rfl ?_; intro gb602 hg w13 BK602 hb; have GE602 := bz HB hg; have ⟨NB596_602, NB602_596⟩ := nb BK596 hg; have ⟨NB597_602, NB602_597⟩ := nb BK597 hg; have ⟨NB598_602, NB602_598⟩ := nb BK598 hg; replace BK596 := bb BK596 hb; replace BK597 := bb BK597 hb; replace BK598 := bb BK598 hb; replace HB := bs HB hb; clear hb hg; have hnb14 := nn NB602_596; have hnb15 := nn NB602_597; have hnb16 := nn NB602_598; have hcz17 := X.k3 BK602))
 have n0_ : Aside0 ((((w13.setCell ⟨gb602, 0, none⟩ (.int .i64 t599)).setCell ⟨gb602, 1, none⟩ (.int .i64 t600)).setCell ⟨gb602, 2, none⟩ (.int .i64 t601)).heap[gb596]? = some (.cells #[.string a0_0, .int .i64 a0_1, .int .i64 a0_2, .int .i64 a0_3, .int .i64 a0_4, .int .i64 a0_5, .int .i64 a0_6, .int .i64 a0_7, .int .i64 a0_8, .int .i64 a0_9, .int .i64 a0_10] 48 (0, 0))) := bu_ BK596
 have n1_ : Aside0 ((((w13.setCell ⟨gb602, 0, none⟩ (.int .i64 t599)).setCell ⟨gb602, 1, none⟩ (.int .i64 t600)).setCell ⟨gb602, 2, none⟩ (.int .i64 t601)).heap[gb597]? = some (.cells #[.int .i64 a1_0, .int .i64 a1_1] 23 (0, 0))) := bu_ BK597
 have n2_ : Aside0 ((((w13.setCell ⟨gb602, 0, none⟩ (.int .i64 t599)).setCell ⟨gb602, 1, none⟩ (.int .i64 t600)).setCell ⟨gb602, 2, none⟩ (.int .i64 t601)).heap[gb598]? = some (.cells #[.int .i64 0, .int .i64 0] 23 (0, 0))) := bu_ BK598
 have n3_ : Aside0 ((((w13.setCell ⟨gb602, 0, none⟩ (.int .i64 t599)).setCell ⟨gb602, 1, none⟩ (.int .i64 t600)).setCell ⟨gb602, 2, none⟩ (.int .i64 t601)).heap[gb602]? = some (.cells #[.int .i64 t599, .int .i64 t600, .int .i64 t601] 65 (0, 0))) := bq_ BK602
 have n4_ : Aside0 (Below w.heap.size w (((w13.setCell ⟨gb602, 0, none⟩ (.int .i64 t599)).setCell ⟨gb602, 1, none⟩ (.int .i64 t600)).setCell ⟨gb602, 2, none⟩ (.int .i64 t601))) := ⟨bf HB⟩
 (try clear BK596); (try clear BK597); (try clear BK598); (try clear BK602); (try clear HB)
 generalize (((w13.setCell ⟨gb602, 0, none⟩ (.int .i64 t599)).setCell ⟨gb602, 1, none⟩ (.int .i64 t600)).setCell ⟨gb602, 2, none⟩ (.int .i64 t601)) = w18 at n0_ n1_ n2_ n3_ n4_ ⊢
 have BK596 := n0_
 have BK597 := n1_
 have BK598 := n2_
 have BK602 := n3_
 have HB := n4_
 clear n0_ n1_ n2_ n3_ n4_
 replace BK596 := Aside0.mk (blk_drew BK596.out)
 replace BK597 := Aside0.mk (blk_drew BK597.out)
 replace BK598 := Aside0.mk (blk_drew BK598.out)
 replace BK602 := Aside0.mk (blk_drew BK602.out)
 replace HB := Aside0.mk (below_drew1 HB.out)
 refine start_ (n := 6) (S := fun w' => c_ w' gb602 0 (.int .i64 t599) ∧ c_ w' gb602 1 (.int .i64 t600) ∧ c_ w' gb602 2 (.int .i64 t601)) (ds := []) (m_ 6 0) (by kernel_rfl) rfl rfl ⟨ct BK602 0, ct BK602 1, ct BK602 2⟩ (fun hHeld => ?_)
 generalize w18.drew = w19 at BK596 BK597 BK598 BK602 HB hHeld ⊢
 refine pu_ 0 (some 10) (m_ 6 1) rfl rfl (by kernel_rfl) ?_
 refine pu_ 2 (some 12) (m_ 6 5) rfl rfl (by kernel_rfl) ?_
 refine tk_ 1 (some 11) (m_ 6 7) rfl rfl (by kernel_rfl) hHeld ?_
 refine tk_ 3 (some 13) (m_ 6 15) rfl rfl (by kernel_rfl) hHeld ?_
 refine o1_ 4 (none) (m_ 6 31) rfl rfl (by kernel_rfl) (fun K hK => ?_)
 have hs20 : c_ w19 gb598 0 (.int .i64 0) := ct BK598 0
 have hfs20 := blk_frozen BK598.out 0
 have hns20_0 := NB596_598.out
 have hns20_1 := NB597_598.out
 have hns20_3 := NB602_598.out
 have hms20_0 := NB598_596.out
 have hms20_1 := NB598_597.out
 have hms20_3 := NB598_602.out
 have hs21 : c_ w19 gb598 1 (.int .i64 0) := ct BK598 1
 have hfs21 := blk_frozen BK598.out 1
 have hns21_0 := NB596_598.out
 have hns21_1 := NB597_598.out
 have hns21_3 := NB602_598.out
 have hms21_0 := NB598_596.out
 have hms21_1 := NB598_597.out
 have hms21_3 := NB598_602.out
 refine skip_ (w1 := ?_) (by rfl) rfl ?_ ?_
 rotate_left
 ·go_simp
  rfl
 refine hK.out _ _ (by obtain ⟨d0, d1, d2⟩ := hHeld; exact ⟨fa_ NB602_598 (fa_ NB602_598 d0), fa_ NB602_598 (fa_ NB602_598 d1), fa_ NB602_598 (fa_ NB602_598 d2)⟩) (fun hHeld => ?_)
 clear hK K
 refine pu_ 5 (some 5) (m_ 6 63) rfl rfl (by kernel_rfl) ?_
 refine done_ (by kernel_rfl) ?_
 try go_wp2
 refine bodyPost_ret (results_ct rfl _ _ gb598 23 #[.int .i64 t599, .int .i64 t600] (0, 0) _ rfl (br_ BK598) Tryz.underlying23 rfl (by kernel_rfl)) rfl ?_
 exact ⟨ae, bf HB⟩

/-! ### whole_product: function 48 -/
theorem whole_product.calls (a0 : Int) (a1 : Int) (r1 : Int) (r2 : Int) (w : World) (h : whole_product.f a0 a1 = some (r1, r2)) :
  Calls Tryz.prog 48 #[.int .i64 a0, .int .i64 a1] w fun e w' => e = .returned (.agg #[.int .u64 r1, .int .u64 r2]) ∧ Below w.heap.size w w' := by
 have hu100 := Tryz.underlying100
 have HB := Aside0.mk (Below.refl w.heap.size w)
 have H : ((whole_size.f a0).bind fun t604 => ((whole_size.f a1).bind fun t605 => ((bits_Mul64.f t604 t605).bind fun bt606 => (some (bt606.1, bt606.2))))) = some (r1, r2) := h
 clear h
 replace H := bi_ H; obtain ⟨t604, A3, H⟩ := H
 (try dsimp only at H)
 replace H := bi_ H; obtain ⟨t605, A4, H⟩ := H
 (try dsimp only at H)
 replace H := bi_ H; obtain ⟨⟨t606, t607⟩, A5, H⟩ := H
 (try dsimp only at H)
 simp only [Option.some.injEq, Prod.mk.injEq] at H
 obtain ⟨rfl, rfl⟩ := H
 go_enter Tryz.func48, Tryz.ntmps48
 go_wp2_with (first | ((with_reducible refine gd 4 rfl ?_); refine bx_ 4 100 #[.int .u64 0, .int .u64 0] rfl rfl ?_; intro gb603 hg w6 BK603 hb; have GE603 := bz HB hg; replace HB := bs HB hb; clear hb hg) | ((with_reducible refine gc 76 rfl ?_); refine gm_ (some 9) rfl rfl Tryz.func76 (whole_size.calls _ _ _ A3.out) ag ?_; rintro w' ⟨nd, rfl⟩; (try (rw [drewN_self w6]; generalize hq_ : World.drewN w6 _ = w6; have n0_ : Aside0 (w6.heap[gb603]? = some (.cells #[.int .u64 0, .int .u64 0] 100 (0, 0))) := ⟨by rw [← hq_]; exact (bx BK603)⟩; have n1_ : Aside0 (Below w.heap.size w w6) := ⟨by rw [← hq_]; exact (bf HB)⟩; clear BK603 HB hq_; have BK603 := n0_; have HB := n1_; clear n0_ n1_))) | ((with_reducible refine gc 76 rfl ?_); refine gm_ (some 11) rfl rfl Tryz.func76 (whole_size.calls _ _ _ A4.out) ag ?_; rintro w' ⟨nd, rfl⟩; (try (rw [drewN_self w6]; generalize hq_ : World.drewN w6 _ = w6; have n0_ : Aside0 (w6.heap[gb603]? = some (.cells #[.int .u64 0, .int .u64 0] 100 (0, 0))) := ⟨by rw [← hq_]; exact (bx BK603)⟩; have n1_ : Aside0 (Below w.heap.size w w6) := ⟨by rw [← hq_]; exact (bf HB)⟩; clear BK603 HB hq_; have BK603 := n0_; have HB := n1_; clear n0_ n1_))) | ((with_reducible refine gc 53 rfl ?_); refine gm_ (some 12) rfl rfl Tryz.func53 (bits_Mul64.calls _ _ _ _ _ A5.out) ag ?_; rintro w' ⟨nd, rfl⟩; (try (rw [drewN_self w6]; generalize hq_ : World.drewN w6 _ = w6; have n0_ : Aside0 (w6.heap[gb603]? = some (.cells #[.int .u64 0, .int .u64 0] 100 (0, 0))) := ⟨by rw [← hq_]; exact (bx BK603)⟩; have n1_ : Aside0 (Below w.heap.size w w6) := ⟨by rw [← hq_]; exact (bf HB)⟩; clear BK603 HB hq_; have BK603 := n0_; have HB := n1_; clear n0_ n1_)); have hcz7 := X.k2 BK603))
 refine bodyPost_ret (results_cell_row rfl _ _ gb603 100 #[.int .u64 t606, .int .u64 t607] (0, 0) _ rfl (br_ BK603) Tryz.underlying100 rfl (by kernel_rfl)) rfl ?_
 exact ⟨ae, bf HB⟩

/-! ### whole_sign: function 49 -/
theorem whole_sign.calls (k : Nat) (a0 : Int) (a1 : Int) (r : Int) (w : World) (h : whole_sign.f k a0 a1 = some r) :
  Calls Tryz.prog 49 #[.int .i64 a0, .int .i64 a1] w fun e w' => e = .returned (.int .i64 r) ∧ Drawn0 w w' := by
 have H : (if a0 = 0 then (whole_sign.j0 k a0 a1 true) else (whole_sign.j0 k a0 a1 (a1 == 0))) = some r := h
 clear h
 have HC3 := Aside0.mk H
 clear H
 go_enter Tryz.func49, Tryz.ntmps49
 go_upto_region 1 with (fail)
 go_cut [5] (fun v5 wc => ∃ (kq : Nat) (x5_2 : Bool), v5 = .bool x5_2 ∧ Aside0 (whole_sign.j0 kq a0 a1 x5_2 = some r) ∧ Aside0 (kq ≤ k) ∧ Drawn0 w wc)
 case first =>
  have H := HC3.out
  clear HC3
  by_cases c4 : a0 = 0
  ·rw [if_pos c4] at H
   have c4b0 : (a0 == 0) = true := beq_iff_eq.mpr c4
   have c4b1 : (a0 != 0) = false := bne_eq_false_iff_eq.mpr c4
   clear c4
   (first | rw [c4b0] | (simp only [i64_w, i32_w]; rw [c4b0]) | skip)
   have H' := Aside0.mk H
   clear H
   go_wp2
   go_meet
   case rel => exact ⟨_, (true), (aq), H', ⟨by first | omega | exact Nat.le_refl _⟩, dr⟩
  ·rw [if_neg c4] at H
   have c4b0 : (a0 == 0) = false := beq_eq_false_iff_ne.mpr c4
   have c4b1 : (a0 != 0) = true := bne_iff_ne.mpr c4
   (first | rw [c4b0] | (simp only [i64_w, i32_w]; rw [c4b0]) | skip)
   have H' := Aside0.mk H
   clear H
   go_wp2
   go_meet
   case rel => exact ⟨_, ((a1 == 0)), (aq), H', ⟨by first | omega | exact Nat.le_refl _⟩, dr⟩
 case rest =>
  clear HC3
  (try clear p2); (try clear c4); (try clear c4b0); (try clear c4b1)
  obtain ⟨kq, x5_2, rfl, HA, HJ2, ⟨mc2, rfl⟩⟩ := hcut
  cases kq with
  | zero => exact absurd HA.out (by simp [whole_sign.j0])
  | succ kj2 =>
   have H := HA.out
   clear HA
   simp only [whole_sign.j0] at H
   by_cases c5 : x5_2 = true
   ·subst c5
    have H1 : (some 0) = some r := by rw [if_pos rfl] at H; exact H
    clear H
    have H := H1
    clear H1
    obtain rfl := Option.some.inj H
    go_wp2
    go_ret
    exact ⟨aq, dr⟩
   ·replace c5 := Bool.eq_false_iff.mpr c5
    subst c5
    have H1 : (if ((decide (a0 < 0)) != (decide (a1 < 0))) = true then (some (-1)) else (some 1)) = some r := by rw [if_neg (show ¬ (false = true) by decide)] at H; exact H
    clear H
    have H := H1
    clear H1
    by_cases c6 : ((decide (a0 < 0)) != (decide (a1 < 0))) = true
    ·rw [if_pos c6] at H
     have c6b0 : ((decide (a0 < 0)) != (decide (a1 < 0))) = true := c6
     (try (have c6b1 : decide ((decide (a0 < 0)) = (decide (a1 < 0))) = false := by simpa using c6))
     (try (have c6b2 : ((decide (a0 < 0)) == (decide (a1 < 0))) = false := by simpa using c6))
     (try (have c6b3 : ¬ ((decide (a0 < 0)) = (decide (a1 < 0))) := by simpa using c6))
     clear c6
     obtain rfl := Option.some.inj H
     go_wp2
     go_ret
     exact ⟨aq, dr⟩
    ·rw [if_neg c6] at H
     have c6b0 : ((decide (a0 < 0)) != (decide (a1 < 0))) = false := by simpa using c6
     (try (have c6b1 : decide ((decide (a0 < 0)) = (decide (a1 < 0))) = true := by simpa using c6))
     (try (have c6b2 : ((decide (a0 < 0)) == (decide (a1 < 0))) = true := by simpa using c6))
     clear c6
     obtain rfl := Option.some.inj H
     go_wp2
     go_ret
     exact ⟨aq, dr⟩


/-! ### bits_Add64: function 50 -/
theorem bits_Add64.calls (a0 a1 a2 r1 r2 : Int) (w : World) (h : bits_Add64.f a0 a1 a2 = some (r1, r2)) :
  XCalls Tryz.prog 50 #[.int .u64 a0, .int .u64 a1, .int .u64 a2] w fun e w' => e = .returned (.tuple #[.int .u64 r1, .int .u64 r2]) ∧ w = w' := by
 unfold bits_Add64.f at h
 by_cases c : 0 ≤ a0 ∧ 0 ≤ a1 ∧ 0 ≤ a2 ∧ a2 ≤ 1
 ·rw [if_pos c] at h
  simp only [Option.some.injEq, Prod.mk.injEq] at h
  obtain ⟨rfl, rfl⟩ := h
  refine ⟨_, ?_, rfl, rfl⟩
  rw [run_callFunc_extern Tryz.func50 (by kernel_rfl) (by kernel_rfl) (by kernel_rfl) (e := add64Entry) (by kernel_rfl), run_add64 a0 a1 a2 c.1 c.2.1 c.2.2.1 c.2.2.2]
  rfl
 ·rw [if_neg c] at h
  cases h

/-! ### bits_LeadingZeros64: function 77 -/
theorem bits_LeadingZeros64.calls (a0 : Int) (r : Int) (w : World) (h : bits_LeadingZeros64.f a0 = some r) :
  Calls Tryz.prog 77 #[.int .u64 a0] w fun e w' => e = .returned (.int .i64 r) ∧ Drawn0 w w' := by
 have H : ((bits_Len64.f a0).bind fun t608 => (some (wrap64 (64 - t608)))) = some r := h
 clear h
 replace H := bi_ H; obtain ⟨t608, A2, H⟩ := H
 (try dsimp only at H)
 obtain rfl := Option.some.inj H
 go_enter Tryz.func77, Tryz.ntmps77
 go_wp2_with (first | ((with_reducible refine gc 97 rfl ?_); refine gm_ (some 4) rfl rfl Tryz.func97 (bits_Len64.calls _ _ _ A2.out) ag ?_; rintro w' ⟨nd, rfl⟩))
 go_ret
 exact ⟨aq, dr⟩

end Go.Proofs.YtfhokgkpcphmlaaGreatDoor.X
