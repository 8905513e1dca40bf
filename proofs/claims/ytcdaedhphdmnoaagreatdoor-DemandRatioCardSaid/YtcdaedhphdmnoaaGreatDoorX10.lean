/- Walks: each '.calls' says that the Go function comes to what its Lean function tells. Conditions: as each theorem's head says. -/
import Derived.Test.YtcdaedhphdmnoaaGreatDoorXD
import Derived.Test.YtcdaedhphdmnoaaGreatDoorX0
import Derived.Test.YtcdaedhphdmnoaaGreatDoorX9
namespace Go.Proofs.YtcdaedhphdmnoaaGreatDoor.X
open Go.RowKit Go.Proofs.YtcdaedhphdmnoaaGreatDoorW.PrintWords Go.Proofs.YtcdaedhphdmnoaaGreatDoorW.PrintLast Go.Proofs.YtcdaedhphdmnoaaGreatDoorW.PrintMore
attribute [local go_sem] max2_int min2_int max_two min_two max_three min_three max_four min_four   -- for this text's walks alone
set_option linter.unusedVariables false
set_option maxHeartbeats 8000000
set_option maxRecDepth 100000
set_option linter.unusedSimpArgs false

/-! ### demand_Volume: function 4 -/
theorem demand_Volume.calls (k : Nat) (a0_0 : ByteArray) (a0_1 : Int) (a0_2 : Int) (a0_3 : Int) (a0_4 : Int) (a0_5 : Int) (a0_6 : Int) (a0_7 : Int) (a0_8 : Int) (a0_9 : Int) (a0_10 : Int) (a1_0 : Int) (a1_1 : Int) (r1 : Int) (r2 : Int) (r3 : Int) (w : World) (h : demand_Volume.f k a0_0 a0_1 a0_2 a0_3 a0_4 a0_5 a0_6 a0_7 a0_8 a0_9 a0_10 a1_0 a1_1 = some (r1, r2, r3)) (hT : TabOK w) :
    Calls Tryz.prog 4 #[.agg #[.string a0_0, .int .i64 a0_1, .int .i64 a0_2, .int .i64 a0_3, .int .i64 a0_4, .int .i64 a0_5, .int .i64 a0_6, .int .i64 a0_7, .int .i64 a0_8, .int .i64 a0_9, .int .i64 a0_10], .agg #[.int .i64 a1_0, .int .i64 a1_1]] w fun e w' => e = .returned (.tuple #[.agg #[.int .i64 r1, .int .i64 r2], .int .i64 r3]) ∧ Below w.heap.size w w' := by
  have GT := Aside0.mk hT
  clear hT
  have hu25 := Tryz.underlying25
  have hu23 := Tryz.underlying23
  have hu32 := Tryz.underlying32
  have HB := Aside0.mk (Below.refl w.heap.size w)
  have H : ((demand_volume.f k a0_0 a0_1 a0_2 a0_3 a0_4 a0_5 a0_6 a0_7 a0_8 a0_9 a0_10 a1_0 a1_1).bind fun bt280 => (some (bt280.1, bt280.2.1, bt280.2.2))) = some (r1, r2, r3) := h
  clear h
  replace H := bi_ H; obtain ⟨⟨t280, t281, t282⟩, A3, H⟩ := H
  (try dsimp only at H)
  simp only [Option.some.injEq, Prod.mk.injEq] at H
  obtain ⟨rfl, rfl, rfl⟩ := H
  go_enter Tryz.func4, Tryz.ntmps4
  try go_wp2_with (first | ((with_reducible refine gd 2 rfl ?_); refine bx_ 2 25 #[.string a0_0, .int .i64 a0_1, .int .i64 a0_2, .int .i64 a0_3, .int .i64 a0_4, .int .i64 a0_5, .int .i64 a0_6, .int .i64 a0_7, .int .i64 a0_8, .int .i64 a0_9, .int .i64 a0_10] rfl rfl ?_; intro gb277 hg w4 BK277 hb; have GE277 := bz HB hg; replace HB := bs HB hb; clear hb hg) | ((with_reducible refine gd 3 rfl ?_); refine bx_ 3 23 #[.int .i64 a1_0, .int .i64 a1_1] rfl rfl ?_; intro gb278 hg w5 BK278 hb; have GE278 := bz HB hg; have ⟨NB277_278, NB278_277⟩ := nb BK277 hg; replace BK277 := bb BK277 hb; replace HB := bs HB hb; clear hb hg) | ((with_reducible refine gd 4 rfl ?_); refine bx_ 4 23 #[.int .i64 0, .int .i64 0] rfl rfl ?_; intro gb279 hg w6 BK279 hb; have GE279 := bz HB hg; have ⟨NB277_279, NB279_277⟩ := nb BK277 hg; have ⟨NB278_279, NB279_278⟩ := nb BK278 hg; replace BK277 := bb BK277 hb; replace BK278 := bb BK278 hb; replace HB := bs HB hb; clear hb hg; have hnb7 := nn NB277_278; have hnb8 := nn NB277_279; have hcz9 := k11 BK277; have hnb10 := nn NB278_279; have hcz11 := k2 BK278) | ((with_reducible refine gc 9 rfl ?_); refine gm_ (some 9) rfl rfl Tryz.func9 (demand_volume.calls _ _ _ _ _ _ _ _ _ _ _ _ _ _ _ _ _ _ A3.out (tt GT)) ag ?_; intro w12 hb; replace BK277 := bb BK277 hb; replace BK278 := bb BK278 hb; replace BK279 := bb BK279 hb; replace HB := bs HB hb; (try clear hb)) | ((with_reducible refine gd 6 rfl ?_); refine bx_ 6 32 #[.int .i64 0, .int .i64 0, .int .i64 0] rfl rfl ?_; intro gb283 hg w13 BK283 hb; have GE283 := bz HB hg; have ⟨NB277_283, NB283_277⟩ := nb BK277 hg; have ⟨NB278_283, NB283_278⟩ := nb BK278 hg; have ⟨NB279_283, NB283_279⟩ := nb BK279 hg; replace BK277 := bb BK277 hb; replace BK278 := bb BK278 hb; replace BK279 := bb BK279 hb; replace HB := bs HB hb; clear hb hg; have hnb14 := nn NB283_277; have hnb15 := nn NB283_278; have hnb16 := nn NB283_279; have hcz17 := k3 BK283))
  have n0_ : Aside0 ((((w13.setCell ⟨gb283, 0, none⟩ (.int .i64 t280)).setCell ⟨gb283, 1, none⟩ (.int .i64 t281)).setCell ⟨gb283, 2, none⟩ (.int .i64 t282)).heap[gb277]? = some (.cells #[.string a0_0, .int .i64 a0_1, .int .i64 a0_2, .int .i64 a0_3, .int .i64 a0_4, .int .i64 a0_5, .int .i64 a0_6, .int .i64 a0_7, .int .i64 a0_8, .int .i64 a0_9, .int .i64 a0_10] 25 (0, 0))) := bu_ BK277
  have n1_ : Aside0 ((((w13.setCell ⟨gb283, 0, none⟩ (.int .i64 t280)).setCell ⟨gb283, 1, none⟩ (.int .i64 t281)).setCell ⟨gb283, 2, none⟩ (.int .i64 t282)).heap[gb278]? = some (.cells #[.int .i64 a1_0, .int .i64 a1_1] 23 (0, 0))) := bu_ BK278
  have n2_ : Aside0 ((((w13.setCell ⟨gb283, 0, none⟩ (.int .i64 t280)).setCell ⟨gb283, 1, none⟩ (.int .i64 t281)).setCell ⟨gb283, 2, none⟩ (.int .i64 t282)).heap[gb279]? = some (.cells #[.int .i64 0, .int .i64 0] 23 (0, 0))) := bu_ BK279
  have n3_ : Aside0 ((((w13.setCell ⟨gb283, 0, none⟩ (.int .i64 t280)).setCell ⟨gb283, 1, none⟩ (.int .i64 t281)).setCell ⟨gb283, 2, none⟩ (.int .i64 t282)).heap[gb283]? = some (.cells #[.int .i64 t280, .int .i64 t281, .int .i64 t282] 32 (0, 0))) := bq_ BK283
  have n4_ : Aside0 (Below w.heap.size w (((w13.setCell ⟨gb283, 0, none⟩ (.int .i64 t280)).setCell ⟨gb283, 1, none⟩ (.int .i64 t281)).setCell ⟨gb283, 2, none⟩ (.int .i64 t282))) := ⟨bf HB⟩
  (try clear BK277); (try clear BK278); (try clear BK279); (try clear BK283); (try clear HB)
  generalize (((w13.setCell ⟨gb283, 0, none⟩ (.int .i64 t280)).setCell ⟨gb283, 1, none⟩ (.int .i64 t281)).setCell ⟨gb283, 2, none⟩ (.int .i64 t282)) = w18 at n0_ n1_ n2_ n3_ n4_ ⊢
  have BK277 := n0_
  have BK278 := n1_
  have BK279 := n2_
  have BK283 := n3_
  have HB := n4_
  clear n0_ n1_ n2_ n3_ n4_
  replace BK277 := Aside0.mk (blk_drew BK277.out)
  replace BK278 := Aside0.mk (blk_drew BK278.out)
  replace BK279 := Aside0.mk (blk_drew BK279.out)
  replace BK283 := Aside0.mk (blk_drew BK283.out)
  replace HB := Aside0.mk (below_drew1 HB.out)
  refine start_ (n := 6) (S := fun w' => c_ w' gb283 0 (.int .i64 t280) ∧ c_ w' gb283 1 (.int .i64 t281) ∧ c_ w' gb283 2 (.int .i64 t282)) (ds := []) (m_ 6 0) (by kernel_rfl) rfl rfl ⟨ct BK283 0, ct BK283 1, ct BK283 2⟩ (fun hHeld => ?_)
  generalize w18.drew = w19 at BK277 BK278 BK279 BK283 HB hHeld ⊢
  refine pu_ 0 (some 10) (m_ 6 1) rfl rfl (by kernel_rfl) ?_
  refine pu_ 2 (some 12) (m_ 6 5) rfl rfl (by kernel_rfl) ?_
  refine tk_ 1 (some 11) (m_ 6 7) rfl rfl (by kernel_rfl) hHeld ?_
  refine tk_ 3 (some 13) (m_ 6 15) rfl rfl (by kernel_rfl) hHeld ?_
  refine o1_ 4 (none) (m_ 6 31) rfl rfl (by kernel_rfl) (fun K hK => ?_)
  have hs20 : c_ w19 gb279 0 (.int .i64 0) := ct BK279 0
  have hfs20 := blk_frozen BK279.out 0
  have hns20_0 := NB277_279.out
  have hns20_1 := NB278_279.out
  have hns20_3 := NB283_279.out
  have hms20_0 := NB279_277.out
  have hms20_1 := NB279_278.out
  have hms20_3 := NB279_283.out
  have hs21 : c_ w19 gb279 1 (.int .i64 0) := ct BK279 1
  have hfs21 := blk_frozen BK279.out 1
  have hns21_0 := NB277_279.out
  have hns21_1 := NB278_279.out
  have hns21_3 := NB283_279.out
  have hms21_0 := NB279_277.out
  have hms21_1 := NB279_278.out
  have hms21_3 := NB279_283.out
  refine skip_ (w1 := ?_) (by rfl) rfl ?_ ?_
  rotate_left
  · go_simp
    rfl
  refine hK.out _ _ ⟨((cell_far (p := ⟨gb279, _, none⟩) NB283_279.out _).trans (((cell_far (p := ⟨gb279, _, none⟩) NB283_279.out _).trans (hHeld.1)))), ((cell_far (p := ⟨gb279, _, none⟩) NB283_279.out _).trans (((cell_far (p := ⟨gb279, _, none⟩) NB283_279.out _).trans (hHeld.2.1)))), ((cell_far (p := ⟨gb279, _, none⟩) NB283_279.out _).trans (((cell_far (p := ⟨gb279, _, none⟩) NB283_279.out _).trans (hHeld.2.2))))⟩ (fun hHeld => ?_)
  clear hK K
  refine pu_ 5 (some 5) (m_ 6 63) rfl rfl (by kernel_rfl) ?_
  refine done_ (by kernel_rfl) ?_
  try go_wp2
  refine bodyPost_ret (results_ct rfl _ _ gb279 23 #[.int .i64 t280, .int .i64 t281] (0, 0) _ rfl (br_ BK279) Tryz.underlying23 rfl (by kernel_rfl)) rfl ?_
  exact ⟨ae, bf HB⟩

/-! ### carrefourref01_Size: function 23 -/
theorem carrefourref01_Size.calls (a0 : Int) (r : Int) (w : World) (h : carrefourref01_Size.f a0 = some r) :
    Calls Tryz.prog 23 #[.int .i64 a0] w fun e w' => e = .returned (.int .u64 r) ∧ Drawn0 w w' := by
  have H : (if a0 < 0 then (some (IntKind.u64.wrap (-(IntKind.u64.wrap (a0))))) else (some (IntKind.u64.wrap (a0)))) = some r := h
  clear h
  by_cases c2 : a0 < 0
  · rw [if_pos c2] at H
    have c2b0 : decide (a0 < 0) = true := decide_eq_true c2
    clear c2
    obtain rfl := Option.some.inj H
    go_enter Tryz.func23, Tryz.ntmps23
    go_wp2
    go_ret
    exact ⟨aq, dr⟩
  · rw [if_neg c2] at H
    have c2b0 : decide (a0 < 0) = false := decide_eq_false c2
    clear c2
    obtain rfl := Option.some.inj H
    go_enter Tryz.func23, Tryz.ntmps23
    go_wp2
    go_ret
    exact ⟨aq, dr⟩

/-! ### carrefourref02_gcd: function 24 -/
theorem carrefourref02_gcd.calls (k : Nat) (a0 : Int) (a1 : Int) (r : Int) (w : World) (h : carrefourref02_gcd.f k a0 a1 = some r) :
    Calls Tryz.prog 24 #[.int .u64 a0, .int .u64 a1] w fun e w' => e = .returned (.int .u64 r) ∧ Drawn0 w w' := by
  have H : (carrefourref02_gcd.l0 k a0 a1) = some r := h
  clear h
  have H' := Aside0.mk H
  clear H
  go_enter Tryz.func24, Tryz.ntmps24
  go_wp2
  go_loopg [0, 1] k (fun kq v0 v1 w' => ∃ (x0_1 : Int) (x1_1 : Int), v0 = .int .u64 x0_1 ∧ v1 = .int .u64 x1_1 ∧ Aside0 (carrefourref02_gcd.l0 kq x0_1 x1_1 = some r) ∧ Aside0 (kq ≤ k) ∧ Drawn0 w w')
  case atStart => exact ⟨(a0), (a1), (aq), (aq), H', ⟨Nat.le_refl _⟩, dr⟩
  case round =>
    clear H'
    try clear c2
    try clear p2
    obtain ⟨x0_1, x1_1, rfl, rfl, HA, HK1, ⟨m1, rfl⟩⟩ := hrel
    cases gk with
    | zero => exact absurd HA.out (by simp [carrefourref02_gcd.l0])
    | succ k1 =>
      have H := HA.out
      clear HA
      simp only [carrefourref02_gcd.l0] at H
      by_cases c3 : x1_1 = 0
      · rw [if_pos c3] at H
        have c3b0 : (x1_1 == 0) = true := beq_iff_eq.mpr c3
        have c3b1 : (x1_1 != 0) = false := bne_eq_false_iff_eq.mpr c3
        clear c3
        obtain rfl := Option.some.inj H
        go_wp2
        go_ret
        exact ⟨aq, dr⟩
      · rw [if_neg c3] at H
        have c3b0 : (x1_1 == 0) = false := beq_eq_false_iff_ne.mpr c3
        have c3b1 : (x1_1 != 0) = true := bne_iff_ne.mpr c3
        have H' := Aside0.mk H
        clear H
        go_wp2
        go_roundg k1
        case measure => have := HK1.out; omega
        case rel => exact ⟨(x1_1), (Int.tmod x0_1 x1_1), (aq), (aq), H', ⟨by have := HK1.out; omega⟩, dr⟩

/-! ### carrefourref01_Signed: function 44 -/
theorem carrefourref01_Signed.calls (k : Nat) (a0 : Int) (a1 : Bool) (r1 : Int) (r2 : Int) (w : World) (h : carrefourref01_Signed.f k a0 a1 = some (r1, r2)) :
    Calls Tryz.prog 44 #[.int .u64 a0, .bool a1] w fun e w' => e = .returned (.tuple #[.int .i64 r1, .int .i64 r2]) ∧ Drawn0 w w' := by
  have H : (if a0 = 9223372036854775808 then (carrefourref01_Signed.j0 k a0 a1 a1) else (carrefourref01_Signed.j0 k a0 a1 false)) = some (r1, r2) := h
  clear h
  have HC3 := Aside0.mk H
  clear H
  go_enter Tryz.func44, Tryz.ntmps44
  go_upto_region 1 with (fail)
  go_cut [10] (fun v10 wc => ∃ (kq : Nat) (x10_2 : Bool), v10 = .bool x10_2 ∧ Aside0 (carrefourref01_Signed.j0 kq a0 a1 x10_2 = some (r1, r2)) ∧ Aside0 (kq ≤ k) ∧ Drawn0 w wc)
  case first =>
    have H := HC3.out
    clear HC3
    by_cases c4 : a0 = 9223372036854775808
    · rw [if_pos c4] at H
      have c4b0 : (a0 == 9223372036854775808) = true := beq_iff_eq.mpr c4
      have c4b1 : (a0 != 9223372036854775808) = false := bne_eq_false_iff_eq.mpr c4
      clear c4
      (first | rw [c4b0] | (simp only [i64_w, i32_w]; rw [c4b0]) | skip)
      have H' := Aside0.mk H
      clear H
      go_wp2
      go_meet
      case rel => exact ⟨_, (a1), (aq), H', ⟨by first | omega | exact Nat.le_refl _⟩, dr⟩
    · rw [if_neg c4] at H
      have c4b0 : (a0 == 9223372036854775808) = false := beq_eq_false_iff_ne.mpr c4
      have c4b1 : (a0 != 9223372036854775808) = true := bne_iff_ne.mpr c4
      (first | rw [c4b0] | (simp only [i64_w, i32_w]; rw [c4b0]) | skip)
      have H' := Aside0.mk H
      clear H
      go_wp2
      go_meet
      case rel => exact ⟨_, (false), (aq), H', ⟨by first | omega | exact Nat.le_refl _⟩, dr⟩
  case rest =>
    clear HC3
    try clear p2
    try clear c4
    try clear c4b0
    try clear c4b1
    obtain ⟨kq, x10_2, rfl, HA, HJ2, ⟨mc2, rfl⟩⟩ := hcut
    cases kq with
    | zero => exact absurd HA.out (by simp [carrefourref01_Signed.j0])
    | succ kj2 =>
      have H := HA.out
      clear HA
      simp only [carrefourref01_Signed.j0] at H
      by_cases c5 : x10_2 = true
      · subst c5
        have H1 : (some ((-9223372036854775808), 0)) = some (r1, r2) := by rw [if_pos rfl] at H; exact H
        clear H
        have H := H1
        clear H1
        simp only [Option.some.injEq, Prod.mk.injEq] at H
        obtain ⟨rfl, rfl⟩ := H
        go_wp2
        go_ret2
        exact ⟨aq, dr⟩
      · replace c5 := Bool.eq_false_iff.mpr c5
        subst c5
        have H1 : (if a0 > 9223372036854775807 then (some (0, 2)) else (if a1 = true then (some (wrap64 (-(wrap64 (a0))), 0)) else (some (wrap64 (a0), 0)))) = some (r1, r2) := by rw [if_neg (show ¬ (false = true) by decide)] at H; exact H
        clear H
        have H := H1
        clear H1
        by_cases c6 : a0 > 9223372036854775807
        · rw [if_pos c6] at H
          have c6b0 : decide (9223372036854775807 < a0) = true := decide_eq_true c6
          clear c6
          simp only [Option.some.injEq, Prod.mk.injEq] at H
          obtain ⟨rfl, rfl⟩ := H
          go_wp2
          go_ret2
          exact ⟨aq, dr⟩
        · rw [if_neg c6] at H
          have c6b0 : decide (9223372036854775807 < a0) = false := decide_eq_false c6
          clear c6
          by_cases c7 : a1 = true
          · subst c7
            have H1 : (some (wrap64 (-(wrap64 (a0))), 0)) = some (r1, r2) := by rw [if_pos rfl] at H; exact H
            clear H
            have H := H1
            clear H1
            simp only [Option.some.injEq, Prod.mk.injEq] at H
            obtain ⟨rfl, rfl⟩ := H
            go_wp2
            go_ret2
            exact ⟨aq, dr⟩
          · replace c7 := Bool.eq_false_iff.mpr c7
            subst c7
            have H1 : (some (wrap64 (a0), 0)) = some (r1, r2) := by rw [if_neg (show ¬ (false = true) by decide)] at H; exact H
            clear H
            have H := H1
            clear H1
            simp only [Option.some.injEq, Prod.mk.injEq] at H
            obtain ⟨rfl, rfl⟩ := H
            go_wp2
            go_ret2
            exact ⟨aq, dr⟩

/-! ### carrefourref02_made: function 25 -/
theorem carrefourref02_made.calls (k : Nat) (a0 : Int) (a1 : Int) (a2 : Bool) (r1 : Int) (r2 : Int) (r3 : Int) (w : World) (h : carrefourref02_made.f k a0 a1 a2 = some (r1, r2, r3)) :
    Calls Tryz.prog 25 #[.int .u64 a0, .int .u64 a1, .bool a2] w fun e w' => e = .returned (.tuple #[.agg #[.int .i64 r1, .int .i64 r2], .int .i64 r3]) ∧ Below w.heap.size w w' := by
  have hu23 := Tryz.underlying23
  have HB := Aside0.mk (Below.refl w.heap.size w)
  have H : ((carrefourref01_Signed.f k a0 a2).bind fun bt285 => ((carrefourref01_Signed.f k a1 false).bind fun bt287 => (if bt285.2 = 0 then (if bt287.2 = 0 then (some (bt285.1, bt287.1, 0)) else (some (0, 0, 2))) else (some (0, 0, 2))))) = some (r1, r2, r3) := h
  clear h
  replace H := bi_ H; obtain ⟨⟨t285, t286⟩, A4, H⟩ := H
  (try dsimp only at H)
  replace H := bi_ H; obtain ⟨⟨t287, t288⟩, A5, H⟩ := H
  (try dsimp only at H)
  by_cases c6 : t286 = 0
  · rw [if_pos c6] at H
    have c6b0 : (t286 == 0) = true := beq_iff_eq.mpr c6
    have c6b1 : (t286 != 0) = false := bne_eq_false_iff_eq.mpr c6
    clear c6
    by_cases c7 : t288 = 0
    · rw [if_pos c7] at H
      have c7b0 : (t288 == 0) = true := beq_iff_eq.mpr c7
      have c7b1 : (t288 != 0) = false := bne_eq_false_iff_eq.mpr c7
      clear c7
      simp only [Option.some.injEq, Prod.mk.injEq] at H
      obtain ⟨rfl, rfl, rfl⟩ := H
      go_enter Tryz.func25, Tryz.ntmps25
      go_wp2_with (first | ((with_reducible refine gd 6 rfl ?_); refine bx_ 6 23 #[.int .i64 0, .int .i64 0] rfl rfl ?_; intro gb284 hg w8 BK284 hb; have GE284 := bz HB hg; replace HB := bs HB hb; clear hb hg) | ((with_reducible refine gc 44 rfl ?_); refine gm_ (some 15) rfl rfl Tryz.func44 (carrefourref01_Signed.calls _ _ _ _ _ _ A4.out) ag ?_; rintro w' ⟨nd, rfl⟩; (try (rw [drewN_self w8]; generalize hq_ : World.drewN w8 _ = w8; have n0_ : Aside0 (w8.heap[gb284]? = some (.cells #[.int .i64 0, .int .i64 0] 23 (0, 0))) := ⟨by rw [← hq_]; exact (bx BK284)⟩; have n1_ : Aside0 (Below w.heap.size w w8) := ⟨by rw [← hq_]; exact (bf HB)⟩; clear BK284 HB hq_; have BK284 := n0_; have HB := n1_; clear n0_ n1_))) | ((with_reducible refine gc 44 rfl ?_); refine gm_ (some 20) rfl rfl Tryz.func44 (carrefourref01_Signed.calls _ _ _ _ _ _ A5.out) ag ?_; rintro w' ⟨nd, rfl⟩; (try (rw [drewN_self w8]; generalize hq_ : World.drewN w8 _ = w8; have n0_ : Aside0 (w8.heap[gb284]? = some (.cells #[.int .i64 0, .int .i64 0] 23 (0, 0))) := ⟨by rw [← hq_]; exact (bx BK284)⟩; have n1_ : Aside0 (Below w.heap.size w w8) := ⟨by rw [← hq_]; exact (bf HB)⟩; clear BK284 HB hq_; have BK284 := n0_; have HB := n1_; clear n0_ n1_)); have hcz9 := k2 BK284))
      refine bodyPost_ret (results_ct rfl _ _ gb284 23 #[.int .i64 t285, .int .i64 t287] (0, 0) _ rfl (br_ BK284) Tryz.underlying23 rfl (by kernel_rfl)) rfl ?_
      exact ⟨ae, bf HB⟩
    · rw [if_neg c7] at H
      have c7b0 : (t288 == 0) = false := beq_eq_false_iff_ne.mpr c7
      have c7b1 : (t288 != 0) = true := bne_iff_ne.mpr c7
      simp only [Option.some.injEq, Prod.mk.injEq] at H
      obtain ⟨rfl, rfl, rfl⟩ := H
      go_enter Tryz.func25, Tryz.ntmps25
      go_wp2_with (first | ((with_reducible refine gd 6 rfl ?_); refine bx_ 6 23 #[.int .i64 0, .int .i64 0] rfl rfl ?_; intro gb284 hg w10 BK284 hb; have GE284 := bz HB hg; replace HB := bs HB hb; clear hb hg) | ((with_reducible refine gc 44 rfl ?_); refine gm_ (some 15) rfl rfl Tryz.func44 (carrefourref01_Signed.calls _ _ _ _ _ _ A4.out) ag ?_; rintro w' ⟨nd, rfl⟩; (try (rw [drewN_self w10]; generalize hq_ : World.drewN w10 _ = w10; have n0_ : Aside0 (w10.heap[gb284]? = some (.cells #[.int .i64 0, .int .i64 0] 23 (0, 0))) := ⟨by rw [← hq_]; exact (bx BK284)⟩; have n1_ : Aside0 (Below w.heap.size w w10) := ⟨by rw [← hq_]; exact (bf HB)⟩; clear BK284 HB hq_; have BK284 := n0_; have HB := n1_; clear n0_ n1_))) | ((with_reducible refine gc 44 rfl ?_); refine gm_ (some 20) rfl rfl Tryz.func44 (carrefourref01_Signed.calls _ _ _ _ _ _ A5.out) ag ?_; rintro w' ⟨nd, rfl⟩; (try (rw [drewN_self w10]; generalize hq_ : World.drewN w10 _ = w10; have n0_ : Aside0 (w10.heap[gb284]? = some (.cells #[.int .i64 0, .int .i64 0] 23 (0, 0))) := ⟨by rw [← hq_]; exact (bx BK284)⟩; have n1_ : Aside0 (Below w.heap.size w w10) := ⟨by rw [← hq_]; exact (bf HB)⟩; clear BK284 HB hq_; have BK284 := n0_; have HB := n1_; clear n0_ n1_)); have hcz11 := k2 BK284))
      refine bodyPost_ret (results_ct rfl _ _ gb284 23 #[.int .i64 0, .int .i64 0] (0, 0) _ rfl (br_ BK284) Tryz.underlying23 rfl (by kernel_rfl)) rfl ?_
      exact ⟨ae, bf HB⟩
  · rw [if_neg c6] at H
    have c6b0 : (t286 == 0) = false := beq_eq_false_iff_ne.mpr c6
    have c6b1 : (t286 != 0) = true := bne_iff_ne.mpr c6
    simp only [Option.some.injEq, Prod.mk.injEq] at H
    obtain ⟨rfl, rfl, rfl⟩ := H
    go_enter Tryz.func25, Tryz.ntmps25
    go_wp2_with (first | ((with_reducible refine gd 6 rfl ?_); refine bx_ 6 23 #[.int .i64 0, .int .i64 0] rfl rfl ?_; intro gb284 hg w12 BK284 hb; have GE284 := bz HB hg; replace HB := bs HB hb; clear hb hg) | ((with_reducible refine gc 44 rfl ?_); refine gm_ (some 15) rfl rfl Tryz.func44 (carrefourref01_Signed.calls _ _ _ _ _ _ A4.out) ag ?_; rintro w' ⟨nd, rfl⟩; (try (rw [drewN_self w12]; generalize hq_ : World.drewN w12 _ = w12; have n0_ : Aside0 (w12.heap[gb284]? = some (.cells #[.int .i64 0, .int .i64 0] 23 (0, 0))) := ⟨by rw [← hq_]; exact (bx BK284)⟩; have n1_ : Aside0 (Below w.heap.size w w12) := ⟨by rw [← hq_]; exact (bf HB)⟩; clear BK284 HB hq_; have BK284 := n0_; have HB := n1_; clear n0_ n1_))) | ((with_reducible refine gc 44 rfl ?_); refine gm_ (some 20) rfl rfl Tryz.func44 (carrefourref01_Signed.calls _ _ _ _ _ _ A5.out) ag ?_; rintro w' ⟨nd, rfl⟩; (try (rw [drewN_self w12]; generalize hq_ : World.drewN w12 _ = w12; have n0_ : Aside0 (w12.heap[gb284]? = some (.cells #[.int .i64 0, .int .i64 0] 23 (0, 0))) := ⟨by rw [← hq_]; exact (bx BK284)⟩; have n1_ : Aside0 (Below w.heap.size w w12) := ⟨by rw [← hq_]; exact (bf HB)⟩; clear BK284 HB hq_; have BK284 := n0_; have HB := n1_; clear n0_ n1_)); have hcz13 := k2 BK284))
    refine bodyPost_ret (results_ct rfl _ _ gb284 23 #[.int .i64 0, .int .i64 0] (0, 0) _ rfl (br_ BK284) Tryz.underlying23 rfl (by kernel_rfl)) rfl ?_
    exact ⟨ae, bf HB⟩

/-! ### carrefourref02_Of: function 10 -/
def carrefourref02_Of.T6 : Bool × List (List Nat × List Nat) := (true, [([], []), ([], []), ([0, 1], [0, 1]), ([], []), ([], []), ([3, 4], [3, 4]), ([], []), ([6], [6]), ([7], [7]), ([8], [8]), ([9, 8], [8, 9]), ([8], [8]), ([11, 8], [8, 11]), ([10, 12, 8], [8, 10, 12]), ([8, 13], [8, 13]), ([2, 5, 14, 8], [2, 5, 14]), ([15], [15]), ([15], [15]), ([16, 15, 0, 1, 2, 3, 4, 5, 6, 7, 8, 9, 10, 11, 12, 13, 14, 15, 16, 17], [16]), ([17, 18, 0, 1, 2, 3, 4, 5, 6, 7, 8, 9, 10, 11, 12, 13, 14, 15, 16, 17, 18], [17])])
def carrefourref02_Of.B6 : List Nat := [0, 0, 3, 0, 0, 24, 0, 64, 192, 448, 960, 448, 2496, 8128, 16320, 32767, 65535, 65535, 262143, 524287]
theorem carrefourref02_Of.tab6 : rtab .any (opsOf Tryz.f10 6) = carrefourref02_Of.T6 := by kernel_rfl
theorem carrefourref02_Of.bits6 : waitsOk carrefourref02_Of.T6.2 carrefourref02_Of.B6 = true := by kernel_rfl
theorem carrefourref02_Of.calls (k : Nat) (a0 : Int) (a1 : Int) (r1 : Int) (r2 : Int) (r3 : Int) (w : World) (h : carrefourref02_Of.f k a0 a1 = some (r1, r2, r3)) :
    Calls Tryz.prog 10 #[.int .i64 a0, .int .i64 a1] w fun e w' => e = .returned (.tuple #[.agg #[.int .i64 r1, .int .i64 r2], .int .i64 r3]) ∧ Below w.heap.size w w' := by
  have hu23 := Tryz.underlying23
  have HB := Aside0.mk (Below.refl w.heap.size w)
  have H : (if a1 = 0 then (some (0, 0, 3)) else ((carrefourref01_Size.f a0).bind fun t290 => ((carrefourref01_Size.f a1).bind fun t291 => ((carrefourref02_gcd.f k t290 t291).bind fun t292 => (if t292 = 0 then (none) else (if a0 = 0 then ((carrefourref02_made.f k (IntKind.u64.wrap (Int.tdiv t290 t292)) (IntKind.u64.wrap (Int.tdiv t291 t292)) false).bind fun bt293 => (some (bt293.1, bt293.2.1, bt293.2.2))) else ((carrefourref02_made.f k (IntKind.u64.wrap (Int.tdiv t290 t292)) (IntKind.u64.wrap (Int.tdiv t291 t292)) ((decide (a0 < 0)) != (decide (a1 < 0)))).bind fun bt296 => (some (bt296.1, bt296.2.1, bt296.2.2))))))))) = some (r1, r2, r3) := h
  clear h
  by_cases c3 : a1 = 0
  · rw [if_pos c3] at H
    have c3b0 : (a1 == 0) = true := beq_iff_eq.mpr c3
    have c3b1 : (a1 != 0) = false := bne_eq_false_iff_eq.mpr c3
    clear c3
    simp only [Option.some.injEq, Prod.mk.injEq] at H
    obtain ⟨rfl, rfl, rfl⟩ := H
    go_enter Tryz.func10, Tryz.ntmps10
    go_wp2_with (first | ((with_reducible refine gd 4 rfl ?_); refine bx_ 4 23 #[.int .i64 0, .int .i64 0] rfl rfl ?_; intro gb289 hg w4 BK289 hb; have GE289 := bz HB hg; replace HB := bs HB hb; clear hb hg; have hcz5 := k2 BK289))
    refine bodyPost_ret (results_ct rfl _ _ gb289 23 #[.int .i64 0, .int .i64 0] (0, 0) _ rfl (br_ BK289) Tryz.underlying23 rfl (by kernel_rfl)) rfl ?_
    exact ⟨ae, bf HB⟩
  · rw [if_neg c3] at H
    have c3b0 : (a1 == 0) = false := beq_eq_false_iff_ne.mpr c3
    have c3b1 : (a1 != 0) = true := bne_iff_ne.mpr c3
    replace H := bi_ H; obtain ⟨t290, A6, H⟩ := H
    (try dsimp only at H)
    replace H := bi_ H; obtain ⟨t291, A7, H⟩ := H
    (try dsimp only at H)
    replace H := bi_ H; obtain ⟨t292, A8, H⟩ := H
    (try dsimp only at H)
    by_cases c9 : t292 = 0
    · rw [if_pos c9] at H
      exact absurd H (by simp)
    · rw [if_neg c9] at H
      have c9b0 : (t292 == 0) = false := beq_eq_false_iff_ne.mpr c9
      have c9b1 : (t292 != 0) = true := bne_iff_ne.mpr c9
      by_cases c10 : a0 = 0
      · rw [if_pos c10] at H
        have c10b0 : (a0 == 0) = true := beq_iff_eq.mpr c10
        have c10b1 : (a0 != 0) = false := bne_eq_false_iff_eq.mpr c10
        clear c10
        replace H := bi_ H; obtain ⟨⟨t293, t294, t295⟩, A11, H⟩ := H
        (try dsimp only at H)
        simp only [Option.some.injEq, Prod.mk.injEq] at H
        obtain ⟨rfl, rfl, rfl⟩ := H
        go_enter Tryz.func10, Tryz.ntmps10
        try go_wp2_with (first | ((with_reducible refine gd 4 rfl ?_); refine bx_ 4 23 #[.int .i64 0, .int .i64 0] rfl rfl ?_; intro gb289 hg w12 BK289 hb; have GE289 := bz HB hg; replace HB := bs HB hb; clear hb hg) | ((with_reducible refine gc 23 rfl ?_); refine gm_ (some 13) rfl rfl Tryz.func23 (carrefourref01_Size.calls _ _ _ A6.out) ag ?_; rintro w' ⟨nd, rfl⟩; (try (rw [drewN_self w12]; generalize hq_ : World.drewN w12 _ = w12; have n0_ : Aside0 (w12.heap[gb289]? = some (.cells #[.int .i64 0, .int .i64 0] 23 (0, 0))) := ⟨by rw [← hq_]; exact (bx BK289)⟩; have n1_ : Aside0 (Below w.heap.size w w12) := ⟨by rw [← hq_]; exact (bf HB)⟩; clear BK289 HB hq_; have BK289 := n0_; have HB := n1_; clear n0_ n1_))) | ((with_reducible refine gc 23 rfl ?_); refine gm_ (some 15) rfl rfl Tryz.func23 (carrefourref01_Size.calls _ _ _ A7.out) ag ?_; rintro w' ⟨nd, rfl⟩; (try (rw [drewN_self w12]; generalize hq_ : World.drewN w12 _ = w12; have n0_ : Aside0 (w12.heap[gb289]? = some (.cells #[.int .i64 0, .int .i64 0] 23 (0, 0))) := ⟨by rw [← hq_]; exact (bx BK289)⟩; have n1_ : Aside0 (Below w.heap.size w w12) := ⟨by rw [← hq_]; exact (bf HB)⟩; clear BK289 HB hq_; have BK289 := n0_; have HB := n1_; clear n0_ n1_))) | ((with_reducible refine gc 24 rfl ?_); refine gm_ (some 18) rfl rfl Tryz.func24 (carrefourref02_gcd.calls _ _ _ _ _ A8.out) ag ?_; rintro w' ⟨nd, rfl⟩; (try (rw [drewN_self w12]; generalize hq_ : World.drewN w12 _ = w12; have n0_ : Aside0 (w12.heap[gb289]? = some (.cells #[.int .i64 0, .int .i64 0] 23 (0, 0))) := ⟨by rw [← hq_]; exact (bx BK289)⟩; have n1_ : Aside0 (Below w.heap.size w w12) := ⟨by rw [← hq_]; exact (bf HB)⟩; clear BK289 HB hq_; have BK289 := n0_; have HB := n1_; clear n0_ n1_))))
        replace BK289 := Aside0.mk (blk_drew BK289.out)
        replace HB := Aside0.mk (below_drew1 HB.out)
        refine start_ (n := 20) (S := fun w' => True) (ds := []) (m_ 20 0) (by kernel_rfl) rfl rfl trivial (fun hHeld => ?_); refine with_tabW carrefourref02_Of.tab6 carrefourref02_Of.bits6 (fun HT_ HW_ => ?_)
        generalize w12.drew = w13 at BK289 HB hHeld ⊢
        refine pu_ 0 (some 19) (m_ 20 1) rfl rfl (ao HT_) ?_
        refine pu_ 1 (some 20) (m_ 20 3) rfl rfl (ao HT_) ?_
        refine pu_ 2 (some 21) (m_ 20 7) rfl rfl (ao HT_) ?_
        refine pu_ 3 (some 22) (m_ 20 15) rfl rfl (ao HT_) ?_
        refine pu_ 4 (some 23) (m_ 20 31) rfl rfl (ao HT_) ?_
        refine pu_ 5 (some 24) (m_ 20 63) rfl rfl (ao HT_) ?_
        refine pu_ 6 (some 25) (m_ 20 127) rfl rfl (ao HT_) ?_
        refine pu_ 7 (some 26) (m_ 20 255) rfl rfl (ao HT_) ?_
        refine pu_ 8 (some 27) (m_ 20 511) rfl rfl (ao HT_) ?_
        refine pv_ 9 (some 28) (m_ 20 1023) rfl rfl (ao HT_) ?_
        refine pv_ 10 (some 29) (m_ 20 2047) rfl rfl (ao HT_) ?_
        refine pv_ 11 (some 30) (m_ 20 4095) rfl rfl (ao HT_) ?_
        refine pv_ 12 (some 31) (m_ 20 8191) rfl rfl (ao HT_) ?_
        refine pv_ 13 (some 32) (m_ 20 16383) rfl rfl (ao HT_) ?_
        refine pu_ 14 (some 33) (m_ 20 32767) rfl rfl (ao HT_) ?_
        refine o1_ 15 (some 34) (m_ 20 65535) rfl rfl (oo HT_) (fun K hK => ?_)
        refine gs_ rfl Tryz.func25 (carrefourref02_made.calls _ (IntKind.u64.wrap (Int.tdiv t290 t292)) (IntKind.u64.wrap (Int.tdiv t291 t292)) _ _ _ _ _ A11.out) ag ?_
        intro w14 hb
        replace BK289 := bb BK289 hb
        replace HB := bs HB hb
        (try clear hb)
        refine hK.out _ _ trivial (fun hHeld => ?_)
        clear hK K
        refine nr_ (some 34) ?_
        refine pu_ 16 (some 35) (m_ 20 131071) rfl rfl (ao HT_) ?_
        refine pu_ 17 (some 36) (m_ 20 262143) rfl rfl (ao HT_) ?_
        refine o1_ 18 (none) (m_ 20 524287) rfl rfl (oo HT_) (fun K hK => ?_)
        have hs15 : c_ w14 gb289 0 (.int .i64 0) := ct BK289 0
        have hfs15 := blk_frozen BK289.out 0
        have hs16 : c_ w14 gb289 1 (.int .i64 0) := ct BK289 1
        have hfs16 := blk_frozen BK289.out 1
        refine skip_ (w1 := ?_) (by rfl) rfl ?_ ?_
        rotate_left
        · go_simp
          rfl
        refine hK.out _ _ trivial (fun hHeld => ?_)
        clear hK K
        refine pu_ 19 (some 5) (m_ 20 1048575) rfl rfl (ao HT_) ?_
        refine done_ (done_of HT_.out (by kernel_rfl)) ?_
        try go_wp2
        refine bodyPost_ret (results_ct rfl _ _ gb289 23 #[.int .i64 t293, .int .i64 t294] (0, 0) _ rfl (br_ BK289) Tryz.underlying23 rfl (by kernel_rfl)) rfl ?_
        exact ⟨ae, bf HB⟩
      · rw [if_neg c10] at H
        have c10b0 : (a0 == 0) = false := beq_eq_false_iff_ne.mpr c10
        have c10b1 : (a0 != 0) = true := bne_iff_ne.mpr c10
        replace H := bi_ H; obtain ⟨⟨t296, t297, t298⟩, A17, H⟩ := H
        (try dsimp only at H)
        simp only [Option.some.injEq, Prod.mk.injEq] at H
        obtain ⟨rfl, rfl, rfl⟩ := H
        go_enter Tryz.func10, Tryz.ntmps10
        try go_wp2_with (first | ((with_reducible refine gd 4 rfl ?_); refine bx_ 4 23 #[.int .i64 0, .int .i64 0] rfl rfl ?_; intro gb289 hg w18 BK289 hb; have GE289 := bz HB hg; replace HB := bs HB hb; clear hb hg) | ((with_reducible refine gc 23 rfl ?_); refine gm_ (some 13) rfl rfl Tryz.func23 (carrefourref01_Size.calls _ _ _ A6.out) ag ?_; rintro w' ⟨nd, rfl⟩; (try (rw [drewN_self w18]; generalize hq_ : World.drewN w18 _ = w18; have n0_ : Aside0 (w18.heap[gb289]? = some (.cells #[.int .i64 0, .int .i64 0] 23 (0, 0))) := ⟨by rw [← hq_]; exact (bx BK289)⟩; have n1_ : Aside0 (Below w.heap.size w w18) := ⟨by rw [← hq_]; exact (bf HB)⟩; clear BK289 HB hq_; have BK289 := n0_; have HB := n1_; clear n0_ n1_))) | ((with_reducible refine gc 23 rfl ?_); refine gm_ (some 15) rfl rfl Tryz.func23 (carrefourref01_Size.calls _ _ _ A7.out) ag ?_; rintro w' ⟨nd, rfl⟩; (try (rw [drewN_self w18]; generalize hq_ : World.drewN w18 _ = w18; have n0_ : Aside0 (w18.heap[gb289]? = some (.cells #[.int .i64 0, .int .i64 0] 23 (0, 0))) := ⟨by rw [← hq_]; exact (bx BK289)⟩; have n1_ : Aside0 (Below w.heap.size w w18) := ⟨by rw [← hq_]; exact (bf HB)⟩; clear BK289 HB hq_; have BK289 := n0_; have HB := n1_; clear n0_ n1_))) | ((with_reducible refine gc 24 rfl ?_); refine gm_ (some 18) rfl rfl Tryz.func24 (carrefourref02_gcd.calls _ _ _ _ _ A8.out) ag ?_; rintro w' ⟨nd, rfl⟩; (try (rw [drewN_self w18]; generalize hq_ : World.drewN w18 _ = w18; have n0_ : Aside0 (w18.heap[gb289]? = some (.cells #[.int .i64 0, .int .i64 0] 23 (0, 0))) := ⟨by rw [← hq_]; exact (bx BK289)⟩; have n1_ : Aside0 (Below w.heap.size w w18) := ⟨by rw [← hq_]; exact (bf HB)⟩; clear BK289 HB hq_; have BK289 := n0_; have HB := n1_; clear n0_ n1_))))
        replace BK289 := Aside0.mk (blk_drew BK289.out)
        replace HB := Aside0.mk (below_drew1 HB.out)
        refine start_ (n := 20) (S := fun w' => True) (ds := []) (m_ 20 0) (by kernel_rfl) rfl rfl trivial (fun hHeld => ?_); refine with_tabW carrefourref02_Of.tab6 carrefourref02_Of.bits6 (fun HT_ HW_ => ?_)
        generalize w18.drew = w19 at BK289 HB hHeld ⊢
        refine pu_ 0 (some 19) (m_ 20 1) rfl rfl (ao HT_) ?_
        refine pu_ 1 (some 20) (m_ 20 3) rfl rfl (ao HT_) ?_
        refine pu_ 2 (some 21) (m_ 20 7) rfl rfl (ao HT_) ?_
        refine pu_ 3 (some 22) (m_ 20 15) rfl rfl (ao HT_) ?_
        refine pu_ 4 (some 23) (m_ 20 31) rfl rfl (ao HT_) ?_
        refine pu_ 5 (some 24) (m_ 20 63) rfl rfl (ao HT_) ?_
        refine pu_ 6 (some 25) (m_ 20 127) rfl rfl (ao HT_) ?_
        refine pu_ 7 (some 26) (m_ 20 255) rfl rfl (ao HT_) ?_
        refine pu_ 8 (some 27) (m_ 20 511) rfl rfl (ao HT_) ?_
        refine pu_ 9 (some 28) (m_ 20 1023) rfl rfl (ao HT_) ?_
        refine pu_ 10 (some 29) (m_ 20 2047) rfl rfl (ao HT_) ?_
        refine pu_ 11 (some 30) (m_ 20 4095) rfl rfl (ao HT_) ?_
        refine pu_ 12 (some 31) (m_ 20 8191) rfl rfl (ao HT_) ?_
        refine pu_ 13 (some 32) (m_ 20 16383) rfl rfl (ao HT_) ?_
        refine pu_ 14 (some 33) (m_ 20 32767) rfl rfl (ao HT_) ?_
        refine o1_ 15 (some 34) (m_ 20 65535) rfl rfl (oo HT_) (fun K hK => ?_)
        refine gs_ rfl Tryz.func25 (carrefourref02_made.calls _ (IntKind.u64.wrap (Int.tdiv t290 t292)) (IntKind.u64.wrap (Int.tdiv t291 t292)) ((decide (a0 < 0)) != (decide (a1 < 0))) _ _ _ _ A17.out) ag ?_
        intro w20 hb
        replace BK289 := bb BK289 hb
        replace HB := bs HB hb
        (try clear hb)
        refine hK.out _ _ trivial (fun hHeld => ?_)
        clear hK K
        refine nr_ (some 34) ?_
        refine pu_ 16 (some 35) (m_ 20 131071) rfl rfl (ao HT_) ?_
        refine pu_ 17 (some 36) (m_ 20 262143) rfl rfl (ao HT_) ?_
        refine o1_ 18 (none) (m_ 20 524287) rfl rfl (oo HT_) (fun K hK => ?_)
        have hs21 : c_ w20 gb289 0 (.int .i64 0) := ct BK289 0
        have hfs21 := blk_frozen BK289.out 0
        have hs22 : c_ w20 gb289 1 (.int .i64 0) := ct BK289 1
        have hfs22 := blk_frozen BK289.out 1
        refine skip_ (w1 := ?_) (by rfl) rfl ?_ ?_
        rotate_left
        · go_simp
          rfl
        refine hK.out _ _ trivial (fun hHeld => ?_)
        clear hK K
        refine pu_ 19 (some 5) (m_ 20 1048575) rfl rfl (ao HT_) ?_
        refine done_ (done_of HT_.out (by kernel_rfl)) ?_
        try go_wp2
        refine bodyPost_ret (results_ct rfl _ _ gb289 23 #[.int .i64 t296, .int .i64 t297] (0, 0) _ rfl (br_ BK289) Tryz.underlying23 rfl (by kernel_rfl)) rfl ?_
        exact ⟨ae, bf HB⟩

end Go.Proofs.YtcdaedhphdmnoaaGreatDoor.X
