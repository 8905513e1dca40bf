/- Walks: each '.calls' says that the Go function comes to what its Lean function tells. Conditions: as each theorem's head says. -/
import Derived.Test.YtcdaedhphdmnoaaDoorXD
import Derived.Test.YtcdaedhphdmnoaaDoorX0
import Derived.Test.YtcdaedhphdmnoaaDoorX1
import Derived.Test.YtcdaedhphdmnoaaDoorX10
import Derived.Test.YtcdaedhphdmnoaaDoorX13
namespace Go.Proofs.YtcdaedhphdmnoaaDoor.X
open Go.RowKit Go.Proofs.YtcdaedhphdmnoaaDoorW.PrintWords Go.Proofs.YtcdaedhphdmnoaaDoorW.PrintLast Go.Proofs.YtcdaedhphdmnoaaDoorW.PrintMore
attribute [local go_sem] max2_int min2_int max_two min_two max_three min_three max_four min_four   -- for this text's walks alone
set_option linter.unusedVariables false
set_option maxHeartbeats 8000000
set_option maxRecDepth 100000
set_option linter.unusedSimpArgs false

attribute [local go_sem high] eqA23
/-! ### carrefourlaw09_awake: function 5 -/
theorem carrefourlaw09_awake.calls (k : Nat)  (r : Bool) (w : World) (h : carrefourlaw09_awake.f k  = some r) (hT : TabOK w) :
    Calls Tryd.prog 5 #[] w fun e w' => e = .returned (.bool r) ∧ Below w.heap.size w w' := by
  have GT := Aside0.mk hT
  clear hT
  have hu23 := Tryd.underlying23
  have hu25 := Tryd.underlying25
  have HB := Aside0.mk (Below.refl w.heap.size w)
  have H : ((demand_Volume.f k (⟨#[]⟩ : ByteArray) 400 1800 21 20 0 0 0 0 0 0 9 10).bind fun bt342 => ((demand_Ratio.f k (⟨#[]⟩ : ByteArray) 400 1800 21 20 0 0 0 0 0 0 9 10).bind fun bt346 => ((demand_Rate.f k bt346.1 bt346.2.1 3).bind fun bt350 => (if bt342.2.2 = 0 then (if bt346.2.2 = 0 then (if bt350.2 = 0 then (if (bt342.1 == 1400 && (bt342.2.1 == 3)) = true then (if (bt346.1 == 7 && (bt346.2.1 == 27)) = true then (some (bt350.1.toList == ([48, 46, 50, 53, 57] : List UInt8))) else (some false)) else (some false)) else (some false)) else (some false)) else (some false))))) = some r := h
  clear h
  replace H := bi_ H; obtain ⟨⟨t342, t343, t344⟩, A1, H⟩ := H
  (try dsimp only at H)
  replace H := bi_ H; obtain ⟨⟨t346, t347, t348⟩, A2, H⟩ := H
  (try dsimp only at H)
  replace H := bi_ H; obtain ⟨⟨t350, t351⟩, A3, H⟩ := H
  (try dsimp only at H)
  by_cases c4 : t344 = 0
  · rw [if_pos c4] at H
    have c4b0 : (t344 == 0) = true := beq_iff_eq.mpr c4
    have c4b1 : (t344 != 0) = false := bne_eq_false_iff_eq.mpr c4
    clear c4
    by_cases c5 : t348 = 0
    · rw [if_pos c5] at H
      have c5b0 : (t348 == 0) = true := beq_iff_eq.mpr c5
      have c5b1 : (t348 != 0) = false := bne_eq_false_iff_eq.mpr c5
      clear c5
      by_cases c6 : t351 = 0
      · rw [if_pos c6] at H
        have c6b0 : (t351 == 0) = true := beq_iff_eq.mpr c6
        have c6b1 : (t351 != 0) = false := bne_eq_false_iff_eq.mpr c6
        clear c6
        by_cases c7 : (t342 == 1400 && (t343 == 3)) = true
        · rw [if_pos c7] at H
          have c7b0 : (t342 == 1400 && (t343 == 3)) = true := c7
          (try (have c7b1 : decide (t342 = 1400 && (t343 == 3)) = true := by simpa using c7))
          (try (have c7b2 : (t342 == 1400 && (t343 == 3)) = true := by simpa using c7))
          clear c7
          by_cases c8 : (t346 == 7 && (t347 == 27)) = true
          · rw [if_pos c8] at H
            have c8b0 : (t346 == 7 && (t347 == 27)) = true := c8
            (try (have c8b1 : decide (t346 = 7 && (t347 == 27)) = true := by simpa using c8))
            (try (have c8b2 : (t346 == 7 && (t347 == 27)) = true := by simpa using c8))
            clear c8
            obtain rfl := Option.some.inj H
            go_enter Tryd.func5, Tryd.ntmps5
            go_wp2_with (first | ((with_reducible refine gd 1 rfl ?_); refine bx_ 1 25 #[.string (⟨#[]⟩ : ByteArray), .int .i64 0, .int .i64 0, .int .i64 0, .int .i64 0, .int .i64 0, .int .i64 0, .int .i64 0, .int .i64 0, .int .i64 0, .int .i64 0] rfl rfl ?_; intro gb340 hg w9 BK340 hb; have GE340 := bz HB hg; replace HB := bs HB hb; clear hb hg; have hcz10 := X.k11 BK340) | ((with_reducible refine gd 2 rfl ?_); refine bx_ 2 23 #[.int .i64 0, .int .i64 0] rfl rfl ?_; intro gb341 hg w11 BK341 hb; have GE341 := bz HB hg; have NB340_341 := Aside0.mk ((by rw [hg]; exact Nat.ne_of_lt (blk_lt (g := gb340) (o := .cells #[.string (⟨#[]⟩ : ByteArray), .int .i64 400, .int .i64 1800, .int .i64 21, .int .i64 20, .int .i64 0, .int .i64 0, .int .i64 0, .int .i64 0, .int .i64 0, .int .i64 0] 25 (0, 0)) (br_ BK340)) : gb340 ≠ gb341)); have NB341_340 := Aside0.mk ((by rw [hg]; exact Nat.ne_of_gt (blk_lt (g := gb340) (o := .cells #[.string (⟨#[]⟩ : ByteArray), .int .i64 400, .int .i64 1800, .int .i64 21, .int .i64 20, .int .i64 0, .int .i64 0, .int .i64 0, .int .i64 0, .int .i64 0, .int .i64 0] 25 (0, 0)) (br_ BK340)) : gb341 ≠ gb340)); replace BK340 := bp_ #[.string (⟨#[]⟩ : ByteArray), .int .i64 400, .int .i64 1800, .int .i64 21, .int .i64 20, .int .i64 0, .int .i64 0, .int .i64 0, .int .i64 0, .int .i64 0, .int .i64 0] BK340 hb; replace HB := bs HB hb; clear hb hg; have hnb12 := nn NB341_340; have hcz13 := X.k2 BK341; have hcz14 := X.k11 BK340) | ((with_reducible refine gc 9 rfl ?_); refine gm_ (some 15) rfl rfl Tryd.func9 (demand_Volume.calls _ (⟨#[]⟩ : ByteArray) _ _ _ _ _ _ _ _ _ _ _ _ _ _ _ _ A1.out (tt GT)) ag ?_; intro w15 hb; replace BK340 := Aside0.mk (blk_below (g := gb340) (o := .cells #[.string (⟨#[]⟩ : ByteArray), .int .i64 400, .int .i64 1800, .int .i64 21, .int .i64 20, .int .i64 0, .int .i64 0, .int .i64 0, .int .i64 0, .int .i64 0, .int .i64 0] 25 (0, 0)) (bx BK340) hb); replace BK341 := bp_ #[.int .i64 9, .int .i64 10] BK341 hb; replace HB := bs HB hb; (try clear hb)) | ((with_reducible refine gd 3 rfl ?_); refine bx_ 3 23 #[.int .i64 0, .int .i64 0] rfl rfl ?_; intro gb345 hg w16 BK345 hb; have GE345 := bz HB hg; have NB340_345 := Aside0.mk ((by rw [hg]; exact Nat.ne_of_lt (blk_lt (g := gb340) (o := .cells #[.string (⟨#[]⟩ : ByteArray), .int .i64 400, .int .i64 1800, .int .i64 21, .int .i64 20, .int .i64 0, .int .i64 0, .int .i64 0, .int .i64 0, .int .i64 0, .int .i64 0] 25 (0, 0)) (bx BK340)) : gb340 ≠ gb345)); have NB345_340 := Aside0.mk ((by rw [hg]; exact Nat.ne_of_gt (blk_lt (g := gb340) (o := .cells #[.string (⟨#[]⟩ : ByteArray), .int .i64 400, .int .i64 1800, .int .i64 21, .int .i64 20, .int .i64 0, .int .i64 0, .int .i64 0, .int .i64 0, .int .i64 0, .int .i64 0] 25 (0, 0)) (bx BK340)) : gb345 ≠ gb340)); have ⟨NB341_345, NB345_341⟩ := nb BK341 hg; replace BK340 := Aside0.mk (blk_below (g := gb340) (o := .cells #[.string (⟨#[]⟩ : ByteArray), .int .i64 400, .int .i64 1800, .int .i64 21, .int .i64 20, .int .i64 0, .int .i64 0, .int .i64 0, .int .i64 0, .int .i64 0, .int .i64 0] 25 (0, 0)) (bx BK340) hb); replace BK341 := bb BK341 hb; replace HB := bs HB hb; clear hb hg; have hnb17 := nn NB345_340; have hnb18 := nn NB345_341; have hcz19 := X.k2 BK345; have hcz20 := X.k11 BK340; have hcz21 := X.k2 BK341) | ((with_reducible refine gc 6 rfl ?_); refine gm_ (some 21) rfl rfl Tryd.func6 (demand_Ratio.calls _ (⟨#[]⟩ : ByteArray) _ _ _ _ _ _ _ _ _ _ _ _ _ _ _ _ A2.out (tt GT)) ag ?_; intro w22 hb; replace BK340 := Aside0.mk (blk_below (g := gb340) (o := .cells #[.string (⟨#[]⟩ : ByteArray), .int .i64 400, .int .i64 1800, .int .i64 21, .int .i64 20, .int .i64 0, .int .i64 0, .int .i64 0, .int .i64 0, .int .i64 0, .int .i64 0] 25 (0, 0)) (bx BK340) hb); replace BK341 := bb BK341 hb; replace BK345 := bp_ #[.int .i64 t342, .int .i64 t343] BK345 hb; replace HB := bs HB hb; (try clear hb)) | ((with_reducible refine gd 5 rfl ?_); refine bx_ 5 23 #[.int .i64 0, .int .i64 0] rfl rfl ?_; intro gb349 hg w23 BK349 hb; have GE349 := bz HB hg; have NB340_349 := Aside0.mk ((by rw [hg]; exact Nat.ne_of_lt (blk_lt (g := gb340) (o := .cells #[.string (⟨#[]⟩ : ByteArray), .int .i64 400, .int .i64 1800, .int .i64 21, .int .i64 20, .int .i64 0, .int .i64 0, .int .i64 0, .int .i64 0, .int .i64 0, .int .i64 0] 25 (0, 0)) (bx BK340)) : gb340 ≠ gb349)); have NB349_340 := Aside0.mk ((by rw [hg]; exact Nat.ne_of_gt (blk_lt (g := gb340) (o := .cells #[.string (⟨#[]⟩ : ByteArray), .int .i64 400, .int .i64 1800, .int .i64 21, .int .i64 20, .int .i64 0, .int .i64 0, .int .i64 0, .int .i64 0, .int .i64 0, .int .i64 0] 25 (0, 0)) (bx BK340)) : gb349 ≠ gb340)); have ⟨NB341_349, NB349_341⟩ := nb BK341 hg; have ⟨NB345_349, NB349_345⟩ := nb BK345 hg; replace BK340 := Aside0.mk (blk_below (g := gb340) (o := .cells #[.string (⟨#[]⟩ : ByteArray), .int .i64 400, .int .i64 1800, .int .i64 21, .int .i64 20, .int .i64 0, .int .i64 0, .int .i64 0, .int .i64 0, .int .i64 0, .int .i64 0] 25 (0, 0)) (bx BK340) hb); replace BK345 := bb BK345 hb; replace HB := bs HB hb; clear hb hg; have hnb24 := nn NB349_340; have hnb25 := nn NB349_341; have hnb26 := nn NB349_345; have hcz27 := X.k2 BK349) | ((with_reducible refine gc 10 rfl ?_); refine gm_ (some 26) rfl rfl Tryd.func10 (demand_Rate.calls _ _ _ _ _ _ _ A3.out (tt GT)) ag ?_; intro w28 hb; replace BK340 := Aside0.mk (blk_below (g := gb340) (o := .cells #[.string (⟨#[]⟩ : ByteArray), .int .i64 400, .int .i64 1800, .int .i64 21, .int .i64 20, .int .i64 0, .int .i64 0, .int .i64 0, .int .i64 0, .int .i64 0, .int .i64 0] 25 (0, 0)) (bx BK340) hb); replace BK345 := bb BK345 hb; replace BK349 := bp_ #[.int .i64 t346, .int .i64 t347] BK349 hb; replace HB := bs HB hb; (try clear hb); have hcz29 := X.k2 BK345; have hcz30 := X.k2 BK349))
            go_ret
            exact ⟨ae, bf HB⟩
          · rw [if_neg c8] at H
            have c8b0 : (t346 == 7 && (t347 == 27)) = false := by simpa using c8
            (try (have c8b1 : decide (t346 = 7 && (t347 == 27)) = false := by simpa using c8))
            (try (have c8b2 : (t346 == 7 && (t347 == 27)) = false := by simpa using c8))
            (try (have c8b3 : ¬ (t346 = 7 && (t347 == 27)) := by simpa using c8))
            clear c8
            obtain rfl := Option.some.inj H
            go_enter Tryd.func5, Tryd.ntmps5
            go_wp2_with (first | ((with_reducible refine gd 1 rfl ?_); refine bx_ 1 25 #[.string (⟨#[]⟩ : ByteArray), .int .i64 0, .int .i64 0, .int .i64 0, .int .i64 0, .int .i64 0, .int .i64 0, .int .i64 0, .int .i64 0, .int .i64 0, .int .i64 0] rfl rfl ?_; intro gb340 hg w31 BK340 hb; have GE340 := bz HB hg; replace HB := bs HB hb; clear hb hg; have hcz32 := X.k11 BK340) | ((with_reducible refine gd 2 rfl ?_); refine bx_ 2 23 #[.int .i64 0, .int .i64 0] rfl rfl ?_; intro gb341 hg w33 BK341 hb; have GE341 := bz HB hg; have NB340_341 := Aside0.mk ((by rw [hg]; exact Nat.ne_of_lt (blk_lt (g := gb340) (o := .cells #[.string (⟨#[]⟩ : ByteArray), .int .i64 400, .int .i64 1800, .int .i64 21, .int .i64 20, .int .i64 0, .int .i64 0, .int .i64 0, .int .i64 0, .int .i64 0, .int .i64 0] 25 (0, 0)) (br_ BK340)) : gb340 ≠ gb341)); have NB341_340 := Aside0.mk ((by rw [hg]; exact Nat.ne_of_gt (blk_lt (g := gb340) (o := .cells #[.string (⟨#[]⟩ : ByteArray), .int .i64 400, .int .i64 1800, .int .i64 21, .int .i64 20, .int .i64 0, .int .i64 0, .int .i64 0, .int .i64 0, .int .i64 0, .int .i64 0] 25 (0, 0)) (br_ BK340)) : gb341 ≠ gb340)); replace BK340 := bp_ #[.string (⟨#[]⟩ : ByteArray), .int .i64 400, .int .i64 1800, .int .i64 21, .int .i64 20, .int .i64 0, .int .i64 0, .int .i64 0, .int .i64 0, .int .i64 0, .int .i64 0] BK340 hb; replace HB := bs HB hb; clear hb hg; have hnb34 := nn NB341_340; have hcz35 := X.k2 BK341; have hcz36 := X.k11 BK340) | ((with_reducible refine gc 9 rfl ?_); refine gm_ (some 15) rfl rfl Tryd.func9 (demand_Volume.calls _ (⟨#[]⟩ : ByteArray) _ _ _ _ _ _ _ _ _ _ _ _ _ _ _ _ A1.out (tt GT)) ag ?_; intro w37 hb; replace BK340 := Aside0.mk (blk_below (g := gb340) (o := .cells #[.string (⟨#[]⟩ : ByteArray), .int .i64 400, .int .i64 1800, .int .i64 21, .int .i64 20, .int .i64 0, .int .i64 0, .int .i64 0, .int .i64 0, .int .i64 0, .int .i64 0] 25 (0, 0)) (bx BK340) hb); replace BK341 := bp_ #[.int .i64 9, .int .i64 10] BK341 hb; replace HB := bs HB hb; (try clear hb)) | ((with_reducible refine gd 3 rfl ?_); refine bx_ 3 23 #[.int .i64 0, .int .i64 0] rfl rfl ?_; intro gb345 hg w38 BK345 hb; have GE345 := bz HB hg; have NB340_345 := Aside0.mk ((by rw [hg]; exact Nat.ne_of_lt (blk_lt (g := gb340) (o := .cells #[.string (⟨#[]⟩ : ByteArray), .int .i64 400, .int .i64 1800, .int .i64 21, .int .i64 20, .int .i64 0, .int .i64 0, .int .i64 0, .int .i64 0, .int .i64 0, .int .i64 0] 25 (0, 0)) (bx BK340)) : gb340 ≠ gb345)); have NB345_340 := Aside0.mk ((by rw [hg]; exact Nat.ne_of_gt (blk_lt (g := gb340) (o := .cells #[.string (⟨#[]⟩ : ByteArray), .int .i64 400, .int .i64 1800, .int .i64 21, .int .i64 20, .int .i64 0, .int .i64 0, .int .i64 0, .int .i64 0, .int .i64 0, .int .i64 0] 25 (0, 0)) (bx BK340)) : gb345 ≠ gb340)); have ⟨NB341_345, NB345_341⟩ := nb BK341 hg; replace BK340 := Aside0.mk (blk_below (g := gb340) (o := .cells #[.string (⟨#[]⟩ : ByteArray), .int .i64 400, .int .i64 1800, .int .i64 21, .int .i64 20, .int .i64 0, .int .i64 0, .int .i64 0, .int .i64 0, .int .i64 0, .int .i64 0] 25 (0, 0)) (bx BK340) hb); replace BK341 := bb BK341 hb; replace HB := bs HB hb; clear hb hg; have hnb39 := nn NB345_340; have hnb40 := nn NB345_341; have hcz41 := X.k2 BK345; have hcz42 := X.k11 BK340; have hcz43 := X.k2 BK341) | ((with_reducible refine gc 6 rfl ?_); refine gm_ (some 21) rfl rfl Tryd.func6 (demand_Ratio.calls _ (⟨#[]⟩ : ByteArray) _ _ _ _ _ _ _ _ _ _ _ _ _ _ _ _ A2.out (tt GT)) ag ?_; intro w44 hb; replace BK340 := Aside0.mk (blk_below (g := gb340) (o := .cells #[.string (⟨#[]⟩ : ByteArray), .int .i64 400, .int .i64 1800, .int .i64 21, .int .i64 20, .int .i64 0, .int .i64 0, .int .i64 0, .int .i64 0, .int .i64 0, .int .i64 0] 25 (0, 0)) (bx BK340) hb); replace BK341 := bb BK341 hb; replace BK345 := bp_ #[.int .i64 t342, .int .i64 t343] BK345 hb; replace HB := bs HB hb; (try clear hb)) | ((with_reducible refine gd 5 rfl ?_); refine bx_ 5 23 #[.int .i64 0, .int .i64 0] rfl rfl ?_; intro gb349 hg w45 BK349 hb; have GE349 := bz HB hg; have NB340_349 := Aside0.mk ((by rw [hg]; exact Nat.ne_of_lt (blk_lt (g := gb340) (o := .cells #[.string (⟨#[]⟩ : ByteArray), .int .i64 400, .int .i64 1800, .int .i64 21, .int .i64 20, .int .i64 0, .int .i64 0, .int .i64 0, .int .i64 0, .int .i64 0, .int .i64 0] 25 (0, 0)) (bx BK340)) : gb340 ≠ gb349)); have NB349_340 := Aside0.mk ((by rw [hg]; exact Nat.ne_of_gt (blk_lt (g := gb340) (o := .cells #[.string (⟨#[]⟩ : ByteArray), .int .i64 400, .int .i64 1800, .int .i64 21, .int .i64 20, .int .i64 0, .int .i64 0, .int .i64 0, .int .i64 0, .int .i64 0, .int .i64 0] 25 (0, 0)) (bx BK340)) : gb349 ≠ gb340)); have ⟨NB341_349, NB349_341⟩ := nb BK341 hg; have ⟨NB345_349, NB349_345⟩ := nb BK345 hg; replace BK340 := Aside0.mk (blk_below (g := gb340) (o := .cells #[.string (⟨#[]⟩ : ByteArray), .int .i64 400, .int .i64 1800, .int .i64 21, .int .i64 20, .int .i64 0, .int .i64 0, .int .i64 0, .int .i64 0, .int .i64 0, .int .i64 0] 25 (0, 0)) (bx BK340) hb); replace BK345 := bb BK345 hb; replace HB := bs HB hb; clear hb hg; have hnb46 := nn NB349_340; have hnb47 := nn NB349_341; have hnb48 := nn NB349_345; have hcz49 := X.k2 BK349) | ((with_reducible refine gc 10 rfl ?_); refine gm_ (some 26) rfl rfl Tryd.func10 (demand_Rate.calls _ _ _ _ _ _ _ A3.out (tt GT)) ag ?_; intro w50 hb; replace BK340 := Aside0.mk (blk_below (g := gb340) (o := .cells #[.string (⟨#[]⟩ : ByteArray), .int .i64 400, .int .i64 1800, .int .i64 21, .int .i64 20, .int .i64 0, .int .i64 0, .int .i64 0, .int .i64 0, .int .i64 0, .int .i64 0] 25 (0, 0)) (bx BK340) hb); replace BK345 := bb BK345 hb; replace BK349 := bp_ #[.int .i64 t346, .int .i64 t347] BK349 hb; replace HB := bs HB hb; (try clear hb); have hcz51 := X.k2 BK345; have hcz52 := X.k2 BK349))
            go_ret
            exact ⟨ae, bf HB⟩
        · rw [if_neg c7] at H
          have c7b0 : (t342 == 1400 && (t343 == 3)) = false := by simpa using c7
          (try (have c7b1 : decide (t342 = 1400 && (t343 == 3)) = false := by simpa using c7))
          (try (have c7b2 : (t342 == 1400 && (t343 == 3)) = false := by simpa using c7))
          (try (have c7b3 : ¬ (t342 = 1400 && (t343 == 3)) := by simpa using c7))
          clear c7
          obtain rfl := Option.some.inj H
          go_enter Tryd.func5, Tryd.ntmps5
          go_wp2_with (first | ((with_reducible refine gd 1 rfl ?_); refine bx_ 1 25 #[.string (⟨#[]⟩ : ByteArray), .int .i64 0, .int .i64 0, .int .i64 0, .int .i64 0, .int .i64 0, .int .i64 0, .int .i64 0, .int .i64 0, .int .i64 0, .int .i64 0] rfl rfl ?_; intro gb340 hg w53 BK340 hb; have GE340 := bz HB hg; replace HB := bs HB hb; clear hb hg; have hcz54 := X.k11 BK340) | ((with_reducible refine gd 2 rfl ?_); refine bx_ 2 23 #[.int .i64 0, .int .i64 0] rfl rfl ?_; intro gb341 hg w55 BK341 hb; have GE341 := bz HB hg; have NB340_341 := Aside0.mk ((by rw [hg]; exact Nat.ne_of_lt (blk_lt (g := gb340) (o := .cells #[.string (⟨#[]⟩ : ByteArray), .int .i64 400, .int .i64 1800, .int .i64 21, .int .i64 20, .int .i64 0, .int .i64 0, .int .i64 0, .int .i64 0, .int .i64 0, .int .i64 0] 25 (0, 0)) (br_ BK340)) : gb340 ≠ gb341)); have NB341_340 := Aside0.mk ((by rw [hg]; exact Nat.ne_of_gt (blk_lt (g := gb340) (o := .cells #[.string (⟨#[]⟩ : ByteArray), .int .i64 400, .int .i64 1800, .int .i64 21, .int .i64 20, .int .i64 0, .int .i64 0, .int .i64 0, .int .i64 0, .int .i64 0, .int .i64 0] 25 (0, 0)) (br_ BK340)) : gb341 ≠ gb340)); replace BK340 := bp_ #[.string (⟨#[]⟩ : ByteArray), .int .i64 400, .int .i64 1800, .int .i64 21, .int .i64 20, .int .i64 0, .int .i64 0, .int .i64 0, .int .i64 0, .int .i64 0, .int .i64 0] BK340 hb; replace HB := bs HB hb; clear hb hg; have hnb56 := nn NB341_340; have hcz57 := X.k2 BK341; have hcz58 := X.k11 BK340) | ((with_reducible refine gc 9 rfl ?_); refine gm_ (some 15) rfl rfl Tryd.func9 (demand_Volume.calls _ (⟨#[]⟩ : ByteArray) _ _ _ _ _ _ _ _ _ _ _ _ _ _ _ _ A1.out (tt GT)) ag ?_; intro w59 hb; replace BK340 := Aside0.mk (blk_below (g := gb340) (o := .cells #[.string (⟨#[]⟩ : ByteArray), .int .i64 400, .int .i64 1800, .int .i64 21, .int .i64 20, .int .i64 0, .int .i64 0, .int .i64 0, .int .i64 0, .int .i64 0, .int .i64 0] 25 (0, 0)) (bx BK340) hb); replace BK341 := bp_ #[.int .i64 9, .int .i64 10] BK341 hb; replace HB := bs HB hb; (try clear hb)) | ((with_reducible refine gd 3 rfl ?_); refine bx_ 3 23 #[.int .i64 0, .int .i64 0] rfl rfl ?_; intro gb345 hg w60 BK345 hb; have GE345 := bz HB hg; have NB340_345 := Aside0.mk ((by rw [hg]; exact Nat.ne_of_lt (blk_lt (g := gb340) (o := .cells #[.string (⟨#[]⟩ : ByteArray), .int .i64 400, .int .i64 1800, .int .i64 21, .int .i64 20, .int .i64 0, .int .i64 0, .int .i64 0, .int .i64 0, .int .i64 0, .int .i64 0] 25 (0, 0)) (bx BK340)) : gb340 ≠ gb345)); have NB345_340 := Aside0.mk ((by rw [hg]; exact Nat.ne_of_gt (blk_lt (g := gb340) (o := .cells #[.string (⟨#[]⟩ : ByteArray), .int .i64 400, .int .i64 1800, .int .i64 21, .int .i64 20, .int .i64 0, .int .i64 0, .int .i64 0, .int .i64 0, .int .i64 0, .int .i64 0] 25 (0, 0)) (bx BK340)) : gb345 ≠ gb340)); have ⟨NB341_345, NB345_341⟩ := nb BK341 hg; replace BK340 := Aside0.mk (blk_below (g := gb340) (o := .cells #[.string (⟨#[]⟩ : ByteArray), .int .i64 400, .int .i64 1800, .int .i64 21, .int .i64 20, .int .i64 0, .int .i64 0, .int .i64 0, .int .i64 0, .int .i64 0, .int .i64 0] 25 (0, 0)) (bx BK340) hb); replace BK341 := bb BK341 hb; replace HB := bs HB hb; clear hb hg; have hnb61 := nn NB345_340; have hnb62 := nn NB345_341; have hcz63 := X.k2 BK345; have hcz64 := X.k11 BK340; have hcz65 := X.k2 BK341) | ((with_reducible refine gc 6 rfl ?_); refine gm_ (some 21) rfl rfl Tryd.func6 (demand_Ratio.calls _ (⟨#[]⟩ : ByteArray) _ _ _ _ _ _ _ _ _ _ _ _ _ _ _ _ A2.out (tt GT)) ag ?_; intro w66 hb; replace BK340 := Aside0.mk (blk_below (g := gb340) (o := .cells #[.string (⟨#[]⟩ : ByteArray), .int .i64 400, .int .i64 1800, .int .i64 21, .int .i64 20, .int .i64 0, .int .i64 0, .int .i64 0, .int .i64 0, .int .i64 0, .int .i64 0] 25 (0, 0)) (bx BK340) hb); replace BK341 := bb BK341 hb; replace BK345 := bp_ #[.int .i64 t342, .int .i64 t343] BK345 hb; replace HB := bs HB hb; (try clear hb)) | ((with_reducible refine gd 5 rfl ?_); refine bx_ 5 23 #[.int .i64 0, .int .i64 0] rfl rfl ?_; intro gb349 hg w67 BK349 hb; have GE349 := bz HB hg; have NB340_349 := Aside0.mk ((by rw [hg]; exact Nat.ne_of_lt (blk_lt (g := gb340) (o := .cells #[.string (⟨#[]⟩ : ByteArray), .int .i64 400, .int .i64 1800, .int .i64 21, .int .i64 20, .int .i64 0, .int .i64 0, .int .i64 0, .int .i64 0, .int .i64 0, .int .i64 0] 25 (0, 0)) (bx BK340)) : gb340 ≠ gb349)); have NB349_340 := Aside0.mk ((by rw [hg]; exact Nat.ne_of_gt (blk_lt (g := gb340) (o := .cells #[.string (⟨#[]⟩ : ByteArray), .int .i64 400, .int .i64 1800, .int .i64 21, .int .i64 20, .int .i64 0, .int .i64 0, .int .i64 0, .int .i64 0, .int .i64 0, .int .i64 0] 25 (0, 0)) (bx BK340)) : gb349 ≠ gb340)); have ⟨NB341_349, NB349_341⟩ := nb BK341 hg; have ⟨NB345_349, NB349_345⟩ := nb BK345 hg; replace BK340 := Aside0.mk (blk_below (g := gb340) (o := .cells #[.string (⟨#[]⟩ : ByteArray), .int .i64 400, .int .i64 1800, .int .i64 21, .int .i64 20, .int .i64 0, .int .i64 0, .int .i64 0, .int .i64 0, .int .i64 0, .int .i64 0] 25 (0, 0)) (bx BK340) hb); replace BK345 := bb BK345 hb; replace HB := bs HB hb; clear hb hg; have hnb68 := nn NB349_340; have hnb69 := nn NB349_341; have hnb70 := nn NB349_345; have hcz71 := X.k2 BK349) | ((with_reducible refine gc 10 rfl ?_); refine gm_ (some 26) rfl rfl Tryd.func10 (demand_Rate.calls _ _ _ _ _ _ _ A3.out (tt GT)) ag ?_; intro w72 hb; replace BK340 := Aside0.mk (blk_below (g := gb340) (o := .cells #[.string (⟨#[]⟩ : ByteArray), .int .i64 400, .int .i64 1800, .int .i64 21, .int .i64 20, .int .i64 0, .int .i64 0, .int .i64 0, .int .i64 0, .int .i64 0, .int .i64 0] 25 (0, 0)) (bx BK340) hb); replace BK345 := bb BK345 hb; replace BK349 := bp_ #[.int .i64 t346, .int .i64 t347] BK349 hb; replace HB := bs HB hb; (try clear hb); have hcz73 := X.k2 BK345))
          go_ret
          exact ⟨ae, bf HB⟩
      · rw [if_neg c6] at H
        have c6b0 : (t351 == 0) = false := beq_eq_false_iff_ne.mpr c6
        have c6b1 : (t351 != 0) = true := bne_iff_ne.mpr c6
        obtain rfl := Option.some.inj H
        go_enter Tryd.func5, Tryd.ntmps5
        go_wp2_with (first | ((with_reducible refine gd 1 rfl ?_); refine bx_ 1 25 #[.string (⟨#[]⟩ : ByteArray), .int .i64 0, .int .i64 0, .int .i64 0, .int .i64 0, .int .i64 0, .int .i64 0, .int .i64 0, .int .i64 0, .int .i64 0, .int .i64 0] rfl rfl ?_; intro gb340 hg w74 BK340 hb; have GE340 := bz HB hg; replace HB := bs HB hb; clear hb hg; have hcz75 := X.k11 BK340) | ((with_reducible refine gd 2 rfl ?_); refine bx_ 2 23 #[.int .i64 0, .int .i64 0] rfl rfl ?_; intro gb341 hg w76 BK341 hb; have GE341 := bz HB hg; have NB340_341 := Aside0.mk ((by rw [hg]; exact Nat.ne_of_lt (blk_lt (g := gb340) (o := .cells #[.string (⟨#[]⟩ : ByteArray), .int .i64 400, .int .i64 1800, .int .i64 21, .int .i64 20, .int .i64 0, .int .i64 0, .int .i64 0, .int .i64 0, .int .i64 0, .int .i64 0] 25 (0, 0)) (br_ BK340)) : gb340 ≠ gb341)); have NB341_340 := Aside0.mk ((by rw [hg]; exact Nat.ne_of_gt (blk_lt (g := gb340) (o := .cells #[.string (⟨#[]⟩ : ByteArray), .int .i64 400, .int .i64 1800, .int .i64 21, .int .i64 20, .int .i64 0, .int .i64 0, .int .i64 0, .int .i64 0, .int .i64 0, .int .i64 0] 25 (0, 0)) (br_ BK340)) : gb341 ≠ gb340)); replace BK340 := bp_ #[.string (⟨#[]⟩ : ByteArray), .int .i64 400, .int .i64 1800, .int .i64 21, .int .i64 20, .int .i64 0, .int .i64 0, .int .i64 0, .int .i64 0, .int .i64 0, .int .i64 0] BK340 hb; replace HB := bs HB hb; clear hb hg; have hnb77 := nn NB341_340; have hcz78 := X.k2 BK341; have hcz79 := X.k11 BK340) | ((with_reducible refine gc 9 rfl ?_); refine gm_ (some 15) rfl rfl Tryd.func9 (demand_Volume.calls _ (⟨#[]⟩ : ByteArray) _ _ _ _ _ _ _ _ _ _ _ _ _ _ _ _ A1.out (tt GT)) ag ?_; intro w80 hb; replace BK340 := Aside0.mk (blk_below (g := gb340) (o := .cells #[.string (⟨#[]⟩ : ByteArray), .int .i64 400, .int .i64 1800, .int .i64 21, .int .i64 20, .int .i64 0, .int .i64 0, .int .i64 0, .int .i64 0, .int .i64 0, .int .i64 0] 25 (0, 0)) (bx BK340) hb); replace BK341 := bp_ #[.int .i64 9, .int .i64 10] BK341 hb; replace HB := bs HB hb; (try clear hb)) | ((with_reducible refine gd 3 rfl ?_); refine bx_ 3 23 #[.int .i64 0, .int .i64 0] rfl rfl ?_; intro gb345 hg w81 BK345 hb; have GE345 := bz HB hg; have NB340_345 := Aside0.mk ((by rw [hg]; exact Nat.ne_of_lt (blk_lt (g := gb340) (o := .cells #[.string (⟨#[]⟩ : ByteArray), .int .i64 400, .int .i64 1800, .int .i64 21, .int .i64 20, .int .i64 0, .int .i64 0, .int .i64 0, .int .i64 0, .int .i64 0, .int .i64 0] 25 (0, 0)) (bx BK340)) : gb340 ≠ gb345)); have NB345_340 := Aside0.mk ((by rw [hg]; exact Nat.ne_of_gt (blk_lt (g := gb340) (o := .cells #[.string (⟨#[]⟩ : ByteArray), .int .i64 400, .int .i64 1800, .int .i64 21, .int .i64 20, .int .i64 0, .int .i64 0, .int .i64 0, .int .i64 0, .int .i64 0, .int .i64 0] 25 (0, 0)) (bx BK340)) : gb345 ≠ gb340)); have ⟨NB341_345, NB345_341⟩ := nb BK341 hg; replace BK340 := Aside0.mk (blk_below (g := gb340) (o := .cells #[.string (⟨#[]⟩ : ByteArray), .int .i64 400, .int .i64 1800, .int .i64 21, .int .i64 20, .int .i64 0, .int .i64 0, .int .i64 0, .int .i64 0, .int .i64 0, .int .i64 0] 25 (0, 0)) (bx BK340) hb); replace BK341 := bb BK341 hb; replace HB := bs HB hb; clear hb hg; have hnb82 := nn NB345_340; have hnb83 := nn NB345_341; have hcz84 := X.k2 BK345; have hcz85 := X.k11 BK340; have hcz86 := X.k2 BK341) | ((with_reducible refine gc 6 rfl ?_); refine gm_ (some 21) rfl rfl Tryd.func6 (demand_Ratio.calls _ (⟨#[]⟩ : ByteArray) _ _ _ _ _ _ _ _ _ _ _ _ _ _ _ _ A2.out (tt GT)) ag ?_; intro w87 hb; replace BK340 := Aside0.mk (blk_below (g := gb340) (o := .cells #[.string (⟨#[]⟩ : ByteArray), .int .i64 400, .int .i64 1800, .int .i64 21, .int .i64 20, .int .i64 0, .int .i64 0, .int .i64 0, .int .i64 0, .int .i64 0, .int .i64 0] 25 (0, 0)) (bx BK340) hb); replace BK341 := bb BK341 hb; replace BK345 := bp_ #[.int .i64 t342, .int .i64 t343] BK345 hb; replace HB := bs HB hb; (try clear hb)) | ((with_reducible refine gd 5 rfl ?_); refine bx_ 5 23 #[.int .i64 0, .int .i64 0] rfl rfl ?_; intro gb349 hg w88 BK349 hb; have GE349 := bz HB hg; have NB340_349 := Aside0.mk ((by rw [hg]; exact Nat.ne_of_lt (blk_lt (g := gb340) (o := .cells #[.string (⟨#[]⟩ : ByteArray), .int .i64 400, .int .i64 1800, .int .i64 21, .int .i64 20, .int .i64 0, .int .i64 0, .int .i64 0, .int .i64 0, .int .i64 0, .int .i64 0] 25 (0, 0)) (bx BK340)) : gb340 ≠ gb349)); have NB349_340 := Aside0.mk ((by rw [hg]; exact Nat.ne_of_gt (blk_lt (g := gb340) (o := .cells #[.string (⟨#[]⟩ : ByteArray), .int .i64 400, .int .i64 1800, .int .i64 21, .int .i64 20, .int .i64 0, .int .i64 0, .int .i64 0, .int .i64 0, .int .i64 0, .int .i64 0] 25 (0, 0)) (bx BK340)) : gb349 ≠ gb340)); have ⟨NB341_349, NB349_341⟩ := nb BK341 hg; have ⟨NB345_349, NB349_345⟩ := nb BK345 hg; replace BK340 := Aside0.mk (blk_below (g := gb340) (o := .cells #[.string (⟨#[]⟩ : ByteArray), .int .i64 400, .int .i64 1800, .int .i64 21, .int .i64 20, .int .i64 0, .int .i64 0, .int .i64 0, .int .i64 0, .int .i64 0, .int .i64 0] 25 (0, 0)) (bx BK340) hb); replace HB := bs HB hb; clear hb hg; have hnb89 := nn NB349_340; have hnb90 := nn NB349_341; have hnb91 := nn NB349_345; have hcz92 := X.k2 BK349) | ((with_reducible refine gc 10 rfl ?_); refine gm_ (some 26) rfl rfl Tryd.func10 (demand_Rate.calls _ _ _ _ _ _ _ A3.out (tt GT)) ag ?_; intro w93 hb; replace BK340 := Aside0.mk (blk_below (g := gb340) (o := .cells #[.string (⟨#[]⟩ : ByteArray), .int .i64 400, .int .i64 1800, .int .i64 21, .int .i64 20, .int .i64 0, .int .i64 0, .int .i64 0, .int .i64 0, .int .i64 0, .int .i64 0] 25 (0, 0)) (bx BK340) hb); replace BK349 := bp_ #[.int .i64 t346, .int .i64 t347] BK349 hb; replace HB := bs HB hb; (try clear hb)))
        go_ret
        exact ⟨ae, bf HB⟩
    · rw [if_neg c5] at H
      have c5b0 : (t348 == 0) = false := beq_eq_false_iff_ne.mpr c5
      have c5b1 : (t348 != 0) = true := bne_iff_ne.mpr c5
      obtain rfl := Option.some.inj H
      go_enter Tryd.func5, Tryd.ntmps5
      go_wp2_with (first | ((with_reducible refine gd 1 rfl ?_); refine bx_ 1 25 #[.string (⟨#[]⟩ : ByteArray), .int .i64 0, .int .i64 0, .int .i64 0, .int .i64 0, .int .i64 0, .int .i64 0, .int .i64 0, .int .i64 0, .int .i64 0, .int .i64 0] rfl rfl ?_; intro gb340 hg w94 BK340 hb; have GE340 := bz HB hg; replace HB := bs HB hb; clear hb hg; have hcz95 := X.k11 BK340) | ((with_reducible refine gd 2 rfl ?_); refine bx_ 2 23 #[.int .i64 0, .int .i64 0] rfl rfl ?_; intro gb341 hg w96 BK341 hb; have GE341 := bz HB hg; have NB340_341 := Aside0.mk ((by rw [hg]; exact Nat.ne_of_lt (blk_lt (g := gb340) (o := .cells #[.string (⟨#[]⟩ : ByteArray), .int .i64 400, .int .i64 1800, .int .i64 21, .int .i64 20, .int .i64 0, .int .i64 0, .int .i64 0, .int .i64 0, .int .i64 0, .int .i64 0] 25 (0, 0)) (br_ BK340)) : gb340 ≠ gb341)); have NB341_340 := Aside0.mk ((by rw [hg]; exact Nat.ne_of_gt (blk_lt (g := gb340) (o := .cells #[.string (⟨#[]⟩ : ByteArray), .int .i64 400, .int .i64 1800, .int .i64 21, .int .i64 20, .int .i64 0, .int .i64 0, .int .i64 0, .int .i64 0, .int .i64 0, .int .i64 0] 25 (0, 0)) (br_ BK340)) : gb341 ≠ gb340)); replace BK340 := bp_ #[.string (⟨#[]⟩ : ByteArray), .int .i64 400, .int .i64 1800, .int .i64 21, .int .i64 20, .int .i64 0, .int .i64 0, .int .i64 0, .int .i64 0, .int .i64 0, .int .i64 0] BK340 hb; replace HB := bs HB hb; clear hb hg; have hnb97 := nn NB341_340; have hcz98 := X.k2 BK341; have hcz99 := X.k11 BK340) | ((with_reducible refine gc 9 rfl ?_); refine gm_ (some 15) rfl rfl Tryd.func9 (demand_Volume.calls _ (⟨#[]⟩ : ByteArray) _ _ _ _ _ _ _ _ _ _ _ _ _ _ _ _ A1.out (tt GT)) ag ?_; intro w100 hb; replace BK340 := Aside0.mk (blk_below (g := gb340) (o := .cells #[.string (⟨#[]⟩ : ByteArray), .int .i64 400, .int .i64 1800, .int .i64 21, .int .i64 20, .int .i64 0, .int .i64 0, .int .i64 0, .int .i64 0, .int .i64 0, .int .i64 0] 25 (0, 0)) (bx BK340) hb); replace BK341 := bp_ #[.int .i64 9, .int .i64 10] BK341 hb; replace HB := bs HB hb; (try clear hb)) | ((with_reducible refine gd 3 rfl ?_); refine bx_ 3 23 #[.int .i64 0, .int .i64 0] rfl rfl ?_; intro gb345 hg w101 BK345 hb; have GE345 := bz HB hg; have NB340_345 := Aside0.mk ((by rw [hg]; exact Nat.ne_of_lt (blk_lt (g := gb340) (o := .cells #[.string (⟨#[]⟩ : ByteArray), .int .i64 400, .int .i64 1800, .int .i64 21, .int .i64 20, .int .i64 0, .int .i64 0, .int .i64 0, .int .i64 0, .int .i64 0, .int .i64 0] 25 (0, 0)) (bx BK340)) : gb340 ≠ gb345)); have NB345_340 := Aside0.mk ((by rw [hg]; exact Nat.ne_of_gt (blk_lt (g := gb340) (o := .cells #[.string (⟨#[]⟩ : ByteArray), .int .i64 400, .int .i64 1800, .int .i64 21, .int .i64 20, .int .i64 0, .int .i64 0, .int .i64 0, .int .i64 0, .int .i64 0, .int .i64 0] 25 (0, 0)) (bx BK340)) : gb345 ≠ gb340)); have ⟨NB341_345, NB345_341⟩ := nb BK341 hg; replace BK340 := Aside0.mk (blk_below (g := gb340) (o := .cells #[.string (⟨#[]⟩ : ByteArray), .int .i64 400, .int .i64 1800, .int .i64 21, .int .i64 20, .int .i64 0, .int .i64 0, .int .i64 0, .int .i64 0, .int .i64 0, .int .i64 0] 25 (0, 0)) (bx BK340) hb); replace BK341 := bb BK341 hb; replace HB := bs HB hb; clear hb hg; have hnb102 := nn NB345_340; have hnb103 := nn NB345_341; have hcz104 := X.k2 BK345; have hcz105 := X.k11 BK340; have hcz106 := X.k2 BK341) | ((with_reducible refine gc 6 rfl ?_); refine gm_ (some 21) rfl rfl Tryd.func6 (demand_Ratio.calls _ (⟨#[]⟩ : ByteArray) _ _ _ _ _ _ _ _ _ _ _ _ _ _ _ _ A2.out (tt GT)) ag ?_; intro w107 hb; replace BK340 := Aside0.mk (blk_below (g := gb340) (o := .cells #[.string (⟨#[]⟩ : ByteArray), .int .i64 400, .int .i64 1800, .int .i64 21, .int .i64 20, .int .i64 0, .int .i64 0, .int .i64 0, .int .i64 0, .int .i64 0, .int .i64 0] 25 (0, 0)) (bx BK340) hb); replace BK341 := bb BK341 hb; replace BK345 := bp_ #[.int .i64 t342, .int .i64 t343] BK345 hb; replace HB := bs HB hb; (try clear hb)) | ((with_reducible refine gd 5 rfl ?_); refine bx_ 5 23 #[.int .i64 0, .int .i64 0] rfl rfl ?_; intro gb349 hg w108 BK349 hb; have GE349 := bz HB hg; have NB340_349 := Aside0.mk ((by rw [hg]; exact Nat.ne_of_lt (blk_lt (g := gb340) (o := .cells #[.string (⟨#[]⟩ : ByteArray), .int .i64 400, .int .i64 1800, .int .i64 21, .int .i64 20, .int .i64 0, .int .i64 0, .int .i64 0, .int .i64 0, .int .i64 0, .int .i64 0] 25 (0, 0)) (bx BK340)) : gb340 ≠ gb349)); have NB349_340 := Aside0.mk ((by rw [hg]; exact Nat.ne_of_gt (blk_lt (g := gb340) (o := .cells #[.string (⟨#[]⟩ : ByteArray), .int .i64 400, .int .i64 1800, .int .i64 21, .int .i64 20, .int .i64 0, .int .i64 0, .int .i64 0, .int .i64 0, .int .i64 0, .int .i64 0] 25 (0, 0)) (bx BK340)) : gb349 ≠ gb340)); have ⟨NB341_349, NB349_341⟩ := nb BK341 hg; have ⟨NB345_349, NB349_345⟩ := nb BK345 hg; replace BK340 := Aside0.mk (blk_below (g := gb340) (o := .cells #[.string (⟨#[]⟩ : ByteArray), .int .i64 400, .int .i64 1800, .int .i64 21, .int .i64 20, .int .i64 0, .int .i64 0, .int .i64 0, .int .i64 0, .int .i64 0, .int .i64 0] 25 (0, 0)) (bx BK340) hb); replace HB := bs HB hb; clear hb hg; have hnb109 := nn NB349_340; have hnb110 := nn NB349_341; have hnb111 := nn NB349_345; have hcz112 := X.k2 BK349) | ((with_reducible refine gc 10 rfl ?_); refine gm_ (some 26) rfl rfl Tryd.func10 (demand_Rate.calls _ _ _ _ _ _ _ A3.out (tt GT)) ag ?_; intro w113 hb; replace BK340 := Aside0.mk (blk_below (g := gb340) (o := .cells #[.string (⟨#[]⟩ : ByteArray), .int .i64 400, .int .i64 1800, .int .i64 21, .int .i64 20, .int .i64 0, .int .i64 0, .int .i64 0, .int .i64 0, .int .i64 0, .int .i64 0] 25 (0, 0)) (bx BK340) hb); replace BK349 := bp_ #[.int .i64 t346, .int .i64 t347] BK349 hb; replace HB := bs HB hb; (try clear hb)))
      go_ret
      exact ⟨ae, bf HB⟩
  · rw [if_neg c4] at H
    have c4b0 : (t344 == 0) = false := beq_eq_false_iff_ne.mpr c4
    have c4b1 : (t344 != 0) = true := bne_iff_ne.mpr c4
    obtain rfl := Option.some.inj H
    go_enter Tryd.func5, Tryd.ntmps5
    go_wp2_with (first | ((with_reducible refine gd 1 rfl ?_); refine bx_ 1 25 #[.string (⟨#[]⟩ : ByteArray), .int .i64 0, .int .i64 0, .int .i64 0, .int .i64 0, .int .i64 0, .int .i64 0, .int .i64 0, .int .i64 0, .int .i64 0, .int .i64 0] rfl rfl ?_; intro gb340 hg w114 BK340 hb; have GE340 := bz HB hg; replace HB := bs HB hb; clear hb hg; have hcz115 := X.k11 BK340) | ((with_reducible refine gd 2 rfl ?_); refine bx_ 2 23 #[.int .i64 0, .int .i64 0] rfl rfl ?_; intro gb341 hg w116 BK341 hb; have GE341 := bz HB hg; have NB340_341 := Aside0.mk ((by rw [hg]; exact Nat.ne_of_lt (blk_lt (g := gb340) (o := .cells #[.string (⟨#[]⟩ : ByteArray), .int .i64 400, .int .i64 1800, .int .i64 21, .int .i64 20, .int .i64 0, .int .i64 0, .int .i64 0, .int .i64 0, .int .i64 0, .int .i64 0] 25 (0, 0)) (br_ BK340)) : gb340 ≠ gb341)); have NB341_340 := Aside0.mk ((by rw [hg]; exact Nat.ne_of_gt (blk_lt (g := gb340) (o := .cells #[.string (⟨#[]⟩ : ByteArray), .int .i64 400, .int .i64 1800, .int .i64 21, .int .i64 20, .int .i64 0, .int .i64 0, .int .i64 0, .int .i64 0, .int .i64 0, .int .i64 0] 25 (0, 0)) (br_ BK340)) : gb341 ≠ gb340)); replace BK340 := bp_ #[.string (⟨#[]⟩ : ByteArray), .int .i64 400, .int .i64 1800, .int .i64 21, .int .i64 20, .int .i64 0, .int .i64 0, .int .i64 0, .int .i64 0, .int .i64 0, .int .i64 0] BK340 hb; replace HB := bs HB hb; clear hb hg; have hnb117 := nn NB341_340; have hcz118 := X.k2 BK341; have hcz119 := X.k11 BK340) | ((with_reducible refine gc 9 rfl ?_); refine gm_ (some 15) rfl rfl Tryd.func9 (demand_Volume.calls _ (⟨#[]⟩ : ByteArray) _ _ _ _ _ _ _ _ _ _ _ _ _ _ _ _ A1.out (tt GT)) ag ?_; intro w120 hb; replace BK340 := Aside0.mk (blk_below (g := gb340) (o := .cells #[.string (⟨#[]⟩ : ByteArray), .int .i64 400, .int .i64 1800, .int .i64 21, .int .i64 20, .int .i64 0, .int .i64 0, .int .i64 0, .int .i64 0, .int .i64 0, .int .i64 0] 25 (0, 0)) (bx BK340) hb); replace BK341 := bp_ #[.int .i64 9, .int .i64 10] BK341 hb; replace HB := bs HB hb; (try clear hb)) | ((with_reducible refine gd 3 rfl ?_); refine bx_ 3 23 #[.int .i64 0, .int .i64 0] rfl rfl ?_; intro gb345 hg w121 BK345 hb; have GE345 := bz HB hg; have NB340_345 := Aside0.mk ((by rw [hg]; exact Nat.ne_of_lt (blk_lt (g := gb340) (o := .cells #[.string (⟨#[]⟩ : ByteArray), .int .i64 400, .int .i64 1800, .int .i64 21, .int .i64 20, .int .i64 0, .int .i64 0, .int .i64 0, .int .i64 0, .int .i64 0, .int .i64 0] 25 (0, 0)) (bx BK340)) : gb340 ≠ gb345)); have NB345_340 := Aside0.mk ((by rw [hg]; exact Nat.ne_of_gt (blk_lt (g := gb340) (o := .cells #[.string (⟨#[]⟩ : ByteArray), .int .i64 400, .int .i64 1800, .int .i64 21, .int .i64 20, .int .i64 0, .int .i64 0, .int .i64 0, .int .i64 0, .int .i64 0, .int .i64 0] 25 (0, 0)) (bx BK340)) : gb345 ≠ gb340)); have ⟨NB341_345, NB345_341⟩ := nb BK341 hg; replace BK340 := Aside0.mk (blk_below (g := gb340) (o := .cells #[.string (⟨#[]⟩ : ByteArray), .int .i64 400, .int .i64 1800, .int .i64 21, .int .i64 20, .int .i64 0, .int .i64 0, .int .i64 0, .int .i64 0, .int .i64 0, .int .i64 0] 25 (0, 0)) (bx BK340) hb); replace BK341 := bb BK341 hb; replace HB := bs HB hb; clear hb hg; have hnb122 := nn NB345_340; have hnb123 := nn NB345_341; have hcz124 := X.k2 BK345; have hcz125 := X.k11 BK340; have hcz126 := X.k2 BK341) | ((with_reducible refine gc 6 rfl ?_); refine gm_ (some 21) rfl rfl Tryd.func6 (demand_Ratio.calls _ (⟨#[]⟩ : ByteArray) _ _ _ _ _ _ _ _ _ _ _ _ _ _ _ _ A2.out (tt GT)) ag ?_; intro w127 hb; replace BK340 := Aside0.mk (blk_below (g := gb340) (o := .cells #[.string (⟨#[]⟩ : ByteArray), .int .i64 400, .int .i64 1800, .int .i64 21, .int .i64 20, .int .i64 0, .int .i64 0, .int .i64 0, .int .i64 0, .int .i64 0, .int .i64 0] 25 (0, 0)) (bx BK340) hb); replace BK341 := bb BK341 hb; replace BK345 := bp_ #[.int .i64 t342, .int .i64 t343] BK345 hb; replace HB := bs HB hb; (try clear hb)) | ((with_reducible refine gd 5 rfl ?_); refine bx_ 5 23 #[.int .i64 0, .int .i64 0] rfl rfl ?_; intro gb349 hg w128 BK349 hb; have GE349 := bz HB hg; have NB340_349 := Aside0.mk ((by rw [hg]; exact Nat.ne_of_lt (blk_lt (g := gb340) (o := .cells #[.string (⟨#[]⟩ : ByteArray), .int .i64 400, .int .i64 1800, .int .i64 21, .int .i64 20, .int .i64 0, .int .i64 0, .int .i64 0, .int .i64 0, .int .i64 0, .int .i64 0] 25 (0, 0)) (bx BK340)) : gb340 ≠ gb349)); have NB349_340 := Aside0.mk ((by rw [hg]; exact Nat.ne_of_gt (blk_lt (g := gb340) (o := .cells #[.string (⟨#[]⟩ : ByteArray), .int .i64 400, .int .i64 1800, .int .i64 21, .int .i64 20, .int .i64 0, .int .i64 0, .int .i64 0, .int .i64 0, .int .i64 0, .int .i64 0] 25 (0, 0)) (bx BK340)) : gb349 ≠ gb340)); have ⟨NB341_349, NB349_341⟩ := nb BK341 hg; have ⟨NB345_349, NB349_345⟩ := nb BK345 hg; replace BK340 := Aside0.mk (blk_below (g := gb340) (o := .cells #[.string (⟨#[]⟩ : ByteArray), .int .i64 400, .int .i64 1800, .int .i64 21, .int .i64 20, .int .i64 0, .int .i64 0, .int .i64 0, .int .i64 0, .int .i64 0, .int .i64 0] 25 (0, 0)) (bx BK340) hb); replace HB := bs HB hb; clear hb hg; have hnb129 := nn NB349_340; have hnb130 := nn NB349_341; have hnb131 := nn NB349_345; have hcz132 := X.k2 BK349) | ((with_reducible refine gc 10 rfl ?_); refine gm_ (some 26) rfl rfl Tryd.func10 (demand_Rate.calls _ _ _ _ _ _ _ A3.out (tt GT)) ag ?_; intro w133 hb; replace BK340 := Aside0.mk (blk_below (g := gb340) (o := .cells #[.string (⟨#[]⟩ : ByteArray), .int .i64 400, .int .i64 1800, .int .i64 21, .int .i64 20, .int .i64 0, .int .i64 0, .int .i64 0, .int .i64 0, .int .i64 0, .int .i64 0] 25 (0, 0)) (bx BK340) hb); replace BK349 := bp_ #[.int .i64 t346, .int .i64 t347] BK349 hb; replace HB := bs HB hb; (try clear hb)))
    go_ret
    exact ⟨ae, bf HB⟩

/-! ### carrefourref01_Size: function 22 -/
theorem carrefourref01_Size.calls (a0 : Int) (r : Int) (w : World) (h : carrefourref01_Size.f a0 = some r) :
    Calls Tryd.prog 22 #[.int .i64 a0] w fun e w' => e = .returned (.int .u64 r) ∧ Drawn0 w w' := by
  have H : (if a0 < 0 then (some (IntKind.u64.wrap (-(IntKind.u64.wrap (a0))))) else (some (IntKind.u64.wrap (a0)))) = some r := h
  clear h
  by_cases c2 : a0 < 0
  · rw [if_pos c2] at H
    have c2b0 : decide (a0 < 0) = true := decide_eq_true c2
    clear c2
    obtain rfl := Option.some.inj H
    go_enter Tryd.func22, Tryd.ntmps22
    go_wp2
    go_ret
    exact ⟨aq, dr⟩
  · rw [if_neg c2] at H
    have c2b0 : decide (a0 < 0) = false := decide_eq_false c2
    clear c2
    obtain rfl := Option.some.inj H
    go_enter Tryd.func22, Tryd.ntmps22
    go_wp2
    go_ret
    exact ⟨aq, dr⟩

/-! ### carrefourref02_gcd: function 47 -/
theorem carrefourref02_gcd.calls (k : Nat) (a0 : Int) (a1 : Int) (r : Int) (w : World) (h : carrefourref02_gcd.f k a0 a1 = some r) :
    Calls Tryd.prog 47 #[.int .u64 a0, .int .u64 a1] w fun e w' => e = .returned (.int .u64 r) ∧ Drawn0 w w' := by
  have H : (carrefourref02_gcd.l0 k a0 a1) = some r := h
  clear h
  have H' := Aside0.mk H
  clear H
  go_enter Tryd.func47, Tryd.ntmps47
  go_wp2
  go_loopg [0, 1] k (fun kq v0 v1 w' => ∃ (x0_1 : Int) (x1_1 : Int), v0 = .int .u64 x0_1 ∧ v1 = .int .u64 x1_1 ∧ Aside0 (carrefourref02_gcd.l0 kq x0_1 x1_1 = some r) ∧ Aside0 (kq ≤ k) ∧ Drawn0 w w')
  case atStart => exact ⟨(a0), (a1), (aq), (aq), H', ⟨Nat.le_refl _⟩, dr⟩
  case round =>
    clear H'
    try clear p2
    obtain ⟨x0_1, x1_1, rfl, rfl, HA, HK1, ⟨m1, rfl⟩⟩ := hrel
    cases gk with
    | zero => exact absurd HA.out (by simp [carrefourref02_gcd.l0])
    | succ k1 =>
      have H := HA.out
      clear HA
      simp only [carrefourref02_gcd.l0] at H
      by_cases c3 : x1_1 = 0
      · rw [if_pos c3] at H
        have c3b0 : (x1_1 == 0) = true := beq_iff_eq.mpr c3
        have c3b1 : (x1_1 != 0) = false := bne_eq_false_iff_eq.mpr c3
        clear c3
        obtain rfl := Option.some.inj H
        go_wp2
        go_ret
        exact ⟨aq, dr⟩
      · rw [if_neg c3] at H
        have c3b0 : (x1_1 == 0) = false := beq_eq_false_iff_ne.mpr c3
        have c3b1 : (x1_1 != 0) = true := bne_iff_ne.mpr c3
        have H' := Aside0.mk H
        clear H
        go_wp2
        go_roundg k1
        case measure => have := HK1.out; omega
        case rel => exact ⟨(x1_1), (Int.tmod x0_1 x1_1), (aq), (aq), H', ⟨by have := HK1.out; omega⟩, dr⟩

/-! ### carrefourref02_Right: function 45 -/
theorem carrefourref02_Right.calls (k : Nat) (a0_0 : Int) (a0_1 : Int) (r : Bool) (w : World) (h : carrefourref02_Right.f k a0_0 a0_1 = some r) :
    Calls Tryd.prog 45 #[.agg #[.int .i64 a0_0, .int .i64 a0_1]] w fun e w' => e = .returned (.bool r) ∧ Below w.heap.size w w' := by
  have hu23 := Tryd.underlying23
  have HB := Aside0.mk (Below.refl w.heap.size w)
  have H : (if a0_1 ≥ 1 then ((carrefourref01_Size.f a0_0).bind fun t353 => ((carrefourref02_gcd.f k t353 (IntKind.u64.wrap (a0_1))).bind fun t354 => (some (t354 == 1)))) else (some false)) = some r := h
  clear h
  by_cases c2 : a0_1 ≥ 1
  · rw [if_pos c2] at H
    have c2b0 : decide (1 ≤ a0_1) = true := decide_eq_true c2
    clear c2
    replace H := bi_ H; obtain ⟨t353, A3, H⟩ := H
    (try dsimp only at H)
    replace H := bi_ H; obtain ⟨t354, A4, H⟩ := H
    (try dsimp only at H)
    obtain rfl := Option.some.inj H
    go_enter Tryd.func45, Tryd.ntmps45
    go_wp2_with (first | ((with_reducible refine gd 1 rfl ?_); refine bx_ 1 23 #[.int .i64 a0_0, .int .i64 a0_1] rfl rfl ?_; intro gb352 hg w5 BK352 hb; have GE352 := bz HB hg; replace HB := bs HB hb; clear hb hg; have hcz6 := X.k2 BK352) | (go_at_call 22; (with_reducible refine (carrefourref01_Size.calls _ _ _ A3.out).mono ?_); rintro e w' ⟨rfl, ⟨nd, rfl⟩⟩; (try first | exact ⟨rfl, _, World.drewN_drewN _ _ _⟩ | exact ⟨rfl, _, Eq.trans (World.drewN_drewN _ _ _) (congrArg (World.drewN _) (Nat.add_assoc _ _ _))⟩)) | (go_at_call 47; (with_reducible refine (carrefourref02_gcd.calls _ _ (IntKind.u64.wrap (a0_1)) _ _ A4.out).mono ?_); rintro e w' ⟨rfl, ⟨nd, rfl⟩⟩; (try first | exact ⟨rfl, _, World.drewN_drewN _ _ _⟩ | exact ⟨rfl, _, Eq.trans (World.drewN_drewN _ _ _) (congrArg (World.drewN _) (Nat.add_assoc _ _ _))⟩)))
    repeat (go_quiet (first | ((with_reducible refine gd 1 rfl ?_); refine bx_ 1 23 #[.int .i64 a0_0, .int .i64 a0_1] rfl rfl ?_; intro gb352 hg w5 BK352 hb; have GE352 := bz HB hg; replace HB := bs HB hb; clear hb hg; have hcz6 := X.k2 BK352) | (go_at_call 22; (with_reducible refine (carrefourref01_Size.calls _ _ _ A3.out).mono ?_); rintro e w' ⟨rfl, ⟨nd, rfl⟩⟩; (try first | exact ⟨rfl, _, World.drewN_drewN _ _ _⟩ | exact ⟨rfl, _, Eq.trans (World.drewN_drewN _ _ _) (congrArg (World.drewN _) (Nat.add_assoc _ _ _))⟩)) | (go_at_call 47; (with_reducible refine (carrefourref02_gcd.calls _ _ (IntKind.u64.wrap (a0_1)) _ _ A4.out).mono ?_); rintro e w' ⟨rfl, ⟨nd, rfl⟩⟩; (try first | exact ⟨rfl, _, World.drewN_drewN _ _ _⟩ | exact ⟨rfl, _, Eq.trans (World.drewN_drewN _ _ _) (congrArg (World.drewN _) (Nat.add_assoc _ _ _))⟩))); try go_wp2_with (first | ((with_reducible refine gd 1 rfl ?_); refine bx_ 1 23 #[.int .i64 a0_0, .int .i64 a0_1] rfl rfl ?_; intro gb352 hg w5 BK352 hb; have GE352 := bz HB hg; replace HB := bs HB hb; clear hb hg; have hcz6 := X.k2 BK352) | (go_at_call 22; (with_reducible refine (carrefourref01_Size.calls _ _ _ A3.out).mono ?_); rintro e w' ⟨rfl, ⟨nd, rfl⟩⟩; (try first | exact ⟨rfl, _, World.drewN_drewN _ _ _⟩ | exact ⟨rfl, _, Eq.trans (World.drewN_drewN _ _ _) (congrArg (World.drewN _) (Nat.add_assoc _ _ _))⟩)) | (go_at_call 47; (with_reducible refine (carrefourref02_gcd.calls _ _ (IntKind.u64.wrap (a0_1)) _ _ A4.out).mono ?_); rintro e w' ⟨rfl, ⟨nd, rfl⟩⟩; (try first | exact ⟨rfl, _, World.drewN_drewN _ _ _⟩ | exact ⟨rfl, _, Eq.trans (World.drewN_drewN _ _ _) (congrArg (World.drewN _) (Nat.add_assoc _ _ _))⟩))))
    go_ret
    exact ⟨ae, bf HB⟩
  · rw [if_neg c2] at H
    have c2b0 : decide (1 ≤ a0_1) = false := decide_eq_false c2
    clear c2
    obtain rfl := Option.some.inj H
    go_enter Tryd.func45, Tryd.ntmps45
    go_wp2_with (first | ((with_reducible refine gd 1 rfl ?_); refine bx_ 1 23 #[.int .i64 a0_0, .int .i64 a0_1] rfl rfl ?_; intro gb352 hg w7 BK352 hb; have GE352 := bz HB hg; replace HB := bs HB hb; clear hb hg; have hcz8 := X.k2 BK352))
    repeat (go_quiet (first | ((with_reducible refine gd 1 rfl ?_); refine bx_ 1 23 #[.int .i64 a0_0, .int .i64 a0_1] rfl rfl ?_; intro gb352 hg w7 BK352 hb; have GE352 := bz HB hg; replace HB := bs HB hb; clear hb hg; have hcz8 := X.k2 BK352)); try go_wp2_with (first | ((with_reducible refine gd 1 rfl ?_); refine bx_ 1 23 #[.int .i64 a0_0, .int .i64 a0_1] rfl rfl ?_; intro gb352 hg w7 BK352 hb; have GE352 := bz HB hg; replace HB := bs HB hb; clear hb hg; have hcz8 := X.k2 BK352)))
    go_ret
    exact ⟨ae, bf HB⟩

/-! ### carrefourref02_Norm: function 16 -/
theorem carrefourref02_Norm.calls (k : Nat) (a0_0 : Int) (a0_1 : Int) (r1 : Int) (r2 : Int) (w : World) (h : carrefourref02_Norm.f k a0_0 a0_1 = some (r1, r2)) :
    Calls Tryd.prog 16 #[.agg #[.int .i64 a0_0, .int .i64 a0_1]] w fun e w' => e = .returned (.agg #[.int .i64 r1, .int .i64 r2]) ∧ Below w.heap.size w w' := by
  have hu23 := Tryd.underlying23
  have HB := Aside0.mk (Below.refl w.heap.size w)
  have H : ((carrefourref02_Right.f k a0_0 a0_1).bind fun t357 => (if t357 = true then (some (a0_0, a0_1)) else (some (0, 1)))) = some (r1, r2) := h
  clear h
  replace H := bi_ H; obtain ⟨t357, A2, H⟩ := H
  (try dsimp only at H)
  by_cases c3 : t357 = true
  · subst c3
    have H1 : (some (a0_0, a0_1)) = some (r1, r2) := by rw [if_pos rfl] at H; exact H
    clear H
    have H := H1
    clear H1
    simp only [Option.some.injEq, Prod.mk.injEq] at H
    obtain ⟨rfl, rfl⟩ := H
    go_enter Tryd.func16, Tryd.ntmps16
    go_wp2_with (first | ((with_reducible refine gd 1 rfl ?_); refine bx_ 1 23 #[.int .i64 a0_0, .int .i64 a0_1] rfl rfl ?_; intro gb355 hg w4 BK355 hb; have GE355 := bz HB hg; replace HB := bs HB hb; clear hb hg) | ((with_reducible refine gd 2 rfl ?_); refine bx_ 2 23 #[.int .i64 0, .int .i64 0] rfl rfl ?_; intro gb356 hg w5 BK356 hb; have GE356 := bz HB hg; have ⟨NB355_356, NB356_355⟩ := nb BK355 hg; replace BK355 := bb BK355 hb; replace HB := bs HB hb; clear hb hg; have hnb6 := nn NB355_356; have hcz7 := X.k2 BK355) | ((with_reducible refine gc 45 rfl ?_); refine gm_ (some 4) rfl rfl Tryd.func45 (carrefourref02_Right.calls _ _ _ _ _ A2.out) ag ?_; intro w8 hb; replace BK355 := bb BK355 hb; replace BK356 := bb BK356 hb; replace HB := bs HB hb; (try clear hb); have hcz9 := X.k2 BK355; have hcz10 := X.k2 BK356))
    refine bodyPost_ret (results_cell_row rfl _ _ gb356 23 #[.int .i64 a0_0, .int .i64 a0_1] (0, 0) _ rfl (br_ BK356) Tryd.underlying23 rfl (by kernel_rfl)) rfl ?_
    exact ⟨ae, bf HB⟩
  · replace c3 := Bool.eq_false_iff.mpr c3
    subst c3
    have H1 : (some (0, 1)) = some (r1, r2) := by rw [if_neg (show ¬ (false = true) by decide)] at H; exact H
    clear H
    have H := H1
    clear H1
    simp only [Option.some.injEq, Prod.mk.injEq] at H
    obtain ⟨rfl, rfl⟩ := H
    go_enter Tryd.func16, Tryd.ntmps16
    go_wp2_with (first | ((with_reducible refine gd 1 rfl ?_); refine bx_ 1 23 #[.int .i64 a0_0, .int .i64 a0_1] rfl rfl ?_; intro gb355 hg w11 BK355 hb; have GE355 := bz HB hg; replace HB := bs HB hb; clear hb hg) | ((with_reducible refine gd 2 rfl ?_); refine bx_ 2 23 #[.int .i64 0, .int .i64 0] rfl rfl ?_; intro gb356 hg w12 BK356 hb; have GE356 := bz HB hg; have ⟨NB355_356, NB356_355⟩ := nb BK355 hg; replace BK355 := bb BK355 hb; replace HB := bs HB hb; clear hb hg; have hnb13 := nn NB355_356; have hcz14 := X.k2 BK355) | ((with_reducible refine gc 45 rfl ?_); refine gm_ (some 4) rfl rfl Tryd.func45 (carrefourref02_Right.calls _ _ _ _ _ A2.out) ag ?_; intro w15 hb; replace BK356 := bb BK356 hb; replace HB := bs HB hb; (try clear hb); have hcz16 := X.k2 BK356))
    refine bodyPost_ret (results_cell_row rfl _ _ gb356 23 #[.int .i64 0, .int .i64 1] (0, 0) _ rfl (br_ BK356) Tryd.underlying23 rfl (by kernel_rfl)) rfl ?_
    exact ⟨ae, bf HB⟩

/-! ### carrefourref01_Plus: function 24 -/
theorem carrefourref01_Plus.calls (k : Nat) (A0 : Option Addr) (c0 : Nat) (l0 : List Int) (A1 : Option Addr) (c1 : Nat) (l1 : List Int) (r : List Int) (w : World) (hr0 : Kd.C (Kd.int .u64) w A0 l0.length l0) (hc0 : l0.length ≤ c0) (hr1 : Kd.C (Kd.int .u64) w A1 l1.length l1) (hc1 : l1.length ≤ c1) (h : carrefourref01_Plus.f k l0 l1 = some r) :
    Calls Tryd.prog 24 #[.slice A0 l0.length c0, .slice A1 l1.length c1] w fun e w' => ∃ v0_ : Value, e = .returned (v0_) ∧ Kd.R (Kd.int .u64) 48 w' w.heap.size (fun _ => True) v0_ r ∧ Below w.heap.size w w' := by
  have HR0 := Aside0.mk hr0
  have HC0 := Aside0.mk hc0
  clear hr0 hc0
  have HR1 := Aside0.mk hr1
  have HC1 := Aside0.mk hc1
  clear hr1 hc1
  have HB := Aside0.mk (Below.refl w.heap.size w)
  have H : (carrefourref01_Plus.l0 k l0 l1 ([] : List Int) 0 0) = some r := h
  clear h
  have H' := Aside0.mk H
  clear H
  go_enter Tryd.func24, Tryd.ntmps24
  go_wp2
  go_loopg [5, 6, 7] k (fun kq v5 v6 v7 w' => ∃ (x5_1 : List Int) (x6_1 : Int) (x7_1 : Int), v6 = .int .u64 x6_1 ∧ v7 = .int .i64 x7_1 ∧ Aside0 (carrefourref01_Plus.l0 kq l0 l1 x5_1 x6_1 x7_1 = some r) ∧ Aside0 (kq ≤ k) ∧ Aside0 (Kd.R (Kd.int .u64) 48 w' w.heap.size (fun _ => True) v5 x5_1) ∧ Aside0 (Below w.heap.size w w'))
  case atStart => exact ⟨(([] : List Int)), (0), (0), (aq), (aq), H', ⟨Nat.le_refl _⟩, ⟨by first | exact Kd.R_nil _ _ _ _ _ | exact Kd.N_nil _ _ _ _ _ | exact Kd.V_nil _ _ _ _ _ | exact Kd.Q_nil _ _ _ _ _ | exact Kd.S_nil _ _ _ _ _⟩, ⟨bf HB⟩⟩
  case round =>
    clear H'
    try clear c1
    try clear c2
    try clear p2
    obtain ⟨x5_1, x6_1, x7_1, rfl, rfl, HA, HK1, HO_5, HB⟩ := hrel
    cases gk with
    | zero => exact absurd HA.out (by simp [carrefourref01_Plus.l0])
    | succ k1 =>
      have H := HA.out
      clear HA
      simp only [carrefourref01_Plus.l0] at H
      have HC3 := Aside0.mk H
      clear H
      go_upto_region 4 with (fail)
      go_cut [22] (fun v22 wc => ∃ (kq : Nat) (x22_2 : Bool), v22 = .bool x22_2 ∧ Aside0 (carrefourref01_Plus.j1 kq l0 l1 x5_1 x6_1 x7_1 x22_2 = some r) ∧ Aside0 (kq ≤ k1) ∧ Aside0 (Kd.R (Kd.int .u64) 48 wc w.heap.size (fun _ => True) u5 x5_1) ∧ Aside0 (Below w.heap.size w wc))
      case first =>
        have H := HC3.out
        clear HC3
        by_cases c4 : x7_1 < (l0.length : Int)
        · rw [if_pos c4] at H
          have c4b0 : decide (x7_1 < (l0.length : Int)) = true := decide_eq_true c4
          clear c4
          (first | rw [c4b0] | (simp only [i64_w, i32_w]; rw [c4b0]) | skip)
          have H' := Aside0.mk H
          clear H
          go_wp2
          go_meet
          case rel => exact ⟨_, (true), (aq), H', ⟨by have := HK1.out; first | omega | exact Nat.le_refl _⟩, ⟨by (with_reducible repeat (first | apply Kd.R_alloc | apply Kd.R_drewN | apply Kd.R_drew)); exact HO_5.out⟩, ⟨bf HB⟩⟩
        · rw [if_neg c4] at H
          have c4b0 : decide (x7_1 < (l0.length : Int)) = false := decide_eq_false c4
          clear c4
          (first | rw [c4b0] | (simp only [i64_w, i32_w]; rw [c4b0]) | skip)
          by_cases c5 : x7_1 < (l1.length : Int)
          · rw [if_pos c5] at H
            have c5b0 : decide (x7_1 < (l1.length : Int)) = true := decide_eq_true c5
            clear c5
            have H' := Aside0.mk H
            clear H
            go_wp2
            go_meet
            case rel => exact ⟨_, (true), (aq), H', ⟨by have := HK1.out; first | omega | exact Nat.le_refl _⟩, ⟨by (with_reducible repeat (first | apply Kd.R_alloc | apply Kd.R_drewN | apply Kd.R_drew)); exact HO_5.out⟩, ⟨bf HB⟩⟩
          · rw [if_neg c5] at H
            have c5b0 : decide (x7_1 < (l1.length : Int)) = false := decide_eq_false c5
            clear c5
            have H' := Aside0.mk H
            clear H
            go_wp2
            go_meet
            case rel => exact ⟨_, (decide (x6_1 > 0)), (aq), H', ⟨by have := HK1.out; first | omega | exact Nat.le_refl _⟩, ⟨by (with_reducible repeat (first | apply Kd.R_alloc | apply Kd.R_drewN | apply Kd.R_drew)); exact HO_5.out⟩, ⟨bf HB⟩⟩
      case rest =>
        clear HC3
        try clear c1
        try clear c2
        try clear p2
        try clear c4
        try clear c4b0
        try clear c5
        try clear c5b0
        try clear p2
        obtain ⟨kq, x22_2, rfl, HA, HJ2, HO_5, HB⟩ := hcut
        cases kq with
        | zero => exact absurd HA.out (by simp [carrefourref01_Plus.j1])
        | succ kj2 =>
          have H := HA.out
          clear HA
          simp only [carrefourref01_Plus.j1] at H
          by_cases c6 : x22_2 = true
          · subst c6
            have H1 : (if x7_1 < (l0.length : Int) then (if 0 ≤ x7_1 then (if x7_1 < (l1.length : Int) then (if x5_1.length < 17592186044416 then (carrefourref01_Plus.l0 kj2 l0 l1 (x5_1 ++ [Int.tmod (IntKind.u64.wrap ((IntKind.u64.wrap (x6_1 + (rd l0 x7_1))) + (rd l1 x7_1))) 65536]) (IntKind.u64.wrap (Int.tdiv (IntKind.u64.wrap ((IntKind.u64.wrap (x6_1 + (rd l0 x7_1))) + (rd l1 x7_1))) 65536)) (wrap64 (x7_1 + 1))) else (none)) else (if x5_1.length < 17592186044416 then (carrefourref01_Plus.l0 kj2 l0 l1 (x5_1 ++ [Int.tmod (IntKind.u64.wrap (x6_1 + (rd l0 x7_1))) 65536]) (IntKind.u64.wrap (Int.tdiv (IntKind.u64.wrap (x6_1 + (rd l0 x7_1))) 65536)) (wrap64 (x7_1 + 1))) else (none))) else (none)) else (if x7_1 < (l1.length : Int) then (if 0 ≤ x7_1 then (if x5_1.length < 17592186044416 then (carrefourref01_Plus.l0 kj2 l0 l1 (x5_1 ++ [Int.tmod (IntKind.u64.wrap (x6_1 + (rd l1 x7_1))) 65536]) (IntKind.u64.wrap (Int.tdiv (IntKind.u64.wrap (x6_1 + (rd l1 x7_1))) 65536)) (wrap64 (x7_1 + 1))) else (none)) else (none)) else (if x5_1.length < 17592186044416 then (carrefourref01_Plus.l0 kj2 l0 l1 (x5_1 ++ [Int.tmod x6_1 65536]) (IntKind.u64.wrap (Int.tdiv x6_1 65536)) (wrap64 (x7_1 + 1))) else (none)))) = some r := by rw [if_pos rfl] at H; exact H
            clear H
            have H := H1
            clear H1
            by_cases c7 : x7_1 < (l0.length : Int)
            · rw [if_pos c7] at H
              have c7b0 : decide (x7_1 < (l0.length : Int)) = true := decide_eq_true c7
              clear c7
              by_cases c8 : 0 ≤ x7_1
              · rw [if_pos c8] at H
                have c8b0 : decide (0 ≤ x7_1) = true := decide_eq_true c8
                clear c8
                by_cases c9 : x7_1 < (l1.length : Int)
                · rw [if_pos c9] at H
                  have c9b0 : decide (x7_1 < (l1.length : Int)) = true := decide_eq_true c9
                  clear c9
                  by_cases c10 : x5_1.length < 17592186044416
                  · rw [if_pos c10] at H
                    have LMc10 := Aside0.mk c10
                    clear c10
                    obtain ⟨y360, hy360⟩ : ∃ y_ : List Int, y_ = (x5_1 ++ [Int.tmod (IntKind.u64.wrap ((IntKind.u64.wrap (x6_1 + (rd l0 x7_1))) + (rd l1 x7_1))) 65536]) := ⟨_, rfl⟩
                    replace H : (carrefourref01_Plus.l0 kj2 l0 l1 y360 (IntKind.u64.wrap (Int.tdiv (IntKind.u64.wrap ((IntKind.u64.wrap (x6_1 + (rd l0 x7_1))) + (rd l1 x7_1))) 65536)) (wrap64 (x7_1 + 1))) = some r := by first | (rw [hy360]; with_reducible exact H) | (have H2_ := (Option.bind_some _ _).symm.trans H; rw [hy360]; with_reducible exact H2_) | (have H2_ := (Option.bind_some _ _).symm.trans H; with_reducible exact H2_) | with_reducible exact H | (rw [hy360]; exact H) | exact H
                    have Ny360 := Aside0.mk hy360
                    clear hy360
                    have H' := Aside0.mk H
                    clear H
                    have p358 : 0 ≤ (x7_1 : Int) := of_decide_eq_true (by first | (with_reducible assumption) | assumption)
                    have q358 : x7_1 < (l0.length : Int) := of_decide_eq_true (by first | (with_reducible assumption) | assumption)
                    obtain ⟨ad358, e358, hx358_0⟩ := Kd.at_int HR0.out x7_1 p358 q358
                    cases e358
                    replace hx358_0 := (HB.out.cell (World.block_lt_of_cell? w _ hx358_0)).trans hx358_0
                    replace p358 := eq_true p358
                    replace q358 := eq_true q358
                    have p359 : 0 ≤ (x7_1 : Int) := of_decide_eq_true (by first | (with_reducible assumption) | assumption)
                    have q359 : x7_1 < (l1.length : Int) := of_decide_eq_true (by first | (with_reducible assumption) | assumption)
                    obtain ⟨ad359, e359, hx359_0⟩ := Kd.at_int HR1.out x7_1 p359 q359
                    cases e359
                    replace hx359_0 := (HB.out.cell (World.block_lt_of_cell? w _ hx359_0)).trans hx359_0
                    replace p359 := eq_true p359
                    replace q359 := eq_true q359
                    go_wp2_with (first | ((with_reducible refine gate_builtin (b := .append) (xs := #[.tmp 46, .tmp 49]) rfl ?_); (try (refine gate_guard (by rfl) ?_; dsimp only)); at_builtin; refine Kd.R_append (Kd.int .u64) (w0 := w) w.heap.size rfl (.tmp 46) (.tmp 49) 45 48 (.int .u64 0) 8 rfl Tryd.underlying45 info48 rfl (by decide) (by omega) u5 x5_1 (Int.tmod (IntKind.u64.wrap ((IntKind.u64.wrap (x6_1 + (rd l0 x7_1))) + (rd l1 x7_1))) 65536) [.int .u64 (Int.tmod (IntKind.u64.wrap ((IntKind.u64.wrap (x6_1 + (rd l0 x7_1))) + (rd l1 x7_1))) 65536)] (fun _ => True) (fun _ => False) rfl rfl ?aP (fun _ hk => hk.elim) ?aF ?aO ?aB ?aS ?aL ?_; (case aP => exact rfl); (case aB => exact (bf HB)); (case aF => exact (fun _ _ => trivial)); (case aO => exact (by (with_reducible repeat (first | apply Kd.R_alloc | apply Kd.R_drewN | apply Kd.R_drew)); exact HO_5.out)); (case aS => exact (below_size (bf HB))); (case aL => have := LMc10.out; omega); intro v361 w11 ho hb hg hat; rw [← Ny360.out] at ho; have n0_ := Aside0.mk (hb); have n1_ := Aside0.mk (ho); clear HB; clear HO_5; have HB := n0_; have HO362 := n1_; clear n0_ n1_; clear ho hb hg hat))
                    go_roundg kj2
                    case measure => have := HK1.out; have := HJ2.out; omega
                    case rel => exact ⟨(y360), (IntKind.u64.wrap (Int.tdiv (IntKind.u64.wrap ((IntKind.u64.wrap (x6_1 + (rd l0 x7_1))) + (rd l1 x7_1))) 65536)), (wrap64 (x7_1 + 1)), (aq), (aq), H', ⟨by have := HK1.out; have := HJ2.out; omega⟩, ⟨by (with_reducible repeat (first | apply Kd.R_alloc | apply Kd.R_drewN | apply Kd.R_drew)); exact HO362.out⟩, ⟨bf HB⟩⟩
                  · rw [if_neg c10] at H
                    exact absurd H (by simp)
                · rw [if_neg c9] at H
                  have c9b0 : decide (x7_1 < (l1.length : Int)) = false := decide_eq_false c9
                  clear c9
                  by_cases c12 : x5_1.length < 17592186044416
                  · rw [if_pos c12] at H
                    have LMc12 := Aside0.mk c12
                    clear c12
                    obtain ⟨y363, hy363⟩ : ∃ y_ : List Int, y_ = (x5_1 ++ [Int.tmod (IntKind.u64.wrap (x6_1 + (rd l0 x7_1))) 65536]) := ⟨_, rfl⟩
                    replace H : (carrefourref01_Plus.l0 kj2 l0 l1 y363 (IntKind.u64.wrap (Int.tdiv (IntKind.u64.wrap (x6_1 + (rd l0 x7_1))) 65536)) (wrap64 (x7_1 + 1))) = some r := by first | (rw [hy363]; with_reducible exact H) | (have H2_ := (Option.bind_some _ _).symm.trans H; rw [hy363]; with_reducible exact H2_) | (have H2_ := (Option.bind_some _ _).symm.trans H; with_reducible exact H2_) | with_reducible exact H | (rw [hy363]; exact H) | exact H
                    have Ny363 := Aside0.mk hy363
                    clear hy363
                    have H' := Aside0.mk H
                    clear H
                    have p358 : 0 ≤ (x7_1 : Int) := of_decide_eq_true (by first | (with_reducible assumption) | assumption)
                    have q358 : x7_1 < (l0.length : Int) := of_decide_eq_true (by first | (with_reducible assumption) | assumption)
                    obtain ⟨ad358, e358, hx358_0⟩ := Kd.at_int HR0.out x7_1 p358 q358
                    cases e358
                    replace hx358_0 := (HB.out.cell (World.block_lt_of_cell? w _ hx358_0)).trans hx358_0
                    replace p358 := eq_true p358
                    replace q358 := eq_true q358
                    go_wp2_with (first | ((with_reducible refine gate_builtin (b := .append) (xs := #[.tmp 46, .tmp 49]) rfl ?_); (try (refine gate_guard (by rfl) ?_; dsimp only)); at_builtin; refine Kd.R_append (Kd.int .u64) (w0 := w) w.heap.size rfl (.tmp 46) (.tmp 49) 45 48 (.int .u64 0) 8 rfl Tryd.underlying45 info48 rfl (by decide) (by omega) u5 x5_1 (Int.tmod (IntKind.u64.wrap (x6_1 + (rd l0 x7_1))) 65536) [.int .u64 (Int.tmod (IntKind.u64.wrap (x6_1 + (rd l0 x7_1))) 65536)] (fun _ => True) (fun _ => False) rfl rfl ?aP (fun _ hk => hk.elim) ?aF ?aO ?aB ?aS ?aL ?_; (case aP => exact rfl); (case aB => exact (bf HB)); (case aF => exact (fun _ _ => trivial)); (case aO => exact (by (with_reducible repeat (first | apply Kd.R_alloc | apply Kd.R_drewN | apply Kd.R_drew)); exact HO_5.out)); (case aS => exact (below_size (bf HB))); (case aL => have := LMc12.out; omega); intro v364 w13 ho hb hg hat; rw [← Ny363.out] at ho; have n0_ := Aside0.mk (hb); have n1_ := Aside0.mk (ho); clear HB; clear HO_5; have HB := n0_; have HO365 := n1_; clear n0_ n1_; clear ho hb hg hat))
                    go_roundg kj2
                    case measure => have := HK1.out; have := HJ2.out; omega
                    case rel => exact ⟨(y363), (IntKind.u64.wrap (Int.tdiv (IntKind.u64.wrap (x6_1 + (rd l0 x7_1))) 65536)), (wrap64 (x7_1 + 1)), (aq), (aq), H', ⟨by have := HK1.out; have := HJ2.out; omega⟩, ⟨by (with_reducible repeat (first | apply Kd.R_alloc | apply Kd.R_drewN | apply Kd.R_drew)); exact HO365.out⟩, ⟨bf HB⟩⟩
                  · rw [if_neg c12] at H
                    exact absurd H (by simp)
              · rw [if_neg c8] at H
                exact absurd H (by simp)
            · rw [if_neg c7] at H
              have c7b0 : decide (x7_1 < (l0.length : Int)) = false := decide_eq_false c7
              clear c7
              by_cases c14 : x7_1 < (l1.length : Int)
              · rw [if_pos c14] at H
                have c14b0 : decide (x7_1 < (l1.length : Int)) = true := decide_eq_true c14
                clear c14
                by_cases c15 : 0 ≤ x7_1
                · rw [if_pos c15] at H
                  have c15b0 : decide (0 ≤ x7_1) = true := decide_eq_true c15
                  clear c15
                  by_cases c16 : x5_1.length < 17592186044416
                  · rw [if_pos c16] at H
                    have LMc16 := Aside0.mk c16
                    clear c16
                    obtain ⟨y367, hy367⟩ : ∃ y_ : List Int, y_ = (x5_1 ++ [Int.tmod (IntKind.u64.wrap (x6_1 + (rd l1 x7_1))) 65536]) := ⟨_, rfl⟩
                    replace H : (carrefourref01_Plus.l0 kj2 l0 l1 y367 (IntKind.u64.wrap (Int.tdiv (IntKind.u64.wrap (x6_1 + (rd l1 x7_1))) 65536)) (wrap64 (x7_1 + 1))) = some r := by first | (rw [hy367]; with_reducible exact H) | (have H2_ := (Option.bind_some _ _).symm.trans H; rw [hy367]; with_reducible exact H2_) | (have H2_ := (Option.bind_some _ _).symm.trans H; with_reducible exact H2_) | with_reducible exact H | (rw [hy367]; exact H) | exact H
                    have Ny367 := Aside0.mk hy367
                    clear hy367
                    have H' := Aside0.mk H
                    clear H
                    have p366 : 0 ≤ (x7_1 : Int) := of_decide_eq_true (by first | (with_reducible assumption) | assumption)
                    have q366 : x7_1 < (l1.length : Int) := of_decide_eq_true (by first | (with_reducible assumption) | assumption)
                    obtain ⟨ad366, e366, hx366_0⟩ := Kd.at_int HR1.out x7_1 p366 q366
                    cases e366
                    replace hx366_0 := (HB.out.cell (World.block_lt_of_cell? w _ hx366_0)).trans hx366_0
                    replace p366 := eq_true p366
                    replace q366 := eq_true q366
                    go_wp2_with (first | ((with_reducible refine gate_builtin (b := .append) (xs := #[.tmp 46, .tmp 49]) rfl ?_); (try (refine gate_guard (by rfl) ?_; dsimp only)); at_builtin; refine Kd.R_append (Kd.int .u64) (w0 := w) w.heap.size rfl (.tmp 46) (.tmp 49) 45 48 (.int .u64 0) 8 rfl Tryd.underlying45 info48 rfl (by decide) (by omega) u5 x5_1 (Int.tmod (IntKind.u64.wrap (x6_1 + (rd l1 x7_1))) 65536) [.int .u64 (Int.tmod (IntKind.u64.wrap (x6_1 + (rd l1 x7_1))) 65536)] (fun _ => True) (fun _ => False) rfl rfl ?aP (fun _ hk => hk.elim) ?aF ?aO ?aB ?aS ?aL ?_; (case aP => exact rfl); (case aB => exact (bf HB)); (case aF => exact (fun _ _ => trivial)); (case aO => exact (by (with_reducible repeat (first | apply Kd.R_alloc | apply Kd.R_drewN | apply Kd.R_drew)); exact HO_5.out)); (case aS => exact (below_size (bf HB))); (case aL => have := LMc16.out; omega); intro v368 w17 ho hb hg hat; rw [← Ny367.out] at ho; have n0_ := Aside0.mk (hb); have n1_ := Aside0.mk (ho); clear HB; clear HO_5; have HB := n0_; have HO369 := n1_; clear n0_ n1_; clear ho hb hg hat))
                    go_roundg kj2
                    case measure => have := HK1.out; have := HJ2.out; omega
                    case rel => exact ⟨(y367), (IntKind.u64.wrap (Int.tdiv (IntKind.u64.wrap (x6_1 + (rd l1 x7_1))) 65536)), (wrap64 (x7_1 + 1)), (aq), (aq), H', ⟨by have := HK1.out; have := HJ2.out; omega⟩, ⟨by (with_reducible repeat (first | apply Kd.R_alloc | apply Kd.R_drewN | apply Kd.R_drew)); exact HO369.out⟩, ⟨bf HB⟩⟩
                  · rw [if_neg c16] at H
                    exact absurd H (by simp)
                · rw [if_neg c15] at H
                  exact absurd H (by simp)
              · rw [if_neg c14] at H
                have c14b0 : decide (x7_1 < (l1.length : Int)) = false := decide_eq_false c14
                clear c14
                by_cases c18 : x5_1.length < 17592186044416
                · rw [if_pos c18] at H
                  have LMc18 := Aside0.mk c18
                  clear c18
                  obtain ⟨y370, hy370⟩ : ∃ y_ : List Int, y_ = (x5_1 ++ [Int.tmod x6_1 65536]) := ⟨_, rfl⟩
                  replace H : (carrefourref01_Plus.l0 kj2 l0 l1 y370 (IntKind.u64.wrap (Int.tdiv x6_1 65536)) (wrap64 (x7_1 + 1))) = some r := by first | (rw [hy370]; with_reducible exact H) | (have H2_ := (Option.bind_some _ _).symm.trans H; rw [hy370]; with_reducible exact H2_) | (have H2_ := (Option.bind_some _ _).symm.trans H; with_reducible exact H2_) | with_reducible exact H | (rw [hy370]; exact H) | exact H
                  have Ny370 := Aside0.mk hy370
                  clear hy370
                  have H' := Aside0.mk H
                  clear H
                  go_wp2_with (first | ((with_reducible refine gate_builtin (b := .append) (xs := #[.tmp 46, .tmp 49]) rfl ?_); (try (refine gate_guard (by rfl) ?_; dsimp only)); at_builtin; refine Kd.R_append (Kd.int .u64) (w0 := w) w.heap.size rfl (.tmp 46) (.tmp 49) 45 48 (.int .u64 0) 8 rfl Tryd.underlying45 info48 rfl (by decide) (by omega) u5 x5_1 (Int.tmod x6_1 65536) [.int .u64 (Int.tmod x6_1 65536)] (fun _ => True) (fun _ => False) rfl rfl ?aP (fun _ hk => hk.elim) ?aF ?aO ?aB ?aS ?aL ?_; (case aP => exact rfl); (case aB => exact (bf HB)); (case aF => exact (fun _ _ => trivial)); (case aO => exact (by (with_reducible repeat (first | apply Kd.R_alloc | apply Kd.R_drewN | apply Kd.R_drew)); exact HO_5.out)); (case aS => exact (below_size (bf HB))); (case aL => have := LMc18.out; omega); intro v371 w19 ho hb hg hat; rw [← Ny370.out] at ho; have n0_ := Aside0.mk (hb); have n1_ := Aside0.mk (ho); clear HB; clear HO_5; have HB := n0_; have HO372 := n1_; clear n0_ n1_; clear ho hb hg hat))
                  go_roundg kj2
                  case measure => have := HK1.out; have := HJ2.out; omega
                  case rel => exact ⟨(y370), (IntKind.u64.wrap (Int.tdiv x6_1 65536)), (wrap64 (x7_1 + 1)), (aq), (aq), H', ⟨by have := HK1.out; have := HJ2.out; omega⟩, ⟨by (with_reducible repeat (first | apply Kd.R_alloc | apply Kd.R_drewN | apply Kd.R_drew)); exact HO372.out⟩, ⟨bf HB⟩⟩
                · rw [if_neg c18] at H
                  exact absurd H (by simp)
          · replace c6 := Bool.eq_false_iff.mpr c6
            subst c6
            have H1 : (some x5_1) = some r := by rw [if_neg (show ¬ (false = true) by decide)] at H; exact H
            clear H
            have H := H1
            clear H1
            obtain rfl := Option.some.inj H
            go_wp2
            go_ret
            exact ⟨_, ae, by (with_reducible repeat (first | apply Kd.R_alloc | apply Kd.R_drewN | apply Kd.R_drew)); exact HO_5.out, bf HB⟩

/-! ### carrefourref01_Parts: function 49 -/
theorem carrefourref01_Parts.calls (k : Nat) (a0 : Int) (r : List Int) (w : World) (h : carrefourref01_Parts.f k a0 = some r) :
    Calls Tryd.prog 49 #[.int .u64 a0] w fun e w' => ∃ v0_ : Value, e = .returned (v0_) ∧ Kd.R (Kd.int .u64) 48 w' w.heap.size (fun _ => True) v0_ r ∧ Below w.heap.size w w' := by
  have HB := Aside0.mk (Below.refl w.heap.size w)
  have H : (carrefourref01_Parts.l0 k a0 ([] : List Int) 0) = some r := h
  clear h
  have H' := Aside0.mk H
  clear H
  go_enter Tryd.func49, Tryd.ntmps49
  go_wp2
  go_loopg [0, 3, 4] k (fun kq v0 v3 v4 w' => ∃ (x0_1 : Int) (x3_1 : List Int) (x4_1 : Int), v0 = .int .u64 x0_1 ∧ v4 = .int .i64 x4_1 ∧ Aside0 (carrefourref01_Parts.l0 kq x0_1 x3_1 x4_1 = some r) ∧ Aside0 (kq ≤ k) ∧ Aside0 (Kd.R (Kd.int .u64) 48 w' w.heap.size (fun _ => True) v3 x3_1) ∧ Aside0 (Below w.heap.size w w'))
  case atStart => exact ⟨(a0), (([] : List Int)), (0), (aq), (aq), H', ⟨Nat.le_refl _⟩, ⟨by first | exact Kd.R_nil _ _ _ _ _ | exact Kd.N_nil _ _ _ _ _ | exact Kd.V_nil _ _ _ _ _ | exact Kd.Q_nil _ _ _ _ _ | exact Kd.S_nil _ _ _ _ _⟩, ⟨bf HB⟩⟩
  case round =>
    clear H'
    obtain ⟨x0_1, x3_1, x4_1, rfl, rfl, HA, HK1, HO_3, HB⟩ := hrel
    cases gk with
    | zero => exact absurd HA.out (by simp [carrefourref01_Parts.l0])
    | succ k1 =>
      have H := HA.out
      clear HA
      simp only [carrefourref01_Parts.l0] at H
      by_cases c2 : x4_1 < 4
      · rw [if_pos c2] at H
        have c2b0 : decide (x4_1 < 4) = true := decide_eq_true c2
        clear c2
        by_cases c3 : x3_1.length < 17592186044416
        · rw [if_pos c3] at H
          have LMc3 := Aside0.mk c3
          clear c3
          obtain ⟨y373, hy373⟩ : ∃ y_ : List Int, y_ = (x3_1 ++ [Int.tmod x0_1 65536]) := ⟨_, rfl⟩
          replace H : (carrefourref01_Parts.l0 k1 (IntKind.u64.wrap (Int.tdiv x0_1 65536)) y373 (wrap64 (x4_1 + 1))) = some r := by first | (rw [hy373]; with_reducible exact H) | (have H2_ := (Option.bind_some _ _).symm.trans H; rw [hy373]; with_reducible exact H2_) | (have H2_ := (Option.bind_some _ _).symm.trans H; with_reducible exact H2_) | with_reducible exact H | (rw [hy373]; exact H) | exact H
          have Ny373 := Aside0.mk hy373
          clear hy373
          have H' := Aside0.mk H
          clear H
          go_wp2_with (first | ((with_reducible refine gate_builtin (b := .append) (xs := #[.tmp 9, .tmp 12]) rfl ?_); at_builtin; refine Kd.R_append (Kd.int .u64) (w0 := w) w.heap.size rfl (.tmp 9) (.tmp 12) 45 48 (.int .u64 0) 8 rfl Tryd.underlying45 info48 rfl (by decide) (by omega) u3 x3_1 (Int.tmod x0_1 65536) [.int .u64 (Int.tmod x0_1 65536)] (fun _ => True) (fun _ => False) rfl rfl ?aP (fun _ hk => hk.elim) ?aF ?aO ?aB ?aS ?aL ?_; (case aP => exact rfl); (case aB => exact (bf HB)); (case aF => exact (fun _ _ => trivial)); (case aO => exact (by (with_reducible repeat (first | apply Kd.R_alloc | apply Kd.R_drewN | apply Kd.R_drew)); exact HO_3.out)); (case aS => exact (below_size (bf HB))); (case aL => have := LMc3.out; omega); intro v374 w4 ho hb hg hat; rw [← Ny373.out] at ho; have n0_ := Aside0.mk (hb); have n1_ := Aside0.mk (ho); clear HB; clear HO_3; have HB := n0_; have HO375 := n1_; clear n0_ n1_; clear ho hb hg hat))
          go_roundg k1
          case measure => have := HK1.out; omega
          case rel => exact ⟨(IntKind.u64.wrap (Int.tdiv x0_1 65536)), (y373), (wrap64 (x4_1 + 1)), (aq), (aq), H', ⟨by have := HK1.out; omega⟩, ⟨by (with_reducible repeat (first | apply Kd.R_alloc | apply Kd.R_drewN | apply Kd.R_drew)); exact HO375.out⟩, ⟨bf HB⟩⟩
        · rw [if_neg c3] at H
          exact absurd H (by simp)
      · rw [if_neg c2] at H
        have c2b0 : decide (x4_1 < 4) = false := decide_eq_false c2
        clear c2
        obtain rfl := Option.some.inj H
        go_wp2
        go_ret
        exact ⟨_, ae, by (with_reducible repeat (first | apply Kd.R_alloc | apply Kd.R_drewN | apply Kd.R_drew)); exact HO_3.out, bf HB⟩

end Go.Proofs.YtcdaedhphdmnoaaDoor.X
