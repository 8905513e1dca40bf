/- Walks: each '.calls' says that the Go function comes to what its Lean function tells. Conditions: as each theorem's head says. -/
import Derived.Test.YtnocpmngpekceaaDoorXD
import Derived.Test.YtnocpmngpekceaaDoorX0
import Derived.Test.YtnocpmngpekceaaDoorX6
import Derived.Test.YtnocpmngpekceaaDoorX10
import Derived.Test.YtnocpmngpekceaaDoorX18
namespace Go.Proofs.YtnocpmngpekceaaDoor.X
open Go.RowKit Go.Proofs.YtnocpmngpekceaaDoorW.PrintWords Go.Proofs.YtnocpmngpekceaaDoorW.PrintLast Go.Proofs.YtnocpmngpekceaaDoorW.PrintMore
attribute [local go_sem] max2_int min2_int max_two min_two max_three min_three max_four min_four   -- for this text's walks alone
set_option linter.unusedVariables false
set_option maxHeartbeats 8000000
set_option maxRecDepth 100000
set_option linter.unusedSimpArgs false

/-! ### carrefourlaw09_DemandRate: function 3 -/
theorem carrefourlaw09_DemandRate.calls (k : Nat) (a0_0 : Int) (a0_1 : Int) (a1 : Int) (r : Bool) (w : World) (h : carrefourlaw09_DemandRate.f k a0_0 a0_1 a1 = some r) (hT : TabOK w) :
    Calls Tryd.prog 3 #[.agg #[.int .i64 a0_0, .int .i64 a0_1], .int .i64 a1] w fun e w' => e = .returned (.bool r) ∧ Below w.heap.size w w' := by
  have GT := Aside0.mk hT
  clear hT
  have hu23 := Tryd.underlying23
  have HB := Aside0.mk (Below.refl w.heap.size w)
  have H : ((demand_Rate.f k a0_0 a0_1 a1).bind fun bt486 => ((carrefourref09_Rate.f k a0_0 a0_1 a1).bind fun bt488 => (if bt486.1.toList = bt488.1.toList then (if bt486.2 = bt488.2 then ((carrefourlaw09_awake.f k).bind fun t490 => (some t490)) else (some false)) else (some false)))) = some r := h
  clear h
  replace H := bi_ H; obtain ⟨⟨t486, t487⟩, A3, H⟩ := H
  (try dsimp only at H)
  replace H := bi_ H; obtain ⟨⟨t488, t489⟩, A4, H⟩ := H
  (try dsimp only at H)
  by_cases c5 : t486.toList = t488.toList
  · rw [if_pos c5] at H
    have c5b0 : (t486.toList == t488.toList) = true := beq_iff_eq.mpr c5
    have c5b1 : (t486.toList != t488.toList) = false := bne_eq_false_iff_eq.mpr c5
    clear c5
    by_cases c6 : t487 = t489
    · rw [if_pos c6] at H
      have c6b0 : (t487 == t489) = true := beq_iff_eq.mpr c6
      have c6b1 : (t487 != t489) = false := bne_eq_false_iff_eq.mpr c6
      clear c6
      replace H := bi_ H; obtain ⟨t490, A7, H⟩ := H
      (try dsimp only at H)
      obtain rfl := Option.some.inj H
      go_enter Tryd.func3, Tryd.ntmps3
      go_wp2_with (first | ((with_reducible refine gd 2 rfl ?_); refine bx_ 2 23 #[.int .i64 a0_0, .int .i64 a0_1] rfl rfl ?_; intro gb485 hg w8 BK485 hb; have GE485 := bz HB hg; replace HB := bs HB hb; clear hb hg; have hcz9 := X.k2 BK485) | ((with_reducible refine gc 4 rfl ?_); refine gm_ (some 12) rfl rfl Tryd.func4 (demand_Rate.calls _ _ _ _ _ _ _ A3.out (tt GT)) ag ?_; intro w10 hb; replace BK485 := bb BK485 hb; replace HB := bs HB hb; (try clear hb); have hcz11 := X.k2 BK485) | ((with_reducible refine gc 5 rfl ?_); refine gm_ (some 18) rfl rfl Tryd.func5 (carrefourref09_Rate.calls _ _ _ _ _ _ _ A4.out) ag ?_; intro w12 hb; replace HB := bs HB hb; (try clear hb)) | (go_at_call 6; (with_reducible refine (carrefourlaw09_awake.calls _ _ _ A7.out (tt GT)).mono ?_); rintro e w13 ⟨rfl, hb⟩; replace HB := bs HB hb; (try clear hb)))
      go_ret
      exact ⟨ae, bf HB⟩
    · rw [if_neg c6] at H
      have c6b0 : (t487 == t489) = false := beq_eq_false_iff_ne.mpr c6
      have c6b1 : (t487 != t489) = true := bne_iff_ne.mpr c6
      obtain rfl := Option.some.inj H
      go_enter Tryd.func3, Tryd.ntmps3
      go_wp2_with (first | ((with_reducible refine gd 2 rfl ?_); refine bx_ 2 23 #[.int .i64 a0_0, .int .i64 a0_1] rfl rfl ?_; intro gb485 hg w14 BK485 hb; have GE485 := bz HB hg; replace HB := bs HB hb; clear hb hg; have hcz15 := X.k2 BK485) | ((with_reducible refine gc 4 rfl ?_); refine gm_ (some 12) rfl rfl Tryd.func4 (demand_Rate.calls _ _ _ _ _ _ _ A3.out (tt GT)) ag ?_; intro w16 hb; replace BK485 := bb BK485 hb; replace HB := bs HB hb; (try clear hb); have hcz17 := X.k2 BK485) | ((with_reducible refine gc 5 rfl ?_); refine gm_ (some 18) rfl rfl Tryd.func5 (carrefourref09_Rate.calls _ _ _ _ _ _ _ A4.out) ag ?_; intro w18 hb; replace HB := bs HB hb; (try clear hb)))
      go_ret
      exact ⟨ae, bf HB⟩
  · rw [if_neg c5] at H
    have c5b0 : (t486.toList == t488.toList) = false := beq_eq_false_iff_ne.mpr c5
    have c5b1 : (t486.toList != t488.toList) = true := bne_iff_ne.mpr c5
    obtain rfl := Option.some.inj H
    go_enter Tryd.func3, Tryd.ntmps3
    go_wp2_with (first | ((with_reducible refine gd 2 rfl ?_); refine bx_ 2 23 #[.int .i64 a0_0, .int .i64 a0_1] rfl rfl ?_; intro gb485 hg w19 BK485 hb; have GE485 := bz HB hg; replace HB := bs HB hb; clear hb hg; have hcz20 := X.k2 BK485) | ((with_reducible refine gc 4 rfl ?_); refine gm_ (some 12) rfl rfl Tryd.func4 (demand_Rate.calls _ _ _ _ _ _ _ A3.out (tt GT)) ag ?_; intro w21 hb; replace BK485 := bb BK485 hb; replace HB := bs HB hb; (try clear hb); have hcz22 := X.k2 BK485) | ((with_reducible refine gc 5 rfl ?_); refine gm_ (some 18) rfl rfl Tryd.func5 (carrefourref09_Rate.calls _ _ _ _ _ _ _ A4.out) ag ?_; intro w23 hb; replace HB := bs HB hb; (try clear hb)))
    go_ret
    exact ⟨ae, bf HB⟩

end Go.Proofs.YtnocpmngpekceaaDoor.X
