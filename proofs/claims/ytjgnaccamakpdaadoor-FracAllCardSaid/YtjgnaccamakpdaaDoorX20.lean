/- Walks: each '.calls' says that the Go function comes to what its Lean function tells. Conditions: as each theorem's head says. -/
import Derived.Test.YtjgnaccamakpdaaDoorXD
import Derived.Test.YtjgnaccamakpdaaDoorX0
import Derived.Test.YtjgnaccamakpdaaDoorX1
import Derived.Test.YtjgnaccamakpdaaDoorX4
import Derived.Test.YtjgnaccamakpdaaDoorX11
import Derived.Test.YtjgnaccamakpdaaDoorX17
import Derived.Test.YtjgnaccamakpdaaDoorX18
import Derived.Test.YtjgnaccamakpdaaDoorX19
namespace Go.Proofs.YtjgnaccamakpdaaDoor.X
open Go.RowKit Go.Proofs.YtjgnaccamakpdaaDoorW.PrintWords Go.Proofs.YtjgnaccamakpdaaDoorW.PrintLast Go.Proofs.YtjgnaccamakpdaaDoorW.PrintMore
attribute [local go_sem] max2_int min2_int max_two min_two max_three min_three max_four min_four   -- for this text's walks alone
set_option linter.unusedVariables false
set_option maxHeartbeats 8000000
set_option maxRecDepth 100000
set_option linter.unusedSimpArgs false

attribute [local go_sem high] eqA23
/-! ### carrefourlaw02_FracAll: function 9 -/
theorem carrefourlaw02_FracAll.calls (k : Nat) (A0 : Option Addr) (c0 : Nat) (l0 : List (S23)) (r : Bool) (w : World) (hr0 : Kd.C k23 w A0 l0.length l0) (hc0 : l0.length ≤ c0) (h : carrefourlaw02_FracAll.f k l0 = some r) (hT : TabOK w) :
    Calls Tryd.prog 9 #[.slice A0 l0.length c0] w fun e w' => e = .returned (.bool r) ∧ Below w.heap.size w w' := by
  have GT := Aside0.mk hT
  clear hT
  have hu23 := Tryd.underlying23
  have HR0 := Aside0.mk hr0
  have HC0 := Aside0.mk hc0
  clear hr0 hc0
  have HB := Aside0.mk (Below.refl w.heap.size w)
  have H : (if (l0.length : Int) > 50 then (some true) else ((frac_Sum.f k l0).bind fun bt591 => ((carrefourref02_Sum.f k l0).bind fun bt595 => ((carrefourlaw02_same.f bt591.1 bt591.2.1 bt591.2.2 bt595.1 bt595.2.1 bt595.2.2).bind fun t599 => (if t599 = true then ((frac_Max.f k l0).bind fun bt600 => ((carrefourref02_Max.f k l0).bind fun bt602 => (if (bt600.1 == bt602.1 && (bt600.2 == bt602.2)) = true then ((carrefourlaw02_awake.f k).bind fun t604 => (some t604)) else (some false)))) else (some false)))))) = some r := h
  clear h
  by_cases c2 : (l0.length : Int) > 50
  · rw [if_pos c2] at H
    have c2b0 : decide (50 < (l0.length : Int)) = true := decide_eq_true c2
    have c2b1 : decide (50 < l0.length) = true := decide_eq_true (by omega)
    clear c2
    obtain rfl := Option.some.inj H
    go_enter Tryd.func9, Tryd.ntmps9
    go_wp2
    go_ret
    exact ⟨ae, bf HB⟩
  · rw [if_neg c2] at H
    have c2b0 : decide (50 < (l0.length : Int)) = false := decide_eq_false c2
    have c2b1 : decide (50 < l0.length) = false := decide_eq_false (by omega)
    clear c2
    replace H := bi_ H; obtain ⟨⟨t591, t592, t593⟩, A3, H⟩ := H
    (try dsimp only at H)
    replace H := bi_ H; obtain ⟨⟨t595, t596, t597⟩, A4, H⟩ := H
    (try dsimp only at H)
    replace H := bi_ H; obtain ⟨t599, A5, H⟩ := H
    (try dsimp only at H)
    by_cases c6 : t599 = true
    · subst c6
      have H1 : ((frac_Max.f k l0).bind fun bt600 => ((carrefourref02_Max.f k l0).bind fun bt602 => (if (bt600.1 == bt602.1 && (bt600.2 == bt602.2)) = true then ((carrefourlaw02_awake.f k).bind fun t604 => (some t604)) else (some false)))) = some r := by rw [if_pos rfl] at H; exact H
      clear H
      have H := H1
      clear H1
      replace H := bi_ H; obtain ⟨⟨t600, t601⟩, A7, H⟩ := H
      (try dsimp only at H)
      replace H := bi_ H; obtain ⟨⟨t602, t603⟩, A8, H⟩ := H
      (try dsimp only at H)
      by_cases c9 : (t600 == t602 && (t601 == t603)) = true
      · rw [if_pos c9] at H
        have c9b0 : (t600 == t602 && (t601 == t603)) = true := c9
        (try (have c9b1 : decide (t600 = t602 && (t601 == t603)) = true := by simpa using c9))
        (try (have c9b2 : (t600 == t602 && (t601 == t603)) = true := by simpa using c9))
        clear c9
        replace H := bi_ H; obtain ⟨t604, A10, H⟩ := H
        (try dsimp only at H)
        obtain rfl := Option.some.inj H
        go_enter Tryd.func9, Tryd.ntmps9
        go_wp2_with (first | ((with_reducible refine gc 33 rfl ?_); refine gm_ (some 12) rfl rfl Tryd.func33 (frac_Sum.calls _ _ _ _ _ _ _ _ ?side1 ?side2 A3.out (tt GT)) ag ?_; (case side1 => repeat (first | exact HR0.out | (with_reducible refine Kd.C_alloc ?_ _) | (with_reducible refine Kd.C_drewN ?_ _) | (with_reducible refine Kd.C_drew ?_))); (case side2 => exact HC0.out); intro w11 hb; replace HB := bs HB hb; (try clear hb)) | ((with_reducible refine gd 3 rfl ?_); refine bx_ 3 23 #[.int .i64 0, .int .i64 0] rfl rfl ?_; intro gb594 hg w12 BK594 hb; have GE594 := bz HB hg; replace HB := bs HB hb; clear hb hg; have hcz13 := k2 BK594) | ((with_reducible refine gc 34 rfl ?_); refine gm_ (some 17) rfl rfl Tryd.func34 (carrefourref02_Sum.calls _ _ _ _ _ _ _ _ ?side1 ?side2 A4.out) ag ?_; (case side1 => exact Kd.C_below HR0.out (bf HB)); (case side2 => exact HC0.out); intro w14 hb; replace BK594 := bp_ #[.int .i64 t591, .int .i64 t592] BK594 hb; replace HB := bs HB hb; (try clear hb)) | ((with_reducible refine gd 5 rfl ?_); refine bx_ 5 23 #[.int .i64 0, .int .i64 0] rfl rfl ?_; intro gb598 hg w15 BK598 hb; have GE598 := bz HB hg; have ⟨NB594_598, NB598_594⟩ := nb BK594 hg; replace BK594 := bb BK594 hb; replace HB := bs HB hb; clear hb hg; have hnb16 := nn NB598_594; have hcz17 := k2 BK598; have hcz18 := k2 BK594) | ((with_reducible refine gc 14 rfl ?_); refine gm_ (some 24) rfl rfl Tryd.func14 (carrefourlaw02_same.calls _ _ _ _ _ _ _ _ A5.out) ag ?_; intro w19 hb; replace BK598 := bp_ #[.int .i64 t595, .int .i64 t596] BK598 hb; replace HB := bs HB hb; (try clear hb)) | (go_at_call 35; (with_reducible refine (frac_Max.calls _ _ _ _ _ _ _ ?side1 ?side2 A7.out (tt GT)).mono ?_); (case side1 => repeat (first | exact (Kd.C_below HR0.out HB.out) | (with_reducible refine Kd.C_alloc ?_ _) | (with_reducible refine Kd.C_drewN ?_ _) | (with_reducible refine Kd.C_drew ?_))); (case side2 => exact HC0.out); rintro e w20 ⟨rfl, hb⟩; replace HB := bs HB hb; (try clear hb)) | (go_at_call 36; (with_reducible refine (carrefourref02_Max.calls _ _ _ _ _ _ _ ?side1 ?side2 A8.out).mono ?_); (case side1 => repeat (first | exact (Kd.C_below HR0.out HB.out) | (with_reducible refine Kd.C_alloc ?_ _) | (with_reducible refine Kd.C_drewN ?_ _) | (with_reducible refine Kd.C_drew ?_))); (case side2 => exact HC0.out); rintro e w21 ⟨rfl, hb⟩; replace HB := bs HB hb; (try clear hb)) | (go_at_call 15; (with_reducible refine (carrefourlaw02_awake.calls _ _ _ A10.out (tt GT)).mono ?_); rintro e w22 ⟨rfl, hb⟩; replace HB := bs HB hb; (try clear hb)))
        go_ret
        exact ⟨ae, bf HB⟩
      · rw [if_neg c9] at H
        have c9b0 : (t600 == t602 && (t601 == t603)) = false := by simpa using c9
        (try (have c9b1 : decide (t600 = t602 && (t601 == t603)) = false := by simpa using c9))
        (try (have c9b2 : (t600 == t602 && (t601 == t603)) = false := by simpa using c9))
        (try (have c9b3 : ¬ (t600 = t602 && (t601 == t603)) := by simpa using c9))
        clear c9
        obtain rfl := Option.some.inj H
        go_enter Tryd.func9, Tryd.ntmps9
        go_wp2_with (first | ((with_reducible refine gc 33 rfl ?_); refine gm_ (some 12) rfl rfl Tryd.func33 (frac_Sum.calls _ _ _ _ _ _ _ _ ?side1 ?side2 A3.out (tt GT)) ag ?_; (case side1 => repeat (first | exact HR0.out | (with_reducible refine Kd.C_alloc ?_ _) | (with_reducible refine Kd.C_drewN ?_ _) | (with_reducible refine Kd.C_drew ?_))); (case side2 => exact HC0.out); intro w23 hb; replace HB := bs HB hb; (try clear hb)) | ((with_reducible refine gd 3 rfl ?_); refine bx_ 3 23 #[.int .i64 0, .int .i64 0] rfl rfl ?_; intro gb594 hg w24 BK594 hb; have GE594 := bz HB hg; replace HB := bs HB hb; clear hb hg; have hcz25 := k2 BK594) | ((with_reducible refine gc 34 rfl ?_); refine gm_ (some 17) rfl rfl Tryd.func34 (carrefourref02_Sum.calls _ _ _ _ _ _ _ _ ?side1 ?side2 A4.out) ag ?_; (case side1 => exact Kd.C_below HR0.out (bf HB)); (case side2 => exact HC0.out); intro w26 hb; replace BK594 := bp_ #[.int .i64 t591, .int .i64 t592] BK594 hb; replace HB := bs HB hb; (try clear hb)) | ((with_reducible refine gd 5 rfl ?_); refine bx_ 5 23 #[.int .i64 0, .int .i64 0] rfl rfl ?_; intro gb598 hg w27 BK598 hb; have GE598 := bz HB hg; have ⟨NB594_598, NB598_594⟩ := nb BK594 hg; replace BK594 := bb BK594 hb; replace HB := bs HB hb; clear hb hg; have hnb28 := nn NB598_594; have hcz29 := k2 BK598; have hcz30 := k2 BK594) | ((with_reducible refine gc 14 rfl ?_); refine gm_ (some 24) rfl rfl Tryd.func14 (carrefourlaw02_same.calls _ _ _ _ _ _ _ _ A5.out) ag ?_; intro w31 hb; replace BK598 := bp_ #[.int .i64 t595, .int .i64 t596] BK598 hb; replace HB := bs HB hb; (try clear hb)) | (go_at_call 35; (with_reducible refine (frac_Max.calls _ _ _ _ _ _ _ ?side1 ?side2 A7.out (tt GT)).mono ?_); (case side1 => repeat (first | exact (Kd.C_below HR0.out HB.out) | (with_reducible refine Kd.C_alloc ?_ _) | (with_reducible refine Kd.C_drewN ?_ _) | (with_reducible refine Kd.C_drew ?_))); (case side2 => exact HC0.out); rintro e w32 ⟨rfl, hb⟩; replace HB := bs HB hb; (try clear hb)) | (go_at_call 36; (with_reducible refine (carrefourref02_Max.calls _ _ _ _ _ _ _ ?side1 ?side2 A8.out).mono ?_); (case side1 => repeat (first | exact (Kd.C_below HR0.out HB.out) | (with_reducible refine Kd.C_alloc ?_ _) | (with_reducible refine Kd.C_drewN ?_ _) | (with_reducible refine Kd.C_drew ?_))); (case side2 => exact HC0.out); rintro e w33 ⟨rfl, hb⟩; replace HB := bs HB hb; (try clear hb)))
        go_ret
        exact ⟨ae, bf HB⟩
    · replace c6 := Bool.eq_false_iff.mpr c6
      subst c6
      have H1 : (some false) = some r := by rw [if_neg (show ¬ (false = true) by decide)] at H; exact H
      clear H
      have H := H1
      clear H1
      obtain rfl := Option.some.inj H
      go_enter Tryd.func9, Tryd.ntmps9
      go_wp2_with (first | ((with_reducible refine gc 33 rfl ?_); refine gm_ (some 12) rfl rfl Tryd.func33 (frac_Sum.calls _ _ _ _ _ _ _ _ ?side1 ?side2 A3.out (tt GT)) ag ?_; (case side1 => repeat (first | exact HR0.out | (with_reducible refine Kd.C_alloc ?_ _) | (with_reducible refine Kd.C_drewN ?_ _) | (with_reducible refine Kd.C_drew ?_))); (case side2 => exact HC0.out); intro w34 hb; replace HB := bs HB hb; (try clear hb)) | ((with_reducible refine gd 3 rfl ?_); refine bx_ 3 23 #[.int .i64 0, .int .i64 0] rfl rfl ?_; intro gb594 hg w35 BK594 hb; have GE594 := bz HB hg; replace HB := bs HB hb; clear hb hg; have hcz36 := k2 BK594) | ((with_reducible refine gc 34 rfl ?_); refine gm_ (some 17) rfl rfl Tryd.func34 (carrefourref02_Sum.calls _ _ _ _ _ _ _ _ ?side1 ?side2 A4.out) ag ?_; (case side1 => exact Kd.C_below HR0.out (bf HB)); (case side2 => exact HC0.out); intro w37 hb; replace BK594 := bp_ #[.int .i64 t591, .int .i64 t592] BK594 hb; replace HB := bs HB hb; (try clear hb)) | ((with_reducible refine gd 5 rfl ?_); refine bx_ 5 23 #[.int .i64 0, .int .i64 0] rfl rfl ?_; intro gb598 hg w38 BK598 hb; have GE598 := bz HB hg; have ⟨NB594_598, NB598_594⟩ := nb BK594 hg; replace BK594 := bb BK594 hb; replace HB := bs HB hb; clear hb hg; have hnb39 := nn NB598_594; have hcz40 := k2 BK598; have hcz41 := k2 BK594) | ((with_reducible refine gc 14 rfl ?_); refine gm_ (some 24) rfl rfl Tryd.func14 (carrefourlaw02_same.calls _ _ _ _ _ _ _ _ A5.out) ag ?_; intro w42 hb; replace BK598 := bp_ #[.int .i64 t595, .int .i64 t596] BK598 hb; replace HB := bs HB hb; (try clear hb)))
      go_ret
      exact ⟨ae, bf HB⟩

end Go.Proofs.YtjgnaccamakpdaaDoor.X
