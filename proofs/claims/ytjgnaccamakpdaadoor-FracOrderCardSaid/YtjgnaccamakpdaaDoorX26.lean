/- Walks: each '.calls' says that the Go function comes to what its Lean function tells. Conditions: as each theorem's head says. -/
import Derived.Test.YtjgnaccamakpdaaDoorXD
import Derived.Test.YtjgnaccamakpdaaDoorX0
import Derived.Test.YtjgnaccamakpdaaDoorX11
import Derived.Test.YtjgnaccamakpdaaDoorX12
import Derived.Test.YtjgnaccamakpdaaDoorX14
namespace Go.Proofs.YtjgnaccamakpdaaDoor.X
open Go.RowKit Go.Proofs.YtjgnaccamakpdaaDoorW.PrintWords Go.Proofs.YtjgnaccamakpdaaDoorW.PrintLast Go.Proofs.YtjgnaccamakpdaaDoorW.PrintMore
attribute [local go_sem] max2_int min2_int max_two min_two max_three min_three max_four min_four   -- for this text's walks alone
set_option linter.unusedVariables false
set_option maxHeartbeats 8000000
set_option maxRecDepth 100000
set_option linter.unusedSimpArgs false

/-! ### carrefourref02_Mul: function 22 -/
def carrefourref02_Mul.T5 : Bool × List (List Nat × List Nat) := (true, [([], []), ([0], [0]), ([1], [1]), ([], []), ([3], [3]), ([4, 2], [4]), ([2, 5, 5], [2, 5]), ([6, 6], [6]), ([7, 7, 0, 1, 2, 3, 4, 5, 6, 7], [7])])
def carrefourref02_Mul.B5 : List Nat := [0, 1, 3, 0, 8, 31, 63, 127, 255]
theorem carrefourref02_Mul.tab5 : rtab .any (opsOf Tryd.f22 5) = carrefourref02_Mul.T5 := by kernel_rfl
theorem carrefourref02_Mul.bits5 : waitsOk carrefourref02_Mul.T5.2 carrefourref02_Mul.B5 = true := by kernel_rfl
theorem carrefourref02_Mul.calls (k : Nat) (a0_0 : Int) (a0_1 : Int) (a1_0 : Int) (a1_1 : Int) (r1 : Int) (r2 : Int) (r3 : Int) (w : World) (h : carrefourref02_Mul.f k a0_0 a0_1 a1_0 a1_1 = some (r1, r2, r3)) :
    Calls Tryd.prog 22 #[.agg #[.int .i64 a0_0, .int .i64 a0_1], .agg #[.int .i64 a1_0, .int .i64 a1_1]] w fun e w' => e = .returned (.tuple #[.agg #[.int .i64 r1, .int .i64 r2], .int .i64 r3]) ∧ Below w.heap.size w w' := by
  have hu23 := Tryd.underlying23
  have HB := Aside0.mk (Below.refl w.heap.size w)
  have H : ((carrefourref02_Norm.f k a0_0 a0_1).bind fun bt778 => ((carrefourref02_Norm.f k a1_0 a1_1).bind fun bt780 => ((carrefourref02_few.f bt778.1 bt778.2 bt780.1 bt780.2).bind fun t782 => (if t782 = true then ((carrefourref02_Of.f k (wrap64 (bt778.1 * bt780.1)) (wrap64 (bt778.2 * bt780.2))).bind fun bt783 => (some (bt783.1, bt783.2.1, bt783.2.2))) else ((carrefourref01_Size.f bt778.1).bind fun t786 => ((carrefourref01_Size.f bt780.1).bind fun t787 => ((carrefourref01_Times.f k t786 t787).bind fun t788 => ((carrefourref02_trim.f k t788).bind fun t791 => ((carrefourref01_Times.f k (IntKind.u64.wrap (bt778.2)) (IntKind.u64.wrap (bt780.2))).bind fun t794 => ((carrefourref02_trim.f k t794).bind fun t797 => ((carrefourref02_lowest.f k t791 t797 ((decide (bt778.1 < 0)) != (decide (bt780.1 < 0)))).bind fun bt800 => (some (bt800.1, bt800.2.1, bt800.2.2))))))))))))) = some (r1, r2, r3) := h
  clear h
  replace H := bi_ H; obtain ⟨⟨t778, t779⟩, A3, H⟩ := H
  (try dsimp only at H)
  replace H := bi_ H; obtain ⟨⟨t780, t781⟩, A4, H⟩ := H
  (try dsimp only at H)
  replace H := bi_ H; obtain ⟨t782, A5, H⟩ := H
  (try dsimp only at H)
  by_cases c6 : t782 = true
  · subst c6
    have H1 : ((carrefourref02_Of.f k (wrap64 (t778 * t780)) (wrap64 (t779 * t781))).bind fun bt783 => (some (bt783.1, bt783.2.1, bt783.2.2))) = some (r1, r2, r3) := by rw [if_pos rfl] at H; exact H
    clear H
    have H := H1
    clear H1
    replace H := bi_ H; obtain ⟨⟨t783, t784, t785⟩, A7, H⟩ := H
    (try dsimp only at H)
    simp only [Option.some.injEq, Prod.mk.injEq] at H
    obtain ⟨rfl, rfl, rfl⟩ := H
    go_enter Tryd.func22, Tryd.ntmps22
    go_wp2_with (first | ((with_reducible refine gd 2 rfl ?_); refine bx_ 2 23 #[.int .i64 a0_0, .int .i64 a0_1] rfl rfl ?_; intro gb775 hg w8 BK775 hb; have GE775 := bz HB hg; replace HB := bs HB hb; clear hb hg) | ((with_reducible refine gd 3 rfl ?_); refine bx_ 3 23 #[.int .i64 a1_0, .int .i64 a1_1] rfl rfl ?_; intro gb776 hg w9 BK776 hb; have GE776 := bz HB hg; have ⟨NB775_776, NB776_775⟩ := nb BK775 hg; replace BK775 := bb BK775 hb; replace HB := bs HB hb; clear hb hg) | ((with_reducible refine gd 4 rfl ?_); refine bx_ 4 23 #[.int .i64 0, .int .i64 0] rfl rfl ?_; intro gb777 hg w10 BK777 hb; have GE777 := bz HB hg; have ⟨NB775_777, NB777_775⟩ := nb BK775 hg; have ⟨NB776_777, NB777_776⟩ := nb BK776 hg; replace BK775 := bb BK775 hb; replace BK776 := bb BK776 hb; replace HB := bs HB hb; clear hb hg; have hnb11 := nn NB775_776; have hnb12 := nn NB775_777; have hcz13 := k2 BK775) | ((with_reducible refine gc 39 rfl ?_); refine gm_ (some 9) rfl rfl Tryd.func39 (carrefourref02_Norm.calls _ _ _ _ _ _ A3.out) ag ?_; intro w14 hb; replace BK775 := bb BK775 hb; replace BK776 := bb BK776 hb; replace BK777 := bb BK777 hb; replace HB := bs HB hb; (try clear hb); have hcz15 := k2 BK775; have hnb16 := nn NB776_777; have hcz17 := k2 BK776) | ((with_reducible refine gc 39 rfl ?_); refine gm_ (some 11) rfl rfl Tryd.func39 (carrefourref02_Norm.calls _ _ _ _ _ _ A4.out) ag ?_; intro w18 hb; replace BK775 := bp_ #[.int .i64 t778, .int .i64 t779] BK775 hb; replace BK776 := bb BK776 hb; replace BK777 := bb BK777 hb; replace HB := bs HB hb; (try clear hb); have hcz19 := k2 BK776; have hcz20 := k2 BK775) | ((with_reducible refine gc 40 rfl ?_); refine gm_ (some 14) rfl rfl Tryd.func40 (carrefourref02_few.calls _ _ _ _ _ _ A5.out) ag ?_; intro w21 hb; replace BK775 := bb BK775 hb; replace BK776 := bp_ #[.int .i64 t780, .int .i64 t781] BK776 hb; replace BK777 := bb BK777 hb; replace HB := bs HB hb; (try clear hb); have hcz22 := k2 BK775; have hcz23 := k2 BK776) | ((with_reducible refine gc 17 rfl ?_); refine gm_ (some 25) rfl rfl Tryd.func17 (carrefourref02_Of.calls _ (wrap64 (t778 * t780)) (wrap64 (t779 * t781)) _ _ _ _ A7.out) ag ?_; intro w24 hb; replace BK777 := bb BK777 hb; replace HB := bs HB hb; (try clear hb); have hcz25 := k2 BK777))
    refine bodyPost_ret (results_ct rfl _ _ gb777 23 #[.int .i64 t783, .int .i64 t784] (0, 0) _ rfl (br_ BK777) Tryd.underlying23 rfl (by kernel_rfl)) rfl ?_
    exact ⟨ae, bf HB⟩
  · replace c6 := Bool.eq_false_iff.mpr c6
    subst c6
    have H1 : ((carrefourref01_Size.f t778).bind fun t786 => ((carrefourref01_Size.f t780).bind fun t787 => ((carrefourref01_Times.f k t786 t787).bind fun t788 => ((carrefourref02_trim.f k t788).bind fun t791 => ((carrefourref01_Times.f k (IntKind.u64.wrap (t779)) (IntKind.u64.wrap (t781))).bind fun t794 => ((carrefourref02_trim.f k t794).bind fun t797 => ((carrefourref02_lowest.f k t791 t797 ((decide (t778 < 0)) != (decide (t780 < 0)))).bind fun bt800 => (some (bt800.1, bt800.2.1, bt800.2.2))))))))) = some (r1, r2, r3) := by rw [if_neg (show ¬ (false = true) by decide)] at H; exact H
    clear H
    have H := H1
    clear H1
    replace H := bi_ H; obtain ⟨t786, A26, H⟩ := H
    (try dsimp only at H)
    replace H := bi_ H; obtain ⟨t787, A27, H⟩ := H
    (try dsimp only at H)
    replace H := bi_ H; obtain ⟨t788, A28, H⟩ := H
    (try dsimp only at H)
    replace H := bi_ H; obtain ⟨t791, A29, H⟩ := H
    (try dsimp only at H)
    replace H := bi_ H; obtain ⟨t794, A30, H⟩ := H
    (try dsimp only at H)
    replace H := bi_ H; obtain ⟨t797, A31, H⟩ := H
    (try dsimp only at H)
    replace H := bi_ H; obtain ⟨⟨t800, t801, t802⟩, A32, H⟩ := H
    (try dsimp only at H)
    simp only [Option.some.injEq, Prod.mk.injEq] at H
    obtain ⟨rfl, rfl, rfl⟩ := H
    go_enter Tryd.func22, Tryd.ntmps22
    try go_wp2_with (first | ((with_reducible refine gd 2 rfl ?_); refine bx_ 2 23 #[.int .i64 a0_0, .int .i64 a0_1] rfl rfl ?_; intro gb775 hg w33 BK775 hb; have GE775 := bz HB hg; replace HB := bs HB hb; clear hb hg) | ((with_reducible refine gd 3 rfl ?_); refine bx_ 3 23 #[.int .i64 a1_0, .int .i64 a1_1] rfl rfl ?_; intro gb776 hg w34 BK776 hb; have GE776 := bz HB hg; have ⟨NB775_776, NB776_775⟩ := nb BK775 hg; replace BK775 := bb BK775 hb; replace HB := bs HB hb; clear hb hg) | ((with_reducible refine gd 4 rfl ?_); refine bx_ 4 23 #[.int .i64 0, .int .i64 0] rfl rfl ?_; intro gb777 hg w35 BK777 hb; have GE777 := bz HB hg; have ⟨NB775_777, NB777_775⟩ := nb BK775 hg; have ⟨NB776_777, NB777_776⟩ := nb BK776 hg; replace BK775 := bb BK775 hb; replace BK776 := bb BK776 hb; replace HB := bs HB hb; clear hb hg; have hnb36 := nn NB775_776; have hnb37 := nn NB775_777; have hcz38 := k2 BK775) | ((with_reducible refine gc 39 rfl ?_); refine gm_ (some 9) rfl rfl Tryd.func39 (carrefourref02_Norm.calls _ _ _ _ _ _ A3.out) ag ?_; intro w39 hb; replace BK775 := bb BK775 hb; replace BK776 := bb BK776 hb; replace BK777 := bb BK777 hb; replace HB := bs HB hb; (try clear hb); have hcz40 := k2 BK775; have hnb41 := nn NB776_777; have hcz42 := k2 BK776) | ((with_reducible refine gc 39 rfl ?_); refine gm_ (some 11) rfl rfl Tryd.func39 (carrefourref02_Norm.calls _ _ _ _ _ _ A4.out) ag ?_; intro w43 hb; replace BK775 := bp_ #[.int .i64 t778, .int .i64 t779] BK775 hb; replace BK776 := bb BK776 hb; replace BK777 := bb BK777 hb; replace HB := bs HB hb; (try clear hb); have hcz44 := k2 BK776; have hcz45 := k2 BK775) | ((with_reducible refine gc 40 rfl ?_); refine gm_ (some 14) rfl rfl Tryd.func40 (carrefourref02_few.calls _ _ _ _ _ _ A5.out) ag ?_; intro w46 hb; replace BK775 := bb BK775 hb; replace BK776 := bp_ #[.int .i64 t780, .int .i64 t781] BK776 hb; replace BK777 := bb BK777 hb; replace HB := bs HB hb; (try clear hb)))
    replace BK775 := Aside0.mk (blk_drew BK775.out)
    replace BK776 := Aside0.mk (blk_drew BK776.out)
    replace BK777 := Aside0.mk (blk_drew BK777.out)
    replace HB := Aside0.mk (below_drew1 HB.out)
    refine start_ (n := 9) (S := fun w' => c_ w' gb775 0 (.int .i64 t778) ∧ c_ w' gb775 1 (.int .i64 t779) ∧ c_ w' gb776 0 (.int .i64 t780) ∧ c_ w' gb776 1 (.int .i64 t781)) (ds := []) (m_ 9 0) (by kernel_rfl) rfl rfl ⟨ct BK775 0, ct BK775 1, ct BK776 0, ct BK776 1⟩ (fun hHeld => ?_); refine with_tabW carrefourref02_Mul.tab5 carrefourref02_Mul.bits5 (fun HT_ HW_ => ?_)
    generalize w46.drew = w47 at BK775 BK776 BK777 HB hHeld ⊢
    refine pu_ 0 (some 28) (m_ 9 1) rfl rfl (ao HT_) ?_
    refine pu_ 3 (some 31) (m_ 9 9) rfl rfl (ao HT_) ?_
    refine tk_ 1 (some 29) (m_ 9 11) rfl rfl (tw HT_ HW_) hHeld ?_
    refine tk_ 4 (some 32) (m_ 9 27) rfl rfl (tw HT_ HW_) hHeld ?_
    refine o1_ 2 (some 30) (m_ 9 31) rfl rfl (oo HT_) (fun K hK => ?_)
    refine gs_ rfl Tryd.func43 (carrefourref01_Size.calls _ _ _ A26.out) ag ?_
    rintro w' ⟨nd, rfl⟩
    refine hK.out _ _ ⟨ct BK775 0, ct BK775 1, ct BK776 0, ct BK776 1⟩ (fun hHeld => ?_)
    clear hK K
    refine nr_ (some 30) ?_
    refine o1_ 5 (some 33) (m_ 9 63) rfl rfl (oo HT_) (fun K hK => ?_)
    refine gs_ rfl Tryd.func43 (carrefourref01_Size.calls _ _ _ A27.out) ag ?_
    rintro w' ⟨nd, rfl⟩
    refine hK.out _ _ ⟨ct BK775 0, ct BK775 1, ct BK776 0, ct BK776 1⟩ (fun hHeld => ?_)
    clear hK K
    refine nr_ (some 33) ?_
    refine o1_ 6 (some 34) (m_ 9 127) rfl rfl (oo HT_) (fun K hK => ?_)
    refine goes_ Tryd.func42 (by kernel_rfl) rfl #[.int .u64 t786, .int .u64 t787] (by rfl) rfl rfl ag ?_
    with_reducible refine (carrefourref01_Times.calls _ _ _ _ _ A28.out).mono ?_
    rintro e w48 ⟨v789, rfl, ho0, hb⟩
    refine ⟨_, rfl, ?_⟩
    have HO790 := Aside0.mk (Kd.R_lower ho0 (below_size (bf HB)))
    replace BK775 := bb BK775 hb
    replace BK776 := bb BK776 hb
    replace BK777 := bb BK777 hb
    replace HB := bs HB hb
    (try clear hb); (try clear ho0)
    obtain ⟨Ao49, co49, eo49⟩ := Kd.R_slice HO790.out
    (first | subst eo49 | (injection eo49 with f1_ f2_ f3_; have f4_ := f1_.symm; have f5_ := f3_.symm; clear f1_ f2_ f3_; subst f4_; subst f5_))
    refine hK.out _ _ ⟨ct BK775 0, ct BK775 1, ct BK776 0, ct BK776 1⟩ (fun hHeld => ?_)
    clear hK K
    refine nr_ (some 34) ?_
    refine o1_ 7 (some 35) (m_ 9 255) rfl rfl (oo HT_) (fun K hK => ?_)
    refine goes_ Tryd.func41 (by kernel_rfl) rfl #[.slice Ao49 t788.length co49] (by rfl) rfl rfl ag ?_
    with_reducible refine (carrefourref02_trim.calls _ _ _ _ _ _ ?side1 ?side2 A29.out).mono ?_
    (case side1 => exact rc HO790)
    (case side2 => exact (Kd.R_reads' HO790.out).2.1)
    rintro e w50 ⟨v792, rfl, ho0, hb⟩
    refine ⟨_, rfl, ?_⟩
    have HO793 := Aside0.mk (Kd.R_lower (Kd.R_new' ho0 (rl HO790)) (below_size (bf HB)))
    replace HO790 := re_ HO790 (Kd.R_base ho0) hb
    replace BK775 := bb BK775 hb
    replace BK776 := bb BK776 hb
    replace BK777 := bb BK777 hb
    replace HB := bs HB hb
    (try clear hb); (try clear ho0)
    refine hK.out _ _ ⟨ct BK775 0, ct BK775 1, ct BK776 0, ct BK776 1⟩ (fun hHeld => ?_)
    clear hK K
    refine nr_ (some 35) ?_
    refine pu_ 8 (some 6) (m_ 9 511) rfl rfl (ao HT_) ?_
    refine done_ (done_of HT_.out (by kernel_rfl)) ?_
    have hcz51 := k2 BK775
    have hcz52 := k2 BK776
    try go_wp2_with (first | ((with_reducible refine gc 42 rfl ?_); refine gl_ (some 42) rfl rfl Tryd.func42 ((carrefourref01_Times.calls _ (IntKind.u64.wrap (t779)) (IntKind.u64.wrap (t781)) _ _ A30.out).mono ?_) ag; rintro e w53 ⟨v795, rfl, ho0, hb⟩; refine ⟨_, rfl, ?_⟩; have HO796 := Aside0.mk (Kd.R_lower (Kd.R_new' (Kd.R_new' ho0 (rl HO790)) (rl HO793)) (below_size (bf HB))); replace HO790 := re_ HO790 (Kd.R_base ho0) hb; replace HO793 := re_ HO793 (Kd.R_base ho0) hb; replace BK775 := bb BK775 hb; replace BK776 := bb BK776 hb; replace BK777 := bb BK777 hb; replace HB := bs HB hb; (try clear hb); (try clear ho0); obtain ⟨Ao54, co54, eo54⟩ := Kd.R_slice HO796.out; subst eo54) | ((with_reducible refine gc 41 rfl ?_); refine gl_ (some 43) rfl rfl Tryd.func41 ((carrefourref02_trim.calls _ _ _ _ _ _ ?side1 ?side2 A31.out).mono ?_) ag; (case side1 => exact rc HO796); (case side2 => exact (Kd.R_reads' HO796.out).2.1); rintro e w55 ⟨v798, rfl, ho0, hb⟩; refine ⟨_, rfl, ?_⟩; have HO799 := Aside0.mk (Kd.R_lower (Kd.R_new' (Kd.R_new' (Kd.R_new' ho0 (rl HO790)) (rl HO793)) (rl HO796)) (below_size (bf HB))); replace HO790 := re_ HO790 (Kd.R_base ho0) hb; replace HO793 := re_ HO793 (Kd.R_base ho0) hb; replace HO796 := re_ HO796 (Kd.R_base ho0) hb; replace BK775 := bb BK775 hb; replace BK776 := bb BK776 hb; replace BK777 := bb BK777 hb; replace HB := bs HB hb; (try clear hb); (try clear ho0); have hcz56 := k2 BK775; have hcz57 := k2 BK776; obtain ⟨Ao58, co58, eo58⟩ := Kd.R_slice HO793.out; subst eo58; obtain ⟨Ao59, co59, eo59⟩ := Kd.R_slice HO799.out; subst eo59) | ((with_reducible refine gc 44 rfl ?_); refine gm_ (some 53) rfl rfl Tryd.func44 (carrefourref02_lowest.calls _ (fun k_ => some k_ = (.slice Ao58 t791.length co58 : Value).ownBlock) _ _ _ (fun k_ => some k_ = (.slice Ao59 t797.length co59 : Value).ownBlock) _ _ _ ((decide (t778 < 0)) != (decide (t780 < 0))) _ _ _ _ ?side1 ?side2 A32.out) ag ?_; (case side1 => exact Kd.R_V (Kd.R_tight rfl (Kd.R_types (Kd.R_types (Kd.R_types (HO793.out) BK775.out (by decide)) BK776.out (by decide)) BK777.out (by decide)))); (case side2 => exact Kd.R_V (Kd.R_tight rfl (Kd.R_types (Kd.R_types (Kd.R_types (HO799.out) BK775.out (by decide)) BK776.out (by decide)) BK777.out (by decide)))); intro w60 hb; replace HO790 := rb HO790 hb; replace HO793 := rb HO793 hb; replace HO796 := rb HO796 hb; replace HO799 := rb HO799 hb; replace BK777 := bb BK777 hb; replace HB := bs HB hb; (try clear hb); have hcz61 := k2 BK777))
    refine bodyPost_ret (results_ct rfl _ _ gb777 23 #[.int .i64 t800, .int .i64 t801] (0, 0) _ rfl (br_ BK777) Tryd.underlying23 rfl (by kernel_rfl)) rfl ?_
    exact ⟨ae, bf HB⟩

end Go.Proofs.YtjgnaccamakpdaaDoor.X
