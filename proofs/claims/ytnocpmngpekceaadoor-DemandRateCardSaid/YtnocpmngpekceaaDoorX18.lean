/- Walks: each '.calls' says that the Go function comes to what its Lean function tells. Conditions: as each theorem's head says. -/
import Derived.Test.YtnocpmngpekceaaDoorXD
import Derived.Test.YtnocpmngpekceaaDoorX0
import Derived.Test.YtnocpmngpekceaaDoorX1
import Derived.Test.YtnocpmngpekceaaDoorX6
import Derived.Test.YtnocpmngpekceaaDoorX11
import Derived.Test.YtnocpmngpekceaaDoorX15
import Derived.Test.YtnocpmngpekceaaDoorX17
namespace Go.Proofs.YtnocpmngpekceaaDoor.X
open Go.RowKit Go.Proofs.YtnocpmngpekceaaDoorW.PrintWords Go.Proofs.YtnocpmngpekceaaDoorW.PrintLast Go.Proofs.YtnocpmngpekceaaDoorW.PrintMore
attribute [local go_sem] max2_int min2_int max_two min_two max_three min_three max_four min_four   -- for this text's walks alone
set_option linter.unusedVariables false
set_option maxHeartbeats 8000000
set_option maxRecDepth 100000
set_option linter.unusedSimpArgs false

attribute [local go_sem high] eqA23
/-! ### demand_Volume: function 25 -/
theorem demand_Volume.calls (k : Nat) (a0_0 : ByteArray) (a0_1 : Int) (a0_2 : Int) (a0_3 : Int) (a0_4 : Int) (a0_5 : Int) (a0_6 : Int) (a0_7 : Int) (a0_8 : Int) (a0_9 : Int) (a0_10 : Int) (a1_0 : Int) (a1_1 : Int) (r1 : Int) (r2 : Int) (r3 : Int) (w : World) (h : demand_Volume.f k a0_0 a0_1 a0_2 a0_3 a0_4 a0_5 a0_6 a0_7 a0_8 a0_9 a0_10 a1_0 a1_1 = some (r1, r2, r3)) (hT : TabOK w) :
    Calls Tryd.prog 25 #[.agg #[.string a0_0, .int .i64 a0_1, .int .i64 a0_2, .int .i64 a0_3, .int .i64 a0_4, .int .i64 a0_5, .int .i64 a0_6, .int .i64 a0_7, .int .i64 a0_8, .int .i64 a0_9, .int .i64 a0_10], .agg #[.int .i64 a1_0, .int .i64 a1_1]] w fun e w' => e = .returned (.tuple #[.agg #[.int .i64 r1, .int .i64 r2], .int .i64 r3]) ∧ Below w.heap.size w w' := by
  have GT := Aside0.mk hT
  clear hT
  have hu50 := Tryd.underlying50
  have hu23 := Tryd.underlying23
  have hu82 := Tryd.underlying82
  have HB := Aside0.mk (Below.refl w.heap.size w)
  have H : ((demand_volume.f k a0_0 a0_1 a0_2 a0_3 a0_4 a0_5 a0_6 a0_7 a0_8 a0_9 a0_10 a1_0 a1_1).bind fun bt461 => (some (bt461.1, bt461.2.1, bt461.2.2))) = some (r1, r2, r3) := h
  clear h
  replace H := bi_ H; obtain ⟨⟨t461, t462, t463⟩, A3, H⟩ := H
  (try dsimp only at H)
  simp only [Option.some.injEq, Prod.mk.injEq] at H
  obtain ⟨rfl, rfl, rfl⟩ := H
  go_enter Tryd.func25, Tryd.ntmps25
  try go_wp2_with (first | ((with_reducible refine gd 2 rfl ?_); refine bx_ 2 50 #[.string a0_0, .int .i64 a0_1, .int .i64 a0_2, .int .i64 a0_3, .int .i64 a0_4, .int .i64 a0_5, .int .i64 a0_6, .int .i64 a0_7, .int .i64 a0_8, .int .i64 a0_9, .int .i64 a0_10] rfl rfl ?_; intro gb458 hg w4 BK458 hb; have GE458 := bz HB hg; replace HB := bs HB hb; clear hb hg) | ((with_reducible refine gd 3 rfl ?_); refine bx_ 3 23 #[.int .i64 a1_0, .int .i64 a1_1] rfl rfl ?_; intro gb459 hg w5 BK459 hb; have GE459 := bz HB hg; have ⟨NB458_459, NB459_458⟩ := nb BK458 hg; replace BK458 := bb BK458 hb; replace HB := bs HB hb; clear hb hg) | ((with_reducible refine gd 4 rfl ?_); refine bx_ 4 23 #[.int .i64 0, .int .i64 0] rfl rfl ?_; intro gb460 hg w6 BK460 hb; have GE460 := bz HB hg; have ⟨NB458_460, NB460_458⟩ := nb BK458 hg; have ⟨NB459_460, NB460_459⟩ := nb BK459 hg; replace BK458 := bb BK458 hb; replace BK459 := bb BK459 hb; replace HB := bs HB hb; clear hb hg; have hnb7 := nn NB458_459; have hnb8 := nn NB458_460; have hcz9 := X.k11 BK458; have hnb10 := nn NB459_460; have hcz11 := X.k2 BK459) | ((with_reducible refine gc 46 rfl ?_); refine gm_ (some 9) rfl rfl Tryd.func46 (demand_volume.calls _ _ _ _ _ _ _ _ _ _ _ _ _ _ _ _ _ _ A3.out (tt GT)) ag ?_; intro w12 hb; replace BK458 := bb BK458 hb; replace BK459 := bb BK459 hb; replace BK460 := bb BK460 hb; replace HB := bs HB hb; (try clear hb)) | ((with_reducible refine gd 6 rfl ?_); refine bx_ 6 82 #[.int .i64 0, .int .i64 0, .int .i64 0] rfl rfl ?_; intro gb464 hg w13 BK464 hb; have GE464 := bz HB hg; have ⟨NB458_464, NB464_458⟩ := nb BK458 hg; have ⟨NB459_464, NB464_459⟩ := nb BK459 hg; have ⟨NB460_464, NB464_460⟩ := nb BK460 hg; replace BK458 := bb BK458 hb; replace BK459 := bb BK459 hb; replace BK460 := bb BK460 hb; replace HB := bs HB hb; clear hb hg; have hnb14 := nn NB464_458; have hnb15 := nn NB464_459; have hnb16 := nn NB464_460; have hcz17 := X.k3 BK464))
  have n0_ : Aside0 ((((w13.setCell ⟨gb464, 0, none⟩ (.int .i64 t461)).setCell ⟨gb464, 1, none⟩ (.int .i64 t462)).setCell ⟨gb464, 2, none⟩ (.int .i64 t463)).heap[gb458]? = some (.cells #[.string a0_0, .int .i64 a0_1, .int .i64 a0_2, .int .i64 a0_3, .int .i64 a0_4, .int .i64 a0_5, .int .i64 a0_6, .int .i64 a0_7, .int .i64 a0_8, .int .i64 a0_9, .int .i64 a0_10] 50 (0, 0))) := bu_ BK458
  have n1_ : Aside0 ((((w13.setCell ⟨gb464, 0, none⟩ (.int .i64 t461)).setCell ⟨gb464, 1, none⟩ (.int .i64 t462)).setCell ⟨gb464, 2, none⟩ (.int .i64 t463)).heap[gb459]? = some (.cells #[.int .i64 a1_0, .int .i64 a1_1] 23 (0, 0))) := bu_ BK459
  have n2_ : Aside0 ((((w13.setCell ⟨gb464, 0, none⟩ (.int .i64 t461)).setCell ⟨gb464, 1, none⟩ (.int .i64 t462)).setCell ⟨gb464, 2, none⟩ (.int .i64 t463)).heap[gb460]? = some (.cells #[.int .i64 0, .int .i64 0] 23 (0, 0))) := bu_ BK460
  have n3_ : Aside0 ((((w13.setCell ⟨gb464, 0, none⟩ (.int .i64 t461)).setCell ⟨gb464, 1, none⟩ (.int .i64 t462)).setCell ⟨gb464, 2, none⟩ (.int .i64 t463)).heap[gb464]? = some (.cells #[.int .i64 t461, .int .i64 t462, .int .i64 t463] 82 (0, 0))) := bq_ BK464
  have n4_ : Aside0 (Below w.heap.size w (((w13.setCell ⟨gb464, 0, none⟩ (.int .i64 t461)).setCell ⟨gb464, 1, none⟩ (.int .i64 t462)).setCell ⟨gb464, 2, none⟩ (.int .i64 t463))) := ⟨bf HB⟩
  (try clear BK458); (try clear BK459); (try clear BK460); (try clear BK464); (try clear HB)
  generalize (((w13.setCell ⟨gb464, 0, none⟩ (.int .i64 t461)).setCell ⟨gb464, 1, none⟩ (.int .i64 t462)).setCell ⟨gb464, 2, none⟩ (.int .i64 t463)) = w18 at n0_ n1_ n2_ n3_ n4_ ⊢
  have BK458 := n0_
  have BK459 := n1_
  have BK460 := n2_
  have BK464 := n3_
  have HB := n4_
  clear n0_ n1_ n2_ n3_ n4_
  replace BK458 := Aside0.mk (blk_drew BK458.out)
  replace BK459 := Aside0.mk (blk_drew BK459.out)
  replace BK460 := Aside0.mk (blk_drew BK460.out)
  replace BK464 := Aside0.mk (blk_drew BK464.out)
  replace HB := Aside0.mk (below_drew1 HB.out)
  refine start_ (n := 6) (S := fun w' => c_ w' gb464 0 (.int .i64 t461) ∧ c_ w' gb464 1 (.int .i64 t462) ∧ c_ w' gb464 2 (.int .i64 t463)) (ds := []) (m_ 6 0) (by kernel_rfl) rfl rfl ⟨ct BK464 0, ct BK464 1, ct BK464 2⟩ (fun hHeld => ?_)
  generalize w18.drew = w19 at BK458 BK459 BK460 BK464 HB hHeld ⊢
  refine pu_ 0 (some 10) (m_ 6 1) rfl rfl (by kernel_rfl) ?_
  refine pu_ 2 (some 12) (m_ 6 5) rfl rfl (by kernel_rfl) ?_
  refine tk_ 1 (some 11) (m_ 6 7) rfl rfl (by kernel_rfl) hHeld ?_
  refine tk_ 3 (some 13) (m_ 6 15) rfl rfl (by kernel_rfl) hHeld ?_
  refine o1_ 4 (none) (m_ 6 31) rfl rfl (by kernel_rfl) (fun K hK => ?_)
  have hs20 : c_ w19 gb460 0 (.int .i64 0) := ct BK460 0
  have hfs20 := blk_frozen BK460.out 0
  have hns20_0 := NB458_460.out
  have hns20_1 := NB459_460.out
  have hns20_3 := NB464_460.out
  have hms20_0 := NB460_458.out
  have hms20_1 := NB460_459.out
  have hms20_3 := NB460_464.out
  have hs21 : c_ w19 gb460 1 (.int .i64 0) := ct BK460 1
  have hfs21 := blk_frozen BK460.out 1
  have hns21_0 := NB458_460.out
  have hns21_1 := NB459_460.out
  have hns21_3 := NB464_460.out
  have hms21_0 := NB460_458.out
  have hms21_1 := NB460_459.out
  have hms21_3 := NB460_464.out
  refine skip_ (w1 := ?_) (by rfl) rfl ?_ ?_
  rotate_left
  · go_simp
    rfl
  refine hK.out _ _ ⟨((cell_far (p := ⟨gb460, _, none⟩) NB464_460.out _).trans (((cell_far (p := ⟨gb460, _, none⟩) NB464_460.out _).trans (hHeld.1)))), ((cell_far (p := ⟨gb460, _, none⟩) NB464_460.out _).trans (((cell_far (p := ⟨gb460, _, none⟩) NB464_460.out _).trans (hHeld.2.1)))), ((cell_far (p := ⟨gb460, _, none⟩) NB464_460.out _).trans (((cell_far (p := ⟨gb460, _, none⟩) NB464_460.out _).trans (hHeld.2.2))))⟩ (fun hHeld => ?_)
  clear hK K
  refine pu_ 5 (some 5) (m_ 6 63) rfl rfl (by kernel_rfl) ?_
  refine done_ (by kernel_rfl) ?_
  try go_wp2
  refine bodyPost_ret (results_ct rfl _ _ gb460 23 #[.int .i64 t461, .int .i64 t462] (0, 0) _ rfl (br_ BK460) Tryd.underlying23 rfl (by kernel_rfl)) rfl ?_
  exact ⟨ae, bf HB⟩

/-! ### demand_Ratio_1: function 48 -/
def demand_Ratio_1.T1 : Bool × List (List Nat × List Nat) := (true, [([], []), ([], []), ([1], [1]), ([2], [2]), ([0, 3, 3], [0, 3]), ([4], [4]), ([4], [4]), ([5, 4, 0, 1, 2, 3, 4, 5, 6], [5]), ([6, 7, 0, 1, 2, 3, 4, 5, 6, 7], [6])])
def demand_Ratio_1.B1 : List Nat := [0, 0, 2, 6, 15, 31, 31, 127, 255]
theorem demand_Ratio_1.tab1 : rtab .any (opsOf Tryd.f48 1) = demand_Ratio_1.T1 := by kernel_rfl
theorem demand_Ratio_1.bits1 : waitsOk demand_Ratio_1.T1.2 demand_Ratio_1.B1 = true := by kernel_rfl
theorem demand_Ratio_1.calls (k : Nat) (a0_0 : Int) (a0_1 : Int) (a1_0 : ByteArray) (a1_1 : Int) (a1_2 : Int) (a1_3 : Int) (a1_4 : Int) (a1_5 : Int) (a1_6 : Int) (a1_7 : Int) (a1_8 : Int) (a1_9 : Int) (a1_10 : Int) (r1 : Int) (r2 : Int) (r3 : Int) (gb465 : Nat) (w : World) (hcap0 : w.heap[gb465]? = some (.cells #[.string a1_0, .int .i64 a1_1, .int .i64 a1_2, .int .i64 a1_3, .int .i64 a1_4, .int .i64 a1_5, .int .i64 a1_6, .int .i64 a1_7, .int .i64 a1_8, .int .i64 a1_9, .int .i64 a1_10] 50 (0, 0))) (h : demand_Ratio_1.f k a0_0 a0_1 a1_0 a1_1 a1_2 a1_3 a1_4 a1_5 a1_6 a1_7 a1_8 a1_9 a1_10 = some (r1, r2, r3)) (hT : TabOK w) :
    Calls Tryd.prog 48 #[.agg #[.int .i64 a0_0, .int .i64 a0_1], .pointer (some ⟨gb465, 0, none⟩)] w fun e w' => e = .returned (.tuple #[.agg #[.int .i64 r1, .int .i64 r2], .int .i64 r3]) ∧ Below w.heap.size w w' := by
  have GT := Aside0.mk hT
  clear hT
  have hu50 := Tryd.underlying50
  have hu23 := Tryd.underlying23
  have HB := Aside0.mk (Below.refl w.heap.size w)
  have BK465 := Aside0.mk hcap0
  clear hcap0
  have H : ((demand_number.f a1_2).bind fun bt468 => ((frac_Div.f k a0_0 a0_1 bt468.1 bt468.2).bind fun bt470 => (some (bt470.1, bt470.2.1, bt470.2.2)))) = some (r1, r2, r3) := h
  clear h
  replace H := bi_ H; obtain ⟨⟨t468, t469⟩, A3, H⟩ := H
  (try dsimp only at H)
  replace H := bi_ H; obtain ⟨⟨t470, t471, t472⟩, A4, H⟩ := H
  (try dsimp only at H)
  simp only [Option.some.injEq, Prod.mk.injEq] at H
  obtain ⟨rfl, rfl, rfl⟩ := H
  go_enter Tryd.func48, Tryd.ntmps48
  try go_wp2_with (first | ((with_reducible refine gd 2 rfl ?_); refine bx_ 2 23 #[.int .i64 a0_0, .int .i64 a0_1] rfl rfl ?_; intro gb466 hg w6 BK466 hb; have GE466 := bz HB hg; have ⟨NB465_466, NB466_465⟩ := nb BK465 hg; replace BK465 := bb BK465 hb; replace HB := bs HB hb; clear hb hg) | ((with_reducible refine gd 3 rfl ?_); refine bx_ 3 23 #[.int .i64 0, .int .i64 0] rfl rfl ?_; intro gb467 hg w7 BK467 hb; have GE467 := bz HB hg; have ⟨NB465_467, NB467_465⟩ := nb BK465 hg; have ⟨NB466_467, NB467_466⟩ := nb BK466 hg; replace BK465 := bb BK465 hb; replace BK466 := bb BK466 hb; replace HB := bs HB hb; clear hb hg))
  replace BK465 := Aside0.mk (blk_drew BK465.out)
  replace BK466 := Aside0.mk (blk_drew BK466.out)
  replace BK467 := Aside0.mk (blk_drew BK467.out)
  replace HB := Aside0.mk (below_drew1 HB.out)
  refine start_ (n := 9) (S := fun w' => c_ w' gb466 0 (.int .i64 a0_0) ∧ c_ w' gb466 1 (.int .i64 a0_1) ∧ c_ w' gb465 0 (.string a1_0) ∧ c_ w' gb465 1 (.int .i64 a1_1) ∧ c_ w' gb465 2 (.int .i64 a1_2) ∧ c_ w' gb465 3 (.int .i64 a1_3) ∧ c_ w' gb465 4 (.int .i64 a1_4) ∧ c_ w' gb465 5 (.int .i64 a1_5) ∧ c_ w' gb465 6 (.int .i64 a1_6) ∧ c_ w' gb465 7 (.int .i64 a1_7) ∧ c_ w' gb465 8 (.int .i64 a1_8) ∧ c_ w' gb465 9 (.int .i64 a1_9) ∧ c_ w' gb465 10 (.int .i64 a1_10)) (ds := []) (m_ 9 0) (by kernel_rfl) rfl rfl ⟨ct BK466 0, ct BK466 1, ct BK465 0, ct BK465 1, ct BK465 2, ct BK465 3, ct BK465 4, ct BK465 5, ct BK465 6, ct BK465 7, ct BK465 8, ct BK465 9, ct BK465 10⟩ (fun hHeld => ?_); refine with_tabW demand_Ratio_1.tab1 demand_Ratio_1.bits1 (fun HT_ HW_ => ?_)
  generalize w7.drew = w8 at BK465 BK466 BK467 HB hHeld ⊢
  refine pu_ 1 (some 6) (m_ 9 2) rfl rfl (ao HT_) ?_
  refine tk_ 0 (some 5) (m_ 9 3) rfl rfl (tw HT_ HW_) hHeld ?_
  refine tk_ 2 (some 7) (m_ 9 7) rfl rfl (tw HT_ HW_) hHeld ?_
  refine o1_ 3 (some 8) (m_ 9 15) rfl rfl (oo HT_) (fun K hK => ?_)
  refine gs_ rfl Tryd.func50 (demand_number.calls _ _ _ _ A3.out) ag ?_
  intro w9 hb
  replace BK465 := bb BK465 hb
  replace BK466 := bb BK466 hb
  replace BK467 := bb BK467 hb
  replace HB := bs HB hb
  (try clear hb)
  refine hK.out _ _ ⟨ct BK466 0, ct BK466 1, ct BK465 0, ct BK465 1, ct BK465 2, ct BK465 3, ct BK465 4, ct BK465 5, ct BK465 6, ct BK465 7, ct BK465 8, ct BK465 9, ct BK465 10⟩ (fun hHeld => ?_)
  clear hK K
  refine nr_ (some 8) ?_
  refine o1_ 4 (some 9) (m_ 9 31) rfl rfl (oo HT_) (fun K hK => ?_)
  refine gs_ rfl Tryd.func49 (frac_Div.calls _ _ _ _ _ _ _ _ _ A4.out (tt GT)) ag ?_
  intro w10 hb
  replace BK465 := bb BK465 hb
  replace BK466 := bb BK466 hb
  replace BK467 := bb BK467 hb
  replace HB := bs HB hb
  (try clear hb)
  refine hK.out _ _ ⟨ct BK466 0, ct BK466 1, ct BK465 0, ct BK465 1, ct BK465 2, ct BK465 3, ct BK465 4, ct BK465 5, ct BK465 6, ct BK465 7, ct BK465 8, ct BK465 9, ct BK465 10⟩ (fun hHeld => ?_)
  clear hK K
  refine nr_ (some 9) ?_
  refine pu_ 5 (some 10) (m_ 9 63) rfl rfl (ao HT_) ?_
  refine pu_ 6 (some 11) (m_ 9 127) rfl rfl (ao HT_) ?_
  refine o1_ 7 (none) (m_ 9 255) rfl rfl (oo HT_) (fun K hK => ?_)
  have hs11 : c_ w10 gb467 0 (.int .i64 0) := ct BK467 0
  have hfs11 := blk_frozen BK467.out 0
  have hns11_0 := NB465_467.out
  have hns11_1 := NB466_467.out
  have hms11_0 := NB467_465.out
  have hms11_1 := NB467_466.out
  have hs12 : c_ w10 gb467 1 (.int .i64 0) := ct BK467 1
  have hfs12 := blk_frozen BK467.out 1
  have hns12_0 := NB465_467.out
  have hns12_1 := NB466_467.out
  have hms12_0 := NB467_465.out
  have hms12_1 := NB467_466.out
  refine skip_ (w1 := ?_) (by rfl) rfl ?_ ?_
  rotate_left
  · go_simp
    rfl
  refine hK.out _ _ ⟨((cell_far (p := ⟨gb467, _, none⟩) NB466_467.out _).trans (((cell_far (p := ⟨gb467, _, none⟩) NB466_467.out _).trans (hHeld.1)))), ((cell_far (p := ⟨gb467, _, none⟩) NB466_467.out _).trans (((cell_far (p := ⟨gb467, _, none⟩) NB466_467.out _).trans (hHeld.2.1)))), ((cell_far (p := ⟨gb467, _, none⟩) NB465_467.out _).trans (((cell_far (p := ⟨gb467, _, none⟩) NB465_467.out _).trans (hHeld.2.2.1)))), ((cell_far (p := ⟨gb467, _, none⟩) NB465_467.out _).trans (((cell_far (p := ⟨gb467, _, none⟩) NB465_467.out _).trans (hHeld.2.2.2.1)))), ((cell_far (p := ⟨gb467, _, none⟩) NB465_467.out _).trans (((cell_far (p := ⟨gb467, _, none⟩) NB465_467.out _).trans (hHeld.2.2.2.2.1)))), ((cell_far (p := ⟨gb467, _, none⟩) NB465_467.out _).trans (((cell_far (p := ⟨gb467, _, none⟩) NB465_467.out _).trans (hHeld.2.2.2.2.2.1)))), ((cell_far (p := ⟨gb467, _, none⟩) NB465_467.out _).trans (((cell_far (p := ⟨gb467, _, none⟩) NB465_467.out _).trans (hHeld.2.2.2.2.2.2.1)))), ((cell_far (p := ⟨gb467, _, none⟩) NB465_467.out _).trans (((cell_far (p := ⟨gb467, _, none⟩) NB465_467.out _).trans (hHeld.2.2.2.2.2.2.2.1)))), ((cell_far (p := ⟨gb467, _, none⟩) NB465_467.out _).trans (((cell_far (p := ⟨gb467, _, none⟩) NB465_467.out _).trans (hHeld.2.2.2.2.2.2.2.2.1)))), ((cell_far (p := ⟨gb467, _, none⟩) NB465_467.out _).trans (((cell_far (p := ⟨gb467, _, none⟩) NB465_467.out _).trans (hHeld.2.2.2.2.2.2.2.2.2.1)))), ((cell_far (p := ⟨gb467, _, none⟩) NB465_467.out _).trans (((cell_far (p := ⟨gb467, _, none⟩) NB465_467.out _).trans (hHeld.2.2.2.2.2.2.2.2.2.2.1)))), ((cell_far (p := ⟨gb467, _, none⟩) NB465_467.out _).trans (((cell_far (p := ⟨gb467, _, none⟩) NB465_467.out _).trans (hHeld.2.2.2.2.2.2.2.2.2.2.2.1)))), ((cell_far (p := ⟨gb467, _, none⟩) NB465_467.out _).trans (((cell_far (p := ⟨gb467, _, none⟩) NB465_467.out _).trans (hHeld.2.2.2.2.2.2.2.2.2.2.2.2))))⟩ (fun hHeld => ?_)
  clear hK K
  refine pu_ 8 (some 4) (m_ 9 511) rfl rfl (ao HT_) ?_
  refine done_ (done_of HT_.out (by kernel_rfl)) ?_
  try go_wp2
  refine bodyPost_ret (results_ct rfl _ _ gb467 23 #[.int .i64 t470, .int .i64 t471] (0, 0) _ rfl (br_ BK467) Tryd.underlying23 rfl (by kernel_rfl)) rfl ?_
  exact ⟨ae, bf HB⟩


/-! ### demand_Ratio: function 26 -/
theorem demand_Ratio.calls (k : Nat) (a0_0 : ByteArray) (a0_1 a0_2 a0_3 a0_4 a0_5 a0_6 a0_7 a0_8 a0_9 a0_10 a1_0 a1_1 : Int) (r1 r2 r3 : Int) (w : World) (h : demand_Ratio.f k a0_0 a0_1 a0_2 a0_3 a0_4 a0_5 a0_6 a0_7 a0_8 a0_9 a0_10 a1_0 a1_1 = some (r1, r2, r3)) (hT : TabOK w) :
    Calls Tryd.prog 26 #[.agg #[.string a0_0, .int .i64 a0_1, .int .i64 a0_2, .int .i64 a0_3, .int .i64 a0_4, .int .i64 a0_5, .int .i64 a0_6, .int .i64 a0_7, .int .i64 a0_8, .int .i64 a0_9, .int .i64 a0_10], .agg #[.int .i64 a1_0, .int .i64 a1_1]] w fun e w' => e = .returned (.tuple #[.agg #[.int .i64 r1, .int .i64 r2], .int .i64 r3]) ∧ Below w.heap.size w w' := by
  have GT := Aside0.mk hT
  clear hT
  have hu1 := Tryd.underlying82
  have hu2 := Tryd.underlying23
  have hu3 := Tryd.underlying50
  have hmf : ∀ (fn : Fn) (first cap : Array Value) (w : World), (Instr.makeFunc fn first cap).run Tryd.prog w = .ok (.func fn first cap) w := fun _ _ _ _ => rfl
  have HB := Aside0.mk (Below.refl w.heap.size w)
  have H : ((demand_volume.f k a0_0 a0_1 a0_2 a0_3 a0_4 a0_5 a0_6 a0_7 a0_8 a0_9 a0_10 a1_0 a1_1).bind fun a => if a.2.2 = 0 then demand_Ratio_1.f k a.1 a.2.1 a0_0 a0_1 a0_2 a0_3 a0_4 a0_5 a0_6 a0_7 a0_8 a0_9 a0_10 else some a) = some (r1, r2, r3) := h
  clear h
  replace H := bi_ H; obtain ⟨⟨x0, x1, x2⟩, A1, H⟩ := H
  (try dsimp only at H)
  by_cases c1 : x2 = 0
  · subst c1
    rw [if_pos rfl] at H
    have A2 := Aside0.mk H
    clear H
    go_enter Tryd.func26, Tryd.ntmps26
    try go_wp2_with (first | ((with_reducible refine gd 2 rfl ?_); refine bx_ 2 50 #[.string a0_0, .int .i64 a0_1, .int .i64 a0_2, .int .i64 a0_3, .int .i64 a0_4, .int .i64 a0_5, .int .i64 a0_6, .int .i64 a0_7, .int .i64 a0_8, .int .i64 a0_9, .int .i64 a0_10] rfl rfl ?_; intro g2 hg w1 BK2 hb; have GE2 := bz HB hg; replace HB := bs HB hb; clear hb hg) | ((with_reducible refine gd 3 rfl ?_); refine bx_ 3 23 #[.int .i64 a1_0, .int .i64 a1_1] rfl rfl ?_; intro g3 hg w2 BK3 hb; have GE3 := bz HB hg; have ⟨NB2_3, NB3_2⟩ := nb BK2 hg; replace BK2 := bb BK2 hb; replace HB := bs HB hb; clear hb hg) | ((with_reducible refine gd 4 rfl ?_); refine bx_ 4 23 #[.int .i64 0, .int .i64 0] rfl rfl ?_; intro g4 hg w3 BK4 hb; have GE4 := bz HB hg; have ⟨NB2_4, NB4_2⟩ := nb BK2 hg; have ⟨NB3_4, NB4_3⟩ := nb BK3 hg; replace BK2 := bb BK2 hb; replace BK3 := bb BK3 hb; replace HB := bs HB hb; clear hb hg; have hz2 := X.k11 BK2; have hz3 := X.k2 BK3) | ((with_reducible refine gc 46 rfl ?_); refine gm_ (some 9) rfl rfl Tryd.func46 (demand_volume.calls _ _ _ _ _ _ _ _ _ _ _ _ _ _ _ _ _ _ A1.out (tt GT)) ag ?_; intro w4 hb; replace BK2 := bb BK2 hb; replace BK4 := bb BK4 hb; replace HB := bs HB hb; clear hb hz2 hz3 BK3) | (go_at_call 47; (with_reducible refine (demand_then_ok 48 Tryd.f48 #[.pointer (some ⟨g2, 0, none⟩)] Tryd.func48 (by kernel_rfl) rfl x0 x1 r1 r2 r3 _ ?hdo).mono ?_); (case hdo => exact fun w1 hb1 => (show Calls Tryd.prog 48 #[.agg #[.int .i64 x0, .int .i64 x1], .pointer (some ⟨g2, 0, none⟩)] w1 _ from demand_Ratio_1.calls k x0 x1 a0_0 a0_1 a0_2 a0_3 a0_4 a0_5 a0_6 a0_7 a0_8 a0_9 a0_10 r1 r2 r3 g2 w1 (blk_below (bx BK2) hb1) A2.out (GT.out.below (below_step (bf HB) hb1)))); rintro e w5 ⟨rfl, hb⟩; replace BK4 := bb BK4 hb; replace HB := bs HB hb; clear hb BK2) | ((with_reducible refine gd 6 rfl ?_); refine bx_ 6 82 #[.int .i64 0, .int .i64 0, .int .i64 0] rfl rfl ?_; intro g6 hg w6 BK6 hb; have GE6 := bz HB hg; have ⟨NB4_6, NB6_4⟩ := nb BK4 hg; replace BK4 := bb BK4 hb; replace HB := bs HB hb; clear hb hg; have hn64 := nn NB6_4; have hz6 := X.k3 BK6))
    have n2_ : Aside0 ((((w6.setCell ⟨g6, 0, none⟩ (.int .i64 r1)).setCell ⟨g6, 1, none⟩ (.int .i64 r2)).setCell ⟨g6, 2, none⟩ (.int .i64 r3)).heap[g4]? = some (.cells #[.int .i64 0, .int .i64 0] 23 (0, 0))) := bu_ BK4
    have n3_ : Aside0 ((((w6.setCell ⟨g6, 0, none⟩ (.int .i64 r1)).setCell ⟨g6, 1, none⟩ (.int .i64 r2)).setCell ⟨g6, 2, none⟩ (.int .i64 r3)).heap[g6]? = some (.cells #[.int .i64 r1, .int .i64 r2, .int .i64 r3] 82 (0, 0))) := bq_ BK6
    have n4_ : Aside0 (Below w.heap.size w (((w6.setCell ⟨g6, 0, none⟩ (.int .i64 r1)).setCell ⟨g6, 1, none⟩ (.int .i64 r2)).setCell ⟨g6, 2, none⟩ (.int .i64 r3))) := ⟨bf HB⟩
    clear BK4 BK6 HB hz6 hn64
    generalize (((w6.setCell ⟨g6, 0, none⟩ (.int .i64 r1)).setCell ⟨g6, 1, none⟩ (.int .i64 r2)).setCell ⟨g6, 2, none⟩ (.int .i64 r3)) = w18 at n2_ n3_ n4_ ⊢
    have BK4 := Aside0.mk (blk_drew n2_.out)
    have BK6 := Aside0.mk (blk_drew n3_.out)
    have HB := Aside0.mk (below_drew1 n4_.out)
    clear n2_ n3_ n4_
    refine start_ (n := 6) (S := fun w' => c_ w' g6 0 (.int .i64 r1) ∧ c_ w' g6 1 (.int .i64 r2) ∧ c_ w' g6 2 (.int .i64 r3)) (ds := []) (m_ 6 0) (by kernel_rfl) rfl rfl ⟨ct BK6 0, ct BK6 1, ct BK6 2⟩ (fun hHeld => ?_)
    generalize w18.drew = w19 at BK4 BK6 HB hHeld ⊢
    refine pu_ 0 (some 12) (m_ 6 1) rfl rfl (by kernel_rfl) ?_
    refine pu_ 2 (some 14) (m_ 6 5) rfl rfl (by kernel_rfl) ?_
    refine tk_ 1 (some 13) (m_ 6 7) rfl rfl (by kernel_rfl) hHeld ?_
    refine tk_ 3 (some 15) (m_ 6 15) rfl rfl (by kernel_rfl) hHeld ?_
    refine o1_ 4 (none) (m_ 6 31) rfl rfl (by kernel_rfl) (fun K hK => ?_)
    have hs20 : c_ w19 g4 0 (.int .i64 0) := ct BK4 0
    have hfs20 := blk_frozen BK4.out 0
    have hns20 := nn NB6_4
    have hs21 : c_ w19 g4 1 (.int .i64 0) := ct BK4 1
    have hfs21 := blk_frozen BK4.out 1
    refine skip_ (w1 := ?_) (by rfl) rfl ?_ ?_
    rotate_left
    · go_simp
      rfl
    refine hK.out _ _ ⟨((cell_far (p := ⟨g4, _, none⟩) NB6_4.out _).trans (((cell_far (p := ⟨g4, _, none⟩) NB6_4.out _).trans (hHeld.1)))), ((cell_far (p := ⟨g4, _, none⟩) NB6_4.out _).trans (((cell_far (p := ⟨g4, _, none⟩) NB6_4.out _).trans (hHeld.2.1)))), ((cell_far (p := ⟨g4, _, none⟩) NB6_4.out _).trans (((cell_far (p := ⟨g4, _, none⟩) NB6_4.out _).trans (hHeld.2.2))))⟩ (fun hHeld => ?_)
    clear hK K
    refine pu_ 5 (some 5) (m_ 6 63) rfl rfl (by kernel_rfl) ?_
    refine done_ (by kernel_rfl) ?_
    try go_wp2
    refine bodyPost_ret (results_ct rfl _ _ g4 23 #[.int .i64 r1, .int .i64 r2] (0, 0) _ rfl (br_ BK4) Tryd.underlying23 rfl (by kernel_rfl)) rfl ?_
    exact ⟨ae, bf HB⟩
  · have C1 := Aside0.mk c1
    clear c1
    rw [if_neg C1.out] at H
    simp only [Option.some.injEq, Prod.mk.injEq] at H
    obtain ⟨rfl, rfl, rfl⟩ := H
    go_enter Tryd.func26, Tryd.ntmps26
    try go_wp2_with (first | ((with_reducible refine gd 2 rfl ?_); refine bx_ 2 50 #[.string a0_0, .int .i64 a0_1, .int .i64 a0_2, .int .i64 a0_3, .int .i64 a0_4, .int .i64 a0_5, .int .i64 a0_6, .int .i64 a0_7, .int .i64 a0_8, .int .i64 a0_9, .int .i64 a0_10] rfl rfl ?_; intro g2 hg w1 BK2 hb; have GE2 := bz HB hg; replace HB := bs HB hb; clear hb hg) | ((with_reducible refine gd 3 rfl ?_); refine bx_ 3 23 #[.int .i64 a1_0, .int .i64 a1_1] rfl rfl ?_; intro g3 hg w2 BK3 hb; have GE3 := bz HB hg; have ⟨NB2_3, NB3_2⟩ := nb BK2 hg; replace BK2 := bb BK2 hb; replace HB := bs HB hb; clear hb hg) | ((with_reducible refine gd 4 rfl ?_); refine bx_ 4 23 #[.int .i64 0, .int .i64 0] rfl rfl ?_; intro g4 hg w3 BK4 hb; have GE4 := bz HB hg; have ⟨NB2_4, NB4_2⟩ := nb BK2 hg; have ⟨NB3_4, NB4_3⟩ := nb BK3 hg; replace BK2 := bb BK2 hb; replace BK3 := bb BK3 hb; replace HB := bs HB hb; clear hb hg; have hz2 := X.k11 BK2; have hz3 := X.k2 BK3) | ((with_reducible refine gc 46 rfl ?_); refine gm_ (some 9) rfl rfl Tryd.func46 (demand_volume.calls _ _ _ _ _ _ _ _ _ _ _ _ _ _ _ _ _ _ A1.out (tt GT)) ag ?_; intro w4 hb; replace BK2 := bb BK2 hb; replace BK4 := bb BK4 hb; replace HB := bs HB hb; clear hb hz2 hz3 BK3) | (go_at_call 47; (with_reducible refine (demand_then_err _ x0 x1 x2 _ C1.out).mono ?_); rintro e w5 ⟨rfl, hb⟩; replace BK4 := bb BK4 hb; replace HB := bs HB hb; clear hb BK2) | ((with_reducible refine gd 6 rfl ?_); refine bx_ 6 82 #[.int .i64 0, .int .i64 0, .int .i64 0] rfl rfl ?_; intro g6 hg w6 BK6 hb; have GE6 := bz HB hg; have ⟨NB4_6, NB6_4⟩ := nb BK4 hg; replace BK4 := bb BK4 hb; replace HB := bs HB hb; clear hb hg; have hn64 := nn NB6_4; have hz6 := X.k3 BK6))
    have n2_ : Aside0 ((((w6.setCell ⟨g6, 0, none⟩ (.int .i64 x0)).setCell ⟨g6, 1, none⟩ (.int .i64 x1)).setCell ⟨g6, 2, none⟩ (.int .i64 x2)).heap[g4]? = some (.cells #[.int .i64 0, .int .i64 0] 23 (0, 0))) := bu_ BK4
    have n3_ : Aside0 ((((w6.setCell ⟨g6, 0, none⟩ (.int .i64 x0)).setCell ⟨g6, 1, none⟩ (.int .i64 x1)).setCell ⟨g6, 2, none⟩ (.int .i64 x2)).heap[g6]? = some (.cells #[.int .i64 x0, .int .i64 x1, .int .i64 x2] 82 (0, 0))) := bq_ BK6
    have n4_ : Aside0 (Below w.heap.size w (((w6.setCell ⟨g6, 0, none⟩ (.int .i64 x0)).setCell ⟨g6, 1, none⟩ (.int .i64 x1)).setCell ⟨g6, 2, none⟩ (.int .i64 x2))) := ⟨bf HB⟩
    clear BK4 BK6 HB hz6 hn64
    generalize (((w6.setCell ⟨g6, 0, none⟩ (.int .i64 x0)).setCell ⟨g6, 1, none⟩ (.int .i64 x1)).setCell ⟨g6, 2, none⟩ (.int .i64 x2)) = w18 at n2_ n3_ n4_ ⊢
    have BK4 := Aside0.mk (blk_drew n2_.out)
    have BK6 := Aside0.mk (blk_drew n3_.out)
    have HB := Aside0.mk (below_drew1 n4_.out)
    clear n2_ n3_ n4_
    refine start_ (n := 6) (S := fun w' => c_ w' g6 0 (.int .i64 x0) ∧ c_ w' g6 1 (.int .i64 x1) ∧ c_ w' g6 2 (.int .i64 x2)) (ds := []) (m_ 6 0) (by kernel_rfl) rfl rfl ⟨ct BK6 0, ct BK6 1, ct BK6 2⟩ (fun hHeld => ?_)
    generalize w18.drew = w19 at BK4 BK6 HB hHeld ⊢
    refine pu_ 0 (some 12) (m_ 6 1) rfl rfl (by kernel_rfl) ?_
    refine pu_ 2 (some 14) (m_ 6 5) rfl rfl (by kernel_rfl) ?_
    refine tk_ 1 (some 13) (m_ 6 7) rfl rfl (by kernel_rfl) hHeld ?_
    refine tk_ 3 (some 15) (m_ 6 15) rfl rfl (by kernel_rfl) hHeld ?_
    refine o1_ 4 (none) (m_ 6 31) rfl rfl (by kernel_rfl) (fun K hK => ?_)
    have hs20 : c_ w19 g4 0 (.int .i64 0) := ct BK4 0
    have hfs20 := blk_frozen BK4.out 0
    have hns20 := nn NB6_4
    have hs21 : c_ w19 g4 1 (.int .i64 0) := ct BK4 1
    have hfs21 := blk_frozen BK4.out 1
    refine skip_ (w1 := ?_) (by rfl) rfl ?_ ?_
    rotate_left
    · go_simp
      rfl
    refine hK.out _ _ ⟨((cell_far (p := ⟨g4, _, none⟩) NB6_4.out _).trans (((cell_far (p := ⟨g4, _, none⟩) NB6_4.out _).trans (hHeld.1)))), ((cell_far (p := ⟨g4, _, none⟩) NB6_4.out _).trans (((cell_far (p := ⟨g4, _, none⟩) NB6_4.out _).trans (hHeld.2.1)))), ((cell_far (p := ⟨g4, _, none⟩) NB6_4.out _).trans (((cell_far (p := ⟨g4, _, none⟩) NB6_4.out _).trans (hHeld.2.2))))⟩ (fun hHeld => ?_)
    clear hK K
    refine pu_ 5 (some 5) (m_ 6 63) rfl rfl (by kernel_rfl) ?_
    refine done_ (by kernel_rfl) ?_
    try go_wp2
    refine bodyPost_ret (results_ct rfl _ _ g4 23 #[.int .i64 x0, .int .i64 x1] (0, 0) _ rfl (br_ BK4) Tryd.underlying23 rfl (by kernel_rfl)) rfl ?_
    exact ⟨ae, bf HB⟩

/-! ### carrefourlaw09_awake: function 6 -/
theorem carrefourlaw09_awake.calls (k : Nat)  (r : Bool) (w : World) (h : carrefourlaw09_awake.f k  = some r) (hT : TabOK w) :
    Calls Tryd.prog 6 #[] w fun e w' => e = .returned (.bool r) ∧ Below w.heap.size w w' := by
  have GT := Aside0.mk hT
  clear hT
  have hu23 := Tryd.underlying23
  have hu50 := Tryd.underlying50
  have HB := Aside0.mk (Below.refl w.heap.size w)
  have H : ((demand_Volume.f k (⟨#[]⟩ : ByteArray) 400 1800 21 20 0 0 0 0 0 0 9 10).bind fun bt475 => ((demand_Ratio.f k (⟨#[]⟩ : ByteArray) 400 1800 21 20 0 0 0 0 0 0 9 10).bind fun bt479 => ((demand_Rate.f k bt479.1 bt479.2.1 3).bind fun bt483 => (if bt475.2.2 = 0 then (if bt479.2.2 = 0 then (if bt483.2 = 0 then (if (bt475.1 == 1400 && (bt475.2.1 == 3)) = true then (if (bt479.1 == 7 && (bt479.2.1 == 27)) = true then (some (bt483.1.toList == ([48, 46, 50, 53, 57] : List UInt8))) else (some false)) else (some false)) else (some false)) else (some false)) else (some false))))) = some r := h
  clear h
  replace H := bi_ H; obtain ⟨⟨t475, t476, t477⟩, A1, H⟩ := H
  (try dsimp only at H)
  replace H := bi_ H; obtain ⟨⟨t479, t480, t481⟩, A2, H⟩ := H
  (try dsimp only at H)
  replace H := bi_ H; obtain ⟨⟨t483, t484⟩, A3, H⟩ := H
  (try dsimp only at H)
  by_cases c4 : t477 = 0
  · rw [if_pos c4] at H
    have c4b0 : (t477 == 0) = true := beq_iff_eq.mpr c4
    have c4b1 : (t477 != 0) = false := bne_eq_false_iff_eq.mpr c4
    clear c4
    by_cases c5 : t481 = 0
    · rw [if_pos c5] at H
      have c5b0 : (t481 == 0) = true := beq_iff_eq.mpr c5
      have c5b1 : (t481 != 0) = false := bne_eq_false_iff_eq.mpr c5
      clear c5
      by_cases c6 : t484 = 0
      · rw [if_pos c6] at H
        have c6b0 : (t484 == 0) = true := beq_iff_eq.mpr c6
        have c6b1 : (t484 != 0) = false := bne_eq_false_iff_eq.mpr c6
        clear c6
        by_cases c7 : (t475 == 1400 && (t476 == 3)) = true
        · rw [if_pos c7] at H
          have c7b0 : (t475 == 1400 && (t476 == 3)) = true := c7
          (try (have c7b1 : decide (t475 = 1400 && (t476 == 3)) = true := by simpa using c7))
          (try (have c7b2 : (t475 == 1400 && (t476 == 3)) = true := by simpa using c7))
          clear c7
          by_cases c8 : (t479 == 7 && (t480 == 27)) = true
          · rw [if_pos c8] at H
            have c8b0 : (t479 == 7 && (t480 == 27)) = true := c8
            (try (have c8b1 : decide (t479 = 7 && (t480 == 27)) = true := by simpa using c8))
            (try (have c8b2 : (t479 == 7 && (t480 == 27)) = true := by simpa using c8))
            clear c8
            obtain rfl := Option.some.inj H
            go_enter Tryd.func6, Tryd.ntmps6
            go_wp2_with (first | ((with_reducible refine gd 1 rfl ?_); refine bx_ 1 50 #[.string (⟨#[]⟩ : ByteArray), .int .i64 0, .int .i64 0, .int .i64 0, .int .i64 0, .int .i64 0, .int .i64 0, .int .i64 0, .int .i64 0, .int .i64 0, .int .i64 0] rfl rfl ?_; intro gb473 hg w9 BK473 hb; have GE473 := bz HB hg; replace HB := bs HB hb; clear hb hg; have hcz10 := X.k11 BK473) | ((with_reducible refine gd 2 rfl ?_); refine bx_ 2 23 #[.int .i64 0, .int .i64 0] rfl rfl ?_; intro gb474 hg w11 BK474 hb; have GE474 := bz HB hg; have NB473_474 := Aside0.mk ((by rw [hg]; exact Nat.ne_of_lt (blk_lt (g := gb473) (o := .cells #[.string (⟨#[]⟩ : ByteArray), .int .i64 400, .int .i64 1800, .int .i64 21, .int .i64 20, .int .i64 0, .int .i64 0, .int .i64 0, .int .i64 0, .int .i64 0, .int .i64 0] 50 (0, 0)) (br_ BK473)) : gb473 ≠ gb474)); have NB474_473 := Aside0.mk ((by rw [hg]; exact Nat.ne_of_gt (blk_lt (g := gb473) (o := .cells #[.string (⟨#[]⟩ : ByteArray), .int .i64 400, .int .i64 1800, .int .i64 21, .int .i64 20, .int .i64 0, .int .i64 0, .int .i64 0, .int .i64 0, .int .i64 0, .int .i64 0] 50 (0, 0)) (br_ BK473)) : gb474 ≠ gb473)); replace BK473 := bp_ #[.string (⟨#[]⟩ : ByteArray), .int .i64 400, .int .i64 1800, .int .i64 21, .int .i64 20, .int .i64 0, .int .i64 0, .int .i64 0, .int .i64 0, .int .i64 0, .int .i64 0] BK473 hb; replace HB := bs HB hb; clear hb hg; have hnb12 := nn NB474_473; have hcz13 := X.k2 BK474; have hcz14 := X.k11 BK473) | ((with_reducible refine gc 25 rfl ?_); refine gm_ (some 15) rfl rfl Tryd.func25 (demand_Volume.calls _ (⟨#[]⟩ : ByteArray) _ _ _ _ _ _ _ _ _ _ _ _ _ _ _ _ A1.out (tt GT)) ag ?_; intro w15 hb; replace BK473 := Aside0.mk (blk_below (g := gb473) (o := .cells #[.string (⟨#[]⟩ : ByteArray), .int .i64 400, .int .i64 1800, .int .i64 21, .int .i64 20, .int .i64 0, .int .i64 0, .int .i64 0, .int .i64 0, .int .i64 0, .int .i64 0] 50 (0, 0)) (bx BK473) hb); replace BK474 := bp_ #[.int .i64 9, .int .i64 10] BK474 hb; replace HB := bs HB hb; (try clear hb)) | ((with_reducible refine gd 3 rfl ?_); refine bx_ 3 23 #[.int .i64 0, .int .i64 0] rfl rfl ?_; intro gb478 hg w16 BK478 hb; have GE478 := bz HB hg; have NB473_478 := Aside0.mk ((by rw [hg]; exact Nat.ne_of_lt (blk_lt (g := gb473) (o := .cells #[.string (⟨#[]⟩ : ByteArray), .int .i64 400, .int .i64 1800, .int .i64 21, .int .i64 20, .int .i64 0, .int .i64 0, .int .i64 0, .int .i64 0, .int .i64 0, .int .i64 0] 50 (0, 0)) (bx BK473)) : gb473 ≠ gb478)); have NB478_473 := Aside0.mk ((by rw [hg]; exact Nat.ne_of_gt (blk_lt (g := gb473) (o := .cells #[.string (⟨#[]⟩ : ByteArray), .int .i64 400, .int .i64 1800, .int .i64 21, .int .i64 20, .int .i64 0, .int .i64 0, .int .i64 0, .int .i64 0, .int .i64 0, .int .i64 0] 50 (0, 0)) (bx BK473)) : gb478 ≠ gb473)); have ⟨NB474_478, NB478_474⟩ := nb BK474 hg; replace BK473 := Aside0.mk (blk_below (g := gb473) (o := .cells #[.string (⟨#[]⟩ : ByteArray), .int .i64 400, .int .i64 1800, .int .i64 21, .int .i64 20, .int .i64 0, .int .i64 0, .int .i64 0, .int .i64 0, .int .i64 0, .int .i64 0] 50 (0, 0)) (bx BK473) hb); replace BK474 := bb BK474 hb; replace HB := bs HB hb; clear hb hg; have hnb17 := nn NB478_473; have hnb18 := nn NB478_474; have hcz19 := X.k2 BK478; have hcz20 := X.k11 BK473; have hcz21 := X.k2 BK474) | ((with_reducible refine gc 26 rfl ?_); refine gm_ (some 21) rfl rfl Tryd.func26 (demand_Ratio.calls _ (⟨#[]⟩ : ByteArray) _ _ _ _ _ _ _ _ _ _ _ _ _ _ _ _ A2.out (tt GT)) ag ?_; intro w22 hb; replace BK473 := Aside0.mk (blk_below (g := gb473) (o := .cells #[.string (⟨#[]⟩ : ByteArray), .int .i64 400, .int .i64 1800, .int .i64 21, .int .i64 20, .int .i64 0, .int .i64 0, .int .i64 0, .int .i64 0, .int .i64 0, .int .i64 0] 50 (0, 0)) (bx BK473) hb); replace BK474 := bb BK474 hb; replace BK478 := bp_ #[.int .i64 t475, .int .i64 t476] BK478 hb; replace HB := bs HB hb; (try clear hb)) | ((with_reducible refine gd 5 rfl ?_); refine bx_ 5 23 #[.int .i64 0, .int .i64 0] rfl rfl ?_; intro gb482 hg w23 BK482 hb; have GE482 := bz HB hg; have NB473_482 := Aside0.mk ((by rw [hg]; exact Nat.ne_of_lt (blk_lt (g := gb473) (o := .cells #[.string (⟨#[]⟩ : ByteArray), .int .i64 400, .int .i64 1800, .int .i64 21, .int .i64 20, .int .i64 0, .int .i64 0, .int .i64 0, .int .i64 0, .int .i64 0, .int .i64 0] 50 (0, 0)) (bx BK473)) : gb473 ≠ gb482)); have NB482_473 := Aside0.mk ((by rw [hg]; exact Nat.ne_of_gt (blk_lt (g := gb473) (o := .cells #[.string (⟨#[]⟩ : ByteArray), .int .i64 400, .int .i64 1800, .int .i64 21, .int .i64 20, .int .i64 0, .int .i64 0, .int .i64 0, .int .i64 0, .int .i64 0, .int .i64 0] 50 (0, 0)) (bx BK473)) : gb482 ≠ gb473)); have ⟨NB474_482, NB482_474⟩ := nb BK474 hg; have ⟨NB478_482, NB482_478⟩ := nb BK478 hg; replace BK473 := Aside0.mk (blk_below (g := gb473) (o := .cells #[.string (⟨#[]⟩ : ByteArray), .int .i64 400, .int .i64 1800, .int .i64 21, .int .i64 20, .int .i64 0, .int .i64 0, .int .i64 0, .int .i64 0, .int .i64 0, .int .i64 0] 50 (0, 0)) (bx BK473) hb); replace BK478 := bb BK478 hb; replace HB := bs HB hb; clear hb hg; have hnb24 := nn NB482_473; have hnb25 := nn NB482_474; have hnb26 := nn NB482_478; have hcz27 := X.k2 BK482) | ((with_reducible refine gc 4 rfl ?_); refine gm_ (some 26) rfl rfl Tryd.func4 (demand_Rate.calls _ _ _ _ _ _ _ A3.out (tt GT)) ag ?_; intro w28 hb; replace BK473 := Aside0.mk (blk_below (g := gb473) (o := .cells #[.string (⟨#[]⟩ : ByteArray), .int .i64 400, .int .i64 1800, .int .i64 21, .int .i64 20, .int .i64 0, .int .i64 0, .int .i64 0, .int .i64 0, .int .i64 0, .int .i64 0] 50 (0, 0)) (bx BK473) hb); replace BK478 := bb BK478 hb; replace BK482 := bp_ #[.int .i64 t479, .int .i64 t480] BK482 hb; replace HB := bs HB hb; (try clear hb); have hcz29 := X.k2 BK478; have hcz30 := X.k2 BK482))
            go_ret
            exact ⟨ae, bf HB⟩
          · rw [if_neg c8] at H
            have c8b0 : (t479 == 7 && (t480 == 27)) = false := by simpa using c8
            (try (have c8b1 : decide (t479 = 7 && (t480 == 27)) = false := by simpa using c8))
            (try (have c8b2 : (t479 == 7 && (t480 == 27)) = false := by simpa using c8))
            (try (have c8b3 : ¬ (t479 = 7 && (t480 == 27)) := by simpa using c8))
            clear c8
            obtain rfl := Option.some.inj H
            go_enter Tryd.func6, Tryd.ntmps6
            go_wp2_with (first | ((with_reducible refine gd 1 rfl ?_); refine bx_ 1 50 #[.string (⟨#[]⟩ : ByteArray), .int .i64 0, .int .i64 0, .int .i64 0, .int .i64 0, .int .i64 0, .int .i64 0, .int .i64 0, .int .i64 0, .int .i64 0, .int .i64 0] rfl rfl ?_; intro gb473 hg w31 BK473 hb; have GE473 := bz HB hg; replace HB := bs HB hb; clear hb hg; have hcz32 := X.k11 BK473) | ((with_reducible refine gd 2 rfl ?_); refine bx_ 2 23 #[.int .i64 0, .int .i64 0] rfl rfl ?_; intro gb474 hg w33 BK474 hb; have GE474 := bz HB hg; have NB473_474 := Aside0.mk ((by rw [hg]; exact Nat.ne_of_lt (blk_lt (g := gb473) (o := .cells #[.string (⟨#[]⟩ : ByteArray), .int .i64 400, .int .i64 1800, .int .i64 21, .int .i64 20, .int .i64 0, .int .i64 0, .int .i64 0, .int .i64 0, .int .i64 0, .int .i64 0] 50 (0, 0)) (br_ BK473)) : gb473 ≠ gb474)); have NB474_473 := Aside0.mk ((by rw [hg]; exact Nat.ne_of_gt (blk_lt (g := gb473) (o := .cells #[.string (⟨#[]⟩ : ByteArray), .int .i64 400, .int .i64 1800, .int .i64 21, .int .i64 20, .int .i64 0, .int .i64 0, .int .i64 0, .int .i64 0, .int .i64 0, .int .i64 0] 50 (0, 0)) (br_ BK473)) : gb474 ≠ gb473)); replace BK473 := bp_ #[.string (⟨#[]⟩ : ByteArray), .int .i64 400, .int .i64 1800, .int .i64 21, .int .i64 20, .int .i64 0, .int .i64 0, .int .i64 0, .int .i64 0, .int .i64 0, .int .i64 0] BK473 hb; replace HB := bs HB hb; clear hb hg; have hnb34 := nn NB474_473; have hcz35 := X.k2 BK474; have hcz36 := X.k11 BK473) | ((with_reducible refine gc 25 rfl ?_); refine gm_ (some 15) rfl rfl Tryd.func25 (demand_Volume.calls _ (⟨#[]⟩ : ByteArray) _ _ _ _ _ _ _ _ _ _ _ _ _ _ _ _ A1.out (tt GT)) ag ?_; intro w37 hb; replace BK473 := Aside0.mk (blk_below (g := gb473) (o := .cells #[.string (⟨#[]⟩ : ByteArray), .int .i64 400, .int .i64 1800, .int .i64 21, .int .i64 20, .int .i64 0, .int .i64 0, .int .i64 0, .int .i64 0, .int .i64 0, .int .i64 0] 50 (0, 0)) (bx BK473) hb); replace BK474 := bp_ #[.int .i64 9, .int .i64 10] BK474 hb; replace HB := bs HB hb; (try clear hb)) | ((with_reducible refine gd 3 rfl ?_); refine bx_ 3 23 #[.int .i64 0, .int .i64 0] rfl rfl ?_; intro gb478 hg w38 BK478 hb; have GE478 := bz HB hg; have NB473_478 := Aside0.mk ((by rw [hg]; exact Nat.ne_of_lt (blk_lt (g := gb473) (o := .cells #[.string (⟨#[]⟩ : ByteArray), .int .i64 400, .int .i64 1800, .int .i64 21, .int .i64 20, .int .i64 0, .int .i64 0, .int .i64 0, .int .i64 0, .int .i64 0, .int .i64 0] 50 (0, 0)) (bx BK473)) : gb473 ≠ gb478)); have NB478_473 := Aside0.mk ((by rw [hg]; exact Nat.ne_of_gt (blk_lt (g := gb473) (o := .cells #[.string (⟨#[]⟩ : ByteArray), .int .i64 400, .int .i64 1800, .int .i64 21, .int .i64 20, .int .i64 0, .int .i64 0, .int .i64 0, .int .i64 0, .int .i64 0, .int .i64 0] 50 (0, 0)) (bx BK473)) : gb478 ≠ gb473)); have ⟨NB474_478, NB478_474⟩ := nb BK474 hg; replace BK473 := Aside0.mk (blk_below (g := gb473) (o := .cells #[.string (⟨#[]⟩ : ByteArray), .int .i64 400, .int .i64 1800, .int .i64 21, .int .i64 20, .int .i64 0, .int .i64 0, .int .i64 0, .int .i64 0, .int .i64 0, .int .i64 0] 50 (0, 0)) (bx BK473) hb); replace BK474 := bb BK474 hb; replace HB := bs HB hb; clear hb hg; have hnb39 := nn NB478_473; have hnb40 := nn NB478_474; have hcz41 := X.k2 BK478; have hcz42 := X.k11 BK473; have hcz43 := X.k2 BK474) | ((with_reducible refine gc 26 rfl ?_); refine gm_ (some 21) rfl rfl Tryd.func26 (demand_Ratio.calls _ (⟨#[]⟩ : ByteArray) _ _ _ _ _ _ _ _ _ _ _ _ _ _ _ _ A2.out (tt GT)) ag ?_; intro w44 hb; replace BK473 := Aside0.mk (blk_below (g := gb473) (o := .cells #[.string (⟨#[]⟩ : ByteArray), .int .i64 400, .int .i64 1800, .int .i64 21, .int .i64 20, .int .i64 0, .int .i64 0, .int .i64 0, .int .i64 0, .int .i64 0, .int .i64 0] 50 (0, 0)) (bx BK473) hb); replace BK474 := bb BK474 hb; replace BK478 := bp_ #[.int .i64 t475, .int .i64 t476] BK478 hb; replace HB := bs HB hb; (try clear hb)) | ((with_reducible refine gd 5 rfl ?_); refine bx_ 5 23 #[.int .i64 0, .int .i64 0] rfl rfl ?_; intro gb482 hg w45 BK482 hb; have GE482 := bz HB hg; have NB473_482 := Aside0.mk ((by rw [hg]; exact Nat.ne_of_lt (blk_lt (g := gb473) (o := .cells #[.string (⟨#[]⟩ : ByteArray), .int .i64 400, .int .i64 1800, .int .i64 21, .int .i64 20, .int .i64 0, .int .i64 0, .int .i64 0, .int .i64 0, .int .i64 0, .int .i64 0] 50 (0, 0)) (bx BK473)) : gb473 ≠ gb482)); have NB482_473 := Aside0.mk ((by rw [hg]; exact Nat.ne_of_gt (blk_lt (g := gb473) (o := .cells #[.string (⟨#[]⟩ : ByteArray), .int .i64 400, .int .i64 1800, .int .i64 21, .int .i64 20, .int .i64 0, .int .i64 0, .int .i64 0, .int .i64 0, .int .i64 0, .int .i64 0] 50 (0, 0)) (bx BK473)) : gb482 ≠ gb473)); have ⟨NB474_482, NB482_474⟩ := nb BK474 hg; have ⟨NB478_482, NB482_478⟩ := nb BK478 hg; replace BK473 := Aside0.mk (blk_below (g := gb473) (o := .cells #[.string (⟨#[]⟩ : ByteArray), .int .i64 400, .int .i64 1800, .int .i64 21, .int .i64 20, .int .i64 0, .int .i64 0, .int .i64 0, .int .i64 0, .int .i64 0, .int .i64 0] 50 (0, 0)) (bx BK473) hb); replace BK478 := bb BK478 hb; replace HB := bs HB hb; clear hb hg; have hnb46 := nn NB482_473; have hnb47 := nn NB482_474; have hnb48 := nn NB482_478; have hcz49 := X.k2 BK482) | ((with_reducible refine gc 4 rfl ?_); refine gm_ (some 26) rfl rfl Tryd.func4 (demand_Rate.calls _ _ _ _ _ _ _ A3.out (tt GT)) ag ?_; intro w50 hb; replace BK473 := Aside0.mk (blk_below (g := gb473) (o := .cells #[.string (⟨#[]⟩ : ByteArray), .int .i64 400, .int .i64 1800, .int .i64 21, .int .i64 20, .int .i64 0, .int .i64 0, .int .i64 0, .int .i64 0, .int .i64 0, .int .i64 0] 50 (0, 0)) (bx BK473) hb); replace BK478 := bb BK478 hb; replace BK482 := bp_ #[.int .i64 t479, .int .i64 t480] BK482 hb; replace HB := bs HB hb; (try clear hb); have hcz51 := X.k2 BK478; have hcz52 := X.k2 BK482))
            go_ret
            exact ⟨ae, bf HB⟩
        · rw [if_neg c7] at H
          have c7b0 : (t475 == 1400 && (t476 == 3)) = false := by simpa using c7
          (try (have c7b1 : decide (t475 = 1400 && (t476 == 3)) = false := by simpa using c7))
          (try (have c7b2 : (t475 == 1400 && (t476 == 3)) = false := by simpa using c7))
          (try (have c7b3 : ¬ (t475 = 1400 && (t476 == 3)) := by simpa using c7))
          clear c7
          obtain rfl := Option.some.inj H
          go_enter Tryd.func6, Tryd.ntmps6
          go_wp2_with (first | ((with_reducible refine gd 1 rfl ?_); refine bx_ 1 50 #[.string (⟨#[]⟩ : ByteArray), .int .i64 0, .int .i64 0, .int .i64 0, .int .i64 0, .int .i64 0, .int .i64 0, .int .i64 0, .int .i64 0, .int .i64 0, .int .i64 0] rfl rfl ?_; intro gb473 hg w53 BK473 hb; have GE473 := bz HB hg; replace HB := bs HB hb; clear hb hg; have hcz54 := X.k11 BK473) | ((with_reducible refine gd 2 rfl ?_); refine bx_ 2 23 #[.int .i64 0, .int .i64 0] rfl rfl ?_; intro gb474 hg w55 BK474 hb; have GE474 := bz HB hg; have NB473_474 := Aside0.mk ((by rw [hg]; exact Nat.ne_of_lt (blk_lt (g := gb473) (o := .cells #[.string (⟨#[]⟩ : ByteArray), .int .i64 400, .int .i64 1800, .int .i64 21, .int .i64 20, .int .i64 0, .int .i64 0, .int .i64 0, .int .i64 0, .int .i64 0, .int .i64 0] 50 (0, 0)) (br_ BK473)) : gb473 ≠ gb474)); have NB474_473 := Aside0.mk ((by rw [hg]; exact Nat.ne_of_gt (blk_lt (g := gb473) (o := .cells #[.string (⟨#[]⟩ : ByteArray), .int .i64 400, .int .i64 1800, .int .i64 21, .int .i64 20, .int .i64 0, .int .i64 0, .int .i64 0, .int .i64 0, .int .i64 0, .int .i64 0] 50 (0, 0)) (br_ BK473)) : gb474 ≠ gb473)); replace BK473 := bp_ #[.string (⟨#[]⟩ : ByteArray), .int .i64 400, .int .i64 1800, .int .i64 21, .int .i64 20, .int .i64 0, .int .i64 0, .int .i64 0, .int .i64 0, .int .i64 0, .int .i64 0] BK473 hb; replace HB := bs HB hb; clear hb hg; have hnb56 := nn NB474_473; have hcz57 := X.k2 BK474; have hcz58 := X.k11 BK473) | ((with_reducible refine gc 25 rfl ?_); refine gm_ (some 15) rfl rfl Tryd.func25 (demand_Volume.calls _ (⟨#[]⟩ : ByteArray) _ _ _ _ _ _ _ _ _ _ _ _ _ _ _ _ A1.out (tt GT)) ag ?_; intro w59 hb; replace BK473 := Aside0.mk (blk_below (g := gb473) (o := .cells #[.string (⟨#[]⟩ : ByteArray), .int .i64 400, .int .i64 1800, .int .i64 21, .int .i64 20, .int .i64 0, .int .i64 0, .int .i64 0, .int .i64 0, .int .i64 0, .int .i64 0] 50 (0, 0)) (bx BK473) hb); replace BK474 := bp_ #[.int .i64 9, .int .i64 10] BK474 hb; replace HB := bs HB hb; (try clear hb)) | ((with_reducible refine gd 3 rfl ?_); refine bx_ 3 23 #[.int .i64 0, .int .i64 0] rfl rfl ?_; intro gb478 hg w60 BK478 hb; have GE478 := bz HB hg; have NB473_478 := Aside0.mk ((by rw [hg]; exact Nat.ne_of_lt (blk_lt (g := gb473) (o := .cells #[.string (⟨#[]⟩ : ByteArray), .int .i64 400, .int .i64 1800, .int .i64 21, .int .i64 20, .int .i64 0, .int .i64 0, .int .i64 0, .int .i64 0, .int .i64 0, .int .i64 0] 50 (0, 0)) (bx BK473)) : gb473 ≠ gb478)); have NB478_473 := Aside0.mk ((by rw [hg]; exact Nat.ne_of_gt (blk_lt (g := gb473) (o := .cells #[.string (⟨#[]⟩ : ByteArray), .int .i64 400, .int .i64 1800, .int .i64 21, .int .i64 20, .int .i64 0, .int .i64 0, .int .i64 0, .int .i64 0, .int .i64 0, .int .i64 0] 50 (0, 0)) (bx BK473)) : gb478 ≠ gb473)); have ⟨NB474_478, NB478_474⟩ := nb BK474 hg; replace BK473 := Aside0.mk (blk_below (g := gb473) (o := .cells #[.string (⟨#[]⟩ : ByteArray), .int .i64 400, .int .i64 1800, .int .i64 21, .int .i64 20, .int .i64 0, .int .i64 0, .int .i64 0, .int .i64 0, .int .i64 0, .int .i64 0] 50 (0, 0)) (bx BK473) hb); replace BK474 := bb BK474 hb; replace HB := bs HB hb; clear hb hg; have hnb61 := nn NB478_473; have hnb62 := nn NB478_474; have hcz63 := X.k2 BK478; have hcz64 := X.k11 BK473; have hcz65 := X.k2 BK474) | ((with_reducible refine gc 26 rfl ?_); refine gm_ (some 21) rfl rfl Tryd.func26 (demand_Ratio.calls _ (⟨#[]⟩ : ByteArray) _ _ _ _ _ _ _ _ _ _ _ _ _ _ _ _ A2.out (tt GT)) ag ?_; intro w66 hb; replace BK473 := Aside0.mk (blk_below (g := gb473) (o := .cells #[.string (⟨#[]⟩ : ByteArray), .int .i64 400, .int .i64 1800, .int .i64 21, .int .i64 20, .int .i64 0, .int .i64 0, .int .i64 0, .int .i64 0, .int .i64 0, .int .i64 0] 50 (0, 0)) (bx BK473) hb); replace BK474 := bb BK474 hb; replace BK478 := bp_ #[.int .i64 t475, .int .i64 t476] BK478 hb; replace HB := bs HB hb; (try clear hb)) | ((with_reducible refine gd 5 rfl ?_); refine bx_ 5 23 #[.int .i64 0, .int .i64 0] rfl rfl ?_; intro gb482 hg w67 BK482 hb; have GE482 := bz HB hg; have NB473_482 := Aside0.mk ((by rw [hg]; exact Nat.ne_of_lt (blk_lt (g := gb473) (o := .cells #[.string (⟨#[]⟩ : ByteArray), .int .i64 400, .int .i64 1800, .int .i64 21, .int .i64 20, .int .i64 0, .int .i64 0, .int .i64 0, .int .i64 0, .int .i64 0, .int .i64 0] 50 (0, 0)) (bx BK473)) : gb473 ≠ gb482)); have NB482_473 := Aside0.mk ((by rw [hg]; exact Nat.ne_of_gt (blk_lt (g := gb473) (o := .cells #[.string (⟨#[]⟩ : ByteArray), .int .i64 400, .int .i64 1800, .int .i64 21, .int .i64 20, .int .i64 0, .int .i64 0, .int .i64 0, .int .i64 0, .int .i64 0, .int .i64 0] 50 (0, 0)) (bx BK473)) : gb482 ≠ gb473)); have ⟨NB474_482, NB482_474⟩ := nb BK474 hg; have ⟨NB478_482, NB482_478⟩ := nb BK478 hg; replace BK473 := Aside0.mk (blk_below (g := gb473) (o := .cells #[.string (⟨#[]⟩ : ByteArray), .int .i64 400, .int .i64 1800, .int .i64 21, .int .i64 20, .int .i64 0, .int .i64 0, .int .i64 0, .int .i64 0, .int .i64 0, .int .i64 0] 50 (0, 0)) (bx BK473) hb); replace BK478 := bb BK478 hb; replace HB := bs HB hb; clear hb hg; have hnb68 := nn NB482_473; have hnb69 := nn NB482_474; have hnb70 := nn NB482_478; have hcz71 := X.k2 BK482) | ((with_reducible refine gc 4 rfl ?_); refine gm_ (some 26) rfl rfl Tryd.func4 (demand_Rate.calls _ _ _ _ _ _ _ A3.out (tt GT)) ag ?_; intro w72 hb; replace BK473 := Aside0.mk (blk_below (g := gb473) (o := .cells #[.string (⟨#[]⟩ : ByteArray), .int .i64 400, .int .i64 1800, .int .i64 21, .int .i64 20, .int .i64 0, .int .i64 0, .int .i64 0, .int .i64 0, .int .i64 0, .int .i64 0] 50 (0, 0)) (bx BK473) hb); replace BK478 := bb BK478 hb; replace BK482 := bp_ #[.int .i64 t479, .int .i64 t480] BK482 hb; replace HB := bs HB hb; (try clear hb); have hcz73 := X.k2 BK478))
          go_ret
          exact ⟨ae, bf HB⟩
      · rw [if_neg c6] at H
        have c6b0 : (t484 == 0) = false := beq_eq_false_iff_ne.mpr c6
        have c6b1 : (t484 != 0) = true := bne_iff_ne.mpr c6
        obtain rfl := Option.some.inj H
        go_enter Tryd.func6, Tryd.ntmps6
        go_wp2_with (first | ((with_reducible refine gd 1 rfl ?_); refine bx_ 1 50 #[.string (⟨#[]⟩ : ByteArray), .int .i64 0, .int .i64 0, .int .i64 0, .int .i64 0, .int .i64 0, .int .i64 0, .int .i64 0, .int .i64 0, .int .i64 0, .int .i64 0] rfl rfl ?_; intro gb473 hg w74 BK473 hb; have GE473 := bz HB hg; replace HB := bs HB hb; clear hb hg; have hcz75 := X.k11 BK473) | ((with_reducible refine gd 2 rfl ?_); refine bx_ 2 23 #[.int .i64 0, .int .i64 0] rfl rfl ?_; intro gb474 hg w76 BK474 hb; have GE474 := bz HB hg; have NB473_474 := Aside0.mk ((by rw [hg]; exact Nat.ne_of_lt (blk_lt (g := gb473) (o := .cells #[.string (⟨#[]⟩ : ByteArray), .int .i64 400, .int .i64 1800, .int .i64 21, .int .i64 20, .int .i64 0, .int .i64 0, .int .i64 0, .int .i64 0, .int .i64 0, .int .i64 0] 50 (0, 0)) (br_ BK473)) : gb473 ≠ gb474)); have NB474_473 := Aside0.mk ((by rw [hg]; exact Nat.ne_of_gt (blk_lt (g := gb473) (o := .cells #[.string (⟨#[]⟩ : ByteArray), .int .i64 400, .int .i64 1800, .int .i64 21, .int .i64 20, .int .i64 0, .int .i64 0, .int .i64 0, .int .i64 0, .int .i64 0, .int .i64 0] 50 (0, 0)) (br_ BK473)) : gb474 ≠ gb473)); replace BK473 := bp_ #[.string (⟨#[]⟩ : ByteArray), .int .i64 400, .int .i64 1800, .int .i64 21, .int .i64 20, .int .i64 0, .int .i64 0, .int .i64 0, .int .i64 0, .int .i64 0, .int .i64 0] BK473 hb; replace HB := bs HB hb; clear hb hg; have hnb77 := nn NB474_473; have hcz78 := X.k2 BK474; have hcz79 := X.k11 BK473) | ((with_reducible refine gc 25 rfl ?_); refine gm_ (some 15) rfl rfl Tryd.func25 (demand_Volume.calls _ (⟨#[]⟩ : ByteArray) _ _ _ _ _ _ _ _ _ _ _ _ _ _ _ _ A1.out (tt GT)) ag ?_; intro w80 hb; replace BK473 := Aside0.mk (blk_below (g := gb473) (o := .cells #[.string (⟨#[]⟩ : ByteArray), .int .i64 400, .int .i64 1800, .int .i64 21, .int .i64 20, .int .i64 0, .int .i64 0, .int .i64 0, .int .i64 0, .int .i64 0, .int .i64 0] 50 (0, 0)) (bx BK473) hb); replace BK474 := bp_ #[.int .i64 9, .int .i64 10] BK474 hb; replace HB := bs HB hb; (try clear hb)) | ((with_reducible refine gd 3 rfl ?_); refine bx_ 3 23 #[.int .i64 0, .int .i64 0] rfl rfl ?_; intro gb478 hg w81 BK478 hb; have GE478 := bz HB hg; have NB473_478 := Aside0.mk ((by rw [hg]; exact Nat.ne_of_lt (blk_lt (g := gb473) (o := .cells #[.string (⟨#[]⟩ : ByteArray), .int .i64 400, .int .i64 1800, .int .i64 21, .int .i64 20, .int .i64 0, .int .i64 0, .int .i64 0, .int .i64 0, .int .i64 0, .int .i64 0] 50 (0, 0)) (bx BK473)) : gb473 ≠ gb478)); have NB478_473 := Aside0.mk ((by rw [hg]; exact Nat.ne_of_gt (blk_lt (g := gb473) (o := .cells #[.string (⟨#[]⟩ : ByteArray), .int .i64 400, .int .i64 1800, .int .i64 21, .int .i64 20, .int .i64 0, .int .i64 0, .int .i64 0, .int .i64 0, .int .i64 0, .int .i64 0] 50 (0, 0)) (bx BK473)) : gb478 ≠ gb473)); have ⟨NB474_478, NB478_474⟩ := nb BK474 hg; replace BK473 := Aside0.mk (blk_below (g := gb473) (o := .cells #[.string (⟨#[]⟩ : ByteArray), .int .i64 400, .int .i64 1800, .int .i64 21, .int .i64 20, .int .i64 0, .int .i64 0, .int .i64 0, .int .i64 0, .int .i64 0, .int .i64 0] 50 (0, 0)) (bx BK473) hb); replace BK474 := bb BK474 hb; replace HB := bs HB hb; clear hb hg; have hnb82 := nn NB478_473; have hnb83 := nn NB478_474; have hcz84 := X.k2 BK478; have hcz85 := X.k11 BK473; have hcz86 := X.k2 BK474) | ((with_reducible refine gc 26 rfl ?_); refine gm_ (some 21) rfl rfl Tryd.func26 (demand_Ratio.calls _ (⟨#[]⟩ : ByteArray) _ _ _ _ _ _ _ _ _ _ _ _ _ _ _ _ A2.out (tt GT)) ag ?_; intro w87 hb; replace BK473 := Aside0.mk (blk_below (g := gb473) (o := .cells #[.string (⟨#[]⟩ : ByteArray), .int .i64 400, .int .i64 1800, .int .i64 21, .int .i64 20, .int .i64 0, .int .i64 0, .int .i64 0, .int .i64 0, .int .i64 0, .int .i64 0] 50 (0, 0)) (bx BK473) hb); replace BK474 := bb BK474 hb; replace BK478 := bp_ #[.int .i64 t475, .int .i64 t476] BK478 hb; replace HB := bs HB hb; (try clear hb)) | ((with_reducible refine gd 5 rfl ?_); refine bx_ 5 23 #[.int .i64 0, .int .i64 0] rfl rfl ?_; intro gb482 hg w88 BK482 hb; have GE482 := bz HB hg; have NB473_482 := Aside0.mk ((by rw [hg]; exact Nat.ne_of_lt (blk_lt (g := gb473) (o := .cells #[.string (⟨#[]⟩ : ByteArray), .int .i64 400, .int .i64 1800, .int .i64 21, .int .i64 20, .int .i64 0, .int .i64 0, .int .i64 0, .int .i64 0, .int .i64 0, .int .i64 0] 50 (0, 0)) (bx BK473)) : gb473 ≠ gb482)); have NB482_473 := Aside0.mk ((by rw [hg]; exact Nat.ne_of_gt (blk_lt (g := gb473) (o := .cells #[.string (⟨#[]⟩ : ByteArray), .int .i64 400, .int .i64 1800, .int .i64 21, .int .i64 20, .int .i64 0, .int .i64 0, .int .i64 0, .int .i64 0, .int .i64 0, .int .i64 0] 50 (0, 0)) (bx BK473)) : gb482 ≠ gb473)); have ⟨NB474_482, NB482_474⟩ := nb BK474 hg; have ⟨NB478_482, NB482_478⟩ := nb BK478 hg; replace BK473 := Aside0.mk (blk_below (g := gb473) (o := .cells #[.string (⟨#[]⟩ : ByteArray), .int .i64 400, .int .i64 1800, .int .i64 21, .int .i64 20, .int .i64 0, .int .i64 0, .int .i64 0, .int .i64 0, .int .i64 0, .int .i64 0] 50 (0, 0)) (bx BK473) hb); replace HB := bs HB hb; clear hb hg; have hnb89 := nn NB482_473; have hnb90 := nn NB482_474; have hnb91 := nn NB482_478; have hcz92 := X.k2 BK482) | ((with_reducible refine gc 4 rfl ?_); refine gm_ (some 26) rfl rfl Tryd.func4 (demand_Rate.calls _ _ _ _ _ _ _ A3.out (tt GT)) ag ?_; intro w93 hb; replace BK473 := Aside0.mk (blk_below (g := gb473) (o := .cells #[.string (⟨#[]⟩ : ByteArray), .int .i64 400, .int .i64 1800, .int .i64 21, .int .i64 20, .int .i64 0, .int .i64 0, .int .i64 0, .int .i64 0, .int .i64 0, .int .i64 0] 50 (0, 0)) (bx BK473) hb); replace BK482 := bp_ #[.int .i64 t479, .int .i64 t480] BK482 hb; replace HB := bs HB hb; (try clear hb)))
        go_ret
        exact ⟨ae, bf HB⟩
    · rw [if_neg c5] at H
      have c5b0 : (t481 == 0) = false := beq_eq_false_iff_ne.mpr c5
      have c5b1 : (t481 != 0) = true := bne_iff_ne.mpr c5
      obtain rfl := Option.some.inj H
      go_enter Tryd.func6, Tryd.ntmps6
      go_wp2_with (first | ((with_reducible refine gd 1 rfl ?_); refine bx_ 1 50 #[.string (⟨#[]⟩ : ByteArray), .int .i64 0, .int .i64 0, .int .i64 0, .int .i64 0, .int .i64 0, .int .i64 0, .int .i64 0, .int .i64 0, .int .i64 0, .int .i64 0] rfl rfl ?_; intro gb473 hg w94 BK473 hb; have GE473 := bz HB hg; replace HB := bs HB hb; clear hb hg; have hcz95 := X.k11 BK473) | ((with_reducible refine gd 2 rfl ?_); refine bx_ 2 23 #[.int .i64 0, .int .i64 0] rfl rfl ?_; intro gb474 hg w96 BK474 hb; have GE474 := bz HB hg; have NB473_474 := Aside0.mk ((by rw [hg]; exact Nat.ne_of_lt (blk_lt (g := gb473) (o := .cells #[.string (⟨#[]⟩ : ByteArray), .int .i64 400, .int .i64 1800, .int .i64 21, .int .i64 20, .int .i64 0, .int .i64 0, .int .i64 0, .int .i64 0, .int .i64 0, .int .i64 0] 50 (0, 0)) (br_ BK473)) : gb473 ≠ gb474)); have NB474_473 := Aside0.mk ((by rw [hg]; exact Nat.ne_of_gt (blk_lt (g := gb473) (o := .cells #[.string (⟨#[]⟩ : ByteArray), .int .i64 400, .int .i64 1800, .int .i64 21, .int .i64 20, .int .i64 0, .int .i64 0, .int .i64 0, .int .i64 0, .int .i64 0, .int .i64 0] 50 (0, 0)) (br_ BK473)) : gb474 ≠ gb473)); replace BK473 := bp_ #[.string (⟨#[]⟩ : ByteArray), .int .i64 400, .int .i64 1800, .int .i64 21, .int .i64 20, .int .i64 0, .int .i64 0, .int .i64 0, .int .i64 0, .int .i64 0, .int .i64 0] BK473 hb; replace HB := bs HB hb; clear hb hg; have hnb97 := nn NB474_473; have hcz98 := X.k2 BK474; have hcz99 := X.k11 BK473) | ((with_reducible refine gc 25 rfl ?_); refine gm_ (some 15) rfl rfl Tryd.func25 (demand_Volume.calls _ (⟨#[]⟩ : ByteArray) _ _ _ _ _ _ _ _ _ _ _ _ _ _ _ _ A1.out (tt GT)) ag ?_; intro w100 hb; replace BK473 := Aside0.mk (blk_below (g := gb473) (o := .cells #[.string (⟨#[]⟩ : ByteArray), .int .i64 400, .int .i64 1800, .int .i64 21, .int .i64 20, .int .i64 0, .int .i64 0, .int .i64 0, .int .i64 0, .int .i64 0, .int .i64 0] 50 (0, 0)) (bx BK473) hb); replace BK474 := bp_ #[.int .i64 9, .int .i64 10] BK474 hb; replace HB := bs HB hb; (try clear hb)) | ((with_reducible refine gd 3 rfl ?_); refine bx_ 3 23 #[.int .i64 0, .int .i64 0] rfl rfl ?_; intro gb478 hg w101 BK478 hb; have GE478 := bz HB hg; have NB473_478 := Aside0.mk ((by rw [hg]; exact Nat.ne_of_lt (blk_lt (g := gb473) (o := .cells #[.string (⟨#[]⟩ : ByteArray), .int .i64 400, .int .i64 1800, .int .i64 21, .int .i64 20, .int .i64 0, .int .i64 0, .int .i64 0, .int .i64 0, .int .i64 0, .int .i64 0] 50 (0, 0)) (bx BK473)) : gb473 ≠ gb478)); have NB478_473 := Aside0.mk ((by rw [hg]; exact Nat.ne_of_gt (blk_lt (g := gb473) (o := .cells #[.string (⟨#[]⟩ : ByteArray), .int .i64 400, .int .i64 1800, .int .i64 21, .int .i64 20, .int .i64 0, .int .i64 0, .int .i64 0, .int .i64 0, .int .i64 0, .int .i64 0] 50 (0, 0)) (bx BK473)) : gb478 ≠ gb473)); have ⟨NB474_478, NB478_474⟩ := nb BK474 hg; replace BK473 := Aside0.mk (blk_below (g := gb473) (o := .cells #[.string (⟨#[]⟩ : ByteArray), .int .i64 400, .int .i64 1800, .int .i64 21, .int .i64 20, .int .i64 0, .int .i64 0, .int .i64 0, .int .i64 0, .int .i64 0, .int .i64 0] 50 (0, 0)) (bx BK473) hb); replace BK474 := bb BK474 hb; replace HB := bs HB hb; clear hb hg; have hnb102 := nn NB478_473; have hnb103 := nn NB478_474; have hcz104 := X.k2 BK478; have hcz105 := X.k11 BK473; have hcz106 := X.k2 BK474) | ((with_reducible refine gc 26 rfl ?_); refine gm_ (some 21) rfl rfl Tryd.func26 (demand_Ratio.calls _ (⟨#[]⟩ : ByteArray) _ _ _ _ _ _ _ _ _ _ _ _ _ _ _ _ A2.out (tt GT)) ag ?_; intro w107 hb; replace BK473 := Aside0.mk (blk_below (g := gb473) (o := .cells #[.string (⟨#[]⟩ : ByteArray), .int .i64 400, .int .i64 1800, .int .i64 21, .int .i64 20, .int .i64 0, .int .i64 0, .int .i64 0, .int .i64 0, .int .i64 0, .int .i64 0] 50 (0, 0)) (bx BK473) hb); replace BK474 := bb BK474 hb; replace BK478 := bp_ #[.int .i64 t475, .int .i64 t476] BK478 hb; replace HB := bs HB hb; (try clear hb)) | ((with_reducible refine gd 5 rfl ?_); refine bx_ 5 23 #[.int .i64 0, .int .i64 0] rfl rfl ?_; intro gb482 hg w108 BK482 hb; have GE482 := bz HB hg; have NB473_482 := Aside0.mk ((by rw [hg]; exact Nat.ne_of_lt (blk_lt (g := gb473) (o := .cells #[.string (⟨#[]⟩ : ByteArray), .int .i64 400, .int .i64 1800, .int .i64 21, .int .i64 20, .int .i64 0, .int .i64 0, .int .i64 0, .int .i64 0, .int .i64 0, .int .i64 0] 50 (0, 0)) (bx BK473)) : gb473 ≠ gb482)); have NB482_473 := Aside0.mk ((by rw [hg]; exact Nat.ne_of_gt (blk_lt (g := gb473) (o := .cells #[.string (⟨#[]⟩ : ByteArray), .int .i64 400, .int .i64 1800, .int .i64 21, .int .i64 20, .int .i64 0, .int .i64 0, .int .i64 0, .int .i64 0, .int .i64 0, .int .i64 0] 50 (0, 0)) (bx BK473)) : gb482 ≠ gb473)); have ⟨NB474_482, NB482_474⟩ := nb BK474 hg; have ⟨NB478_482, NB482_478⟩ := nb BK478 hg; replace BK473 := Aside0.mk (blk_below (g := gb473) (o := .cells #[.string (⟨#[]⟩ : ByteArray), .int .i64 400, .int .i64 1800, .int .i64 21, .int .i64 20, .int .i64 0, .int .i64 0, .int .i64 0, .int .i64 0, .int .i64 0, .int .i64 0] 50 (0, 0)) (bx BK473) hb); replace HB := bs HB hb; clear hb hg; have hnb109 := nn NB482_473; have hnb110 := nn NB482_474; have hnb111 := nn NB482_478; have hcz112 := X.k2 BK482) | ((with_reducible refine gc 4 rfl ?_); refine gm_ (some 26) rfl rfl Tryd.func4 (demand_Rate.calls _ _ _ _ _ _ _ A3.out (tt GT)) ag ?_; intro w113 hb; replace BK473 := Aside0.mk (blk_below (g := gb473) (o := .cells #[.string (⟨#[]⟩ : ByteArray), .int .i64 400, .int .i64 1800, .int .i64 21, .int .i64 20, .int .i64 0, .int .i64 0, .int .i64 0, .int .i64 0, .int .i64 0, .int .i64 0] 50 (0, 0)) (bx BK473) hb); replace BK482 := bp_ #[.int .i64 t479, .int .i64 t480] BK482 hb; replace HB := bs HB hb; (try clear hb)))
      go_ret
      exact ⟨ae, bf HB⟩
  · rw [if_neg c4] at H
    have c4b0 : (t477 == 0) = false := beq_eq_false_iff_ne.mpr c4
    have c4b1 : (t477 != 0) = true := bne_iff_ne.mpr c4
    obtain rfl := Option.some.inj H
    go_enter Tryd.func6, Tryd.ntmps6
    go_wp2_with (first | ((with_reducible refine gd 1 rfl ?_); refine bx_ 1 50 #[.string (⟨#[]⟩ : ByteArray), .int .i64 0, .int .i64 0, .int .i64 0, .int .i64 0, .int .i64 0, .int .i64 0, .int .i64 0, .int .i64 0, .int .i64 0, .int .i64 0] rfl rfl ?_; intro gb473 hg w114 BK473 hb; have GE473 := bz HB hg; replace HB := bs HB hb; clear hb hg; have hcz115 := X.k11 BK473) | ((with_reducible refine gd 2 rfl ?_); refine bx_ 2 23 #[.int .i64 0, .int .i64 0] rfl rfl ?_; intro gb474 hg w116 BK474 hb; have GE474 := bz HB hg; have NB473_474 := Aside0.mk ((by rw [hg]; exact Nat.ne_of_lt (blk_lt (g := gb473) (o := .cells #[.string (⟨#[]⟩ : ByteArray), .int .i64 400, .int .i64 1800, .int .i64 21, .int .i64 20, .int .i64 0, .int .i64 0, .int .i64 0, .int .i64 0, .int .i64 0, .int .i64 0] 50 (0, 0)) (br_ BK473)) : gb473 ≠ gb474)); have NB474_473 := Aside0.mk ((by rw [hg]; exact Nat.ne_of_gt (blk_lt (g := gb473) (o := .cells #[.string (⟨#[]⟩ : ByteArray), .int .i64 400, .int .i64 1800, .int .i64 21, .int .i64 20, .int .i64 0, .int .i64 0, .int .i64 0, .int .i64 0, .int .i64 0, .int .i64 0] 50 (0, 0)) (br_ BK473)) : gb474 ≠ gb473)); replace BK473 := bp_ #[.string (⟨#[]⟩ : ByteArray), .int .i64 400, .int .i64 1800, .int .i64 21, .int .i64 20, .int .i64 0, .int .i64 0, .int .i64 0, .int .i64 0, .int .i64 0, .int .i64 0] BK473 hb; replace HB := bs HB hb; clear hb hg; have hnb117 := nn NB474_473; have hcz118 := X.k2 BK474; have hcz119 := X.k11 BK473) | ((with_reducible refine gc 25 rfl ?_); refine gm_ (some 15) rfl rfl Tryd.func25 (demand_Volume.calls _ (⟨#[]⟩ : ByteArray) _ _ _ _ _ _ _ _ _ _ _ _ _ _ _ _ A1.out (tt GT)) ag ?_; intro w120 hb; replace BK473 := Aside0.mk (blk_below (g := gb473) (o := .cells #[.string (⟨#[]⟩ : ByteArray), .int .i64 400, .int .i64 1800, .int .i64 21, .int .i64 20, .int .i64 0, .int .i64 0, .int .i64 0, .int .i64 0, .int .i64 0, .int .i64 0] 50 (0, 0)) (bx BK473) hb); replace BK474 := bp_ #[.int .i64 9, .int .i64 10] BK474 hb; replace HB := bs HB hb; (try clear hb)) | ((with_reducible refine gd 3 rfl ?_); refine bx_ 3 23 #[.int .i64 0, .int .i64 0] rfl rfl ?_; intro gb478 hg w121 BK478 hb; have GE478 := bz HB hg; have NB473_478 := Aside0.mk ((by rw [hg]; exact Nat.ne_of_lt (blk_lt (g := gb473) (o := .cells #[.string (⟨#[]⟩ : ByteArray), .int .i64 400, .int .i64 1800, .int .i64 21, .int .i64 20, .int .i64 0, .int .i64 0, .int .i64 0, .int .i64 0, .int .i64 0, .int .i64 0] 50 (0, 0)) (bx BK473)) : gb473 ≠ gb478)); have NB478_473 := Aside0.mk ((by rw [hg]; exact Nat.ne_of_gt (blk_lt (g := gb473) (o := .cells #[.string (⟨#[]⟩ : ByteArray), .int .i64 400, .int .i64 1800, .int .i64 21, .int .i64 20, .int .i64 0, .int .i64 0, .int .i64 0, .int .i64 0, .int .i64 0, .int .i64 0] 50 (0, 0)) (bx BK473)) : gb478 ≠ gb473)); have ⟨NB474_478, NB478_474⟩ := nb BK474 hg; replace BK473 := Aside0.mk (blk_below (g := gb473) (o := .cells #[.string (⟨#[]⟩ : ByteArray), .int .i64 400, .int .i64 1800, .int .i64 21, .int .i64 20, .int .i64 0, .int .i64 0, .int .i64 0, .int .i64 0, .int .i64 0, .int .i64 0] 50 (0, 0)) (bx BK473) hb); replace BK474 := bb BK474 hb; replace HB := bs HB hb; clear hb hg; have hnb122 := nn NB478_473; have hnb123 := nn NB478_474; have hcz124 := X.k2 BK478; have hcz125 := X.k11 BK473; have hcz126 := X.k2 BK474) | ((with_reducible refine gc 26 rfl ?_); refine gm_ (some 21) rfl rfl Tryd.func26 (demand_Ratio.calls _ (⟨#[]⟩ : ByteArray) _ _ _ _ _ _ _ _ _ _ _ _ _ _ _ _ A2.out (tt GT)) ag ?_; intro w127 hb; replace BK473 := Aside0.mk (blk_below (g := gb473) (o := .cells #[.string (⟨#[]⟩ : ByteArray), .int .i64 400, .int .i64 1800, .int .i64 21, .int .i64 20, .int .i64 0, .int .i64 0, .int .i64 0, .int .i64 0, .int .i64 0, .int .i64 0] 50 (0, 0)) (bx BK473) hb); replace BK474 := bb BK474 hb; replace BK478 := bp_ #[.int .i64 t475, .int .i64 t476] BK478 hb; replace HB := bs HB hb; (try clear hb)) | ((with_reducible refine gd 5 rfl ?_); refine bx_ 5 23 #[.int .i64 0, .int .i64 0] rfl rfl ?_; intro gb482 hg w128 BK482 hb; have GE482 := bz HB hg; have NB473_482 := Aside0.mk ((by rw [hg]; exact Nat.ne_of_lt (blk_lt (g := gb473) (o := .cells #[.string (⟨#[]⟩ : ByteArray), .int .i64 400, .int .i64 1800, .int .i64 21, .int .i64 20, .int .i64 0, .int .i64 0, .int .i64 0, .int .i64 0, .int .i64 0, .int .i64 0] 50 (0, 0)) (bx BK473)) : gb473 ≠ gb482)); have NB482_473 := Aside0.mk ((by rw [hg]; exact Nat.ne_of_gt (blk_lt (g := gb473) (o := .cells #[.string (⟨#[]⟩ : ByteArray), .int .i64 400, .int .i64 1800, .int .i64 21, .int .i64 20, .int .i64 0, .int .i64 0, .int .i64 0, .int .i64 0, .int .i64 0, .int .i64 0] 50 (0, 0)) (bx BK473)) : gb482 ≠ gb473)); have ⟨NB474_482, NB482_474⟩ := nb BK474 hg; have ⟨NB478_482, NB482_478⟩ := nb BK478 hg; replace BK473 := Aside0.mk (blk_below (g := gb473) (o := .cells #[.string (⟨#[]⟩ : ByteArray), .int .i64 400, .int .i64 1800, .int .i64 21, .int .i64 20, .int .i64 0, .int .i64 0, .int .i64 0, .int .i64 0, .int .i64 0, .int .i64 0] 50 (0, 0)) (bx BK473) hb); replace HB := bs HB hb; clear hb hg; have hnb129 := nn NB482_473; have hnb130 := nn NB482_474; have hnb131 := nn NB482_478; have hcz132 := X.k2 BK482) | ((with_reducible refine gc 4 rfl ?_); refine gm_ (some 26) rfl rfl Tryd.func4 (demand_Rate.calls _ _ _ _ _ _ _ A3.out (tt GT)) ag ?_; intro w133 hb; replace BK473 := Aside0.mk (blk_below (g := gb473) (o := .cells #[.string (⟨#[]⟩ : ByteArray), .int .i64 400, .int .i64 1800, .int .i64 21, .int .i64 20, .int .i64 0, .int .i64 0, .int .i64 0, .int .i64 0, .int .i64 0, .int .i64 0] 50 (0, 0)) (bx BK473) hb); replace BK482 := bp_ #[.int .i64 t479, .int .i64 t480] BK482 hb; replace HB := bs HB hb; (try clear hb)))
    go_ret
    exact ⟨ae, bf HB⟩

end Go.Proofs.YtnocpmngpekceaaDoor.X
