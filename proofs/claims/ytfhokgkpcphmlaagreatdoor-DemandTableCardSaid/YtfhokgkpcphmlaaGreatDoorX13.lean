/- Walks: each '.calls' says that the Go function comes to what its Lean function tells. Conditions: as each theorem's head says. -/
import Derived.Test.YtfhokgkpcphmlaaGreatDoorXD
import Derived.Test.YtfhokgkpcphmlaaGreatDoorX0
import Derived.Test.YtfhokgkpcphmlaaGreatDoorX6
import Derived.Test.YtfhokgkpcphmlaaGreatDoorX10
import Derived.Test.YtfhokgkpcphmlaaGreatDoorX12
namespace Go.Proofs.YtfhokgkpcphmlaaGreatDoor.X
open Go.RowKit Go.Proofs.YtfhokgkpcphmlaaGreatDoorW.PrintWords Go.Proofs.YtfhokgkpcphmlaaGreatDoorW.PrintLast Go.Proofs.YtfhokgkpcphmlaaGreatDoorW.PrintMore
attribute [local go_sem] max2_int min2_int max_two min_two max_three min_three max_four min_four   -- for this text's walks alone
set_option linter.unusedVariables false
set_option maxHeartbeats 8000000
set_option maxRecDepth 100000
set_option linter.unusedSimpArgs false

/-! ### demand_Ratio_1: function 16 -/
def demand_Ratio_1.T1 : Bool × List (List Nat × List Nat) := (true, [([], []), ([], []), ([1], [1]), ([2], [2]), ([0, 3, 3], [0, 3]), ([4], [4]), ([4], [4]), ([5, 4, 0, 1, 2, 3, 4, 5, 6], [5]), ([6, 7, 0, 1, 2, 3, 4, 5, 6, 7], [6])])
def demand_Ratio_1.B1 : List Nat := [0, 0, 2, 6, 15, 31, 31, 127, 255]
theorem demand_Ratio_1.tab1 : rtab .any (opsOf Tryz.f16 1) = demand_Ratio_1.T1 := by kernel_rfl
theorem demand_Ratio_1.bits1 : waitsOk demand_Ratio_1.T1.2 demand_Ratio_1.B1 = true := by kernel_rfl
theorem demand_Ratio_1.calls (k : Nat) (a0_0 : Int) (a0_1 : Int) (a1_0 : ByteArray) (a1_1 : Int) (a1_2 : Int) (a1_3 : Int) (a1_4 : Int) (a1_5 : Int) (a1_6 : Int) (a1_7 : Int) (a1_8 : Int) (a1_9 : Int) (a1_10 : Int) (r1 : Int) (r2 : Int) (r3 : Int) (gb325 : Nat) (w : World) (hcap0 : w.heap[gb325]? = some (.cells #[.string a1_0, .int .i64 a1_1, .int .i64 a1_2, .int .i64 a1_3, .int .i64 a1_4, .int .i64 a1_5, .int .i64 a1_6, .int .i64 a1_7, .int .i64 a1_8, .int .i64 a1_9, .int .i64 a1_10] 48 (0, 0))) (h : demand_Ratio_1.f k a0_0 a0_1 a1_0 a1_1 a1_2 a1_3 a1_4 a1_5 a1_6 a1_7 a1_8 a1_9 a1_10 = some (r1, r2, r3)) (hT : TabOK w) :
  Calls Tryz.prog 16 #[.agg #[.int .i64 a0_0, .int .i64 a0_1], .pointer (some ⟨gb325, 0, none⟩)] w fun e w' => e = .returned (.tuple #[.agg #[.int .i64 r1, .int .i64 r2], .int .i64 r3]) ∧ Below w.heap.size w w' := by
 have GT := Aside0.mk hT
 clear hT
 have hu48 := Tryz.underlying48
 have hu23 := Tryz.underlying23
 have HB := Aside0.mk (Below.refl w.heap.size w)
 have BK325 := Aside0.mk hcap0
 clear hcap0
 have H : ((demand_number.f a1_2).bind fun bt328 => ((frac_Div.f k a0_0 a0_1 bt328.1 bt328.2).bind fun bt330 => (some (bt330.1, bt330.2.1, bt330.2.2)))) = some (r1, r2, r3) := h
 clear h
 replace H := bi_ H; obtain ⟨⟨t328, t329⟩, A3, H⟩ := H
 (try dsimp only at H)
 replace H := bi_ H; obtain ⟨⟨t330, t331, t332⟩, A4, H⟩ := H
 (try dsimp only at H)
 simp only [Option.some.injEq, Prod.mk.injEq] at H
 obtain ⟨rfl, rfl, rfl⟩ := H
 go_enter Tryz.func16, Tryz.ntmps16
 try go_wp2_with (first | ((with_reducible refine gd 2 rfl ?_); refine bx_ 2 23 #[.int .i64 a0_0, .int .i64 a0_1] rfl rfl ?_; intro gb326 hg w6 BK326 hb; have GE326 := bz HB hg; have ⟨NB325_326, NB326_325⟩ := nb BK325 hg; replace BK325 := bb BK325 hb; replace HB := bs HB hb; clear hb hg) | ((with_reducible refine gd 3 rfl ?_); refine bx_ 3 23 #[.int .i64 0, .int .i64 0] rfl rfl ?_; intro gb327 hg w7 BK327 hb; have GE327 := bz HB hg; have ⟨NB325_327, NB327_325⟩ := nb BK325 hg; have ⟨NB326_327, NB327_326⟩ := nb BK326 hg; replace BK325 := bb BK325 hb; replace BK326 := bb BK326 hb; replace HB := bs HB hb; clear hb hg))
 replace BK325 := Aside0.mk (blk_drew BK325.out)
 replace BK326 := Aside0.mk (blk_drew BK326.out)
 replace BK327 := Aside0.mk (blk_drew BK327.out)
 replace HB := Aside0.mk (below_drew1 HB.out)
 refine start_ (n := 9) (S := fun w' => c_ w' gb326 0 (.int .i64 a0_0) ∧ c_ w' gb326 1 (.int .i64 a0_1) ∧ c_ w' gb325 0 (.string a1_0) ∧ c_ w' gb325 1 (.int .i64 a1_1) ∧ c_ w' gb325 2 (.int .i64 a1_2) ∧ c_ w' gb325 3 (.int .i64 a1_3) ∧ c_ w' gb325 4 (.int .i64 a1_4) ∧ c_ w' gb325 5 (.int .i64 a1_5) ∧ c_ w' gb325 6 (.int .i64 a1_6) ∧ c_ w' gb325 7 (.int .i64 a1_7) ∧ c_ w' gb325 8 (.int .i64 a1_8) ∧ c_ w' gb325 9 (.int .i64 a1_9) ∧ c_ w' gb325 10 (.int .i64 a1_10)) (ds := []) (m_ 9 0) (by kernel_rfl) rfl rfl ⟨ct BK326 0, ct BK326 1, ct BK325 0, ct BK325 1, ct BK325 2, ct BK325 3, ct BK325 4, ct BK325 5, ct BK325 6, ct BK325 7, ct BK325 8, ct BK325 9, ct BK325 10⟩ (fun hHeld => ?_); refine with_tabW demand_Ratio_1.tab1 demand_Ratio_1.bits1 (fun HT_ HW_ => ?_)
 generalize w7.drew = w8 at BK325 BK326 BK327 HB hHeld ⊢
 refine pu_ 1 (some 6) (m_ 9 2) rfl rfl (ao HT_) ?_
 refine tk_ 0 (some 5) (m_ 9 3) rfl rfl (tw HT_ HW_) hHeld ?_
 refine tk_ 2 (some 7) (m_ 9 7) rfl rfl (tw HT_ HW_) hHeld ?_
 refine o1_ 3 (some 8) (m_ 9 15) rfl rfl (oo HT_) (fun K hK => ?_)
 refine gs_ rfl Tryz.func18 (demand_number.calls _ _ _ _ A3.out) ag ?_
 intro w9 hb
 replace BK325 := bb BK325 hb
 replace BK326 := bb BK326 hb
 replace BK327 := bb BK327 hb
 replace HB := bs HB hb
 (try clear hb)
 refine hK.out _ _ ⟨ct BK326 0, ct BK326 1, ct BK325 0, ct BK325 1, ct BK325 2, ct BK325 3, ct BK325 4, ct BK325 5, ct BK325 6, ct BK325 7, ct BK325 8, ct BK325 9, ct BK325 10⟩ (fun hHeld => ?_)
 clear hK K
 refine nr_ (some 8) ?_
 refine o1_ 4 (some 9) (m_ 9 31) rfl rfl (oo HT_) (fun K hK => ?_)
 refine gs_ rfl Tryz.func17 (frac_Div.calls _ _ _ _ _ _ _ _ _ A4.out (tt GT)) ag ?_
 intro w10 hb
 replace BK325 := bb BK325 hb
 replace BK326 := bb BK326 hb
 replace BK327 := bb BK327 hb
 replace HB := bs HB hb
 (try clear hb)
 refine hK.out _ _ ⟨ct BK326 0, ct BK326 1, ct BK325 0, ct BK325 1, ct BK325 2, ct BK325 3, ct BK325 4, ct BK325 5, ct BK325 6, ct BK325 7, ct BK325 8, ct BK325 9, ct BK325 10⟩ (fun hHeld => ?_)
 clear hK K
 refine nr_ (some 9) ?_
 refine pu_ 5 (some 10) (m_ 9 63) rfl rfl (ao HT_) ?_
 refine pu_ 6 (some 11) (m_ 9 127) rfl rfl (ao HT_) ?_
 refine o1_ 7 (none) (m_ 9 255) rfl rfl (oo HT_) (fun K hK => ?_)
 have hs11 : c_ w10 gb327 0 (.int .i64 0) := ct BK327 0
 have hfs11 := blk_frozen BK327.out 0
 have hns11_0 := NB325_327.out
 have hns11_1 := NB326_327.out
 have hms11_0 := NB327_325.out
 have hms11_1 := NB327_326.out
 have hs12 : c_ w10 gb327 1 (.int .i64 0) := ct BK327 1
 have hfs12 := blk_frozen BK327.out 1
 have hns12_0 := NB325_327.out
 have hns12_1 := NB326_327.out
 have hms12_0 := NB327_325.out
 have hms12_1 := NB327_326.out
 refine skip_ (w1 := ?_) (by rfl) rfl ?_ ?_
 rotate_left
 ·go_simp
  rfl
 refine hK.out _ _ (by obtain ⟨d0, d1, d2, d3, d4, d5, d6, d7, d8, d9, d10, d11, d12⟩ := hHeld; exact ⟨fa_ NB326_327 (fa_ NB326_327 d0), fa_ NB326_327 (fa_ NB326_327 d1), fa_ NB325_327 (fa_ NB325_327 d2), fa_ NB325_327 (fa_ NB325_327 d3), fa_ NB325_327 (fa_ NB325_327 d4), fa_ NB325_327 (fa_ NB325_327 d5), fa_ NB325_327 (fa_ NB325_327 d6), fa_ NB325_327 (fa_ NB325_327 d7), fa_ NB325_327 (fa_ NB325_327 d8), fa_ NB325_327 (fa_ NB325_327 d9), fa_ NB325_327 (fa_ NB325_327 d10), fa_ NB325_327 (fa_ NB325_327 d11), fa_ NB325_327 (fa_ NB325_327 d12)⟩) (fun hHeld => ?_)
 clear hK K
 refine pu_ 8 (some 4) (m_ 9 511) rfl rfl (ao HT_) ?_
 refine done_ (done_of HT_.out (by kernel_rfl)) ?_
 try go_wp2
 refine bodyPost_ret (results_ct rfl _ _ gb327 23 #[.int .i64 t330, .int .i64 t331] (0, 0) _ rfl (br_ BK327) Tryz.underlying23 rfl (by kernel_rfl)) rfl ?_
 exact ⟨ae, bf HB⟩


/-! ### demand_Ratio: function 10 -/
theorem demand_Ratio.calls (k : Nat) (a0_0 : ByteArray) (a0_1 a0_2 a0_3 a0_4 a0_5 a0_6 a0_7 a0_8 a0_9 a0_10 a1_0 a1_1 : Int) (r1 r2 r3 : Int) (w : World) (h : demand_Ratio.f k a0_0 a0_1 a0_2 a0_3 a0_4 a0_5 a0_6 a0_7 a0_8 a0_9 a0_10 a1_0 a1_1 = some (r1, r2, r3)) (hT : TabOK w) :
  Calls Tryz.prog 10 #[.agg #[.string a0_0, .int .i64 a0_1, .int .i64 a0_2, .int .i64 a0_3, .int .i64 a0_4, .int .i64 a0_5, .int .i64 a0_6, .int .i64 a0_7, .int .i64 a0_8, .int .i64 a0_9, .int .i64 a0_10], .agg #[.int .i64 a1_0, .int .i64 a1_1]] w fun e w' => e = .returned (.tuple #[.agg #[.int .i64 r1, .int .i64 r2], .int .i64 r3]) ∧ Below w.heap.size w w' := by
 have GT := Aside0.mk hT
 clear hT
 have hu1 := Tryz.underlying65
 have hu2 := Tryz.underlying23
 have hu3 := Tryz.underlying48
 have hmf : ∀ (fn : Fn) (first cap : Array Value) (w : World), (Instr.makeFunc fn first cap).run Tryz.prog w = .ok (.func fn first cap) w := fun _ _ _ _ => rfl
 have HB := Aside0.mk (Below.refl w.heap.size w)
 have H : ((demand_volume.f k a0_0 a0_1 a0_2 a0_3 a0_4 a0_5 a0_6 a0_7 a0_8 a0_9 a0_10 a1_0 a1_1).bind fun a => if a.2.2 = 0 then demand_Ratio_1.f k a.1 a.2.1 a0_0 a0_1 a0_2 a0_3 a0_4 a0_5 a0_6 a0_7 a0_8 a0_9 a0_10 else some a) = some (r1, r2, r3) := h
 clear h
 replace H := bi_ H; obtain ⟨⟨x0, x1, x2⟩, A1, H⟩ := H
 (try dsimp only at H)
 by_cases c1 : x2 = 0
 ·subst c1
  rw [if_pos rfl] at H
  have A2 := Aside0.mk H
  clear H
  go_enter Tryz.func10, Tryz.ntmps10
  try go_wp2_with (first | ((with_reducible refine gd 2 rfl ?_); refine bx_ 2 48 #[.string a0_0, .int .i64 a0_1, .int .i64 a0_2, .int .i64 a0_3, .int .i64 a0_4, .int .i64 a0_5, .int .i64 a0_6, .int .i64 a0_7, .int .i64 a0_8, .int .i64 a0_9, .int .i64 a0_10] rfl rfl ?_; intro g2 hg w1 BK2 hb; have GE2 := bz HB hg; replace HB := bs HB hb; clear hb hg) | ((with_reducible refine gd 3 rfl ?_); refine bx_ 3 23 #[.int .i64 a1_0, .int .i64 a1_1] rfl rfl ?_; intro g3 hg w2 BK3 hb; have GE3 := bz HB hg; have ⟨NB2_3, NB3_2⟩ := nb BK2 hg; replace BK2 := bb BK2 hb; replace HB := bs HB hb; clear hb hg) | ((with_reducible refine gd 4 rfl ?_); refine bx_ 4 23 #[.int .i64 0, .int .i64 0] rfl rfl ?_; intro g4 hg w3 BK4 hb; have GE4 := bz HB hg; have ⟨NB2_4, NB4_2⟩ := nb BK2 hg; have ⟨NB3_4, NB4_3⟩ := nb BK3 hg; replace BK2 := bb BK2 hb; replace BK3 := bb BK3 hb; replace HB := bs HB hb; clear hb hg; have hz2 := X.k11 BK2; have hz3 := X.k2 BK3) | ((with_reducible refine gc 14 rfl ?_); refine gm_ (some 9) rfl rfl Tryz.func14 (demand_volume.calls _ _ _ _ _ _ _ _ _ _ _ _ _ _ _ _ _ _ A1.out (tt GT)) ag ?_; intro w4 hb; replace BK2 := bb BK2 hb; replace BK4 := bb BK4 hb; replace HB := bs HB hb; clear hb hz2 hz3 BK3) | (go_at_call 15; (with_reducible refine (demand_then_ok 16 Tryz.f16 #[.pointer (some ⟨g2, 0, none⟩)] Tryz.func16 (by kernel_rfl) rfl x0 x1 r1 r2 r3 _ ?hdo).mono ?_); (case hdo => exact fun w1 hb1 => (show Calls Tryz.prog 16 #[.agg #[.int .i64 x0, .int .i64 x1], .pointer (some ⟨g2, 0, none⟩)] w1 _ from demand_Ratio_1.calls k x0 x1 a0_0 a0_1 a0_2 a0_3 a0_4 a0_5 a0_6 a0_7 a0_8 a0_9 a0_10 r1 r2 r3 g2 w1 (blk_below (bx BK2) hb1) A2.out (GT.out.below (below_step (bf HB) hb1)))); rintro e w5 ⟨rfl, hb⟩; replace BK4 := bb BK4 hb; replace HB := bs HB hb; clear hb BK2) | ((with_reducible refine gd 6 rfl ?_); refine bx_ 6 65 #[.int .i64 0, .int .i64 0, .int .i64 0] rfl rfl ?_; intro g6 hg w6 BK6 hb; have GE6 := bz HB hg; have ⟨NB4_6, NB6_4⟩ := nb BK4 hg; replace BK4 := bb BK4 hb; replace HB := bs HB hb; clear hb hg; have hn64 := nn NB6_4; have hz6 := X.k3 BK6))
  have n2_ : Aside0 ((((w6.setCell ⟨g6, 0, none⟩ (.int .i64 r1)).setCell ⟨g6, 1, none⟩ (.int .i64 r2)).setCell ⟨g6, 2, none⟩ (.int .i64 r3)).heap[g4]? = some (.cells #[.int .i64 0, .int .i64 0] 23 (0, 0))) := bu_ BK4
  have n3_ : Aside0 ((((w6.setCell ⟨g6, 0, none⟩ (.int .i64 r1)).setCell ⟨g6, 1, none⟩ (.int .i64 r2)).setCell ⟨g6, 2, none⟩ (.int .i64 r3)).heap[g6]? = some (.cells #[.int .i64 r1, .int .i64 r2, .int .i64 r3] 65 (0, 0))) := bq_ BK6
  have n4_ : Aside0 (Below w.heap.size w (((w6.setCell ⟨g6, 0, none⟩ (.int .i64 r1)).setCell ⟨g6, 1, none⟩ (.int .i64 r2)).setCell ⟨g6, 2, none⟩ (.int .i64 r3))) := ⟨bf HB⟩
  clear BK4 BK6 HB hz6 hn64
  generalize (((w6.setCell ⟨g6, 0, none⟩ (.int .i64 r1)).setCell ⟨g6, 1, none⟩ (.int .i64 r2)).setCell ⟨g6, 2, none⟩ (.int .i64 r3)) = w18 at n2_ n3_ n4_ ⊢
  have BK4 := Aside0.mk (blk_drew n2_.out)
  have BK6 := Aside0.mk (blk_drew n3_.out)
  have HB := Aside0.mk (below_drew1 n4_.out)
  clear n2_ n3_ n4_
  refine start_ (n := 6) (S := fun w' => c_ w' g6 0 (.int .i64 r1) ∧ c_ w' g6 1 (.int .i64 r2) ∧ c_ w' g6 2 (.int .i64 r3)) (ds := []) (m_ 6 0) (by kernel_rfl) rfl rfl ⟨ct BK6 0, ct BK6 1, ct BK6 2⟩ (fun hHeld => ?_)
  generalize w18.drew = w19 at BK4 BK6 HB hHeld ⊢
  refine pu_ 0 (some 12) (m_ 6 1) rfl rfl (by kernel_rfl) ?_
  refine pu_ 2 (some 14) (m_ 6 5) rfl rfl (by kernel_rfl) ?_
  refine tk_ 1 (some 13) (m_ 6 7) rfl rfl (by kernel_rfl) hHeld ?_
  refine tk_ 3 (some 15) (m_ 6 15) rfl rfl (by kernel_rfl) hHeld ?_
  refine o1_ 4 (none) (m_ 6 31) rfl rfl (by kernel_rfl) (fun K hK => ?_)
  have hs20 : c_ w19 g4 0 (.int .i64 0) := ct BK4 0
  have hfs20 := blk_frozen BK4.out 0
  have hns20 := nn NB6_4
  have hs21 : c_ w19 g4 1 (.int .i64 0) := ct BK4 1
  have hfs21 := blk_frozen BK4.out 1
  refine skip_ (w1 := ?_) (by rfl) rfl ?_ ?_
  rotate_left
  ·go_simp
   rfl
  refine hK.out _ _ (by obtain ⟨d0, d1, d2⟩ := hHeld; exact ⟨fa_ NB6_4 (fa_ NB6_4 d0), fa_ NB6_4 (fa_ NB6_4 d1), fa_ NB6_4 (fa_ NB6_4 d2)⟩) (fun hHeld => ?_)
  clear hK K
  refine pu_ 5 (some 5) (m_ 6 63) rfl rfl (by kernel_rfl) ?_
  refine done_ (by kernel_rfl) ?_
  try go_wp2
  refine bodyPost_ret (results_ct rfl _ _ g4 23 #[.int .i64 r1, .int .i64 r2] (0, 0) _ rfl (br_ BK4) Tryz.underlying23 rfl (by kernel_rfl)) rfl ?_
  exact ⟨ae, bf HB⟩
 ·have C1 := Aside0.mk c1
  clear c1
  rw [if_neg C1.out] at H
  simp only [Option.some.injEq, Prod.mk.injEq] at H
  obtain ⟨rfl, rfl, rfl⟩ := H
  go_enter Tryz.func10, Tryz.ntmps10
  try go_wp2_with (first | ((with_reducible refine gd 2 rfl ?_); refine bx_ 2 48 #[.string a0_0, .int .i64 a0_1, .int .i64 a0_2, .int .i64 a0_3, .int .i64 a0_4, .int .i64 a0_5, .int .i64 a0_6, .int .i64 a0_7, .int .i64 a0_8, .int .i64 a0_9, .int .i64 a0_10] rfl rfl ?_; intro g2 hg w1 BK2 hb; have GE2 := bz HB hg; replace HB := bs HB hb; clear hb hg) | ((with_reducible refine gd 3 rfl ?_); refine bx_ 3 23 #[.int .i64 a1_0, .int .i64 a1_1] rfl rfl ?_; intro g3 hg w2 BK3 hb; have GE3 := bz HB hg; have ⟨NB2_3, NB3_2⟩ := nb BK2 hg; replace BK2 := bb BK2 hb; replace HB := bs HB hb; clear hb hg) | ((with_reducible refine gd 4 rfl ?_); refine bx_ 4 23 #[.int .i64 0, .int .i64 0] rfl rfl ?_; intro g4 hg w3 BK4 hb; have GE4 := bz HB hg; have ⟨NB2_4, NB4_2⟩ := nb BK2 hg; have ⟨NB3_4, NB4_3⟩ := nb BK3 hg; replace BK2 := bb BK2 hb; replace BK3 := bb BK3 hb; replace HB := bs HB hb; clear hb hg; have hz2 := X.k11 BK2; have hz3 := X.k2 BK3) | ((with_reducible refine gc 14 rfl ?_); refine gm_ (some 9) rfl rfl Tryz.func14 (demand_volume.calls _ _ _ _ _ _ _ _ _ _ _ _ _ _ _ _ _ _ A1.out (tt GT)) ag ?_; intro w4 hb; replace BK2 := bb BK2 hb; replace BK4 := bb BK4 hb; replace HB := bs HB hb; clear hb hz2 hz3 BK3) | (go_at_call 15; (with_reducible refine (demand_then_err _ x0 x1 x2 _ C1.out).mono ?_); rintro e w5 ⟨rfl, hb⟩; replace BK4 := bb BK4 hb; replace HB := bs HB hb; clear hb BK2) | ((with_reducible refine gd 6 rfl ?_); refine bx_ 6 65 #[.int .i64 0, .int .i64 0, .int .i64 0] rfl rfl ?_; intro g6 hg w6 BK6 hb; have GE6 := bz HB hg; have ⟨NB4_6, NB6_4⟩ := nb BK4 hg; replace BK4 := bb BK4 hb; replace HB := bs HB hb; clear hb hg; have hn64 := nn NB6_4; have hz6 := X.k3 BK6))
  have n2_ : Aside0 ((((w6.setCell ⟨g6, 0, none⟩ (.int .i64 x0)).setCell ⟨g6, 1, none⟩ (.int .i64 x1)).setCell ⟨g6, 2, none⟩ (.int .i64 x2)).heap[g4]? = some (.cells #[.int .i64 0, .int .i64 0] 23 (0, 0))) := bu_ BK4
  have n3_ : Aside0 ((((w6.setCell ⟨g6, 0, none⟩ (.int .i64 x0)).setCell ⟨g6, 1, none⟩ (.int .i64 x1)).setCell ⟨g6, 2, none⟩ (.int .i64 x2)).heap[g6]? = some (.cells #[.int .i64 x0, .int .i64 x1, .int .i64 x2] 65 (0, 0))) := bq_ BK6
  have n4_ : Aside0 (Below w.heap.size w (((w6.setCell ⟨g6, 0, none⟩ (.int .i64 x0)).setCell ⟨g6, 1, none⟩ (.int .i64 x1)).setCell ⟨g6, 2, none⟩ (.int .i64 x2))) := ⟨bf HB⟩
  clear BK4 BK6 HB hz6 hn64
  generalize (((w6.setCell ⟨g6, 0, none⟩ (.int .i64 x0)).setCell ⟨g6, 1, none⟩ (.int .i64 x1)).setCell ⟨g6, 2, none⟩ (.int .i64 x2)) = w18 at n2_ n3_ n4_ ⊢
  have BK4 := Aside0.mk (blk_drew n2_.out)
  have BK6 := Aside0.mk (blk_drew n3_.out)
  have HB := Aside0.mk (below_drew1 n4_.out)
  clear n2_ n3_ n4_
  refine start_ (n := 6) (S := fun w' => c_ w' g6 0 (.int .i64 x0) ∧ c_ w' g6 1 (.int .i64 x1) ∧ c_ w' g6 2 (.int .i64 x2)) (ds := []) (m_ 6 0) (by kernel_rfl) rfl rfl ⟨ct BK6 0, ct BK6 1, ct BK6 2⟩ (fun hHeld => ?_)
  generalize w18.drew = w19 at BK4 BK6 HB hHeld ⊢
  refine pu_ 0 (some 12) (m_ 6 1) rfl rfl (by kernel_rfl) ?_
  refine pu_ 2 (some 14) (m_ 6 5) rfl rfl (by kernel_rfl) ?_
  refine tk_ 1 (some 13) (m_ 6 7) rfl rfl (by kernel_rfl) hHeld ?_
  refine tk_ 3 (some 15) (m_ 6 15) rfl rfl (by kernel_rfl) hHeld ?_
  refine o1_ 4 (none) (m_ 6 31) rfl rfl (by kernel_rfl) (fun K hK => ?_)
  have hs20 : c_ w19 g4 0 (.int .i64 0) := ct BK4 0
  have hfs20 := blk_frozen BK4.out 0
  have hns20 := nn NB6_4
  have hs21 : c_ w19 g4 1 (.int .i64 0) := ct BK4 1
  have hfs21 := blk_frozen BK4.out 1
  refine skip_ (w1 := ?_) (by rfl) rfl ?_ ?_
  rotate_left
  ·go_simp
   rfl
  refine hK.out _ _ (by obtain ⟨d0, d1, d2⟩ := hHeld; exact ⟨fa_ NB6_4 (fa_ NB6_4 d0), fa_ NB6_4 (fa_ NB6_4 d1), fa_ NB6_4 (fa_ NB6_4 d2)⟩) (fun hHeld => ?_)
  clear hK K
  refine pu_ 5 (some 5) (m_ 6 63) rfl rfl (by kernel_rfl) ?_
  refine done_ (by kernel_rfl) ?_
  try go_wp2
  refine bodyPost_ret (results_ct rfl _ _ g4 23 #[.int .i64 x0, .int .i64 x1] (0, 0) _ rfl (br_ BK4) Tryz.underlying23 rfl (by kernel_rfl)) rfl ?_
  exact ⟨ae, bf HB⟩

/-! ### carrefourref01_Size: function 45 -/
theorem carrefourref01_Size.calls (a0 : Int) (r : Int) (w : World) (h : carrefourref01_Size.f a0 = some r) :
  Calls Tryz.prog 45 #[.int .i64 a0] w fun e w' => e = .returned (.int .u64 r) ∧ Drawn0 w w' := by
 have H : (if a0 < 0 then (some (IntKind.u64.wrap (-(IntKind.u64.wrap (a0))))) else (some (IntKind.u64.wrap (a0)))) = some r := h
 clear h
 by_cases c2 : a0 < 0
 ·rw [if_pos c2] at H
  have c2b0 : decide (a0 < 0) = true := decide_eq_true c2
  clear c2
  obtain rfl := Option.some.inj H
  go_enter Tryz.func45, Tryz.ntmps45
  go_wp2
  go_ret
  exact ⟨aq, dr⟩
 ·rw [if_neg c2] at H
  have c2b0 : decide (a0 < 0) = false := decide_eq_false c2
  clear c2
  obtain rfl := Option.some.inj H
  go_enter Tryz.func45, Tryz.ntmps45
  go_wp2
  go_ret
  exact ⟨aq, dr⟩

/-! ### carrefourref02_gcd: function 67 -/
theorem carrefourref02_gcd.calls (k : Nat) (a0 : Int) (a1 : Int) (r : Int) (w : World) (h : carrefourref02_gcd.f k a0 a1 = some r) :
  Calls Tryz.prog 67 #[.int .u64 a0, .int .u64 a1] w fun e w' => e = .returned (.int .u64 r) ∧ Drawn0 w w' := by
 have H : (carrefourref02_gcd.l0 k a0 a1) = some r := h
 clear h
 have H' := Aside0.mk H
 clear H
 go_enter Tryz.func67, Tryz.ntmps67
 go_wp2
 go_loopg [0, 1] k (fun kq v0 v1 w' => ∃ (x0_1 : Int) (x1_1 : Int), v0 = .int .u64 x0_1 ∧ v1 = .int .u64 x1_1 ∧ Aside0 (carrefourref02_gcd.l0 kq x0_1 x1_1 = some r) ∧ Aside0 (kq ≤ k) ∧ Drawn0 w w')
 case atStart => exact ⟨(a0), (a1), (aq), (aq), H', ⟨Nat.le_refl _⟩, dr⟩
 case round =>
  clear H'
  (try clear p2)
  obtain ⟨x0_1, x1_1, rfl, rfl, HA, HK1, ⟨m1, rfl⟩⟩ := hrel
  cases gk with
  | zero => exact absurd HA.out (by simp [carrefourref02_gcd.l0])
  | succ k1 =>
   have H := HA.out
   clear HA
   simp only [carrefourref02_gcd.l0] at H
   by_cases c3 : x1_1 = 0
   ·rw [if_pos c3] at H
    have c3b0 : (x1_1 == 0) = true := beq_iff_eq.mpr c3
    have c3b1 : (x1_1 != 0) = false := bne_eq_false_iff_eq.mpr c3
    clear c3
    obtain rfl := Option.some.inj H
    go_wp2
    go_ret
    exact ⟨aq, dr⟩
   ·rw [if_neg c3] at H
    have c3b0 : (x1_1 == 0) = false := beq_eq_false_iff_ne.mpr c3
    have c3b1 : (x1_1 != 0) = true := bne_iff_ne.mpr c3
    have H' := Aside0.mk H
    clear H
    go_wp2
    go_roundg k1
    case measure => have := HK1.out; omega
    case rel => exact ⟨(x1_1), (Int.tmod x0_1 x1_1), (aq), (aq), H', ⟨by have := HK1.out; omega⟩, dr⟩

/-! ### carrefourref01_Signed: function 93 -/
theorem carrefourref01_Signed.calls (k : Nat) (a0 : Int) (a1 : Bool) (r1 : Int) (r2 : Int) (w : World) (h : carrefourref01_Signed.f k a0 a1 = some (r1, r2)) :
  Calls Tryz.prog 93 #[.int .u64 a0, .bool a1] w fun e w' => e = .returned (.tuple #[.int .i64 r1, .int .i64 r2]) ∧ Drawn0 w w' := by
 have H : (if a0 = 9223372036854775808 then (carrefourref01_Signed.j0 k a0 a1 a1) else (carrefourref01_Signed.j0 k a0 a1 false)) = some (r1, r2) := h
 clear h
 have HC3 := Aside0.mk H
 clear H
 go_enter Tryz.func93, Tryz.ntmps93
 go_upto_region 1 with (fail)
 go_cut [10] (fun v10 wc => ∃ (kq : Nat) (x10_2 : Bool), v10 = .bool x10_2 ∧ Aside0 (carrefourref01_Signed.j0 kq a0 a1 x10_2 = some (r1, r2)) ∧ Aside0 (kq ≤ k) ∧ Drawn0 w wc)
 case first =>
  have H := HC3.out
  clear HC3
  by_cases c4 : a0 = 9223372036854775808
  ·rw [if_pos c4] at H
   have c4b0 : (a0 == 9223372036854775808) = true := beq_iff_eq.mpr c4
   have c4b1 : (a0 != 9223372036854775808) = false := bne_eq_false_iff_eq.mpr c4
   clear c4
   (first | rw [c4b0] | (simp only [i64_w, i32_w]; rw [c4b0]) | skip)
   have H' := Aside0.mk H
   clear H
   go_wp2
   go_meet
   case rel => exact ⟨_, (a1), (aq), H', ⟨by first | omega | exact Nat.le_refl _⟩, dr⟩
  ·rw [if_neg c4] at H
   have c4b0 : (a0 == 9223372036854775808) = false := beq_eq_false_iff_ne.mpr c4
   have c4b1 : (a0 != 9223372036854775808) = true := bne_iff_ne.mpr c4
   (first | rw [c4b0] | (simp only [i64_w, i32_w]; rw [c4b0]) | skip)
   have H' := Aside0.mk H
   clear H
   go_wp2
   go_meet
   case rel => exact ⟨_, (false), (aq), H', ⟨by first | omega | exact Nat.le_refl _⟩, dr⟩
 case rest =>
  clear HC3
  (try clear p2); (try clear c4); (try clear c4b0); (try clear c4b1)
  obtain ⟨kq, x10_2, rfl, HA, HJ2, ⟨mc2, rfl⟩⟩ := hcut
  cases kq with
  | zero => exact absurd HA.out (by simp [carrefourref01_Signed.j0])
  | succ kj2 =>
   have H := HA.out
   clear HA
   simp only [carrefourref01_Signed.j0] at H
   by_cases c5 : x10_2 = true
   ·subst c5
    have H1 : (some ((-9223372036854775808), 0)) = some (r1, r2) := by rw [if_pos rfl] at H; exact H
    clear H
    have H := H1
    clear H1
    simp only [Option.some.injEq, Prod.mk.injEq] at H
    obtain ⟨rfl, rfl⟩ := H
    go_wp2
    go_ret2
    exact ⟨aq, dr⟩
   ·replace c5 := Bool.eq_false_iff.mpr c5
    subst c5
    have H1 : (if a0 > 9223372036854775807 then (some (0, 2)) else (if a1 = true then (some (wrap64 (-(wrap64 (a0))), 0)) else (some (wrap64 (a0), 0)))) = some (r1, r2) := by rw [if_neg (show ¬ (false = true) by decide)] at H; exact H
    clear H
    have H := H1
    clear H1
    by_cases c6 : a0 > 9223372036854775807
    ·rw [if_pos c6] at H
     have c6b0 : decide (9223372036854775807 < a0) = true := decide_eq_true c6
     clear c6
     simp only [Option.some.injEq, Prod.mk.injEq] at H
     obtain ⟨rfl, rfl⟩ := H
     go_wp2
     go_ret2
     exact ⟨aq, dr⟩
    ·rw [if_neg c6] at H
     have c6b0 : decide (9223372036854775807 < a0) = false := decide_eq_false c6
     clear c6
     by_cases c7 : a1 = true
     ·subst c7
      have H1 : (some (wrap64 (-(wrap64 (a0))), 0)) = some (r1, r2) := by rw [if_pos rfl] at H; exact H
      clear H
      have H := H1
      clear H1
      simp only [Option.some.injEq, Prod.mk.injEq] at H
      obtain ⟨rfl, rfl⟩ := H
      go_wp2
      go_ret2
      exact ⟨aq, dr⟩
     ·replace c7 := Bool.eq_false_iff.mpr c7
      subst c7
      have H1 : (some (wrap64 (a0), 0)) = some (r1, r2) := by rw [if_neg (show ¬ (false = true) by decide)] at H; exact H
      clear H
      have H := H1
      clear H1
      simp only [Option.some.injEq, Prod.mk.injEq] at H
      obtain ⟨rfl, rfl⟩ := H
      go_wp2
      go_ret2
      exact ⟨aq, dr⟩

end Go.Proofs.YtfhokgkpcphmlaaGreatDoor.X
