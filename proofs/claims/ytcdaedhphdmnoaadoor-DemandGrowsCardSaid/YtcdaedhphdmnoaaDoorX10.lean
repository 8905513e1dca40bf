/- Walks: each '.calls' says that the Go function comes to what its Lean function tells. Conditions: as each theorem's head says. -/
import Derived.Test.YtcdaedhphdmnoaaDoorXD
import Derived.Test.YtcdaedhphdmnoaaDoorX0
import Derived.Test.YtcdaedhphdmnoaaDoorX3
import Derived.Test.YtcdaedhphdmnoaaDoorX4
import Derived.Test.YtcdaedhphdmnoaaDoorX7
import Derived.Test.YtcdaedhphdmnoaaDoorX9
namespace Go.Proofs.YtcdaedhphdmnoaaDoor.X
open Go.RowKit Go.Proofs.YtcdaedhphdmnoaaDoorW.PrintWords Go.Proofs.YtcdaedhphdmnoaaDoorW.PrintLast Go.Proofs.YtcdaedhphdmnoaaDoorW.PrintMore
attribute [local go_sem] max2_int min2_int max_two min_two max_three min_three max_four min_four   -- for this text's walks alone
set_option linter.unusedVariables false
set_option maxHeartbeats 8000000
set_option maxRecDepth 100000
set_option linter.unusedSimpArgs false

/-! ### demand_Ratio_1: function 13 -/
def demand_Ratio_1.T1 : Bool × List (List Nat × List Nat) := (true, [([], []), ([], []), ([1], [1]), ([2], [2]), ([0, 3, 3], [0, 3]), ([4], [4]), ([4], [4]), ([5, 4, 0, 1, 2, 3, 4, 5, 6], [5]), ([6, 7, 0, 1, 2, 3, 4, 5, 6, 7], [6])])
def demand_Ratio_1.B1 : List Nat := [0, 0, 2, 6, 15, 31, 31, 127, 255]
theorem demand_Ratio_1.tab1 : rtab .any (opsOf Tryd.f13 1) = demand_Ratio_1.T1 := by kernel_rfl
theorem demand_Ratio_1.bits1 : waitsOk demand_Ratio_1.T1.2 demand_Ratio_1.B1 = true := by kernel_rfl
theorem demand_Ratio_1.calls (k : Nat) (a0_0 : Int) (a0_1 : Int) (a1_0 : ByteArray) (a1_1 : Int) (a1_2 : Int) (a1_3 : Int) (a1_4 : Int) (a1_5 : Int) (a1_6 : Int) (a1_7 : Int) (a1_8 : Int) (a1_9 : Int) (a1_10 : Int) (r1 : Int) (r2 : Int) (r3 : Int) (gb277 : Nat) (w : World) (hcap0 : w.heap[gb277]? = some (.cells #[.string a1_0, .int .i64 a1_1, .int .i64 a1_2, .int .i64 a1_3, .int .i64 a1_4, .int .i64 a1_5, .int .i64 a1_6, .int .i64 a1_7, .int .i64 a1_8, .int .i64 a1_9, .int .i64 a1_10] 25 (0, 0))) (h : demand_Ratio_1.f k a0_0 a0_1 a1_0 a1_1 a1_2 a1_3 a1_4 a1_5 a1_6 a1_7 a1_8 a1_9 a1_10 = some (r1, r2, r3)) (hT : TabOK w) :
    Calls Tryd.prog 13 #[.agg #[.int .i64 a0_0, .int .i64 a0_1], .pointer (some ⟨gb277, 0, none⟩)] w fun e w' => e = .returned (.tuple #[.agg #[.int .i64 r1, .int .i64 r2], .int .i64 r3]) ∧ Below w.heap.size w w' := by
  have GT := Aside0.mk hT
  clear hT
  have hu25 := Tryd.underlying25
  have hu23 := Tryd.underlying23
  have HB := Aside0.mk (Below.refl w.heap.size w)
  have BK277 := Aside0.mk hcap0
  clear hcap0
  have H : ((demand_number.f a1_2).bind fun bt280 => ((frac_Div.f k a0_0 a0_1 bt280.1 bt280.2).bind fun bt282 => (some (bt282.1, bt282.2.1, bt282.2.2)))) = some (r1, r2, r3) := h
  clear h
  replace H := bi_ H; obtain ⟨⟨t280, t281⟩, A3, H⟩ := H
  (try dsimp only at H)
  replace H := bi_ H; obtain ⟨⟨t282, t283, t284⟩, A4, H⟩ := H
  (try dsimp only at H)
  simp only [Option.some.injEq, Prod.mk.injEq] at H
  obtain ⟨rfl, rfl, rfl⟩ := H
  go_enter Tryd.func13, Tryd.ntmps13
  try go_wp2_with (first | ((with_reducible refine gd 2 rfl ?_); refine bx_ 2 23 #[.int .i64 a0_0, .int .i64 a0_1] rfl rfl ?_; intro gb278 hg w6 BK278 hb; have GE278 := bz HB hg; have ⟨NB277_278, NB278_277⟩ := nb BK277 hg; replace BK277 := bb BK277 hb; replace HB := bs HB hb; clear hb hg) | ((with_reducible refine gd 3 rfl ?_); refine bx_ 3 23 #[.int .i64 0, .int .i64 0] rfl rfl ?_; intro gb279 hg w7 BK279 hb; have GE279 := bz HB hg; have ⟨NB277_279, NB279_277⟩ := nb BK277 hg; have ⟨NB278_279, NB279_278⟩ := nb BK278 hg; replace BK277 := bb BK277 hb; replace BK278 := bb BK278 hb; replace HB := bs HB hb; clear hb hg))
  replace BK277 := Aside0.mk (blk_drew BK277.out)
  replace BK278 := Aside0.mk (blk_drew BK278.out)
  replace BK279 := Aside0.mk (blk_drew BK279.out)
  replace HB := Aside0.mk (below_drew1 HB.out)
  refine start_ (n := 9) (S := fun w' => c_ w' gb278 0 (.int .i64 a0_0) ∧ c_ w' gb278 1 (.int .i64 a0_1) ∧ c_ w' gb277 0 (.string a1_0) ∧ c_ w' gb277 1 (.int .i64 a1_1) ∧ c_ w' gb277 2 (.int .i64 a1_2) ∧ c_ w' gb277 3 (.int .i64 a1_3) ∧ c_ w' gb277 4 (.int .i64 a1_4) ∧ c_ w' gb277 5 (.int .i64 a1_5) ∧ c_ w' gb277 6 (.int .i64 a1_6) ∧ c_ w' gb277 7 (.int .i64 a1_7) ∧ c_ w' gb277 8 (.int .i64 a1_8) ∧ c_ w' gb277 9 (.int .i64 a1_9) ∧ c_ w' gb277 10 (.int .i64 a1_10)) (ds := []) (m_ 9 0) (by kernel_rfl) rfl rfl ⟨ct BK278 0, ct BK278 1, ct BK277 0, ct BK277 1, ct BK277 2, ct BK277 3, ct BK277 4, ct BK277 5, ct BK277 6, ct BK277 7, ct BK277 8, ct BK277 9, ct BK277 10⟩ (fun hHeld => ?_); refine with_tabW demand_Ratio_1.tab1 demand_Ratio_1.bits1 (fun HT_ HW_ => ?_)
  generalize w7.drew = w8 at BK277 BK278 BK279 HB hHeld ⊢
  refine pu_ 1 (some 6) (m_ 9 2) rfl rfl (ao HT_) ?_
  refine tk_ 0 (some 5) (m_ 9 3) rfl rfl (tw HT_ HW_) hHeld ?_
  refine tk_ 2 (some 7) (m_ 9 7) rfl rfl (tw HT_ HW_) hHeld ?_
  refine o1_ 3 (some 8) (m_ 9 15) rfl rfl (oo HT_) (fun K hK => ?_)
  refine gs_ rfl Tryd.func15 (demand_number.calls _ _ _ _ A3.out) ag ?_
  intro w9 hb
  replace BK277 := bb BK277 hb
  replace BK278 := bb BK278 hb
  replace BK279 := bb BK279 hb
  replace HB := bs HB hb
  (try clear hb)
  refine hK.out _ _ ⟨ct BK278 0, ct BK278 1, ct BK277 0, ct BK277 1, ct BK277 2, ct BK277 3, ct BK277 4, ct BK277 5, ct BK277 6, ct BK277 7, ct BK277 8, ct BK277 9, ct BK277 10⟩ (fun hHeld => ?_)
  clear hK K
  refine nr_ (some 8) ?_
  refine o1_ 4 (some 9) (m_ 9 31) rfl rfl (oo HT_) (fun K hK => ?_)
  refine gs_ rfl Tryd.func14 (frac_Div.calls _ _ _ _ _ _ _ _ _ A4.out (tt GT)) ag ?_
  intro w10 hb
  replace BK277 := bb BK277 hb
  replace BK278 := bb BK278 hb
  replace BK279 := bb BK279 hb
  replace HB := bs HB hb
  (try clear hb)
  refine hK.out _ _ ⟨ct BK278 0, ct BK278 1, ct BK277 0, ct BK277 1, ct BK277 2, ct BK277 3, ct BK277 4, ct BK277 5, ct BK277 6, ct BK277 7, ct BK277 8, ct BK277 9, ct BK277 10⟩ (fun hHeld => ?_)
  clear hK K
  refine nr_ (some 9) ?_
  refine pu_ 5 (some 10) (m_ 9 63) rfl rfl (ao HT_) ?_
  refine pu_ 6 (some 11) (m_ 9 127) rfl rfl (ao HT_) ?_
  refine o1_ 7 (none) (m_ 9 255) rfl rfl (oo HT_) (fun K hK => ?_)
  have hs11 : c_ w10 gb279 0 (.int .i64 0) := ct BK279 0
  have hfs11 := blk_frozen BK279.out 0
  have hns11_0 := NB277_279.out
  have hns11_1 := NB278_279.out
  have hms11_0 := NB279_277.out
  have hms11_1 := NB279_278.out
  have hs12 : c_ w10 gb279 1 (.int .i64 0) := ct BK279 1
  have hfs12 := blk_frozen BK279.out 1
  have hns12_0 := NB277_279.out
  have hns12_1 := NB278_279.out
  have hms12_0 := NB279_277.out
  have hms12_1 := NB279_278.out
  refine skip_ (w1 := ?_) (by rfl) rfl ?_ ?_
  rotate_left
  · go_simp
    rfl
  refine hK.out _ _ ⟨((cell_far (p := ⟨gb279, _, none⟩) NB278_279.out _).trans (((cell_far (p := ⟨gb279, _, none⟩) NB278_279.out _).trans (hHeld.1)))), ((cell_far (p := ⟨gb279, _, none⟩) NB278_279.out _).trans (((cell_far (p := ⟨gb279, _, none⟩) NB278_279.out _).trans (hHeld.2.1)))), ((cell_far (p := ⟨gb279, _, none⟩) NB277_279.out _).trans (((cell_far (p := ⟨gb279, _, none⟩) NB277_279.out _).trans (hHeld.2.2.1)))), ((cell_far (p := ⟨gb279, _, none⟩) NB277_279.out _).trans (((cell_far (p := ⟨gb279, _, none⟩) NB277_279.out _).trans (hHeld.2.2.2.1)))), ((cell_far (p := ⟨gb279, _, none⟩) NB277_279.out _).trans (((cell_far (p := ⟨gb279, _, none⟩) NB277_279.out _).trans (hHeld.2.2.2.2.1)))), ((cell_far (p := ⟨gb279, _, none⟩) NB277_279.out _).trans (((cell_far (p := ⟨gb279, _, none⟩) NB277_279.out _).trans (hHeld.2.2.2.2.2.1)))), ((cell_far (p := ⟨gb279, _, none⟩) NB277_279.out _).trans (((cell_far (p := ⟨gb279, _, none⟩) NB277_279.out _).trans (hHeld.2.2.2.2.2.2.1)))), ((cell_far (p := ⟨gb279, _, none⟩) NB277_279.out _).trans (((cell_far (p := ⟨gb279, _, none⟩) NB277_279.out _).trans (hHeld.2.2.2.2.2.2.2.1)))), ((cell_far (p := ⟨gb279, _, none⟩) NB277_279.out _).trans (((cell_far (p := ⟨gb279, _, none⟩) NB277_279.out _).trans (hHeld.2.2.2.2.2.2.2.2.1)))), ((cell_far (p := ⟨gb279, _, none⟩) NB277_279.out _).trans (((cell_far (p := ⟨gb279, _, none⟩) NB277_279.out _).trans (hHeld.2.2.2.2.2.2.2.2.2.1)))), ((cell_far (p := ⟨gb279, _, none⟩) NB277_279.out _).trans (((cell_far (p := ⟨gb279, _, none⟩) NB277_279.out _).trans (hHeld.2.2.2.2.2.2.2.2.2.2.1)))), ((cell_far (p := ⟨gb279, _, none⟩) NB277_279.out _).trans (((cell_far (p := ⟨gb279, _, none⟩) NB277_279.out _).trans (hHeld.2.2.2.2.2.2.2.2.2.2.2.1)))), ((cell_far (p := ⟨gb279, _, none⟩) NB277_279.out _).trans (((cell_far (p := ⟨gb279, _, none⟩) NB277_279.out _).trans (hHeld.2.2.2.2.2.2.2.2.2.2.2.2))))⟩ (fun hHeld => ?_)
  clear hK K
  refine pu_ 8 (some 4) (m_ 9 511) rfl rfl (ao HT_) ?_
  refine done_ (done_of HT_.out (by kernel_rfl)) ?_
  try go_wp2
  refine bodyPost_ret (results_ct rfl _ _ gb279 23 #[.int .i64 t282, .int .i64 t283] (0, 0) _ rfl (br_ BK279) Tryd.underlying23 rfl (by kernel_rfl)) rfl ?_
  exact ⟨ae, bf HB⟩


/-! ### demand_Ratio: function 6 -/
theorem demand_Ratio.calls (k : Nat) (a0_0 : ByteArray) (a0_1 a0_2 a0_3 a0_4 a0_5 a0_6 a0_7 a0_8 a0_9 a0_10 a1_0 a1_1 : Int) (r1 r2 r3 : Int) (w : World) (h : demand_Ratio.f k a0_0 a0_1 a0_2 a0_3 a0_4 a0_5 a0_6 a0_7 a0_8 a0_9 a0_10 a1_0 a1_1 = some (r1, r2, r3)) (hT : TabOK w) :
    Calls Tryd.prog 6 #[.agg #[.string a0_0, .int .i64 a0_1, .int .i64 a0_2, .int .i64 a0_3, .int .i64 a0_4, .int .i64 a0_5, .int .i64 a0_6, .int .i64 a0_7, .int .i64 a0_8, .int .i64 a0_9, .int .i64 a0_10], .agg #[.int .i64 a1_0, .int .i64 a1_1]] w fun e w' => e = .returned (.tuple #[.agg #[.int .i64 r1, .int .i64 r2], .int .i64 r3]) ∧ Below w.heap.size w w' := by
  have GT := Aside0.mk hT
  clear hT
  have hu1 := Tryd.underlying36
  have hu2 := Tryd.underlying23
  have hu3 := Tryd.underlying25
  have hmf : ∀ (fn : Fn) (first cap : Array Value) (w : World), (Instr.makeFunc fn first cap).run Tryd.prog w = .ok (.func fn first cap) w := fun _ _ _ _ => rfl
  have HB := Aside0.mk (Below.refl w.heap.size w)
  have H : ((demand_volume.f k a0_0 a0_1 a0_2 a0_3 a0_4 a0_5 a0_6 a0_7 a0_8 a0_9 a0_10 a1_0 a1_1).bind fun a => if a.2.2 = 0 then demand_Ratio_1.f k a.1 a.2.1 a0_0 a0_1 a0_2 a0_3 a0_4 a0_5 a0_6 a0_7 a0_8 a0_9 a0_10 else some a) = some (r1, r2, r3) := h
  clear h
  replace H := bi_ H; obtain ⟨⟨x0, x1, x2⟩, A1, H⟩ := H
  (try dsimp only at H)
  by_cases c1 : x2 = 0
  · subst c1
    rw [if_pos rfl] at H
    have A2 := Aside0.mk H
    clear H
    go_enter Tryd.func6, Tryd.ntmps6
    try go_wp2_with (first | ((with_reducible refine gd 2 rfl ?_); refine bx_ 2 25 #[.string a0_0, .int .i64 a0_1, .int .i64 a0_2, .int .i64 a0_3, .int .i64 a0_4, .int .i64 a0_5, .int .i64 a0_6, .int .i64 a0_7, .int .i64 a0_8, .int .i64 a0_9, .int .i64 a0_10] rfl rfl ?_; intro g2 hg w1 BK2 hb; have GE2 := bz HB hg; replace HB := bs HB hb; clear hb hg) | ((with_reducible refine gd 3 rfl ?_); refine bx_ 3 23 #[.int .i64 a1_0, .int .i64 a1_1] rfl rfl ?_; intro g3 hg w2 BK3 hb; have GE3 := bz HB hg; have ⟨NB2_3, NB3_2⟩ := nb BK2 hg; replace BK2 := bb BK2 hb; replace HB := bs HB hb; clear hb hg) | ((with_reducible refine gd 4 rfl ?_); refine bx_ 4 23 #[.int .i64 0, .int .i64 0] rfl rfl ?_; intro g4 hg w3 BK4 hb; have GE4 := bz HB hg; have ⟨NB2_4, NB4_2⟩ := nb BK2 hg; have ⟨NB3_4, NB4_3⟩ := nb BK3 hg; replace BK2 := bb BK2 hb; replace BK3 := bb BK3 hb; replace HB := bs HB hb; clear hb hg; have hz2 := X.k11 BK2; have hz3 := X.k2 BK3) | ((with_reducible refine gc 11 rfl ?_); refine gm_ (some 9) rfl rfl Tryd.func11 (demand_volume.calls _ _ _ _ _ _ _ _ _ _ _ _ _ _ _ _ _ _ A1.out (tt GT)) ag ?_; intro w4 hb; replace BK2 := bb BK2 hb; replace BK4 := bb BK4 hb; replace HB := bs HB hb; clear hb hz2 hz3 BK3) | (go_at_call 12; (with_reducible refine (demand_then_ok 13 Tryd.f13 #[.pointer (some ⟨g2, 0, none⟩)] Tryd.func13 (by kernel_rfl) rfl x0 x1 r1 r2 r3 _ ?hdo).mono ?_); (case hdo => exact fun w1 hb1 => (show Calls Tryd.prog 13 #[.agg #[.int .i64 x0, .int .i64 x1], .pointer (some ⟨g2, 0, none⟩)] w1 _ from demand_Ratio_1.calls k x0 x1 a0_0 a0_1 a0_2 a0_3 a0_4 a0_5 a0_6 a0_7 a0_8 a0_9 a0_10 r1 r2 r3 g2 w1 (blk_below (bx BK2) hb1) A2.out (GT.out.below (below_step (bf HB) hb1)))); rintro e w5 ⟨rfl, hb⟩; replace BK4 := bb BK4 hb; replace HB := bs HB hb; clear hb BK2) | ((with_reducible refine gd 6 rfl ?_); refine bx_ 6 36 #[.int .i64 0, .int .i64 0, .int .i64 0] rfl rfl ?_; intro g6 hg w6 BK6 hb; have GE6 := bz HB hg; have ⟨NB4_6, NB6_4⟩ := nb BK4 hg; replace BK4 := bb BK4 hb; replace HB := bs HB hb; clear hb hg; have hn64 := nn NB6_4; have hz6 := X.k3 BK6))
    have n2_ : Aside0 ((((w6.setCell ⟨g6, 0, none⟩ (.int .i64 r1)).setCell ⟨g6, 1, none⟩ (.int .i64 r2)).setCell ⟨g6, 2, none⟩ (.int .i64 r3)).heap[g4]? = some (.cells #[.int .i64 0, .int .i64 0] 23 (0, 0))) := bu_ BK4
    have n3_ : Aside0 ((((w6.setCell ⟨g6, 0, none⟩ (.int .i64 r1)).setCell ⟨g6, 1, none⟩ (.int .i64 r2)).setCell ⟨g6, 2, none⟩ (.int .i64 r3)).heap[g6]? = some (.cells #[.int .i64 r1, .int .i64 r2, .int .i64 r3] 36 (0, 0))) := bq_ BK6
    have n4_ : Aside0 (Below w.heap.size w (((w6.setCell ⟨g6, 0, none⟩ (.int .i64 r1)).setCell ⟨g6, 1, none⟩ (.int .i64 r2)).setCell ⟨g6, 2, none⟩ (.int .i64 r3))) := ⟨bf HB⟩
    clear BK4 BK6 HB hz6 hn64
    generalize (((w6.setCell ⟨g6, 0, none⟩ (.int .i64 r1)).setCell ⟨g6, 1, none⟩ (.int .i64 r2)).setCell ⟨g6, 2, none⟩ (.int .i64 r3)) = w18 at n2_ n3_ n4_ ⊢
    have BK4 := Aside0.mk (blk_drew n2_.out)
    have BK6 := Aside0.mk (blk_drew n3_.out)
    have HB := Aside0.mk (below_drew1 n4_.out)
    clear n2_ n3_ n4_
    refine start_ (n := 6) (S := fun w' => c_ w' g6 0 (.int .i64 r1) ∧ c_ w' g6 1 (.int .i64 r2) ∧ c_ w' g6 2 (.int .i64 r3)) (ds := []) (m_ 6 0) (by kernel_rfl) rfl rfl ⟨ct BK6 0, ct BK6 1, ct BK6 2⟩ (fun hHeld => ?_)
    generalize w18.drew = w19 at BK4 BK6 HB hHeld ⊢
    refine pu_ 0 (some 12) (m_ 6 1) rfl rfl (by kernel_rfl) ?_
    refine pu_ 2 (some 14) (m_ 6 5) rfl rfl (by kernel_rfl) ?_
    refine tk_ 1 (some 13) (m_ 6 7) rfl rfl (by kernel_rfl) hHeld ?_
    refine tk_ 3 (some 15) (m_ 6 15) rfl rfl (by kernel_rfl) hHeld ?_
    refine o1_ 4 (none) (m_ 6 31) rfl rfl (by kernel_rfl) (fun K hK => ?_)
    have hs20 : c_ w19 g4 0 (.int .i64 0) := ct BK4 0
    have hfs20 := blk_frozen BK4.out 0
    have hns20 := nn NB6_4
    have hs21 : c_ w19 g4 1 (.int .i64 0) := ct BK4 1
    have hfs21 := blk_frozen BK4.out 1
    refine skip_ (w1 := ?_) (by rfl) rfl ?_ ?_
    rotate_left
    · go_simp
      rfl
    refine hK.out _ _ ⟨((cell_far (p := ⟨g4, _, none⟩) NB6_4.out _).trans (((cell_far (p := ⟨g4, _, none⟩) NB6_4.out _).trans (hHeld.1)))), ((cell_far (p := ⟨g4, _, none⟩) NB6_4.out _).trans (((cell_far (p := ⟨g4, _, none⟩) NB6_4.out _).trans (hHeld.2.1)))), ((cell_far (p := ⟨g4, _, none⟩) NB6_4.out _).trans (((cell_far (p := ⟨g4, _, none⟩) NB6_4.out _).trans (hHeld.2.2))))⟩ (fun hHeld => ?_)
    clear hK K
    refine pu_ 5 (some 5) (m_ 6 63) rfl rfl (by kernel_rfl) ?_
    refine done_ (by kernel_rfl) ?_
    try go_wp2
    refine bodyPost_ret (results_ct rfl _ _ g4 23 #[.int .i64 r1, .int .i64 r2] (0, 0) _ rfl (br_ BK4) Tryd.underlying23 rfl (by kernel_rfl)) rfl ?_
    exact ⟨ae, bf HB⟩
  · have C1 := Aside0.mk c1
    clear c1
    rw [if_neg C1.out] at H
    simp only [Option.some.injEq, Prod.mk.injEq] at H
    obtain ⟨rfl, rfl, rfl⟩ := H
    go_enter Tryd.func6, Tryd.ntmps6
    try go_wp2_with (first | ((with_reducible refine gd 2 rfl ?_); refine bx_ 2 25 #[.string a0_0, .int .i64 a0_1, .int .i64 a0_2, .int .i64 a0_3, .int .i64 a0_4, .int .i64 a0_5, .int .i64 a0_6, .int .i64 a0_7, .int .i64 a0_8, .int .i64 a0_9, .int .i64 a0_10] rfl rfl ?_; intro g2 hg w1 BK2 hb; have GE2 := bz HB hg; replace HB := bs HB hb; clear hb hg) | ((with_reducible refine gd 3 rfl ?_); refine bx_ 3 23 #[.int .i64 a1_0, .int .i64 a1_1] rfl rfl ?_; intro g3 hg w2 BK3 hb; have GE3 := bz HB hg; have ⟨NB2_3, NB3_2⟩ := nb BK2 hg; replace BK2 := bb BK2 hb; replace HB := bs HB hb; clear hb hg) | ((with_reducible refine gd 4 rfl ?_); refine bx_ 4 23 #[.int .i64 0, .int .i64 0] rfl rfl ?_; intro g4 hg w3 BK4 hb; have GE4 := bz HB hg; have ⟨NB2_4, NB4_2⟩ := nb BK2 hg; have ⟨NB3_4, NB4_3⟩ := nb BK3 hg; replace BK2 := bb BK2 hb; replace BK3 := bb BK3 hb; replace HB := bs HB hb; clear hb hg; have hz2 := X.k11 BK2; have hz3 := X.k2 BK3) | ((with_reducible refine gc 11 rfl ?_); refine gm_ (some 9) rfl rfl Tryd.func11 (demand_volume.calls _ _ _ _ _ _ _ _ _ _ _ _ _ _ _ _ _ _ A1.out (tt GT)) ag ?_; intro w4 hb; replace BK2 := bb BK2 hb; replace BK4 := bb BK4 hb; replace HB := bs HB hb; clear hb hz2 hz3 BK3) | (go_at_call 12; (with_reducible refine (demand_then_err _ x0 x1 x2 _ C1.out).mono ?_); rintro e w5 ⟨rfl, hb⟩; replace BK4 := bb BK4 hb; replace HB := bs HB hb; clear hb BK2) | ((with_reducible refine gd 6 rfl ?_); refine bx_ 6 36 #[.int .i64 0, .int .i64 0, .int .i64 0] rfl rfl ?_; intro g6 hg w6 BK6 hb; have GE6 := bz HB hg; have ⟨NB4_6, NB6_4⟩ := nb BK4 hg; replace BK4 := bb BK4 hb; replace HB := bs HB hb; clear hb hg; have hn64 := nn NB6_4; have hz6 := X.k3 BK6))
    have n2_ : Aside0 ((((w6.setCell ⟨g6, 0, none⟩ (.int .i64 x0)).setCell ⟨g6, 1, none⟩ (.int .i64 x1)).setCell ⟨g6, 2, none⟩ (.int .i64 x2)).heap[g4]? = some (.cells #[.int .i64 0, .int .i64 0] 23 (0, 0))) := bu_ BK4
    have n3_ : Aside0 ((((w6.setCell ⟨g6, 0, none⟩ (.int .i64 x0)).setCell ⟨g6, 1, none⟩ (.int .i64 x1)).setCell ⟨g6, 2, none⟩ (.int .i64 x2)).heap[g6]? = some (.cells #[.int .i64 x0, .int .i64 x1, .int .i64 x2] 36 (0, 0))) := bq_ BK6
    have n4_ : Aside0 (Below w.heap.size w (((w6.setCell ⟨g6, 0, none⟩ (.int .i64 x0)).setCell ⟨g6, 1, none⟩ (.int .i64 x1)).setCell ⟨g6, 2, none⟩ (.int .i64 x2))) := ⟨bf HB⟩
    clear BK4 BK6 HB hz6 hn64
    generalize (((w6.setCell ⟨g6, 0, none⟩ (.int .i64 x0)).setCell ⟨g6, 1, none⟩ (.int .i64 x1)).setCell ⟨g6, 2, none⟩ (.int .i64 x2)) = w18 at n2_ n3_ n4_ ⊢
    have BK4 := Aside0.mk (blk_drew n2_.out)
    have BK6 := Aside0.mk (blk_drew n3_.out)
    have HB := Aside0.mk (below_drew1 n4_.out)
    clear n2_ n3_ n4_
    refine start_ (n := 6) (S := fun w' => c_ w' g6 0 (.int .i64 x0) ∧ c_ w' g6 1 (.int .i64 x1) ∧ c_ w' g6 2 (.int .i64 x2)) (ds := []) (m_ 6 0) (by kernel_rfl) rfl rfl ⟨ct BK6 0, ct BK6 1, ct BK6 2⟩ (fun hHeld => ?_)
    generalize w18.drew = w19 at BK4 BK6 HB hHeld ⊢
    refine pu_ 0 (some 12) (m_ 6 1) rfl rfl (by kernel_rfl) ?_
    refine pu_ 2 (some 14) (m_ 6 5) rfl rfl (by kernel_rfl) ?_
    refine tk_ 1 (some 13) (m_ 6 7) rfl rfl (by kernel_rfl) hHeld ?_
    refine tk_ 3 (some 15) (m_ 6 15) rfl rfl (by kernel_rfl) hHeld ?_
    refine o1_ 4 (none) (m_ 6 31) rfl rfl (by kernel_rfl) (fun K hK => ?_)
    have hs20 : c_ w19 g4 0 (.int .i64 0) := ct BK4 0
    have hfs20 := blk_frozen BK4.out 0
    have hns20 := nn NB6_4
    have hs21 : c_ w19 g4 1 (.int .i64 0) := ct BK4 1
    have hfs21 := blk_frozen BK4.out 1
    refine skip_ (w1 := ?_) (by rfl) rfl ?_ ?_
    rotate_left
    · go_simp
      rfl
    refine hK.out _ _ ⟨((cell_far (p := ⟨g4, _, none⟩) NB6_4.out _).trans (((cell_far (p := ⟨g4, _, none⟩) NB6_4.out _).trans (hHeld.1)))), ((cell_far (p := ⟨g4, _, none⟩) NB6_4.out _).trans (((cell_far (p := ⟨g4, _, none⟩) NB6_4.out _).trans (hHeld.2.1)))), ((cell_far (p := ⟨g4, _, none⟩) NB6_4.out _).trans (((cell_far (p := ⟨g4, _, none⟩) NB6_4.out _).trans (hHeld.2.2))))⟩ (fun hHeld => ?_)
    clear hK K
    refine pu_ 5 (some 5) (m_ 6 63) rfl rfl (by kernel_rfl) ?_
    refine done_ (by kernel_rfl) ?_
    try go_wp2
    refine bodyPost_ret (results_ct rfl _ _ g4 23 #[.int .i64 x0, .int .i64 x1] (0, 0) _ rfl (br_ BK4) Tryd.underlying23 rfl (by kernel_rfl)) rfl ?_
    exact ⟨ae, bf HB⟩

/-! ### demand_Volume: function 9 -/
theorem demand_Volume.calls (k : Nat) (a0_0 : ByteArray) (a0_1 : Int) (a0_2 : Int) (a0_3 : Int) (a0_4 : Int) (a0_5 : Int) (a0_6 : Int) (a0_7 : Int) (a0_8 : Int) (a0_9 : Int) (a0_10 : Int) (a1_0 : Int) (a1_1 : Int) (r1 : Int) (r2 : Int) (r3 : Int) (w : World) (h : demand_Volume.f k a0_0 a0_1 a0_2 a0_3 a0_4 a0_5 a0_6 a0_7 a0_8 a0_9 a0_10 a1_0 a1_1 = some (r1, r2, r3)) (hT : TabOK w) :
    Calls Tryd.prog 9 #[.agg #[.string a0_0, .int .i64 a0_1, .int .i64 a0_2, .int .i64 a0_3, .int .i64 a0_4, .int .i64 a0_5, .int .i64 a0_6, .int .i64 a0_7, .int .i64 a0_8, .int .i64 a0_9, .int .i64 a0_10], .agg #[.int .i64 a1_0, .int .i64 a1_1]] w fun e w' => e = .returned (.tuple #[.agg #[.int .i64 r1, .int .i64 r2], .int .i64 r3]) ∧ Below w.heap.size w w' := by
  have GT := Aside0.mk hT
  clear hT
  have hu25 := Tryd.underlying25
  have hu23 := Tryd.underlying23
  have hu36 := Tryd.underlying36
  have HB := Aside0.mk (Below.refl w.heap.size w)
  have H : ((demand_volume.f k a0_0 a0_1 a0_2 a0_3 a0_4 a0_5 a0_6 a0_7 a0_8 a0_9 a0_10 a1_0 a1_1).bind fun bt288 => (some (bt288.1, bt288.2.1, bt288.2.2))) = some (r1, r2, r3) := h
  clear h
  replace H := bi_ H; obtain ⟨⟨t288, t289, t290⟩, A3, H⟩ := H
  (try dsimp only at H)
  simp only [Option.some.injEq, Prod.mk.injEq] at H
  obtain ⟨rfl, rfl, rfl⟩ := H
  go_enter Tryd.func9, Tryd.ntmps9
  try go_wp2_with (first | ((with_reducible refine gd 2 rfl ?_); refine bx_ 2 25 #[.string a0_0, .int .i64 a0_1, .int .i64 a0_2, .int .i64 a0_3, .int .i64 a0_4, .int .i64 a0_5, .int .i64 a0_6, .int .i64 a0_7, .int .i64 a0_8, .int .i64 a0_9, .int .i64 a0_10] rfl rfl ?_; intro gb285 hg w4 BK285 hb; have GE285 := bz HB hg; replace HB := bs HB hb; clear hb hg) | ((with_reducible refine gd 3 rfl ?_); refine bx_ 3 23 #[.int .i64 a1_0, .int .i64 a1_1] rfl rfl ?_; intro gb286 hg w5 BK286 hb; have GE286 := bz HB hg; have ⟨NB285_286, NB286_285⟩ := nb BK285 hg; replace BK285 := bb BK285 hb; replace HB := bs HB hb; clear hb hg) | ((with_reducible refine gd 4 rfl ?_); refine bx_ 4 23 #[.int .i64 0, .int .i64 0] rfl rfl ?_; intro gb287 hg w6 BK287 hb; have GE287 := bz HB hg; have ⟨NB285_287, NB287_285⟩ := nb BK285 hg; have ⟨NB286_287, NB287_286⟩ := nb BK286 hg; replace BK285 := bb BK285 hb; replace BK286 := bb BK286 hb; replace HB := bs HB hb; clear hb hg; have hnb7 := nn NB285_286; have hnb8 := nn NB285_287; have hcz9 := X.k11 BK285; have hnb10 := nn NB286_287; have hcz11 := X.k2 BK286) | ((with_reducible refine gc 11 rfl ?_); refine gm_ (some 9) rfl rfl Tryd.func11 (demand_volume.calls _ _ _ _ _ _ _ _ _ _ _ _ _ _ _ _ _ _ A3.out (tt GT)) ag ?_; intro w12 hb; replace BK285 := bb BK285 hb; replace BK286 := bb BK286 hb; replace BK287 := bb BK287 hb; replace HB := bs HB hb; (try clear hb)) | ((with_reducible refine gd 6 rfl ?_); refine bx_ 6 36 #[.int .i64 0, .int .i64 0, .int .i64 0] rfl rfl ?_; intro gb291 hg w13 BK291 hb; have GE291 := bz HB hg; have ⟨NB285_291, NB291_285⟩ := nb BK285 hg; have ⟨NB286_291, NB291_286⟩ := nb BK286 hg; have ⟨NB287_291, NB291_287⟩ := nb BK287 hg; replace BK285 := bb BK285 hb; replace BK286 := bb BK286 hb; replace BK287 := bb BK287 hb; replace HB := bs HB hb; clear hb hg; have hnb14 := nn NB291_285; have hnb15 := nn NB291_286; have hnb16 := nn NB291_287; have hcz17 := X.k3 BK291))
  have n0_ : Aside0 ((((w13.setCell ⟨gb291, 0, none⟩ (.int .i64 t288)).setCell ⟨gb291, 1, none⟩ (.int .i64 t289)).setCell ⟨gb291, 2, none⟩ (.int .i64 t290)).heap[gb285]? = some (.cells #[.string a0_0, .int .i64 a0_1, .int .i64 a0_2, .int .i64 a0_3, .int .i64 a0_4, .int .i64 a0_5, .int .i64 a0_6, .int .i64 a0_7, .int .i64 a0_8, .int .i64 a0_9, .int .i64 a0_10] 25 (0, 0))) := bu_ BK285
  have n1_ : Aside0 ((((w13.setCell ⟨gb291, 0, none⟩ (.int .i64 t288)).setCell ⟨gb291, 1, none⟩ (.int .i64 t289)).setCell ⟨gb291, 2, none⟩ (.int .i64 t290)).heap[gb286]? = some (.cells #[.int .i64 a1_0, .int .i64 a1_1] 23 (0, 0))) := bu_ BK286
  have n2_ : Aside0 ((((w13.setCell ⟨gb291, 0, none⟩ (.int .i64 t288)).setCell ⟨gb291, 1, none⟩ (.int .i64 t289)).setCell ⟨gb291, 2, none⟩ (.int .i64 t290)).heap[gb287]? = some (.cells #[.int .i64 0, .int .i64 0] 23 (0, 0))) := bu_ BK287
  have n3_ : Aside0 ((((w13.setCell ⟨gb291, 0, none⟩ (.int .i64 t288)).setCell ⟨gb291, 1, none⟩ (.int .i64 t289)).setCell ⟨gb291, 2, none⟩ (.int .i64 t290)).heap[gb291]? = some (.cells #[.int .i64 t288, .int .i64 t289, .int .i64 t290] 36 (0, 0))) := bq_ BK291
  have n4_ : Aside0 (Below w.heap.size w (((w13.setCell ⟨gb291, 0, none⟩ (.int .i64 t288)).setCell ⟨gb291, 1, none⟩ (.int .i64 t289)).setCell ⟨gb291, 2, none⟩ (.int .i64 t290))) := ⟨bf HB⟩
  (try clear BK285); (try clear BK286); (try clear BK287); (try clear BK291); (try clear HB)
  generalize (((w13.setCell ⟨gb291, 0, none⟩ (.int .i64 t288)).setCell ⟨gb291, 1, none⟩ (.int .i64 t289)).setCell ⟨gb291, 2, none⟩ (.int .i64 t290)) = w18 at n0_ n1_ n2_ n3_ n4_ ⊢
  have BK285 := n0_
  have BK286 := n1_
  have BK287 := n2_
  have BK291 := n3_
  have HB := n4_
  clear n0_ n1_ n2_ n3_ n4_
  replace BK285 := Aside0.mk (blk_drew BK285.out)
  replace BK286 := Aside0.mk (blk_drew BK286.out)
  replace BK287 := Aside0.mk (blk_drew BK287.out)
  replace BK291 := Aside0.mk (blk_drew BK291.out)
  replace HB := Aside0.mk (below_drew1 HB.out)
  refine start_ (n := 6) (S := fun w' => c_ w' gb291 0 (.int .i64 t288) ∧ c_ w' gb291 1 (.int .i64 t289) ∧ c_ w' gb291 2 (.int .i64 t290)) (ds := []) (m_ 6 0) (by kernel_rfl) rfl rfl ⟨ct BK291 0, ct BK291 1, ct BK291 2⟩ (fun hHeld => ?_)
  generalize w18.drew = w19 at BK285 BK286 BK287 BK291 HB hHeld ⊢
  refine pu_ 0 (some 10) (m_ 6 1) rfl rfl (by kernel_rfl) ?_
  refine pu_ 2 (some 12) (m_ 6 5) rfl rfl (by kernel_rfl) ?_
  refine tk_ 1 (some 11) (m_ 6 7) rfl rfl (by kernel_rfl) hHeld ?_
  refine tk_ 3 (some 13) (m_ 6 15) rfl rfl (by kernel_rfl) hHeld ?_
  refine o1_ 4 (none) (m_ 6 31) rfl rfl (by kernel_rfl) (fun K hK => ?_)
  have hs20 : c_ w19 gb287 0 (.int .i64 0) := ct BK287 0
  have hfs20 := blk_frozen BK287.out 0
  have hns20_0 := NB285_287.out
  have hns20_1 := NB286_287.out
  have hns20_3 := NB291_287.out
  have hms20_0 := NB287_285.out
  have hms20_1 := NB287_286.out
  have hms20_3 := NB287_291.out
  have hs21 : c_ w19 gb287 1 (.int .i64 0) := ct BK287 1
  have hfs21 := blk_frozen BK287.out 1
  have hns21_0 := NB285_287.out
  have hns21_1 := NB286_287.out
  have hns21_3 := NB291_287.out
  have hms21_0 := NB287_285.out
  have hms21_1 := NB287_286.out
  have hms21_3 := NB287_291.out
  refine skip_ (w1 := ?_) (by rfl) rfl ?_ ?_
  rotate_left
  · go_simp
    rfl
  refine hK.out _ _ ⟨((cell_far (p := ⟨gb287, _, none⟩) NB291_287.out _).trans (((cell_far (p := ⟨gb287, _, none⟩) NB291_287.out _).trans (hHeld.1)))), ((cell_far (p := ⟨gb287, _, none⟩) NB291_287.out _).trans (((cell_far (p := ⟨gb287, _, none⟩) NB291_287.out _).trans (hHeld.2.1)))), ((cell_far (p := ⟨gb287, _, none⟩) NB291_287.out _).trans (((cell_far (p := ⟨gb287, _, none⟩) NB291_287.out _).trans (hHeld.2.2))))⟩ (fun hHeld => ?_)
  clear hK K
  refine pu_ 5 (some 5) (m_ 6 63) rfl rfl (by kernel_rfl) ?_
  refine done_ (by kernel_rfl) ?_
  try go_wp2
  refine bodyPost_ret (results_ct rfl _ _ gb287 23 #[.int .i64 t288, .int .i64 t289] (0, 0) _ rfl (br_ BK287) Tryd.underlying23 rfl (by kernel_rfl)) rfl ?_
  exact ⟨ae, bf HB⟩

/-! ### whole_product: function 53 -/
theorem whole_product.calls (a0 : Int) (a1 : Int) (r1 : Int) (r2 : Int) (w : World) (h : whole_product.f a0 a1 = some (r1, r2)) :
    Calls Tryd.prog 53 #[.int .i64 a0, .int .i64 a1] w fun e w' => e = .returned (.agg #[.int .u64 r1, .int .u64 r2]) ∧ Below w.heap.size w w' := by
  have hu79 := Tryd.underlying79
  have HB := Aside0.mk (Below.refl w.heap.size w)
  have H : ((whole_size.f a0).bind fun t293 => ((whole_size.f a1).bind fun t294 => ((bits_Mul64.f t293 t294).bind fun bt295 => (some (bt295.1, bt295.2))))) = some (r1, r2) := h
  clear h
  replace H := bi_ H; obtain ⟨t293, A3, H⟩ := H
  (try dsimp only at H)
  replace H := bi_ H; obtain ⟨t294, A4, H⟩ := H
  (try dsimp only at H)
  replace H := bi_ H; obtain ⟨⟨t295, t296⟩, A5, H⟩ := H
  (try dsimp only at H)
  simp only [Option.some.injEq, Prod.mk.injEq] at H
  obtain ⟨rfl, rfl⟩ := H
  go_enter Tryd.func53, Tryd.ntmps53
  go_wp2_with (first | ((with_reducible refine gd 4 rfl ?_); refine bx_ 4 79 #[.int .u64 0, .int .u64 0] rfl rfl ?_; intro gb292 hg w6 BK292 hb; have GE292 := bz HB hg; replace HB := bs HB hb; clear hb hg) | ((with_reducible refine gc 75 rfl ?_); refine gm_ (some 9) rfl rfl Tryd.func75 (whole_size.calls _ _ _ A3.out) ag ?_; rintro w' ⟨nd, rfl⟩; (try (rw [drewN_self w6]; generalize hq_ : World.drewN w6 _ = w6; have n0_ : Aside0 (w6.heap[gb292]? = some (.cells #[.int .u64 0, .int .u64 0] 79 (0, 0))) := ⟨by rw [← hq_]; exact (bx BK292)⟩; have n1_ : Aside0 (Below w.heap.size w w6) := ⟨by rw [← hq_]; exact (bf HB)⟩; clear BK292 HB hq_; have BK292 := n0_; have HB := n1_; clear n0_ n1_))) | ((with_reducible refine gc 75 rfl ?_); refine gm_ (some 11) rfl rfl Tryd.func75 (whole_size.calls _ _ _ A4.out) ag ?_; rintro w' ⟨nd, rfl⟩; (try (rw [drewN_self w6]; generalize hq_ : World.drewN w6 _ = w6; have n0_ : Aside0 (w6.heap[gb292]? = some (.cells #[.int .u64 0, .int .u64 0] 79 (0, 0))) := ⟨by rw [← hq_]; exact (bx BK292)⟩; have n1_ : Aside0 (Below w.heap.size w w6) := ⟨by rw [← hq_]; exact (bf HB)⟩; clear BK292 HB hq_; have BK292 := n0_; have HB := n1_; clear n0_ n1_))) | ((with_reducible refine gc 58 rfl ?_); refine gm_ (some 12) rfl rfl Tryd.func58 (bits_Mul64.calls _ _ _ _ _ A5.out) ag ?_; rintro w' ⟨nd, rfl⟩; (try (rw [drewN_self w6]; generalize hq_ : World.drewN w6 _ = w6; have n0_ : Aside0 (w6.heap[gb292]? = some (.cells #[.int .u64 0, .int .u64 0] 79 (0, 0))) := ⟨by rw [← hq_]; exact (bx BK292)⟩; have n1_ : Aside0 (Below w.heap.size w w6) := ⟨by rw [← hq_]; exact (bf HB)⟩; clear BK292 HB hq_; have BK292 := n0_; have HB := n1_; clear n0_ n1_)); have hcz7 := X.k2 BK292))
  refine bodyPost_ret (results_cell_row rfl _ _ gb292 79 #[.int .u64 t295, .int .u64 t296] (0, 0) _ rfl (br_ BK292) Tryd.underlying79 rfl (by kernel_rfl)) rfl ?_
  exact ⟨ae, bf HB⟩

/-! ### whole_sign: function 54 -/
theorem whole_sign.calls (k : Nat) (a0 : Int) (a1 : Int) (r : Int) (w : World) (h : whole_sign.f k a0 a1 = some r) :
    Calls Tryd.prog 54 #[.int .i64 a0, .int .i64 a1] w fun e w' => e = .returned (.int .i64 r) ∧ Drawn0 w w' := by
  have H : (if a0 = 0 then (whole_sign.j0 k a0 a1 true) else (whole_sign.j0 k a0 a1 (a1 == 0))) = some r := h
  clear h
  have HC3 := Aside0.mk H
  clear H
  go_enter Tryd.func54, Tryd.ntmps54
  go_upto_region 1 with (fail)
  go_cut [5] (fun v5 wc => ∃ (kq : Nat) (x5_2 : Bool), v5 = .bool x5_2 ∧ Aside0 (whole_sign.j0 kq a0 a1 x5_2 = some r) ∧ Aside0 (kq ≤ k) ∧ Drawn0 w wc)
  case first =>
    have H := HC3.out
    clear HC3
    by_cases c4 : a0 = 0
    · rw [if_pos c4] at H
      have c4b0 : (a0 == 0) = true := beq_iff_eq.mpr c4
      have c4b1 : (a0 != 0) = false := bne_eq_false_iff_eq.mpr c4
      clear c4
      (first | rw [c4b0] | (simp only [i64_w, i32_w]; rw [c4b0]) | skip)
      have H' := Aside0.mk H
      clear H
      go_wp2
      go_meet
      case rel => exact ⟨_, (true), (aq), H', ⟨by first | omega | exact Nat.le_refl _⟩, dr⟩
    · rw [if_neg c4] at H
      have c4b0 : (a0 == 0) = false := beq_eq_false_iff_ne.mpr c4
      have c4b1 : (a0 != 0) = true := bne_iff_ne.mpr c4
      (first | rw [c4b0] | (simp only [i64_w, i32_w]; rw [c4b0]) | skip)
      have H' := Aside0.mk H
      clear H
      go_wp2
      go_meet
      case rel => exact ⟨_, ((a1 == 0)), (aq), H', ⟨by first | omega | exact Nat.le_refl _⟩, dr⟩
  case rest =>
    clear HC3
    try clear p2
    try clear c4
    try clear c4b0
    try clear c4b1
    obtain ⟨kq, x5_2, rfl, HA, HJ2, ⟨mc2, rfl⟩⟩ := hcut
    cases kq with
    | zero => exact absurd HA.out (by simp [whole_sign.j0])
    | succ kj2 =>
      have H := HA.out
      clear HA
      simp only [whole_sign.j0] at H
      by_cases c5 : x5_2 = true
      · subst c5
        have H1 : (some 0) = some r := by rw [if_pos rfl] at H; exact H
        clear H
        have H := H1
        clear H1
        obtain rfl := Option.some.inj H
        go_wp2
        go_ret
        exact ⟨aq, dr⟩
      · replace c5 := Bool.eq_false_iff.mpr c5
        subst c5
        have H1 : (if ((decide (a0 < 0)) != (decide (a1 < 0))) = true then (some (-1)) else (some 1)) = some r := by rw [if_neg (show ¬ (false = true) by decide)] at H; exact H
        clear H
        have H := H1
        clear H1
        by_cases c6 : ((decide (a0 < 0)) != (decide (a1 < 0))) = true
        · rw [if_pos c6] at H
          have c6b0 : ((decide (a0 < 0)) != (decide (a1 < 0))) = true := c6
          (try (have c6b1 : decide ((decide (a0 < 0)) = (decide (a1 < 0))) = false := by simpa using c6))
          (try (have c6b2 : ((decide (a0 < 0)) == (decide (a1 < 0))) = false := by simpa using c6))
          (try (have c6b3 : ¬ ((decide (a0 < 0)) = (decide (a1 < 0))) := by simpa using c6))
          clear c6
          obtain rfl := Option.some.inj H
          go_wp2
          go_ret
          exact ⟨aq, dr⟩
        · rw [if_neg c6] at H
          have c6b0 : ((decide (a0 < 0)) != (decide (a1 < 0))) = false := by simpa using c6
          (try (have c6b1 : decide ((decide (a0 < 0)) = (decide (a1 < 0))) = true := by simpa using c6))
          (try (have c6b2 : ((decide (a0 < 0)) == (decide (a1 < 0))) = true := by simpa using c6))
          clear c6
          obtain rfl := Option.some.inj H
          go_wp2
          go_ret
          exact ⟨aq, dr⟩


/-! ### bits_Add64: function 55 -/
theorem bits_Add64.calls (a0 a1 a2 r1 r2 : Int) (w : World) (h : bits_Add64.f a0 a1 a2 = some (r1, r2)) :
    XCalls Tryd.prog 55 #[.int .u64 a0, .int .u64 a1, .int .u64 a2] w fun e w' => e = .returned (.tuple #[.int .u64 r1, .int .u64 r2]) ∧ w = w' := by
  unfold bits_Add64.f at h
  by_cases c : 0 ≤ a0 ∧ 0 ≤ a1 ∧ 0 ≤ a2 ∧ a2 ≤ 1
  · rw [if_pos c] at h
    simp only [Option.some.injEq, Prod.mk.injEq] at h
    obtain ⟨rfl, rfl⟩ := h
    refine ⟨_, ?_, rfl, rfl⟩
    rw [run_callFunc_extern Tryd.func55 (by kernel_rfl) (by kernel_rfl) (by kernel_rfl) (e := add64Entry) (by kernel_rfl), run_add64 a0 a1 a2 c.1 c.2.1 c.2.2.1 c.2.2.2]
    rfl
  · rw [if_neg c] at h
    cases h

/-! ### bits_LeadingZeros64: function 76 -/
theorem bits_LeadingZeros64.calls (a0 : Int) (r : Int) (w : World) (h : bits_LeadingZeros64.f a0 = some r) :
    Calls Tryd.prog 76 #[.int .u64 a0] w fun e w' => e = .returned (.int .i64 r) ∧ Drawn0 w w' := by
  have H : ((bits_Len64.f a0).bind fun t297 => (some (wrap64 (64 - t297)))) = some r := h
  clear h
  replace H := bi_ H; obtain ⟨t297, A2, H⟩ := H
  (try dsimp only at H)
  obtain rfl := Option.some.inj H
  go_enter Tryd.func76, Tryd.ntmps76
  go_wp2_with (first | ((with_reducible refine gc 93 rfl ?_); refine gm_ (some 4) rfl rfl Tryd.func93 (bits_Len64.calls _ _ _ A2.out) ag ?_; rintro w' ⟨nd, rfl⟩))
  go_ret
  exact ⟨aq, dr⟩

end Go.Proofs.YtcdaedhphdmnoaaDoor.X
