/- Walks: each '.calls' says that the Go function comes to what its Lean function tells. Conditions: as each theorem's head says. -/
import Derived.Test.YtnocpmngpekceaaDoorXD
import Derived.Test.YtnocpmngpekceaaDoorX0
import Derived.Test.YtnocpmngpekceaaDoorX15
namespace Go.Proofs.YtnocpmngpekceaaDoor.X
open Go.RowKit Go.Proofs.YtnocpmngpekceaaDoorW.PrintWords Go.Proofs.YtnocpmngpekceaaDoorW.PrintLast Go.Proofs.YtnocpmngpekceaaDoorW.PrintMore
attribute [local go_sem] max2_int min2_int max_two min_two max_three min_three max_four min_four   -- for this text's walks alone
set_option linter.unusedVariables false
set_option maxHeartbeats 8000000
set_option maxRecDepth 100000
set_option linter.unusedSimpArgs false

/-! ### demand_volume_2: function 65 -/
def demand_volume_2.T1 : Bool × List (List Nat × List Nat) := (true, [([], []), ([], []), ([1], [1]), ([2], [2]), ([0, 3, 3], [0, 3]), ([4], [4]), ([4], [4]), ([5, 4, 0, 1, 2, 3, 4, 5, 6], [5]), ([6, 7, 0, 1, 2, 3, 4, 5, 6, 7], [6])])
def demand_volume_2.B1 : List Nat := [0, 0, 2, 6, 15, 31, 31, 127, 255]
theorem demand_volume_2.tab1 : rtab .any (opsOf Tryd.f65 1) = demand_volume_2.T1 := by kernel_rfl
theorem demand_volume_2.bits1 : waitsOk demand_volume_2.T1.2 demand_volume_2.B1 = true := by kernel_rfl
theorem demand_volume_2.calls (k : Nat) (a0_0 : Int) (a0_1 : Int) (a1_0 : ByteArray) (a1_1 : Int) (a1_2 : Int) (a1_3 : Int) (a1_4 : Int) (a1_5 : Int) (a1_6 : Int) (a1_7 : Int) (a1_8 : Int) (a1_9 : Int) (a1_10 : Int) (r1 : Int) (r2 : Int) (r3 : Int) (gb422 : Nat) (w : World) (hcap0 : w.heap[gb422]? = some (.cells #[.string a1_0, .int .i64 a1_1, .int .i64 a1_2, .int .i64 a1_3, .int .i64 a1_4, .int .i64 a1_5, .int .i64 a1_6, .int .i64 a1_7, .int .i64 a1_8, .int .i64 a1_9, .int .i64 a1_10] 50 (0, 0))) (h : demand_volume_2.f k a0_0 a0_1 a1_0 a1_1 a1_2 a1_3 a1_4 a1_5 a1_6 a1_7 a1_8 a1_9 a1_10 = some (r1, r2, r3)) (hT : TabOK w) :
    Calls Tryd.prog 65 #[.agg #[.int .i64 a0_0, .int .i64 a0_1], .pointer (some ⟨gb422, 0, none⟩)] w fun e w' => e = .returned (.tuple #[.agg #[.int .i64 r1, .int .i64 r2], .int .i64 r3]) ∧ Below w.heap.size w w' := by
  have GT := Aside0.mk hT
  clear hT
  have hu50 := Tryd.underlying50
  have hu23 := Tryd.underlying23
  have HB := Aside0.mk (Below.refl w.heap.size w)
  have BK422 := Aside0.mk hcap0
  clear hcap0
  have H : ((demand_number.f a1_1).bind fun bt425 => ((frac_Mul.f k a0_0 a0_1 bt425.1 bt425.2).bind fun bt427 => (some (bt427.1, bt427.2.1, bt427.2.2)))) = some (r1, r2, r3) := h
  clear h
  replace H := bi_ H; obtain ⟨⟨t425, t426⟩, A3, H⟩ := H
  (try dsimp only at H)
  replace H := bi_ H; obtain ⟨⟨t427, t428, t429⟩, A4, H⟩ := H
  (try dsimp only at H)
  simp only [Option.some.injEq, Prod.mk.injEq] at H
  obtain ⟨rfl, rfl, rfl⟩ := H
  go_enter Tryd.func65, Tryd.ntmps65
  try go_wp2_with (first | ((with_reducible refine gd 2 rfl ?_); refine bx_ 2 23 #[.int .i64 a0_0, .int .i64 a0_1] rfl rfl ?_; intro gb423 hg w6 BK423 hb; have GE423 := bz HB hg; have ⟨NB422_423, NB423_422⟩ := nb BK422 hg; replace BK422 := bb BK422 hb; replace HB := bs HB hb; clear hb hg) | ((with_reducible refine gd 3 rfl ?_); refine bx_ 3 23 #[.int .i64 0, .int .i64 0] rfl rfl ?_; intro gb424 hg w7 BK424 hb; have GE424 := bz HB hg; have ⟨NB422_424, NB424_422⟩ := nb BK422 hg; have ⟨NB423_424, NB424_423⟩ := nb BK423 hg; replace BK422 := bb BK422 hb; replace BK423 := bb BK423 hb; replace HB := bs HB hb; clear hb hg))
  replace BK422 := Aside0.mk (blk_drew BK422.out)
  replace BK423 := Aside0.mk (blk_drew BK423.out)
  replace BK424 := Aside0.mk (blk_drew BK424.out)
  replace HB := Aside0.mk (below_drew1 HB.out)
  refine start_ (n := 9) (S := fun w' => c_ w' gb423 0 (.int .i64 a0_0) ∧ c_ w' gb423 1 (.int .i64 a0_1) ∧ c_ w' gb422 0 (.string a1_0) ∧ c_ w' gb422 1 (.int .i64 a1_1) ∧ c_ w' gb422 2 (.int .i64 a1_2) ∧ c_ w' gb422 3 (.int .i64 a1_3) ∧ c_ w' gb422 4 (.int .i64 a1_4) ∧ c_ w' gb422 5 (.int .i64 a1_5) ∧ c_ w' gb422 6 (.int .i64 a1_6) ∧ c_ w' gb422 7 (.int .i64 a1_7) ∧ c_ w' gb422 8 (.int .i64 a1_8) ∧ c_ w' gb422 9 (.int .i64 a1_9) ∧ c_ w' gb422 10 (.int .i64 a1_10)) (ds := []) (m_ 9 0) (by kernel_rfl) rfl rfl ⟨ct BK423 0, ct BK423 1, ct BK422 0, ct BK422 1, ct BK422 2, ct BK422 3, ct BK422 4, ct BK422 5, ct BK422 6, ct BK422 7, ct BK422 8, ct BK422 9, ct BK422 10⟩ (fun hHeld => ?_); refine with_tabW demand_volume_2.tab1 demand_volume_2.bits1 (fun HT_ HW_ => ?_)
  generalize w7.drew = w8 at BK422 BK423 BK424 HB hHeld ⊢
  refine pu_ 1 (some 6) (m_ 9 2) rfl rfl (ao HT_) ?_
  refine tk_ 0 (some 5) (m_ 9 3) rfl rfl (tw HT_ HW_) hHeld ?_
  refine tk_ 2 (some 7) (m_ 9 7) rfl rfl (tw HT_ HW_) hHeld ?_
  refine o1_ 3 (some 8) (m_ 9 15) rfl rfl (oo HT_) (fun K hK => ?_)
  refine gs_ rfl Tryd.func50 (demand_number.calls _ _ _ _ A3.out) ag ?_
  intro w9 hb
  replace BK422 := bb BK422 hb
  replace BK423 := bb BK423 hb
  replace BK424 := bb BK424 hb
  replace HB := bs HB hb
  (try clear hb)
  refine hK.out _ _ ⟨ct BK423 0, ct BK423 1, ct BK422 0, ct BK422 1, ct BK422 2, ct BK422 3, ct BK422 4, ct BK422 5, ct BK422 6, ct BK422 7, ct BK422 8, ct BK422 9, ct BK422 10⟩ (fun hHeld => ?_)
  clear hK K
  refine nr_ (some 8) ?_
  refine o1_ 4 (some 9) (m_ 9 31) rfl rfl (oo HT_) (fun K hK => ?_)
  refine gs_ rfl Tryd.func66 (frac_Mul.calls _ _ _ _ _ _ _ _ _ A4.out (tt GT)) ag ?_
  intro w10 hb
  replace BK422 := bb BK422 hb
  replace BK423 := bb BK423 hb
  replace BK424 := bb BK424 hb
  replace HB := bs HB hb
  (try clear hb)
  refine hK.out _ _ ⟨ct BK423 0, ct BK423 1, ct BK422 0, ct BK422 1, ct BK422 2, ct BK422 3, ct BK422 4, ct BK422 5, ct BK422 6, ct BK422 7, ct BK422 8, ct BK422 9, ct BK422 10⟩ (fun hHeld => ?_)
  clear hK K
  refine nr_ (some 9) ?_
  refine pu_ 5 (some 10) (m_ 9 63) rfl rfl (ao HT_) ?_
  refine pu_ 6 (some 11) (m_ 9 127) rfl rfl (ao HT_) ?_
  refine o1_ 7 (none) (m_ 9 255) rfl rfl (oo HT_) (fun K hK => ?_)
  have hs11 : c_ w10 gb424 0 (.int .i64 0) := ct BK424 0
  have hfs11 := blk_frozen BK424.out 0
  have hns11_0 := NB422_424.out
  have hns11_1 := NB423_424.out
  have hms11_0 := NB424_422.out
  have hms11_1 := NB424_423.out
  have hs12 : c_ w10 gb424 1 (.int .i64 0) := ct BK424 1
  have hfs12 := blk_frozen BK424.out 1
  have hns12_0 := NB422_424.out
  have hns12_1 := NB423_424.out
  have hms12_0 := NB424_422.out
  have hms12_1 := NB424_423.out
  refine skip_ (w1 := ?_) (by rfl) rfl ?_ ?_
  rotate_left
  · go_simp
    rfl
  refine hK.out _ _ ⟨((cell_far (p := ⟨gb424, _, none⟩) NB423_424.out _).trans (((cell_far (p := ⟨gb424, _, none⟩) NB423_424.out _).trans (hHeld.1)))), ((cell_far (p := ⟨gb424, _, none⟩) NB423_424.out _).trans (((cell_far (p := ⟨gb424, _, none⟩) NB423_424.out _).trans (hHeld.2.1)))), ((cell_far (p := ⟨gb424, _, none⟩) NB422_424.out _).trans (((cell_far (p := ⟨gb424, _, none⟩) NB422_424.out _).trans (hHeld.2.2.1)))), ((cell_far (p := ⟨gb424, _, none⟩) NB422_424.out _).trans (((cell_far (p := ⟨gb424, _, none⟩) NB422_424.out _).trans (hHeld.2.2.2.1)))), ((cell_far (p := ⟨gb424, _, none⟩) NB422_424.out _).trans (((cell_far (p := ⟨gb424, _, none⟩) NB422_424.out _).trans (hHeld.2.2.2.2.1)))), ((cell_far (p := ⟨gb424, _, none⟩) NB422_424.out _).trans (((cell_far (p := ⟨gb424, _, none⟩) NB422_424.out _).trans (hHeld.2.2.2.2.2.1)))), ((cell_far (p := ⟨gb424, _, none⟩) NB422_424.out _).trans (((cell_far (p := ⟨gb424, _, none⟩) NB422_424.out _).trans (hHeld.2.2.2.2.2.2.1)))), ((cell_far (p := ⟨gb424, _, none⟩) NB422_424.out _).trans (((cell_far (p := ⟨gb424, _, none⟩) NB422_424.out _).trans (hHeld.2.2.2.2.2.2.2.1)))), ((cell_far (p := ⟨gb424, _, none⟩) NB422_424.out _).trans (((cell_far (p := ⟨gb424, _, none⟩) NB422_424.out _).trans (hHeld.2.2.2.2.2.2.2.2.1)))), ((cell_far (p := ⟨gb424, _, none⟩) NB422_424.out _).trans (((cell_far (p := ⟨gb424, _, none⟩) NB422_424.out _).trans (hHeld.2.2.2.2.2.2.2.2.2.1)))), ((cell_far (p := ⟨gb424, _, none⟩) NB422_424.out _).trans (((cell_far (p := ⟨gb424, _, none⟩) NB422_424.out _).trans (hHeld.2.2.2.2.2.2.2.2.2.2.1)))), ((cell_far (p := ⟨gb424, _, none⟩) NB422_424.out _).trans (((cell_far (p := ⟨gb424, _, none⟩) NB422_424.out _).trans (hHeld.2.2.2.2.2.2.2.2.2.2.2.1)))), ((cell_far (p := ⟨gb424, _, none⟩) NB422_424.out _).trans (((cell_far (p := ⟨gb424, _, none⟩) NB422_424.out _).trans (hHeld.2.2.2.2.2.2.2.2.2.2.2.2))))⟩ (fun hHeld => ?_)
  clear hK K
  refine pu_ 8 (some 4) (m_ 9 511) rfl rfl (ao HT_) ?_
  refine done_ (done_of HT_.out (by kernel_rfl)) ?_
  try go_wp2
  refine bodyPost_ret (results_ct rfl _ _ gb424 23 #[.int .i64 t427, .int .i64 t428] (0, 0) _ rfl (br_ BK424) Tryd.underlying23 rfl (by kernel_rfl)) rfl ?_
  exact ⟨ae, bf HB⟩

end Go.Proofs.YtnocpmngpekceaaDoor.X
