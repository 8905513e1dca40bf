/- Walks: each '.calls' says that the Go function comes to what its Lean function tells. Conditions: as each theorem's head says. -/
import Derived.Test.YtjgnaccamakpdaaDoorXD
import Derived.Test.YtjgnaccamakpdaaDoorX0
import Derived.Test.YtjgnaccamakpdaaDoorX16
namespace Go.Proofs.YtjgnaccamakpdaaDoor.X
open Go.RowKit Go.Proofs.YtjgnaccamakpdaaDoorW.PrintWords Go.Proofs.YtjgnaccamakpdaaDoorW.PrintLast Go.Proofs.YtjgnaccamakpdaaDoorW.PrintMore
attribute [local go_sem] max2_int min2_int max_two min_two max_three min_three max_four min_four   -- for this text's walks alone
set_option linter.unusedVariables false
set_option maxHeartbeats 8000000
set_option maxRecDepth 100000
set_option linter.unusedSimpArgs false

/-! ### carrefourref02_Sum: function 34 -/
def carrefourref02_Sum.T5 : Bool × List (List Nat × List Nat) := (true, [([], []), ([], []), ([], []), ([1, 2], [1, 2]), ([3], [3]), ([0, 4], [0, 4]), ([5], [5]), ([6], [6]), ([6], [6]), ([], []), ([9, 7, 5, 0, 1, 2, 3, 4, 5, 6, 7, 9], [7, 9]), ([8, 10, 0, 1, 2, 3, 4, 5, 6, 7, 8, 9, 10], [8])])
def carrefourref02_Sum.B5 : List Nat := [0, 0, 0, 6, 14, 31, 63, 127, 127, 0, 767, 2047]
theorem carrefourref02_Sum.tab5 : rtab .any (opsOf Tryd.f34 5) = carrefourref02_Sum.T5 := by kernel_rfl
theorem carrefourref02_Sum.bits5 : waitsOk carrefourref02_Sum.T5.2 carrefourref02_Sum.B5 = true := by kernel_rfl
theorem carrefourref02_Sum.calls (k : Nat) (A0 : Option Addr) (c0 : Nat) (l0 : List (S23)) (r1 : Int) (r2 : Int) (r3 : Int) (w : World) (hr0 : Kd.C k23 w A0 l0.length l0) (hc0 : l0.length ≤ c0) (h : carrefourref02_Sum.f k l0 = some (r1, r2, r3)) :
    Calls Tryd.prog 34 #[.slice A0 l0.length c0] w fun e w' => e = .returned (.tuple #[.agg #[.int .i64 r1, .int .i64 r2], .int .i64 r3]) ∧ Below w.heap.size w w' := by
  have hu23 := Tryd.underlying23
  have HR0 := Aside0.mk hr0
  have HC0 := Aside0.mk hc0
  clear hr0 hc0
  have HB := Aside0.mk (Below.refl w.heap.size w)
  have H : (carrefourref02_Sum.l0 k l0 0 0 1) = some (r1, r2, r3) := h
  clear h
  have H' := Aside0.mk H
  clear H
  go_enter Tryd.func34, Tryd.ntmps34
  go_wp2_with (first | ((with_reducible refine gd 2 rfl ?_); refine bx_ 2 23 #[.int .i64 0, .int .i64 0] rfl rfl ?_; intro gb511 hg w2 BK511 hb; have GE511 := bz HB hg; replace HB := bs HB hb; clear hb hg) | ((with_reducible refine gd 4 rfl ?_); refine bx_ 4 23 #[.int .i64 0, .int .i64 0] rfl rfl ?_; intro gb512 hg w3 BK512 hb; have GE512 := bz HB hg; have ⟨NB511_512, NB512_511⟩ := nb BK511 hg; replace BK511 := bb BK511 hb; replace HB := bs HB hb; clear hb hg; have hnb4 := nn NB512_511; have hcz5 := k2 BK512))
  go_loopg [5] k (fun kq v5 w' => ∃ (x5_1 : Int) (x512000_1 : Int) (x512001_1 : Int) (x513000_1 : Int) (x513001_1 : Int), v5 = .int .i64 x5_1 ∧ Aside0 (carrefourref02_Sum.l0 kq l0 x5_1 x513000_1 x513001_1 = some (r1, r2, r3)) ∧ Aside0 (kq ≤ k) ∧ Aside0 (w'.heap[gb511]? = some (.cells #[.int .i64 x512000_1, .int .i64 x512001_1] 23 (0, 0))) ∧ Aside0 (w'.heap[gb512]? = some (.cells #[.int .i64 x513000_1, .int .i64 x513001_1] 23 (0, 0))) ∧ Aside0 (Below w.heap.size w w'))
  case atStart => exact ⟨(0), (0), (0), (0), (1), (aq), H', ⟨Nat.le_refl _⟩, bu_ BK511, bq_ BK512, ⟨bf HB⟩⟩
  case round =>
    clear H'
    try clear p2
    try clear c3
    try clear c4
    try clear hcz5
    obtain ⟨x5_1, x512000_1, x512001_1, x513000_1, x513001_1, rfl, HA, HK1, BK511, BK512, HB⟩ := hrel
    cases gk with
    | zero => exact absurd HA.out (by simp [carrefourref02_Sum.l0])
    | succ k1 =>
      have H := HA.out
      clear HA
      simp only [carrefourref02_Sum.l0] at H
      by_cases c6 : x5_1 < (l0.length : Int)
      · rw [if_pos c6] at H
        have c6b0 : decide (x5_1 < (l0.length : Int)) = true := decide_eq_true c6
        clear c6
        by_cases c7 : 0 ≤ x5_1
        · rw [if_pos c7] at H
          have c7b0 : decide (0 ≤ x5_1) = true := decide_eq_true c7
          clear c7
          replace H := bi_ H; obtain ⟨⟨t514, t515, t516⟩, A8, H⟩ := H
          (try dsimp only at H)
          by_cases c9 : t516 = 0
          · rw [if_pos c9] at H
            have c9b0 : (t516 == 0) = true := beq_iff_eq.mpr c9
            have c9b1 : (t516 != 0) = false := bne_eq_false_iff_eq.mpr c9
            clear c9
            have H' := Aside0.mk H
            clear H
            try go_wp2
            replace BK511 := Aside0.mk (blk_drew BK511.out)
            replace BK512 := Aside0.mk (blk_drew BK512.out)
            replace HB := Aside0.mk (below_drew1 HB.out)
            have p513 : 0 ≤ (x5_1 : Int) := of_decide_eq_true (by first | (with_reducible assumption) | assumption)
            have q513 : x5_1 < (l0.length : Int) := of_decide_eq_true (by first | (with_reducible assumption) | assumption)
            obtain ⟨ad513, e513, hx513_0, hx513_1⟩ := at_T23 HR0.out x5_1 p513 q513
            have hw513_1 := hx513_1
            have hw513_0 := hx513_0
            cases e513
            replace hx513_0 := (HB.out.cell (World.block_lt_of_cell? w _ hx513_0)).trans hx513_0
            replace hx513_1 := (HB.out.cell (World.block_lt_of_cell? w _ hx513_1)).trans hx513_1
            replace p513 := eq_true p513
            replace q513 := eq_true q513
            refine start_ (n := 12) (S := fun w' => c_ w' gb512 0 (.int .i64 x513000_1) ∧ c_ w' gb512 1 (.int .i64 x513001_1) ∧ w'.cell? (ad513.add ((x5_1).toNat * 2)) = some (.int .i64 ((rd_T23 l0 x5_1).f0)) ∧ w'.cell? ⟨(ad513.add ((x5_1).toNat * 2)).block, (ad513.add ((x5_1).toNat * 2)).off + 1, none⟩ = some (.int .i64 ((rd_T23 l0 x5_1).f1))) (ds := []) (m_ 12 0) (by kernel_rfl) rfl rfl ⟨ct BK512 0, ct BK512 1, ((HB.out.cell (World.block_lt_of_cell? w _ hw513_0)).trans hw513_0), ((HB.out.cell (World.block_lt_of_cell? w _ hw513_1)).trans hw513_1)⟩ (fun hHeld => ?_); refine with_tabW carrefourref02_Sum.tab5 carrefourref02_Sum.bits5 (fun HT_ HW_ => ?_)
            generalize wr.drew = w10 at BK511 BK512 HB hx513_0 hx513_1 hHeld ⊢
            refine pu_ 1 (some 17) (m_ 12 2) rfl rfl (ao HT_) ?_
            refine pu_ 2 (some 18) (m_ 12 6) rfl rfl (ao HT_) ?_
            refine pu_ 3 (some 19) (m_ 12 14) rfl rfl (ao HT_) ?_
            refine tk_ 0 (some 16) (m_ 12 15) rfl rfl (tw HT_ HW_) hHeld ?_
            refine tk_ 4 (some 20) (m_ 12 31) rfl rfl (tw HT_ HW_) hHeld ?_
            refine join_ (σ := Nat) 2 (m_ 12 1023) (fun s_ => [(21, .tuple #[.agg #[.int .i64 t514, .int .i64 t515], .int .i64 t516]), (6, .pointer (some ⟨s_, 0, none⟩)), (15, .tuple #[.agg #[.int .i64 t514, .int .i64 t515], .int .i64 t516]), (22, .agg #[.int .i64 t514, .int .i64 t515]), (23, .int .i64 t516)]) (fun s_ w' => (c_ w' gb512 0 (.int .i64 x513000_1) ∧ c_ w' gb512 1 (.int .i64 x513001_1) ∧ w'.cell? (ad513.add ((x5_1).toNat * 2)) = some (.int .i64 ((rd_T23 l0 x5_1).f0)) ∧ w'.cell? ⟨(ad513.add ((x5_1).toNat * 2)).block, (ad513.add ((x5_1).toNat * 2)).off + 1, none⟩ = some (.int .i64 ((rd_T23 l0 x5_1).f1))) ∧ (w'.heap[gb511]? = some (.cells #[.int .i64 x512000_1, .int .i64 x512001_1] 23 (0, 0))) ∧ (w'.heap[gb512]? = some (.cells #[.int .i64 x513000_1, .int .i64 x513001_1] 23 (0, 0))) ∧ (w'.heap[s_]? = some (.cells #[.int .i64 0, .int .i64 0] 23 (0, 0))) ∧ (w.heap.size ≤ s_) ∧ (w.heap.size ≤ s_) ∧ (gb511 ≠ s_) ∧ (s_ ≠ gb511) ∧ (gb512 ≠ s_) ∧ (s_ ≠ gb512) ∧ (Below w.heap.size w w')) ?_ ?_
            rotate_left
            · intro hCont
              refine two_ (i := 5) (j := 9) (Ni := some 21) (Nj := some 6) (m_ 12 63) (m_ 12 543) rfl rfl rfl rfl (two_of HT_.out (by kernel_rfl)) (by decide) (by decide) (fun K hK => ?_) (fun K hK => ?_)
              · skip
                refine gs_ rfl Tryd.func11 (carrefourref02_Add.calls _ _ _ ((rd_T23 l0 x5_1).f0) ((rd_T23 l0 x5_1).f1) _ _ _ _ A8.out) ag ?_
                intro w11 hb
                replace BK511 := bb BK511 hb
                replace BK512 := bb BK512 hb
                replace HB := bs HB hb
                (try clear hb)
                refine hK.out _ _ ⟨ct BK512 0, ct BK512 1, ((HB.out.cell (World.block_lt_of_cell? w _ hw513_0)).trans hw513_0), ((HB.out.cell (World.block_lt_of_cell? w _ hw513_1)).trans hw513_1)⟩ (fun hHeld => ?_)
                clear hK K
                refine nr_ (some 21) ?_
                refine pu_ 6 (some 15) (m_ 12 127) rfl rfl (ao HT_) ?_
                refine pu_ 7 (some 22) (m_ 12 255) rfl rfl (ao HT_) ?_
                refine pu_ 8 (some 23) (m_ 12 511) rfl rfl (ao HT_) ?_
                refine o1_ 9 (some 6) (m_ 12 1023) rfl rfl (oo HT_) (fun K hK => ?_)
                refine box_step ?hg (N := 6) ?hd (cs := #[.int .i64 0, .int .i64 0]) (t := 23) ?hr ?_; (case hd => rfl); (case hg => rfl); (case hr => first | (go_simp; done) | (go_simp; rfl))
                intro gb517 hg w12 hbox hb
                have BK517 := Aside0.mk (hbox)
                have GW517 := bz HB hg
                have GE517 := bz HB hg
                have NB511_517 := bl BK511 hg
                have NB517_511 := bg BK511 hg
                have NB512_517 := bl BK512 hg
                have NB517_512 := bg BK512 hg
                replace BK511 := bb BK511 hb
                replace BK512 := bb BK512 hb
                replace HB := bs HB hb
                clear hb hg
                refine hK.out _ _ ⟨ct BK512 0, ct BK512 1, ((HB.out.cell (World.block_lt_of_cell? w _ hw513_0)).trans hw513_0), ((HB.out.cell (World.block_lt_of_cell? w _ hw513_1)).trans hw513_1)⟩ (fun hHeld => ?_)
                clear hK K
                refine nr_ (some 6) ?_
                exact norm_ (by simp only [putAll, Act.put, si, s0, s1]) (hCont (gb517) _ ⟨hHeld, (bx BK511), (bx BK512), (bx BK517), GW517.out, GE517.out, NB511_517.out, NB517_511.out, NB512_517.out, NB517_512.out, (bf HB)⟩)
              · skip
                refine box_step ?hg (N := 6) ?hd (cs := #[.int .i64 0, .int .i64 0]) (t := 23) ?hr ?_; (case hd => rfl); (case hg => rfl); (case hr => first | (go_simp; done) | (go_simp; rfl))
                intro gb517 hg w11 hbox hb
                have BK517 := Aside0.mk (hbox)
                have GW517 := bz HB hg
                have GE517 := bz HB hg
                have NB511_517 := bl BK511 hg
                have NB517_511 := bg BK511 hg
                have NB512_517 := bl BK512 hg
                have NB517_512 := bg BK512 hg
                replace BK511 := bb BK511 hb
                replace BK512 := bb BK512 hb
                replace HB := bs HB hb
                clear hb hg
                refine hK.out _ _ ⟨ct BK512 0, ct BK512 1, ((HB.out.cell (World.block_lt_of_cell? w _ hw513_0)).trans hw513_0), ((HB.out.cell (World.block_lt_of_cell? w _ hw513_1)).trans hw513_1)⟩ (fun hHeld => ?_)
                clear hK K
                refine nr_ (some 6) ?_
                refine o1_ 5 (some 21) (m_ 12 575) rfl rfl (oo HT_) (fun K hK => ?_)
                refine gs_ rfl Tryd.func11 (carrefourref02_Add.calls _ _ _ ((rd_T23 l0 x5_1).f0) ((rd_T23 l0 x5_1).f1) _ _ _ _ A8.out) ag ?_
                intro w12 hb
                replace BK511 := bb BK511 hb
                replace BK512 := bb BK512 hb
                replace BK517 := bb BK517 hb
                replace HB := bs HB hb
                (try clear hb)
                refine hK.out _ _ ⟨ct BK512 0, ct BK512 1, ((HB.out.cell (World.block_lt_of_cell? w _ hw513_0)).trans hw513_0), ((HB.out.cell (World.block_lt_of_cell? w _ hw513_1)).trans hw513_1)⟩ (fun hHeld => ?_)
                clear hK K
                refine nr_ (some 21) ?_
                refine pu_ 6 (some 15) (m_ 12 639) rfl rfl (ao HT_) ?_
                refine pu_ 7 (some 22) (m_ 12 767) rfl rfl (ao HT_) ?_
                refine pu_ 8 (some 23) (m_ 12 1023) rfl rfl (ao HT_) ?_
                exact norm_ (by simp only [putAll, Act.put, si, s0, s1]) (hCont (gb517) _ ⟨hHeld, (bx BK511), (bx BK512), (bx BK517), GW517.out, GE517.out, NB511_517.out, NB517_511.out, NB512_517.out, NB517_512.out, (bf HB)⟩)
            rintro gb517 w13 ⟨hS_, h0_, h1_, h2_, h3_, h4_, h5_, h6_, h7_, h8_, h9_⟩
            have n0_ : Aside0 (w13.heap[gb511]? = some (.cells #[.int .i64 x512000_1, .int .i64 x512001_1] 23 (0, 0))) := ⟨h0_⟩
            have n1_ : Aside0 (w13.heap[gb512]? = some (.cells #[.int .i64 x513000_1, .int .i64 x513001_1] 23 (0, 0))) := ⟨h1_⟩
            have n2_ : Aside0 (w13.heap[gb517]? = some (.cells #[.int .i64 0, .int .i64 0] 23 (0, 0))) := ⟨h2_⟩
            have n3_ : Aside0 (w.heap.size ≤ gb517) := ⟨h3_⟩
            have n4_ : Aside0 (w.heap.size ≤ gb517) := ⟨h4_⟩
            have n5_ : Aside0 (gb511 ≠ gb517) := ⟨h5_⟩
            have n6_ : Aside0 (gb517 ≠ gb511) := ⟨h6_⟩
            have n7_ : Aside0 (gb512 ≠ gb517) := ⟨h7_⟩
            have n8_ : Aside0 (gb517 ≠ gb512) := ⟨h8_⟩
            have n9_ : Aside0 (Below w.heap.size w w13) := ⟨h9_⟩
            clear BK511
            clear BK512
            clear HB
            clear h0_ h1_ h2_ h3_ h4_ h5_ h6_ h7_ h8_ h9_
            have BK511 := n0_
            have BK512 := n1_
            have BK517 := n2_
            have GW517 := n3_
            have GE517 := n4_
            have NB511_517 := n5_
            have NB517_511 := n6_
            have NB512_517 := n7_
            have NB517_512 := n8_
            have HB := n9_
            clear n0_ n1_ n2_ n3_ n4_ n5_ n6_ n7_ n8_ n9_
            have hHeld : c_ w13 gb512 0 (.int .i64 x513000_1) ∧ c_ w13 gb512 1 (.int .i64 x513001_1) ∧ w13.cell? (ad513.add ((x5_1).toNat * 2)) = some (.int .i64 ((rd_T23 l0 x5_1).f0)) ∧ w13.cell? ⟨(ad513.add ((x5_1).toNat * 2)).block, (ad513.add ((x5_1).toNat * 2)).off + 1, none⟩ = some (.int .i64 ((rd_T23 l0 x5_1).f1)) := hS_
            refine norm_ (a' := ?_) ?_ ?_
            rotate_left
            · simp only [putAll, Act.put, si, s0, s1]
              rfl
            refine o1_ 10 (none) (m_ 12 2047) rfl rfl (oo HT_) (fun K hK => ?_)
            have hs14 : c_ w13 gb517 0 (.int .i64 0) := ct BK517 0
            have hfs14 := blk_frozen BK517.out 0
            have hns14_0 := NB511_517.out
            have hns14_1 := NB512_517.out
            have hms14_0 := NB517_511.out
            have hms14_1 := NB517_512.out
            have hs15 : c_ w13 gb517 1 (.int .i64 0) := ct BK517 1
            have hfs15 := blk_frozen BK517.out 1
            have hns15_0 := NB511_517.out
            have hns15_1 := NB512_517.out
            have hms15_0 := NB517_511.out
            have hms15_1 := NB517_512.out
            refine skip_ (w1 := ?_) (by rfl) rfl ?_ ?_
            rotate_left
            · go_simp
              rfl
            refine hK.out _ _ ⟨((cell_far (p := ⟨gb517, _, none⟩) NB512_517.out _).trans (((cell_far (p := ⟨gb517, _, none⟩) NB512_517.out _).trans (hHeld.1)))), ((cell_far (p := ⟨gb517, _, none⟩) NB512_517.out _).trans (((cell_far (p := ⟨gb517, _, none⟩) NB512_517.out _).trans (hHeld.2.1)))), ((cell_far (p := ⟨gb517, _, none⟩) (by first | exact Nat.ne_of_lt (Nat.lt_of_lt_of_le (by have := World.block_lt_of_cell? _ _ hw513_0; first | rwa [add_block] at this | exact this) GW517.out) | (rw [add_block]; exact Nat.ne_of_lt (Nat.lt_of_lt_of_le (by have := World.block_lt_of_cell? _ _ hw513_0; first | rwa [add_block] at this | exact this) GW517.out)) | (show (Addr.add _ _).block ≠ _; rw [add_block]; exact Nat.ne_of_lt (Nat.lt_of_lt_of_le (by have := World.block_lt_of_cell? _ _ hw513_0; first | rwa [add_block] at this | exact this) GW517.out)) | (dsimp only; exact Nat.ne_of_lt (Nat.lt_of_lt_of_le (by have := World.block_lt_of_cell? _ _ hw513_0; first | rwa [add_block] at this | exact this) GW517.out))) _).trans (((cell_far (p := ⟨gb517, _, none⟩) (by first | exact Nat.ne_of_lt (Nat.lt_of_lt_of_le (by have := World.block_lt_of_cell? _ _ hw513_0; first | rwa [add_block] at this | exact this) GW517.out) | (rw [add_block]; exact Nat.ne_of_lt (Nat.lt_of_lt_of_le (by have := World.block_lt_of_cell? _ _ hw513_0; first | rwa [add_block] at this | exact this) GW517.out)) | (show (Addr.add _ _).block ≠ _; rw [add_block]; exact Nat.ne_of_lt (Nat.lt_of_lt_of_le (by have := World.block_lt_of_cell? _ _ hw513_0; first | rwa [add_block] at this | exact this) GW517.out)) | (dsimp only; exact Nat.ne_of_lt (Nat.lt_of_lt_of_le (by have := World.block_lt_of_cell? _ _ hw513_0; first | rwa [add_block] at this | exact this) GW517.out))) _).trans (hHeld.2.2.1)))), ((cell_far (p := ⟨gb517, _, none⟩) (by first | exact Nat.ne_of_lt (Nat.lt_of_lt_of_le (by have := World.block_lt_of_cell? _ _ hw513_1; first | rwa [add_block] at this | exact this) GW517.out) | (rw [add_block]; exact Nat.ne_of_lt (Nat.lt_of_lt_of_le (by have := World.block_lt_of_cell? _ _ hw513_1; first | rwa [add_block] at this | exact this) GW517.out)) | (show (Addr.add _ _).block ≠ _; rw [add_block]; exact Nat.ne_of_lt (Nat.lt_of_lt_of_le (by have := World.block_lt_of_cell? _ _ hw513_1; first | rwa [add_block] at this | exact this) GW517.out)) | (dsimp only; exact Nat.ne_of_lt (Nat.lt_of_lt_of_le (by have := World.block_lt_of_cell? _ _ hw513_1; first | rwa [add_block] at this | exact this) GW517.out))) _).trans (((cell_far (p := ⟨gb517, _, none⟩) (by first | exact Nat.ne_of_lt (Nat.lt_of_lt_of_le (by have := World.block_lt_of_cell? _ _ hw513_1; first | rwa [add_block] at this | exact this) GW517.out) | (rw [add_block]; exact Nat.ne_of_lt (Nat.lt_of_lt_of_le (by have := World.block_lt_of_cell? _ _ hw513_1; first | rwa [add_block] at this | exact this) GW517.out)) | (show (Addr.add _ _).block ≠ _; rw [add_block]; exact Nat.ne_of_lt (Nat.lt_of_lt_of_le (by have := World.block_lt_of_cell? _ _ hw513_1; first | rwa [add_block] at this | exact this) GW517.out)) | (dsimp only; exact Nat.ne_of_lt (Nat.lt_of_lt_of_le (by have := World.block_lt_of_cell? _ _ hw513_1; first | rwa [add_block] at this | exact this) GW517.out))) _).trans (hHeld.2.2.2))))⟩ (fun hHeld => ?_)
            clear hK K
            refine pu_ 11 (some 7) (m_ 12 4095) rfl rfl (ao HT_) ?_
            refine done_ (done_of HT_.out (by kernel_rfl)) ?_
            have hnb16 := nn NB517_511
            have hnb17 := nn NB517_512
            have hcz18 := k2 BK517
            have hnb19 := nn NB512_511
            have hcz20 := k2 BK512
            try go_wp2
            go_roundg k1
            case measure => have := HK1.out; omega
            case rel => exact ⟨(wrap64 (x5_1 + 1)), (x512000_1), (x512001_1), (t514), (t515), (aq), H', ⟨by have := HK1.out; omega⟩, bu_ BK511, bq_ BK512, ⟨bf HB⟩⟩
          · rw [if_neg c9] at H
            have c9b0 : (t516 == 0) = false := beq_eq_false_iff_ne.mpr c9
            have c9b1 : (t516 != 0) = true := bne_iff_ne.mpr c9
            simp only [Option.some.injEq, Prod.mk.injEq] at H
            obtain ⟨rfl, rfl, rfl⟩ := H
            try go_wp2
            replace BK511 := Aside0.mk (blk_drew BK511.out)
            replace BK512 := Aside0.mk (blk_drew BK512.out)
            replace HB := Aside0.mk (below_drew1 HB.out)
            have p513 : 0 ≤ (x5_1 : Int) := of_decide_eq_true (by first | (with_reducible assumption) | assumption)
            have q513 : x5_1 < (l0.length : Int) := of_decide_eq_true (by first | (with_reducible assumption) | assumption)
            obtain ⟨ad513, e513, hx513_0, hx513_1⟩ := at_T23 HR0.out x5_1 p513 q513
            have hw513_1 := hx513_1
            have hw513_0 := hx513_0
            cases e513
            replace hx513_0 := (HB.out.cell (World.block_lt_of_cell? w _ hx513_0)).trans hx513_0
            replace hx513_1 := (HB.out.cell (World.block_lt_of_cell? w _ hx513_1)).trans hx513_1
            replace p513 := eq_true p513
            replace q513 := eq_true q513
            refine start_ (n := 12) (S := fun w' => c_ w' gb512 0 (.int .i64 x513000_1) ∧ c_ w' gb512 1 (.int .i64 x513001_1) ∧ w'.cell? (ad513.add ((x5_1).toNat * 2)) = some (.int .i64 ((rd_T23 l0 x5_1).f0)) ∧ w'.cell? ⟨(ad513.add ((x5_1).toNat * 2)).block, (ad513.add ((x5_1).toNat * 2)).off + 1, none⟩ = some (.int .i64 ((rd_T23 l0 x5_1).f1))) (ds := []) (m_ 12 0) (by kernel_rfl) rfl rfl ⟨ct BK512 0, ct BK512 1, ((HB.out.cell (World.block_lt_of_cell? w _ hw513_0)).trans hw513_0), ((HB.out.cell (World.block_lt_of_cell? w _ hw513_1)).trans hw513_1)⟩ (fun hHeld => ?_); refine with_tabW carrefourref02_Sum.tab5 carrefourref02_Sum.bits5 (fun HT_ HW_ => ?_)
            generalize wr.drew = w21 at BK511 BK512 HB hx513_0 hx513_1 hHeld ⊢
            refine pu_ 1 (some 17) (m_ 12 2) rfl rfl (ao HT_) ?_
            refine pu_ 2 (some 18) (m_ 12 6) rfl rfl (ao HT_) ?_
            refine pu_ 3 (some 19) (m_ 12 14) rfl rfl (ao HT_) ?_
            refine tk_ 0 (some 16) (m_ 12 15) rfl rfl (tw HT_ HW_) hHeld ?_
            refine tk_ 4 (some 20) (m_ 12 31) rfl rfl (tw HT_ HW_) hHeld ?_
            refine join_ (σ := Nat) 2 (m_ 12 1023) (fun s_ => [(21, .tuple #[.agg #[.int .i64 t514, .int .i64 t515], .int .i64 t516]), (6, .pointer (some ⟨s_, 0, none⟩)), (15, .tuple #[.agg #[.int .i64 t514, .int .i64 t515], .int .i64 t516]), (22, .agg #[.int .i64 t514, .int .i64 t515]), (23, .int .i64 t516)]) (fun s_ w' => (c_ w' gb512 0 (.int .i64 x513000_1) ∧ c_ w' gb512 1 (.int .i64 x513001_1) ∧ w'.cell? (ad513.add ((x5_1).toNat * 2)) = some (.int .i64 ((rd_T23 l0 x5_1).f0)) ∧ w'.cell? ⟨(ad513.add ((x5_1).toNat * 2)).block, (ad513.add ((x5_1).toNat * 2)).off + 1, none⟩ = some (.int .i64 ((rd_T23 l0 x5_1).f1))) ∧ (w'.heap[gb511]? = some (.cells #[.int .i64 x512000_1, .int .i64 x512001_1] 23 (0, 0))) ∧ (w'.heap[gb512]? = some (.cells #[.int .i64 x513000_1, .int .i64 x513001_1] 23 (0, 0))) ∧ (w'.heap[s_]? = some (.cells #[.int .i64 0, .int .i64 0] 23 (0, 0))) ∧ (w.heap.size ≤ s_) ∧ (w.heap.size ≤ s_) ∧ (gb511 ≠ s_) ∧ (s_ ≠ gb511) ∧ (gb512 ≠ s_) ∧ (s_ ≠ gb512) ∧ (Below w.heap.size w w')) ?_ ?_
            rotate_left
            · intro hCont
              refine two_ (i := 5) (j := 9) (Ni := some 21) (Nj := some 6) (m_ 12 63) (m_ 12 543) rfl rfl rfl rfl (two_of HT_.out (by kernel_rfl)) (by decide) (by decide) (fun K hK => ?_) (fun K hK => ?_)
              · skip
                refine gs_ rfl Tryd.func11 (carrefourref02_Add.calls _ _ _ ((rd_T23 l0 x5_1).f0) ((rd_T23 l0 x5_1).f1) _ _ _ _ A8.out) ag ?_
                intro w22 hb
                replace BK511 := bb BK511 hb
                replace BK512 := bb BK512 hb
                replace HB := bs HB hb
                (try clear hb)
                refine hK.out _ _ ⟨ct BK512 0, ct BK512 1, ((HB.out.cell (World.block_lt_of_cell? w _ hw513_0)).trans hw513_0), ((HB.out.cell (World.block_lt_of_cell? w _ hw513_1)).trans hw513_1)⟩ (fun hHeld => ?_)
                clear hK K
                refine nr_ (some 21) ?_
                refine pu_ 6 (some 15) (m_ 12 127) rfl rfl (ao HT_) ?_
                refine pu_ 7 (some 22) (m_ 12 255) rfl rfl (ao HT_) ?_
                refine pu_ 8 (some 23) (m_ 12 511) rfl rfl (ao HT_) ?_
                refine o1_ 9 (some 6) (m_ 12 1023) rfl rfl (oo HT_) (fun K hK => ?_)
                refine box_step ?hg (N := 6) ?hd (cs := #[.int .i64 0, .int .i64 0]) (t := 23) ?hr ?_; (case hd => rfl); (case hg => rfl); (case hr => first | (go_simp; done) | (go_simp; rfl))
                intro gb517 hg w23 hbox hb
                have BK517 := Aside0.mk (hbox)
                have GW517 := bz HB hg
                have GE517 := bz HB hg
                have NB511_517 := bl BK511 hg
                have NB517_511 := bg BK511 hg
                have NB512_517 := bl BK512 hg
                have NB517_512 := bg BK512 hg
                replace BK511 := bb BK511 hb
                replace BK512 := bb BK512 hb
                replace HB := bs HB hb
                clear hb hg
                refine hK.out _ _ ⟨ct BK512 0, ct BK512 1, ((HB.out.cell (World.block_lt_of_cell? w _ hw513_0)).trans hw513_0), ((HB.out.cell (World.block_lt_of_cell? w _ hw513_1)).trans hw513_1)⟩ (fun hHeld => ?_)
                clear hK K
                refine nr_ (some 6) ?_
                exact norm_ (by simp only [putAll, Act.put, si, s0, s1]) (hCont (gb517) _ ⟨hHeld, (bx BK511), (bx BK512), (bx BK517), GW517.out, GE517.out, NB511_517.out, NB517_511.out, NB512_517.out, NB517_512.out, (bf HB)⟩)
              · skip
                refine box_step ?hg (N := 6) ?hd (cs := #[.int .i64 0, .int .i64 0]) (t := 23) ?hr ?_; (case hd => rfl); (case hg => rfl); (case hr => first | (go_simp; done) | (go_simp; rfl))
                intro gb517 hg w22 hbox hb
                have BK517 := Aside0.mk (hbox)
                have GW517 := bz HB hg
                have GE517 := bz HB hg
                have NB511_517 := bl BK511 hg
                have NB517_511 := bg BK511 hg
                have NB512_517 := bl BK512 hg
                have NB517_512 := bg BK512 hg
                replace BK511 := bb BK511 hb
                replace BK512 := bb BK512 hb
                replace HB := bs HB hb
                clear hb hg
                refine hK.out _ _ ⟨ct BK512 0, ct BK512 1, ((HB.out.cell (World.block_lt_of_cell? w _ hw513_0)).trans hw513_0), ((HB.out.cell (World.block_lt_of_cell? w _ hw513_1)).trans hw513_1)⟩ (fun hHeld => ?_)
                clear hK K
                refine nr_ (some 6) ?_
                refine o1_ 5 (some 21) (m_ 12 575) rfl rfl (oo HT_) (fun K hK => ?_)
                refine gs_ rfl Tryd.func11 (carrefourref02_Add.calls _ _ _ ((rd_T23 l0 x5_1).f0) ((rd_T23 l0 x5_1).f1) _ _ _ _ A8.out) ag ?_
                intro w23 hb
                replace BK511 := bb BK511 hb
                replace BK512 := bb BK512 hb
                replace BK517 := bb BK517 hb
                replace HB := bs HB hb
                (try clear hb)
                refine hK.out _ _ ⟨ct BK512 0, ct BK512 1, ((HB.out.cell (World.block_lt_of_cell? w _ hw513_0)).trans hw513_0), ((HB.out.cell (World.block_lt_of_cell? w _ hw513_1)).trans hw513_1)⟩ (fun hHeld => ?_)
                clear hK K
                refine nr_ (some 21) ?_
                refine pu_ 6 (some 15) (m_ 12 639) rfl rfl (ao HT_) ?_
                refine pu_ 7 (some 22) (m_ 12 767) rfl rfl (ao HT_) ?_
                refine pu_ 8 (some 23) (m_ 12 1023) rfl rfl (ao HT_) ?_
                exact norm_ (by simp only [putAll, Act.put, si, s0, s1]) (hCont (gb517) _ ⟨hHeld, (bx BK511), (bx BK512), (bx BK517), GW517.out, GE517.out, NB511_517.out, NB517_511.out, NB512_517.out, NB517_512.out, (bf HB)⟩)
            rintro gb517 w24 ⟨hS_, h0_, h1_, h2_, h3_, h4_, h5_, h6_, h7_, h8_, h9_⟩
            have n0_ : Aside0 (w24.heap[gb511]? = some (.cells #[.int .i64 x512000_1, .int .i64 x512001_1] 23 (0, 0))) := ⟨h0_⟩
            have n1_ : Aside0 (w24.heap[gb512]? = some (.cells #[.int .i64 x513000_1, .int .i64 x513001_1] 23 (0, 0))) := ⟨h1_⟩
            have n2_ : Aside0 (w24.heap[gb517]? = some (.cells #[.int .i64 0, .int .i64 0] 23 (0, 0))) := ⟨h2_⟩
            have n3_ : Aside0 (w.heap.size ≤ gb517) := ⟨h3_⟩
            have n4_ : Aside0 (w.heap.size ≤ gb517) := ⟨h4_⟩
            have n5_ : Aside0 (gb511 ≠ gb517) := ⟨h5_⟩
            have n6_ : Aside0 (gb517 ≠ gb511) := ⟨h6_⟩
            have n7_ : Aside0 (gb512 ≠ gb517) := ⟨h7_⟩
            have n8_ : Aside0 (gb517 ≠ gb512) := ⟨h8_⟩
            have n9_ : Aside0 (Below w.heap.size w w24) := ⟨h9_⟩
            clear BK511
            clear BK512
            clear HB
            clear h0_ h1_ h2_ h3_ h4_ h5_ h6_ h7_ h8_ h9_
            have BK511 := n0_
            have BK512 := n1_
            have BK517 := n2_
            have GW517 := n3_
            have GE517 := n4_
            have NB511_517 := n5_
            have NB517_511 := n6_
            have NB512_517 := n7_
            have NB517_512 := n8_
            have HB := n9_
            clear n0_ n1_ n2_ n3_ n4_ n5_ n6_ n7_ n8_ n9_
            have hHeld : c_ w24 gb512 0 (.int .i64 x513000_1) ∧ c_ w24 gb512 1 (.int .i64 x513001_1) ∧ w24.cell? (ad513.add ((x5_1).toNat * 2)) = some (.int .i64 ((rd_T23 l0 x5_1).f0)) ∧ w24.cell? ⟨(ad513.add ((x5_1).toNat * 2)).block, (ad513.add ((x5_1).toNat * 2)).off + 1, none⟩ = some (.int .i64 ((rd_T23 l0 x5_1).f1)) := hS_
            refine norm_ (a' := ?_) ?_ ?_
            rotate_left
            · simp only [putAll, Act.put, si, s0, s1]
              rfl
            refine o1_ 10 (none) (m_ 12 2047) rfl rfl (oo HT_) (fun K hK => ?_)
            have hs25 : c_ w24 gb517 0 (.int .i64 0) := ct BK517 0
            have hfs25 := blk_frozen BK517.out 0
            have hns25_0 := NB511_517.out
            have hns25_1 := NB512_517.out
            have hms25_0 := NB517_511.out
            have hms25_1 := NB517_512.out
            have hs26 : c_ w24 gb517 1 (.int .i64 0) := ct BK517 1
            have hfs26 := blk_frozen BK517.out 1
            have hns26_0 := NB511_517.out
            have hns26_1 := NB512_517.out
            have hms26_0 := NB517_511.out
            have hms26_1 := NB517_512.out
            refine skip_ (w1 := ?_) (by rfl) rfl ?_ ?_
            rotate_left
            · go_simp
              rfl
            refine hK.out _ _ ⟨((cell_far (p := ⟨gb517, _, none⟩) NB512_517.out _).trans (((cell_far (p := ⟨gb517, _, none⟩) NB512_517.out _).trans (hHeld.1)))), ((cell_far (p := ⟨gb517, _, none⟩) NB512_517.out _).trans (((cell_far (p := ⟨gb517, _, none⟩) NB512_517.out _).trans (hHeld.2.1)))), ((cell_far (p := ⟨gb517, _, none⟩) (by first | exact Nat.ne_of_lt (Nat.lt_of_lt_of_le (by have := World.block_lt_of_cell? _ _ hw513_0; first | rwa [add_block] at this | exact this) GW517.out) | (rw [add_block]; exact Nat.ne_of_lt (Nat.lt_of_lt_of_le (by have := World.block_lt_of_cell? _ _ hw513_0; first | rwa [add_block] at this | exact this) GW517.out)) | (show (Addr.add _ _).block ≠ _; rw [add_block]; exact Nat.ne_of_lt (Nat.lt_of_lt_of_le (by have := World.block_lt_of_cell? _ _ hw513_0; first | rwa [add_block] at this | exact this) GW517.out)) | (dsimp only; exact Nat.ne_of_lt (Nat.lt_of_lt_of_le (by have := World.block_lt_of_cell? _ _ hw513_0; first | rwa [add_block] at this | exact this) GW517.out))) _).trans (((cell_far (p := ⟨gb517, _, none⟩) (by first | exact Nat.ne_of_lt (Nat.lt_of_lt_of_le (by have := World.block_lt_of_cell? _ _ hw513_0; first | rwa [add_block] at this | exact this) GW517.out) | (rw [add_block]; exact Nat.ne_of_lt (Nat.lt_of_lt_of_le (by have := World.block_lt_of_cell? _ _ hw513_0; first | rwa [add_block] at this | exact this) GW517.out)) | (show (Addr.add _ _).block ≠ _; rw [add_block]; exact Nat.ne_of_lt (Nat.lt_of_lt_of_le (by have := World.block_lt_of_cell? _ _ hw513_0; first | rwa [add_block] at this | exact this) GW517.out)) | (dsimp only; exact Nat.ne_of_lt (Nat.lt_of_lt_of_le (by have := World.block_lt_of_cell? _ _ hw513_0; first | rwa [add_block] at this | exact this) GW517.out))) _).trans (hHeld.2.2.1)))), ((cell_far (p := ⟨gb517, _, none⟩) (by first | exact Nat.ne_of_lt (Nat.lt_of_lt_of_le (by have := World.block_lt_of_cell? _ _ hw513_1; first | rwa [add_block] at this | exact this) GW517.out) | (rw [add_block]; exact Nat.ne_of_lt (Nat.lt_of_lt_of_le (by have := World.block_lt_of_cell? _ _ hw513_1; first | rwa [add_block] at this | exact this) GW517.out)) | (show (Addr.add _ _).block ≠ _; rw [add_block]; exact Nat.ne_of_lt (Nat.lt_of_lt_of_le (by have := World.block_lt_of_cell? _ _ hw513_1; first | rwa [add_block] at this | exact this) GW517.out)) | (dsimp only; exact Nat.ne_of_lt (Nat.lt_of_lt_of_le (by have := World.block_lt_of_cell? _ _ hw513_1; first | rwa [add_block] at this | exact this) GW517.out))) _).trans (((cell_far (p := ⟨gb517, _, none⟩) (by first | exact Nat.ne_of_lt (Nat.lt_of_lt_of_le (by have := World.block_lt_of_cell? _ _ hw513_1; first | rwa [add_block] at this | exact this) GW517.out) | (rw [add_block]; exact Nat.ne_of_lt (Nat.lt_of_lt_of_le (by have := World.block_lt_of_cell? _ _ hw513_1; first | rwa [add_block] at this | exact this) GW517.out)) | (show (Addr.add _ _).block ≠ _; rw [add_block]; exact Nat.ne_of_lt (Nat.lt_of_lt_of_le (by have := World.block_lt_of_cell? _ _ hw513_1; first | rwa [add_block] at this | exact this) GW517.out)) | (dsimp only; exact Nat.ne_of_lt (Nat.lt_of_lt_of_le (by have := World.block_lt_of_cell? _ _ hw513_1; first | rwa [add_block] at this | exact this) GW517.out))) _).trans (hHeld.2.2.2))))⟩ (fun hHeld => ?_)
            clear hK K
            refine pu_ 11 (some 7) (m_ 12 4095) rfl rfl (ao HT_) ?_
            refine done_ (done_of HT_.out (by kernel_rfl)) ?_
            have hnb27 := nn NB511_512
            have hnb28 := nn NB511_517
            have hcz29 := k2 BK511
            try go_wp2
            refine bodyPost_ret (results_ct rfl _ _ gb511 23 #[.int .i64 0, .int .i64 0] (0, 0) _ rfl (br_ BK511) Tryd.underlying23 rfl (by kernel_rfl)) rfl ?_
            exact ⟨ae, bf HB⟩
        · rw [if_neg c7] at H
          exact absurd H (by simp)
      · rw [if_neg c6] at H
        have c6b0 : decide (x5_1 < (l0.length : Int)) = false := decide_eq_false c6
        clear c6
        simp only [Option.some.injEq, Prod.mk.injEq] at H
        obtain ⟨rfl, rfl, rfl⟩ := H
        have hnb30 := nn NB512_511
        have hcz31 := k2 BK512
        have hcz32 := k2 BK511
        go_wp2
        refine bodyPost_ret (results_ct rfl _ _ gb511 23 #[.int .i64 x513000_1, .int .i64 x513001_1] (0, 0) _ rfl (br_ BK511) Tryd.underlying23 rfl (by kernel_rfl)) rfl ?_
        exact ⟨ae, bf HB⟩

/-! ### whole_sign: function 80 -/
theorem whole_sign.calls (k : Nat) (a0 : Int) (a1 : Int) (r : Int) (w : World) (h : whole_sign.f k a0 a1 = some r) :
    Calls Tryd.prog 80 #[.int .i64 a0, .int .i64 a1] w fun e w' => e = .returned (.int .i64 r) ∧ Drawn0 w w' := by
  have H : (if a0 = 0 then (whole_sign.j0 k a0 a1 true) else (whole_sign.j0 k a0 a1 (a1 == 0))) = some r := h
  clear h
  have HC3 := Aside0.mk H
  clear H
  go_enter Tryd.func80, Tryd.ntmps80
  go_upto_region 1 with (fail)
  go_cut [5] (fun v5 wc => ∃ (kq : Nat) (x5_2 : Bool), v5 = .bool x5_2 ∧ Aside0 (whole_sign.j0 kq a0 a1 x5_2 = some r) ∧ Aside0 (kq ≤ k) ∧ Drawn0 w wc)
  case first =>
    have H := HC3.out
    clear HC3
    by_cases c4 : a0 = 0
    · rw [if_pos c4] at H
      have c4b0 : (a0 == 0) = true := beq_iff_eq.mpr c4
      have c4b1 : (a0 != 0) = false := bne_eq_false_iff_eq.mpr c4
      clear c4
      (first | rw [c4b0] | (simp only [i64_w, i32_w]; rw [c4b0]) | skip)
      have H' := Aside0.mk H
      clear H
      go_wp2
      go_meet
      case rel => exact ⟨_, (true), (aq), H', ⟨by first | omega | exact Nat.le_refl _⟩, dr⟩
    · rw [if_neg c4] at H
      have c4b0 : (a0 == 0) = false := beq_eq_false_iff_ne.mpr c4
      have c4b1 : (a0 != 0) = true := bne_iff_ne.mpr c4
      (first | rw [c4b0] | (simp only [i64_w, i32_w]; rw [c4b0]) | skip)
      have H' := Aside0.mk H
      clear H
      go_wp2
      go_meet
      case rel => exact ⟨_, ((a1 == 0)), (aq), H', ⟨by first | omega | exact Nat.le_refl _⟩, dr⟩
  case rest =>
    clear HC3
    try clear p2
    try clear c4
    try clear c4b0
    try clear c4b1
    obtain ⟨kq, x5_2, rfl, HA, HJ2, ⟨mc2, rfl⟩⟩ := hcut
    cases kq with
    | zero => exact absurd HA.out (by simp [whole_sign.j0])
    | succ kj2 =>
      have H := HA.out
      clear HA
      simp only [whole_sign.j0] at H
      by_cases c5 : x5_2 = true
      · subst c5
        have H1 : (some 0) = some r := by rw [if_pos rfl] at H; exact H
        clear H
        have H := H1
        clear H1
        obtain rfl := Option.some.inj H
        go_wp2
        go_ret
        exact ⟨aq, dr⟩
      · replace c5 := Bool.eq_false_iff.mpr c5
        subst c5
        have H1 : (if ((decide (a0 < 0)) != (decide (a1 < 0))) = true then (some (-1)) else (some 1)) = some r := by rw [if_neg (show ¬ (false = true) by decide)] at H; exact H
        clear H
        have H := H1
        clear H1
        by_cases c6 : ((decide (a0 < 0)) != (decide (a1 < 0))) = true
        · rw [if_pos c6] at H
          have c6b0 : ((decide (a0 < 0)) != (decide (a1 < 0))) = true := c6
          (try (have c6b1 : decide ((decide (a0 < 0)) = (decide (a1 < 0))) = false := by simpa using c6))
          (try (have c6b2 : ((decide (a0 < 0)) == (decide (a1 < 0))) = false := by simpa using c6))
          (try (have c6b3 : ¬ ((decide (a0 < 0)) = (decide (a1 < 0))) := by simpa using c6))
          clear c6
          obtain rfl := Option.some.inj H
          go_wp2
          go_ret
          exact ⟨aq, dr⟩
        · rw [if_neg c6] at H
          have c6b0 : ((decide (a0 < 0)) != (decide (a1 < 0))) = false := by simpa using c6
          (try (have c6b1 : decide ((decide (a0 < 0)) = (decide (a1 < 0))) = true := by simpa using c6))
          (try (have c6b2 : ((decide (a0 < 0)) == (decide (a1 < 0))) = true := by simpa using c6))
          clear c6
          obtain rfl := Option.some.inj H
          go_wp2
          go_ret
          exact ⟨aq, dr⟩

end Go.Proofs.YtjgnaccamakpdaaDoor.X
