/- Walks: each '.calls' says that the Go function comes to what its Lean function tells. Conditions: as each theorem's head says. -/
import Derived.Test.YtpdmiookdmncpaaDoorXD
import Derived.Test.YtpdmiookdmncpaaDoorX0
import Derived.Test.YtpdmiookdmncpaaDoorX2
namespace Go.Proofs.YtpdmiookdmncpaaDoor.X
open Go.RowKit Go.Proofs.YtpdmiookdmncpaaDoorW.PrintWords Go.Proofs.YtpdmiookdmncpaaDoorW.PrintLast Go.Proofs.YtpdmiookdmncpaaDoorW.PrintMore
attribute [local go_sem] max2_int min2_int max_two min_two max_three min_three max_four min_four   -- for this text's walks alone
set_option linter.unusedVariables false
set_option maxHeartbeats 8000000
set_option maxRecDepth 100000
set_option linter.unusedSimpArgs false

/-! ### frac_wide_minus: function 104 -/
theorem frac_wide_minus.calls (a0_0 : Int) (a0_1 : Int) (a1_0 : Int) (a1_1 : Int) (r1 : Int) (r2 : Int) (w : World) (h : frac_wide_minus.f a0_0 a0_1 a1_0 a1_1 = some (r1, r2)) :
    Calls Tryd.prog 104 #[.agg #[.int .u64 a0_0, .int .u64 a0_1], .agg #[.int .u64 a1_0, .int .u64 a1_1]] w fun e w' => e = .returned (.agg #[.int .u64 r1, .int .u64 r2]) ∧ Below w.heap.size w w' := by
  have hu104 := Tryd.underlying104
  have HB := Aside0.mk (Below.refl w.heap.size w)
  have H : ((bits_Sub64.f a0_1 a1_1 0).bind fun bt123 => ((bits_Sub64.f a0_0 a1_0 bt123.2).bind fun bt125 => (some (bt125.1, bt123.1)))) = some (r1, r2) := h
  clear h
  replace H := bi_ H; obtain ⟨⟨t123, t124⟩, A3, H⟩ := H
  (try dsimp only at H)
  replace H := bi_ H; obtain ⟨⟨t125, t126⟩, A4, H⟩ := H
  (try dsimp only at H)
  simp only [Option.some.injEq, Prod.mk.injEq] at H
  obtain ⟨rfl, rfl⟩ := H
  go_enter Tryd.func104, Tryd.ntmps104
  go_wp2_with (first | ((with_reducible refine gd 2 rfl ?_); refine bx_ 2 104 #[.int .u64 a0_0, .int .u64 a0_1] rfl rfl ?_; intro gb120 hg w5 BK120 hb; have GE120 := bz HB hg; replace HB := bs HB hb; clear hb hg) | ((with_reducible refine gd 3 rfl ?_); refine bx_ 3 104 #[.int .u64 a1_0, .int .u64 a1_1] rfl rfl ?_; intro gb121 hg w6 BK121 hb; have GE121 := bz HB hg; have ⟨NB120_121, NB121_120⟩ := nb BK120 hg; replace BK120 := bb BK120 hb; replace HB := bs HB hb; clear hb hg) | ((with_reducible refine gd 4 rfl ?_); refine bx_ 4 104 #[.int .u64 0, .int .u64 0] rfl rfl ?_; intro gb122 hg w7 BK122 hb; have GE122 := bz HB hg; have ⟨NB120_122, NB122_120⟩ := nb BK120 hg; have ⟨NB121_122, NB122_121⟩ := nb BK121 hg; replace BK120 := bb BK120 hb; replace BK121 := bb BK121 hb; replace HB := bs HB hb; clear hb hg; have hnb8 := nn NB120_121; have hnb9 := nn NB120_122; have hcz10 := k2 BK120; have hnb11 := nn NB121_122; have hcz12 := k2 BK121) | ((with_reducible refine gate_callee (f := 112) rfl ?_); refine goesX_ (some 14) rfl rfl #[.int .u64 a0_1, .int .u64 a1_1, .int .u64 0] rfl ag ?_; (with_reducible refine (bits_Sub64.calls _ _ _ _ _ _ A3.out).mono ?_); rintro e w' ⟨rfl, rfl⟩; refine ⟨_, rfl, ?_⟩; (try (rw [drewN_self w7]; generalize hq_ : World.drewN w7 _ = w7; have n0_ : Aside0 (w7.heap[gb120]? = some (.cells #[.int .u64 a0_0, .int .u64 a0_1] 104 (0, 0))) := ⟨by rw [← hq_]; exact (bx BK120)⟩; have n1_ : Aside0 (w7.heap[gb121]? = some (.cells #[.int .u64 a1_0, .int .u64 a1_1] 104 (0, 0))) := ⟨by rw [← hq_]; exact (bx BK121)⟩; have n2_ : Aside0 (w7.heap[gb122]? = some (.cells #[.int .u64 0, .int .u64 0] 104 (0, 0))) := ⟨by rw [← hq_]; exact (bx BK122)⟩; have n3_ : Aside0 (Below w.heap.size w w7) := ⟨by rw [← hq_]; exact (bf HB)⟩; clear BK120 BK121 BK122 HB hq_; have BK120 := n0_; have BK121 := n1_; have BK122 := n2_; have HB := n3_; clear n0_ n1_ n2_ n3_))) | ((with_reducible refine gate_callee (f := 112) rfl ?_); refine goesX_ (some 23) rfl rfl #[.int .u64 a0_0, .int .u64 a1_0, .int .u64 t124] rfl ag ?_; (with_reducible refine (bits_Sub64.calls _ _ _ _ _ _ A4.out).mono ?_); rintro e w' ⟨rfl, rfl⟩; refine ⟨_, rfl, ?_⟩; (try (rw [drewN_self w7]; generalize hq_ : World.drewN w7 _ = w7; have n0_ : Aside0 (w7.heap[gb120]? = some (.cells #[.int .u64 a0_0, .int .u64 a0_1] 104 (0, 0))) := ⟨by rw [← hq_]; exact (bx BK120)⟩; have n1_ : Aside0 (w7.heap[gb121]? = some (.cells #[.int .u64 a1_0, .int .u64 a1_1] 104 (0, 0))) := ⟨by rw [← hq_]; exact (bx BK121)⟩; have n2_ : Aside0 (w7.heap[gb122]? = some (.cells #[.int .u64 0, .int .u64 0] 104 (0, 0))) := ⟨by rw [← hq_]; exact (bx BK122)⟩; have n3_ : Aside0 (Below w.heap.size w w7) := ⟨by rw [← hq_]; exact (bf HB)⟩; clear BK120 BK121 BK122 HB hq_; have BK120 := n0_; have BK121 := n1_; have BK122 := n2_; have HB := n3_; clear n0_ n1_ n2_ n3_)); have hcz13 := k2 BK122))
  refine bodyPost_ret (results_cell_row rfl _ _ gb122 104 #[.int .u64 t125, .int .u64 t123] (0, 0) _ rfl (br_ BK122) Tryd.underlying104 rfl (by kernel_rfl)) rfl ?_
  exact ⟨ae, bf HB⟩

/-! ### frac_wide_up: function 105 -/
def frac_wide_up.T3 : Bool × List (List Nat × List Nat) := (true, [([], []), ([0], [0]), ([], []), ([1, 2], [1, 2]), ([], []), ([4], [4]), ([], []), ([6], [6]), ([5, 7], [5, 7]), ([3, 8], [3, 8]), ([], []), ([10], [10]), ([], []), ([11, 12], [11, 12]), ([9, 13], [9, 13]), ([14, 0, 1, 2, 3, 4, 5, 6, 7, 8, 9, 10, 11, 12, 13, 14], [14])])
def frac_wide_up.B3 : List Nat := [0, 1, 0, 7, 0, 16, 0, 64, 240, 511, 0, 1024, 0, 7168, 16383, 32767]
theorem frac_wide_up.tab3 : rtab .any (opsOf Tryd.f105 3) = frac_wide_up.T3 := by kernel_rfl
theorem frac_wide_up.bits3 : waitsOk frac_wide_up.T3.2 frac_wide_up.B3 = true := by kernel_rfl
theorem frac_wide_up.calls (a0_0 : Int) (a0_1 : Int) (a1 : Int) (r1 : Int) (r2 : Int) (w : World) (h : frac_wide_up.f a0_0 a0_1 a1 = some (r1, r2)) :
    Calls Tryd.prog 105 #[.agg #[.int .u64 a0_0, .int .u64 a0_1], .int .i64 a1] w fun e w' => e = .returned (.agg #[.int .u64 r1, .int .u64 r2]) ∧ Below w.heap.size w w' := by
  have hu104 := Tryd.underlying104
  have HB := Aside0.mk (Below.refl w.heap.size w)
  have H : (if a1 ≥ 64 then (if 0 ≤ (wrap64 (a1 - 64)) then (some (shl .u64 a0_1 (wrap64 (a1 - 64)), 0)) else (none)) else (if 0 ≤ a1 then (if 0 ≤ (wrap64 (64 - a1)) then (some (Go.bits .or .u64 (shl .u64 a0_0 a1) (shr .u64 a0_1 (wrap64 (64 - a1))), shl .u64 a0_1 a1)) else (none)) else (none))) = some (r1, r2) := h
  clear h
  by_cases c3 : a1 ≥ 64
  · rw [if_pos c3] at H
    have c3b0 : decide (64 ≤ a1) = true := decide_eq_true c3
    clear c3
    obtain ⟨ji4, hji4⟩ : ∃ j_ : Int, (wrap64 (a1 - 64)) = j_ := ⟨_, rfl⟩
    replace H : (if 0 ≤ (ji4) then (some (shl .u64 a0_1 (ji4), 0)) else (none)) = some (r1, r2) := by first | (rw [hji4] at H; exact H) | (simp only [hji4] at H ⊢; exact H)
    have hji4w : (IntKind.i64.wrap (a1 - 64)) = ji4 := (i64_w _).trans hji4
    by_cases c5 : 0 ≤ (ji4)
    · rw [if_pos c5] at H
      have c5b0 := eq_true c5
      have c5b1 : decide (0 ≤ (ji4)) = true := decide_eq_true c5
      clear c5
      obtain ⟨ji6, hji6⟩ : ∃ j_ : Int, (shl .u64 a0_1 (ji4)) = j_ := ⟨_, rfl⟩
      replace H : (some (ji6, 0)) = some (r1, r2) := by first | (rw [hji6] at H; exact H) | (simp only [hji6] at H ⊢; exact H)
      have hji6_ : (IntKind.u64.wrap (a0_1 * 2 ^ min (ji4).toNat 64)) = ji6 := hji6
      have hji6z : (ji4) ≤ 64 → (IntKind.u64.wrap (a0_1 * 2 ^ (ji4).toNat)) = ji6 := shl_small hji6
      simp only [Option.some.injEq, Prod.mk.injEq] at H
      obtain ⟨rfl, rfl⟩ := H
      go_enter Tryd.func105, Tryd.ntmps105
      go_wp2_with (first | ((with_reducible refine gd 2 rfl ?_); refine bx_ 2 104 #[.int .u64 a0_0, .int .u64 a0_1] rfl rfl ?_; intro gb127 hg w7 BK127 hb; have GE127 := bz HB hg; replace HB := bs HB hb; clear hb hg) | ((with_reducible refine gd 4 rfl ?_); refine bx_ 4 104 #[.int .u64 0, .int .u64 0] rfl rfl ?_; intro gb128 hg w8 BK128 hb; have GE128 := bz HB hg; have ⟨NB127_128, NB128_127⟩ := nb BK127 hg; replace BK127 := bb BK127 hb; replace HB := bs HB hb; clear hb hg; have hnb9 := nn NB127_128; have hcz10 := k2 BK127; have hcz11 := k2 BK128))
      refine bodyPost_ret (results_cell_row rfl _ _ gb128 104 #[.int .u64 ji6, .int .u64 0] (0, 0) _ rfl (br_ BK128) Tryd.underlying104 rfl (by kernel_rfl)) rfl ?_
      exact ⟨by first | rfl | (simp [errW_none, errW_some] <;> rfl) | (simp only [← hji4, ← hji6]; first | rfl | (simp [errW_none, errW_some] <;> rfl)) | (simp [*, errW_none, errW_some] <;> rfl), bf HB⟩
    · rw [if_neg c5] at H
      exact absurd H (by simp)
  · rw [if_neg c3] at H
    have c3b0 : decide (64 ≤ a1) = false := decide_eq_false c3
    clear c3
    by_cases c12 : 0 ≤ a1
    · rw [if_pos c12] at H
      have c12b0 := eq_true c12
      have c12b1 : decide (0 ≤ a1) = true := decide_eq_true c12
      clear c12
      obtain ⟨ji13, hji13⟩ : ∃ j_ : Int, (shl .u64 a0_0 a1) = j_ := ⟨_, rfl⟩
      replace H : (if 0 ≤ (wrap64 (64 - a1)) then (some (Go.bits .or .u64 (ji13) (shr .u64 a0_1 (wrap64 (64 - a1))), shl .u64 a0_1 a1)) else (none)) = some (r1, r2) := by first | (rw [hji13] at H; exact H) | (simp only [hji13] at H ⊢; exact H)
      have hji13_ : (IntKind.u64.wrap (a0_0 * 2 ^ min a1.toNat 64)) = ji13 := hji13
      have hji13z : a1 ≤ 64 → (IntKind.u64.wrap (a0_0 * 2 ^ a1.toNat)) = ji13 := shl_small hji13
      obtain ⟨ji14, hji14⟩ : ∃ j_ : Int, (wrap64 (64 - a1)) = j_ := ⟨_, rfl⟩
      replace H : (if 0 ≤ (ji14) then (some (Go.bits .or .u64 (ji13) (shr .u64 a0_1 (ji14)), shl .u64 a0_1 a1)) else (none)) = some (r1, r2) := by first | (rw [hji14] at H; exact H) | (simp only [hji14] at H ⊢; exact H)
      have hji14w : (IntKind.i64.wrap (64 - a1)) = ji14 := (i64_w _).trans hji14
      by_cases c15 : 0 ≤ (ji14)
      · rw [if_pos c15] at H
        have c15b0 := eq_true c15
        have c15b1 : decide (0 ≤ (ji14)) = true := decide_eq_true c15
        clear c15
        obtain ⟨ji16, hji16⟩ : ∃ j_ : Int, (shr .u64 a0_1 (ji14)) = j_ := ⟨_, rfl⟩
        replace H : (some (Go.bits .or .u64 (ji13) (ji16), shl .u64 a0_1 a1)) = some (r1, r2) := by first | (rw [hji16] at H; exact H) | (simp only [hji16] at H ⊢; exact H)
        have hji16_ : (a0_1 / 2 ^ min (ji14).toNat 64) = ji16 := hji16
        have hji16z : (ji14) ≤ 64 → (a0_1 / 2 ^ (ji14).toNat) = ji16 := shr_small hji16
        have c17b0 := eq_true (of_decide_eq_true (by first | (with_reducible assumption) | assumption) : 0 ≤ a1)
        obtain ⟨ji18, hji18⟩ : ∃ j_ : Int, (shl .u64 a0_1 a1) = j_ := ⟨_, rfl⟩
        replace H : (some (Go.bits .or .u64 (ji13) (ji16), ji18)) = some (r1, r2) := by first | (rw [hji18] at H; exact H) | (simp only [hji18] at H ⊢; exact H)
        have hji18_ : (IntKind.u64.wrap (a0_1 * 2 ^ min a1.toNat 64)) = ji18 := hji18
        have hji18z : a1 ≤ 64 → (IntKind.u64.wrap (a0_1 * 2 ^ a1.toNat)) = ji18 := shl_small hji18
        simp only [Option.some.injEq, Prod.mk.injEq] at H
        obtain ⟨rfl, rfl⟩ := H
        go_enter Tryd.func105, Tryd.ntmps105
        try go_wp2_with (first | ((with_reducible refine gd 2 rfl ?_); refine bx_ 2 104 #[.int .u64 a0_0, .int .u64 a0_1] rfl rfl ?_; intro gb127 hg w19 BK127 hb; have GE127 := bz HB hg; replace HB := bs HB hb; clear hb hg) | ((with_reducible refine gd 4 rfl ?_); refine bx_ 4 104 #[.int .u64 0, .int .u64 0] rfl rfl ?_; intro gb128 hg w20 BK128 hb; have GE128 := bz HB hg; have ⟨NB127_128, NB128_127⟩ := nb BK127 hg; replace BK127 := bb BK127 hb; replace HB := bs HB hb; clear hb hg))
        replace BK127 := Aside0.mk (blk_drew BK127.out)
        replace BK128 := Aside0.mk (blk_drew BK128.out)
        replace HB := Aside0.mk (below_drew1 HB.out)
        refine start_ (n := 16) (S := fun w' => c_ w' gb127 0 (.int .u64 a0_0) ∧ c_ w' gb127 1 (.int .u64 a0_1)) (ds := []) (m_ 16 0) (by kernel_rfl) rfl rfl ⟨ct BK127 0, ct BK127 1⟩ (fun hHeld => ?_); refine with_tabW frac_wide_up.tab3 frac_wide_up.bits3 (fun HT_ HW_ => ?_)
        generalize w20.drew = w21 at BK127 BK128 HB hHeld ⊢
        refine pu_ 0 (some 13) (m_ 16 1) rfl rfl (ao HT_) ?_
        refine pu_ 2 (some 15) (m_ 16 5) rfl rfl (ao HT_) ?_
        refine pu_ 4 (some 17) (m_ 16 21) rfl rfl (ao HT_) ?_
        refine pu_ 6 (some 19) (m_ 16 85) rfl rfl (ao HT_) ?_
        refine pu_ 7 (some 20) (m_ 16 213) rfl rfl (ao HT_) ?_
        refine pu_ 10 (some 23) (m_ 16 1237) rfl rfl (ao HT_) ?_
        refine pu_ 12 (some 25) (m_ 16 5333) rfl rfl (ao HT_) ?_
        refine tk_ 1 (some 14) (m_ 16 5335) rfl rfl (tw HT_ HW_) hHeld ?_
        refine pu_ 3 (some 16) (m_ 16 5343) rfl rfl (ao HT_) ?_
        refine tk_ 5 (some 18) (m_ 16 5375) rfl rfl (tw HT_ HW_) hHeld ?_
        refine pu_ 8 (some 21) (m_ 16 5631) rfl rfl (ao HT_) ?_
        refine pu_ 9 (some 22) (m_ 16 6143) rfl rfl (ao HT_) ?_
        refine tk_ 11 (some 24) (m_ 16 8191) rfl rfl (tw HT_ HW_) hHeld ?_
        refine pu_ 13 (some 26) (m_ 16 16383) rfl rfl (ao HT_) ?_
        refine pu_ 14 (some 27) (m_ 16 32767) rfl rfl (ao HT_) ?_
        refine o1_ 15 (none) (m_ 16 65535) rfl rfl (oo HT_) (fun K hK => ?_)
        have hs22 : c_ w21 gb128 0 (.int .u64 0) := ct BK128 0
        have hfs22 := blk_frozen BK128.out 0
        have hns22_0 := nn NB127_128
        have hs23 : c_ w21 gb128 1 (.int .u64 0) := ct BK128 1
        have hfs23 := blk_frozen BK128.out 1
        have hns23_0 := nn NB127_128
        refine skip_ (w1 := ?_) (by rfl) rfl ?_ ?_
        rotate_left
        · go_simp
          rfl
        refine hK.out _ _ ⟨((cell_far (p := ⟨gb128, _, none⟩) NB127_128.out _).trans (((cell_far (p := ⟨gb128, _, none⟩) NB127_128.out _).trans (hHeld.1)))), ((cell_far (p := ⟨gb128, _, none⟩) NB127_128.out _).trans (((cell_far (p := ⟨gb128, _, none⟩) NB127_128.out _).trans (hHeld.2))))⟩ (fun hHeld => ?_)
        clear hK K
        refine done_ (done_of HT_.out (by kernel_rfl)) ?_
        try go_wp2
        refine bodyPost_ret (results_cell_row rfl _ _ gb128 104 #[.int .u64 (Go.bits .or .u64 (ji13) (ji16)), .int .u64 ji18] (0, 0) _ rfl (br_ BK128) Tryd.underlying104 rfl (by kernel_rfl)) rfl ?_
        exact ⟨by first | rfl | (simp [errW_none, errW_some] <;> rfl) | (simp only [← hji13, ← hji14, ← hji16, ← hji18]; first | rfl | (simp [errW_none, errW_some] <;> rfl)) | (simp [*, errW_none, errW_some] <;> rfl), bf HB⟩
      · rw [if_neg c15] at H
        exact absurd H (by simp)
    · rw [if_neg c12] at H
      exact absurd H (by simp)

end Go.Proofs.YtpdmiookdmncpaaDoor.X
