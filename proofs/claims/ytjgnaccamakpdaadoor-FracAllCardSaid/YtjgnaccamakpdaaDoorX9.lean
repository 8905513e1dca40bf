/- Walks: each '.calls' says that the Go function comes to what its Lean function tells. Conditions: as each theorem's head says. -/
import Derived.Test.YtjgnaccamakpdaaDoorXD
import Derived.Test.YtjgnaccamakpdaaDoorX0
import Derived.Test.YtjgnaccamakpdaaDoorX4
import Derived.Test.YtjgnaccamakpdaaDoorX8
namespace Go.Proofs.YtjgnaccamakpdaaDoor.X
open Go.RowKit Go.Proofs.YtjgnaccamakpdaaDoorW.PrintWords Go.Proofs.YtjgnaccamakpdaaDoorW.PrintLast Go.Proofs.YtjgnaccamakpdaaDoorW.PrintMore
attribute [local go_sem] max2_int min2_int max_two min_two max_three min_three max_four min_four   -- for this text's walks alone
set_option linter.unusedVariables false
set_option maxHeartbeats 8000000
set_option maxRecDepth 100000
set_option linter.unusedSimpArgs false

/-! ### frac_signed_plus: function 67 -/
def frac_signed_plus.T2 : Bool × List (List Nat × List Nat) := (true, [([], []), ([0], [0]), ([], []), ([2], [2]), ([], []), ([4], [4]), ([3, 5], [3, 5]), ([1, 6], [1, 6]), ([7, 6, 0, 1, 2, 3, 4, 5, 6, 7], [7])])
def frac_signed_plus.B2 : List Nat := [0, 1, 0, 4, 0, 16, 60, 127, 255]
theorem frac_signed_plus.tab2 : rtab .any (opsOf Tryd.f67 2) = frac_signed_plus.T2 := by kernel_rfl
theorem frac_signed_plus.bits2 : waitsOk frac_signed_plus.T2.2 frac_signed_plus.B2 = true := by kernel_rfl
def frac_signed_plus.T4 : Bool × List (List Nat × List Nat) := (true, [([], []), ([0], [0]), ([], []), ([2], [2]), ([], []), ([4], [4]), ([3, 5], [3, 5]), ([1, 6], [1, 6]), ([7, 6, 0, 1, 2, 3, 4, 5, 6, 7], [7])])
def frac_signed_plus.B4 : List Nat := [0, 1, 0, 4, 0, 16, 60, 127, 255]
theorem frac_signed_plus.tab4 : rtab .any (opsOf Tryd.f67 4) = frac_signed_plus.T4 := by kernel_rfl
theorem frac_signed_plus.bits4 : waitsOk frac_signed_plus.T4.2 frac_signed_plus.B4 = true := by kernel_rfl
def frac_signed_plus.T5 : Bool × List (List Nat × List Nat) := (true, [([], []), ([0], [0]), ([], []), ([2], [2]), ([], []), ([4], [4]), ([3, 5], [3, 5]), ([1, 6], [1, 6]), ([7, 6, 0, 1, 2, 3, 4, 5, 6, 7], [7])])
def frac_signed_plus.B5 : List Nat := [0, 1, 0, 4, 0, 16, 60, 127, 255]
theorem frac_signed_plus.tab5 : rtab .any (opsOf Tryd.f67 5) = frac_signed_plus.T5 := by kernel_rfl
theorem frac_signed_plus.bits5 : waitsOk frac_signed_plus.T5.2 frac_signed_plus.B5 = true := by kernel_rfl
theorem frac_signed_plus.calls (a0_0 : Bool) (a0_1 : Int) (a0_2 : Int) (a1_0 : Bool) (a1_1 : Int) (a1_2 : Int) (r1 : Bool) (r2 : Int) (r3 : Int) (w : World) (h : frac_signed_plus.f a0_0 a0_1 a0_2 a1_0 a1_1 a1_2 = some (r1, r2, r3)) :
    Calls Tryd.prog 67 #[.agg #[.bool a0_0, .int .u64 a0_1, .int .u64 a0_2], .agg #[.bool a1_0, .int .u64 a1_1, .int .u64 a1_2]] w fun e w' => e = .returned (.agg #[.bool r1, .int .u64 r2, .int .u64 r3]) ∧ Below w.heap.size w w' := by
  have hu50 := Tryd.underlying50
  have hu48 := Tryd.underlying48
  have HB := Aside0.mk (Below.refl w.heap.size w)
  have H : (if (a0_0 == a1_0) = true then ((frac_wide_plus.f a0_1 a0_2 a1_1 a1_2).bind fun bt209 => (some (a0_0, bt209.1, bt209.2))) else ((frac_wide_cmp.f a0_1 a0_2 a1_1 a1_2).bind fun t211 => (if t211 ≥ 0 then ((frac_wide_minus.f a0_1 a0_2 a1_1 a1_2).bind fun bt212 => (some (a0_0, bt212.1, bt212.2))) else ((frac_wide_minus.f a1_1 a1_2 a0_1 a0_2).bind fun bt214 => (some (a1_0, bt214.1, bt214.2)))))) = some (r1, r2, r3) := h
  clear h
  by_cases c3 : (a0_0 == a1_0) = true
  · rw [if_pos c3] at H
    have c3b0 : (a0_0 == a1_0) = true := c3
    (try (have c3b1 : decide (a0_0 = a1_0) = true := by simpa using c3))
    (try (have c3b2 : (a0_0 == a1_0) = true := by simpa using c3))
    clear c3
    replace H := bi_ H; obtain ⟨⟨t209, t210⟩, A4, H⟩ := H
    (try dsimp only at H)
    simp only [Option.some.injEq, Prod.mk.injEq] at H
    obtain ⟨rfl, rfl, rfl⟩ := H
    go_enter Tryd.func67, Tryd.ntmps67
    try go_wp2_with (first | ((with_reducible refine gd 2 rfl ?_); refine bx_ 2 50 #[.bool a0_0, .int .u64 a0_1, .int .u64 a0_2] rfl rfl ?_; intro gb206 hg w5 BK206 hb; have GE206 := bz HB hg; replace HB := bs HB hb; clear hb hg) | ((with_reducible refine gd 3 rfl ?_); refine bx_ 3 50 #[.bool a1_0, .int .u64 a1_1, .int .u64 a1_2] rfl rfl ?_; intro gb207 hg w6 BK207 hb; have GE207 := bz HB hg; have ⟨NB206_207, NB207_206⟩ := nb BK206 hg; replace BK206 := bb BK206 hb; replace HB := bs HB hb; clear hb hg) | ((with_reducible refine gd 4 rfl ?_); refine bx_ 4 50 #[.bool false, .int .u64 0, .int .u64 0] rfl rfl ?_; intro gb208 hg w7 BK208 hb; have GE208 := bz HB hg; have ⟨NB206_208, NB208_206⟩ := nb BK206 hg; have ⟨NB207_208, NB208_207⟩ := nb BK207 hg; replace BK206 := bb BK206 hb; replace BK207 := bb BK207 hb; replace HB := bs HB hb; clear hb hg; have hnb8 := nn NB206_207; have hnb9 := nn NB206_208; have hcz10 := k3 BK206; have hnb11 := nn NB207_208; have hcz12 := k3 BK207))
    replace BK206 := Aside0.mk (blk_drew BK206.out)
    replace BK207 := Aside0.mk (blk_drew BK207.out)
    replace BK208 := Aside0.mk (blk_drew BK208.out)
    replace HB := Aside0.mk (below_drew1 HB.out)
    refine start_ (n := 9) (S := fun w' => c_ w' gb206 0 (.bool a0_0) ∧ c_ w' gb206 1 (.int .u64 a0_1) ∧ c_ w' gb206 2 (.int .u64 a0_2) ∧ c_ w' gb207 0 (.bool a1_0) ∧ c_ w' gb207 1 (.int .u64 a1_1) ∧ c_ w' gb207 2 (.int .u64 a1_2)) (ds := []) (m_ 9 0) (by kernel_rfl) rfl rfl ⟨ct BK206 0, ct BK206 1, ct BK206 2, ct BK207 0, ct BK207 1, ct BK207 2⟩ (fun hHeld => ?_); refine with_tabW frac_signed_plus.tab2 frac_signed_plus.bits2 (fun HT_ HW_ => ?_)
    generalize w7.drew = w13 at BK206 BK207 BK208 HB hHeld ⊢
    refine pu_ 0 (some 11) (m_ 9 1) rfl rfl (ao HT_) ?_
    refine pu_ 2 (some 13) (m_ 9 5) rfl rfl (ao HT_) ?_
    refine pu_ 4 (some 15) (m_ 9 21) rfl rfl (ao HT_) ?_
    refine tk_ 1 (some 12) (m_ 9 23) rfl rfl (tw HT_ HW_) hHeld ?_
    refine tk_ 3 (some 14) (m_ 9 31) rfl rfl (tw HT_ HW_) hHeld ?_
    refine tk_ 5 (some 16) (m_ 9 63) rfl rfl (tw HT_ HW_) hHeld ?_
    refine o1_ 6 (some 17) (m_ 9 127) rfl rfl (oo HT_) (fun K hK => ?_)
    refine gs_ rfl Tryd.func86 (frac_wide_plus.calls _ _ _ _ _ _ _ A4.out) ag ?_
    intro w14 hb
    replace BK206 := bb BK206 hb
    replace BK207 := bb BK207 hb
    replace BK208 := bb BK208 hb
    replace HB := bs HB hb
    (try clear hb)
    refine hK.out _ _ ⟨ct BK206 0, ct BK206 1, ct BK206 2, ct BK207 0, ct BK207 1, ct BK207 2⟩ (fun hHeld => ?_)
    clear hK K
    refine nr_ (some 17) ?_
    refine pu_ 7 (some 18) (m_ 9 255) rfl rfl (ao HT_) ?_
    refine o1_ 8 (none) (m_ 9 511) rfl rfl (oo HT_) (fun K hK => ?_)
    have hs15 : c_ w14 gb208 0 (.bool false) := ct BK208 0
    have hfs15 := blk_frozen BK208.out 0
    have hns15_0 := NB206_208.out
    have hns15_1 := NB207_208.out
    have hms15_0 := NB208_206.out
    have hms15_1 := NB208_207.out
    have hs16 : c_ w14 gb208 1 (.int .u64 0) := ct BK208 1
    have hfs16 := blk_frozen BK208.out 1
    have hns16_0 := NB206_208.out
    have hns16_1 := NB207_208.out
    have hms16_0 := NB208_206.out
    have hms16_1 := NB208_207.out
    have hs17 : c_ w14 gb208 2 (.int .u64 0) := ct BK208 2
    have hfs17 := blk_frozen BK208.out 2
    have hns17_0 := NB206_208.out
    have hns17_1 := NB207_208.out
    have hms17_0 := NB208_206.out
    have hms17_1 := NB208_207.out
    refine skip_ (w1 := ?_) (by rfl) rfl ?_ ?_
    rotate_left
    · go_simp
      rfl
    refine hK.out _ _ ⟨((cell_far (p := ⟨gb208, _, none⟩) NB206_208.out _).trans (((cell_far (p := ⟨gb208, _, none⟩) NB206_208.out _).trans (((cell_far (p := ⟨gb208, _, none⟩) NB206_208.out _).trans (hHeld.1)))))), ((cell_far (p := ⟨gb208, _, none⟩) NB206_208.out _).trans (((cell_far (p := ⟨gb208, _, none⟩) NB206_208.out _).trans (((cell_far (p := ⟨gb208, _, none⟩) NB206_208.out _).trans (hHeld.2.1)))))), ((cell_far (p := ⟨gb208, _, none⟩) NB206_208.out _).trans (((cell_far (p := ⟨gb208, _, none⟩) NB206_208.out _).trans (((cell_far (p := ⟨gb208, _, none⟩) NB206_208.out _).trans (hHeld.2.2.1)))))), ((cell_far (p := ⟨gb208, _, none⟩) NB207_208.out _).trans (((cell_far (p := ⟨gb208, _, none⟩) NB207_208.out _).trans (((cell_far (p := ⟨gb208, _, none⟩) NB207_208.out _).trans (hHeld.2.2.2.1)))))), ((cell_far (p := ⟨gb208, _, none⟩) NB207_208.out _).trans (((cell_far (p := ⟨gb208, _, none⟩) NB207_208.out _).trans (((cell_far (p := ⟨gb208, _, none⟩) NB207_208.out _).trans (hHeld.2.2.2.2.1)))))), ((cell_far (p := ⟨gb208, _, none⟩) NB207_208.out _).trans (((cell_far (p := ⟨gb208, _, none⟩) NB207_208.out _).trans (((cell_far (p := ⟨gb208, _, none⟩) NB207_208.out _).trans (hHeld.2.2.2.2.2))))))⟩ (fun hHeld => ?_)
    clear hK K
    refine done_ (done_of HT_.out (by kernel_rfl)) ?_
    try go_wp2
    refine bodyPost_ret (results_cell_row rfl _ _ gb208 50 #[.bool a0_0, .int .u64 t209, .int .u64 t210] (0, 0) _ rfl (br_ BK208) Tryd.underlying50 rfl (by kernel_rfl)) rfl ?_
    exact ⟨ae, bf HB⟩
  · rw [if_neg c3] at H
    have c3b0 : (a0_0 == a1_0) = false := by simpa using c3
    (try (have c3b1 : decide (a0_0 = a1_0) = false := by simpa using c3))
    (try (have c3b2 : (a0_0 == a1_0) = false := by simpa using c3))
    (try (have c3b3 : ¬ (a0_0 = a1_0) := by simpa using c3))
    clear c3
    replace H := bi_ H; obtain ⟨t211, A18, H⟩ := H
    (try dsimp only at H)
    by_cases c19 : t211 ≥ 0
    · rw [if_pos c19] at H
      have c19b0 : decide (0 ≤ t211) = true := decide_eq_true c19
      clear c19
      replace H := bi_ H; obtain ⟨⟨t212, t213⟩, A20, H⟩ := H
      (try dsimp only at H)
      simp only [Option.some.injEq, Prod.mk.injEq] at H
      obtain ⟨rfl, rfl, rfl⟩ := H
      go_enter Tryd.func67, Tryd.ntmps67
      try go_wp2_with (first | ((with_reducible refine gd 2 rfl ?_); refine bx_ 2 50 #[.bool a0_0, .int .u64 a0_1, .int .u64 a0_2] rfl rfl ?_; intro gb206 hg w21 BK206 hb; have GE206 := bz HB hg; replace HB := bs HB hb; clear hb hg) | ((with_reducible refine gd 3 rfl ?_); refine bx_ 3 50 #[.bool a1_0, .int .u64 a1_1, .int .u64 a1_2] rfl rfl ?_; intro gb207 hg w22 BK207 hb; have GE207 := bz HB hg; have ⟨NB206_207, NB207_206⟩ := nb BK206 hg; replace BK206 := bb BK206 hb; replace HB := bs HB hb; clear hb hg) | ((with_reducible refine gd 4 rfl ?_); refine bx_ 4 50 #[.bool false, .int .u64 0, .int .u64 0] rfl rfl ?_; intro gb208 hg w23 BK208 hb; have GE208 := bz HB hg; have ⟨NB206_208, NB208_206⟩ := nb BK206 hg; have ⟨NB207_208, NB208_207⟩ := nb BK207 hg; replace BK206 := bb BK206 hb; replace BK207 := bb BK207 hb; replace HB := bs HB hb; clear hb hg; have hnb24 := nn NB206_207; have hnb25 := nn NB206_208; have hcz26 := k3 BK206; have hnb27 := nn NB207_208; have hcz28 := k3 BK207) | ((with_reducible refine gc 87 rfl ?_); refine gm_ (some 24) rfl rfl Tryd.func87 (frac_wide_cmp.calls _ _ _ _ _ _ A18.out) ag ?_; intro w29 hb; replace BK206 := bb BK206 hb; replace BK207 := bb BK207 hb; replace BK208 := bb BK208 hb; replace HB := bs HB hb; (try clear hb)))
      replace BK206 := Aside0.mk (blk_drew BK206.out)
      replace BK207 := Aside0.mk (blk_drew BK207.out)
      replace BK208 := Aside0.mk (blk_drew BK208.out)
      replace HB := Aside0.mk (below_drew1 HB.out)
      refine start_ (n := 9) (S := fun w' => c_ w' gb206 0 (.bool a0_0) ∧ c_ w' gb206 1 (.int .u64 a0_1) ∧ c_ w' gb206 2 (.int .u64 a0_2) ∧ c_ w' gb207 0 (.bool a1_0) ∧ c_ w' gb207 1 (.int .u64 a1_1) ∧ c_ w' gb207 2 (.int .u64 a1_2)) (ds := []) (m_ 9 0) (by kernel_rfl) rfl rfl ⟨ct BK206 0, ct BK206 1, ct BK206 2, ct BK207 0, ct BK207 1, ct BK207 2⟩ (fun hHeld => ?_); refine with_tabW frac_signed_plus.tab4 frac_signed_plus.bits4 (fun HT_ HW_ => ?_)
      generalize w29.drew = w30 at BK206 BK207 BK208 HB hHeld ⊢
      refine pu_ 0 (some 26) (m_ 9 1) rfl rfl (ao HT_) ?_
      refine pu_ 2 (some 28) (m_ 9 5) rfl rfl (ao HT_) ?_
      refine pu_ 4 (some 30) (m_ 9 21) rfl rfl (ao HT_) ?_
      refine tk_ 1 (some 27) (m_ 9 23) rfl rfl (tw HT_ HW_) hHeld ?_
      refine tk_ 3 (some 29) (m_ 9 31) rfl rfl (tw HT_ HW_) hHeld ?_
      refine tk_ 5 (some 31) (m_ 9 63) rfl rfl (tw HT_ HW_) hHeld ?_
      refine o1_ 6 (some 32) (m_ 9 127) rfl rfl (oo HT_) (fun K hK => ?_)
      refine gs_ rfl Tryd.func88 (frac_wide_minus.calls _ _ _ _ _ _ _ A20.out) ag ?_
      intro w31 hb
      replace BK206 := bb BK206 hb
      replace BK207 := bb BK207 hb
      replace BK208 := bb BK208 hb
      replace HB := bs HB hb
      (try clear hb)
      refine hK.out _ _ ⟨ct BK206 0, ct BK206 1, ct BK206 2, ct BK207 0, ct BK207 1, ct BK207 2⟩ (fun hHeld => ?_)
      clear hK K
      refine nr_ (some 32) ?_
      refine pu_ 7 (some 33) (m_ 9 255) rfl rfl (ao HT_) ?_
      refine o1_ 8 (none) (m_ 9 511) rfl rfl (oo HT_) (fun K hK => ?_)
      have hs32 : c_ w31 gb208 0 (.bool false) := ct BK208 0
      have hfs32 := blk_frozen BK208.out 0
      have hns32_0 := NB206_208.out
      have hns32_1 := NB207_208.out
      have hms32_0 := NB208_206.out
      have hms32_1 := NB208_207.out
      have hs33 : c_ w31 gb208 1 (.int .u64 0) := ct BK208 1
      have hfs33 := blk_frozen BK208.out 1
      have hns33_0 := NB206_208.out
      have hns33_1 := NB207_208.out
      have hms33_0 := NB208_206.out
      have hms33_1 := NB208_207.out
      have hs34 : c_ w31 gb208 2 (.int .u64 0) := ct BK208 2
      have hfs34 := blk_frozen BK208.out 2
      have hns34_0 := NB206_208.out
      have hns34_1 := NB207_208.out
      have hms34_0 := NB208_206.out
      have hms34_1 := NB208_207.out
      refine skip_ (w1 := ?_) (by rfl) rfl ?_ ?_
      rotate_left
      · go_simp
        rfl
      refine hK.out _ _ ⟨((cell_far (p := ⟨gb208, _, none⟩) NB206_208.out _).trans (((cell_far (p := ⟨gb208, _, none⟩) NB206_208.out _).trans (((cell_far (p := ⟨gb208, _, none⟩) NB206_208.out _).trans (hHeld.1)))))), ((cell_far (p := ⟨gb208, _, none⟩) NB206_208.out _).trans (((cell_far (p := ⟨gb208, _, none⟩) NB206_208.out _).trans (((cell_far (p := ⟨gb208, _, none⟩) NB206_208.out _).trans (hHeld.2.1)))))), ((cell_far (p := ⟨gb208, _, none⟩) NB206_208.out _).trans (((cell_far (p := ⟨gb208, _, none⟩) NB206_208.out _).trans (((cell_far (p := ⟨gb208, _, none⟩) NB206_208.out _).trans (hHeld.2.2.1)))))), ((cell_far (p := ⟨gb208, _, none⟩) NB207_208.out _).trans (((cell_far (p := ⟨gb208, _, none⟩) NB207_208.out _).trans (((cell_far (p := ⟨gb208, _, none⟩) NB207_208.out _).trans (hHeld.2.2.2.1)))))), ((cell_far (p := ⟨gb208, _, none⟩) NB207_208.out _).trans (((cell_far (p := ⟨gb208, _, none⟩) NB207_208.out _).trans (((cell_far (p := ⟨gb208, _, none⟩) NB207_208.out _).trans (hHeld.2.2.2.2.1)))))), ((cell_far (p := ⟨gb208, _, none⟩) NB207_208.out _).trans (((cell_far (p := ⟨gb208, _, none⟩) NB207_208.out _).trans (((cell_far (p := ⟨gb208, _, none⟩) NB207_208.out _).trans (hHeld.2.2.2.2.2))))))⟩ (fun hHeld => ?_)
      clear hK K
      refine done_ (done_of HT_.out (by kernel_rfl)) ?_
      try go_wp2
      refine bodyPost_ret (results_cell_row rfl _ _ gb208 50 #[.bool a0_0, .int .u64 t212, .int .u64 t213] (0, 0) _ rfl (br_ BK208) Tryd.underlying50 rfl (by kernel_rfl)) rfl ?_
      exact ⟨ae, bf HB⟩
    · rw [if_neg c19] at H
      have c19b0 : decide (0 ≤ t211) = false := decide_eq_false c19
      clear c19
      replace H := bi_ H; obtain ⟨⟨t214, t215⟩, A35, H⟩ := H
      (try dsimp only at H)
      simp only [Option.some.injEq, Prod.mk.injEq] at H
      obtain ⟨rfl, rfl, rfl⟩ := H
      go_enter Tryd.func67, Tryd.ntmps67
      try go_wp2_with (first | ((with_reducible refine gd 2 rfl ?_); refine bx_ 2 50 #[.bool a0_0, .int .u64 a0_1, .int .u64 a0_2] rfl rfl ?_; intro gb206 hg w36 BK206 hb; have GE206 := bz HB hg; replace HB := bs HB hb; clear hb hg) | ((with_reducible refine gd 3 rfl ?_); refine bx_ 3 50 #[.bool a1_0, .int .u64 a1_1, .int .u64 a1_2] rfl rfl ?_; intro gb207 hg w37 BK207 hb; have GE207 := bz HB hg; have ⟨NB206_207, NB207_206⟩ := nb BK206 hg; replace BK206 := bb BK206 hb; replace HB := bs HB hb; clear hb hg) | ((with_reducible refine gd 4 rfl ?_); refine bx_ 4 50 #[.bool false, .int .u64 0, .int .u64 0] rfl rfl ?_; intro gb208 hg w38 BK208 hb; have GE208 := bz HB hg; have ⟨NB206_208, NB208_206⟩ := nb BK206 hg; have ⟨NB207_208, NB208_207⟩ := nb BK207 hg; replace BK206 := bb BK206 hb; replace BK207 := bb BK207 hb; replace HB := bs HB hb; clear hb hg; have hnb39 := nn NB206_207; have hnb40 := nn NB206_208; have hcz41 := k3 BK206; have hnb42 := nn NB207_208; have hcz43 := k3 BK207) | ((with_reducible refine gc 87 rfl ?_); refine gm_ (some 24) rfl rfl Tryd.func87 (frac_wide_cmp.calls _ _ _ _ _ _ A18.out) ag ?_; intro w44 hb; replace BK206 := bb BK206 hb; replace BK207 := bb BK207 hb; replace BK208 := bb BK208 hb; replace HB := bs HB hb; (try clear hb)))
      replace BK206 := Aside0.mk (blk_drew BK206.out)
      replace BK207 := Aside0.mk (blk_drew BK207.out)
      replace BK208 := Aside0.mk (blk_drew BK208.out)
      replace HB := Aside0.mk (below_drew1 HB.out)
      refine start_ (n := 9) (S := fun w' => c_ w' gb207 0 (.bool a1_0) ∧ c_ w' gb207 1 (.int .u64 a1_1) ∧ c_ w' gb207 2 (.int .u64 a1_2) ∧ c_ w' gb206 0 (.bool a0_0) ∧ c_ w' gb206 1 (.int .u64 a0_1) ∧ c_ w' gb206 2 (.int .u64 a0_2)) (ds := []) (m_ 9 0) (by kernel_rfl) rfl rfl ⟨ct BK207 0, ct BK207 1, ct BK207 2, ct BK206 0, ct BK206 1, ct BK206 2⟩ (fun hHeld => ?_); refine with_tabW frac_signed_plus.tab5 frac_signed_plus.bits5 (fun HT_ HW_ => ?_)
      generalize w44.drew = w45 at BK206 BK207 BK208 HB hHeld ⊢
      refine pu_ 0 (some 34) (m_ 9 1) rfl rfl (ao HT_) ?_
      refine pu_ 2 (some 36) (m_ 9 5) rfl rfl (ao HT_) ?_
      refine pu_ 4 (some 38) (m_ 9 21) rfl rfl (ao HT_) ?_
      refine tk_ 1 (some 35) (m_ 9 23) rfl rfl (tw HT_ HW_) hHeld ?_
      refine tk_ 3 (some 37) (m_ 9 31) rfl rfl (tw HT_ HW_) hHeld ?_
      refine tk_ 5 (some 39) (m_ 9 63) rfl rfl (tw HT_ HW_) hHeld ?_
      refine o1_ 6 (some 40) (m_ 9 127) rfl rfl (oo HT_) (fun K hK => ?_)
      refine gs_ rfl Tryd.func88 (frac_wide_minus.calls _ _ _ _ _ _ _ A35.out) ag ?_
      intro w46 hb
      replace BK206 := bb BK206 hb
      replace BK207 := bb BK207 hb
      replace BK208 := bb BK208 hb
      replace HB := bs HB hb
      (try clear hb)
      refine hK.out _ _ ⟨ct BK207 0, ct BK207 1, ct BK207 2, ct BK206 0, ct BK206 1, ct BK206 2⟩ (fun hHeld => ?_)
      clear hK K
      refine nr_ (some 40) ?_
      refine pu_ 7 (some 41) (m_ 9 255) rfl rfl (ao HT_) ?_
      refine o1_ 8 (none) (m_ 9 511) rfl rfl (oo HT_) (fun K hK => ?_)
      have hs47 : c_ w46 gb208 0 (.bool false) := ct BK208 0
      have hfs47 := blk_frozen BK208.out 0
      have hns47_0 := NB206_208.out
      have hns47_1 := NB207_208.out
      have hms47_0 := NB208_206.out
      have hms47_1 := NB208_207.out
      have hs48 : c_ w46 gb208 1 (.int .u64 0) := ct BK208 1
      have hfs48 := blk_frozen BK208.out 1
      have hns48_0 := NB206_208.out
      have hns48_1 := NB207_208.out
      have hms48_0 := NB208_206.out
      have hms48_1 := NB208_207.out
      have hs49 : c_ w46 gb208 2 (.int .u64 0) := ct BK208 2
      have hfs49 := blk_frozen BK208.out 2
      have hns49_0 := NB206_208.out
      have hns49_1 := NB207_208.out
      have hms49_0 := NB208_206.out
      have hms49_1 := NB208_207.out
      refine skip_ (w1 := ?_) (by rfl) rfl ?_ ?_
      rotate_left
      · go_simp
        rfl
      refine hK.out _ _ ⟨((cell_far (p := ⟨gb208, _, none⟩) NB207_208.out _).trans (((cell_far (p := ⟨gb208, _, none⟩) NB207_208.out _).trans (((cell_far (p := ⟨gb208, _, none⟩) NB207_208.out _).trans (hHeld.1)))))), ((cell_far (p := ⟨gb208, _, none⟩) NB207_208.out _).trans (((cell_far (p := ⟨gb208, _, none⟩) NB207_208.out _).trans (((cell_far (p := ⟨gb208, _, none⟩) NB207_208.out _).trans (hHeld.2.1)))))), ((cell_far (p := ⟨gb208, _, none⟩) NB207_208.out _).trans (((cell_far (p := ⟨gb208, _, none⟩) NB207_208.out _).trans (((cell_far (p := ⟨gb208, _, none⟩) NB207_208.out _).trans (hHeld.2.2.1)))))), ((cell_far (p := ⟨gb208, _, none⟩) NB206_208.out _).trans (((cell_far (p := ⟨gb208, _, none⟩) NB206_208.out _).trans (((cell_far (p := ⟨gb208, _, none⟩) NB206_208.out _).trans (hHeld.2.2.2.1)))))), ((cell_far (p := ⟨gb208, _, none⟩) NB206_208.out _).trans (((cell_far (p := ⟨gb208, _, none⟩) NB206_208.out _).trans (((cell_far (p := ⟨gb208, _, none⟩) NB206_208.out _).trans (hHeld.2.2.2.2.1)))))), ((cell_far (p := ⟨gb208, _, none⟩) NB206_208.out _).trans (((cell_far (p := ⟨gb208, _, none⟩) NB206_208.out _).trans (((cell_far (p := ⟨gb208, _, none⟩) NB206_208.out _).trans (hHeld.2.2.2.2.2))))))⟩ (fun hHeld => ?_)
      clear hK K
      refine done_ (done_of HT_.out (by kernel_rfl)) ?_
      try go_wp2
      refine bodyPost_ret (results_cell_row rfl _ _ gb208 50 #[.bool a1_0, .int .u64 t214, .int .u64 t215] (0, 0) _ rfl (br_ BK208) Tryd.underlying50 rfl (by kernel_rfl)) rfl ?_
      exact ⟨ae, bf HB⟩

-- NOT PRINTED: function 37 (frac_added)

/-! ### frac_Add_1: function 38 -/
theorem frac_Add_1.calls (a0_0 : Bool) (a0_1 : Int) (a0_2 : Int) (r1 : Bool) (r2 : Int) (r3 : Int) (w : World) (h : frac_Add_1.f a0_0 a0_1 a0_2 = some (r1, r2, r3)) :
    Calls Tryd.prog 38 #[.agg #[.bool a0_0, .int .u64 a0_1, .int .u64 a0_2]] w fun e w' => e = .returned (.agg #[.bool r1, .int .u64 r2, .int .u64 r3]) ∧ Below w.heap.size w w' := by
  have hu50 := Tryd.underlying50
  have HB := Aside0.mk (Below.refl w.heap.size w)
  have H : (some (a0_0, a0_1, a0_2)) = some (r1, r2, r3) := h
  clear h
  simp only [Option.some.injEq, Prod.mk.injEq] at H
  obtain ⟨rfl, rfl, rfl⟩ := H
  go_enter Tryd.func38, Tryd.ntmps38
  go_wp2_with (first | ((with_reducible refine gd 1 rfl ?_); refine bx_ 1 50 #[.bool a0_0, .int .u64 a0_1, .int .u64 a0_2] rfl rfl ?_; intro gb216 hg w2 BK216 hb; have GE216 := bz HB hg; replace HB := bs HB hb; clear hb hg) | ((with_reducible refine gd 2 rfl ?_); refine bx_ 2 50 #[.bool false, .int .u64 0, .int .u64 0] rfl rfl ?_; intro gb217 hg w3 BK217 hb; have GE217 := bz HB hg; have ⟨NB216_217, NB217_216⟩ := nb BK216 hg; replace BK216 := bb BK216 hb; replace HB := bs HB hb; clear hb hg; have hnb4 := nn NB216_217; have hcz5 := k3 BK216; have hcz6 := k3 BK217))
  refine bodyPost_ret (results_cell_row rfl _ _ gb217 50 #[.bool a0_0, .int .u64 a0_1, .int .u64 a0_2] (0, 0) _ rfl (br_ BK217) Tryd.underlying50 rfl (by kernel_rfl)) rfl ?_
  exact ⟨ae, bf HB⟩

end Go.Proofs.YtjgnaccamakpdaaDoor.X
