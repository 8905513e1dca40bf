/- Walks: each '.calls' says that the Go function comes to what its Lean function tells. Conditions: as each theorem's head says. -/
import Derived.Test.YtfhokgkpcphmlaaGreatDoorXD
import Derived.Test.YtfhokgkpcphmlaaGreatDoorX0
import Derived.Test.YtfhokgkpcphmlaaGreatDoorX2
namespace Go.Proofs.YtfhokgkpcphmlaaGreatDoor.X
open Go.RowKit Go.Proofs.YtfhokgkpcphmlaaGreatDoorW.PrintWords Go.Proofs.YtfhokgkpcphmlaaGreatDoorW.PrintLast Go.Proofs.YtfhokgkpcphmlaaGreatDoorW.PrintMore
attribute [local go_sem] max2_int min2_int max_two min_two max_three min_three max_four min_four   -- for this text's walks alone
set_option linter.unusedVariables false
set_option maxHeartbeats 8000000
set_option maxRecDepth 100000
set_option linter.unusedSimpArgs false

attribute [local go_sem high] eqA88

/-! ### demand_chain_then: function 15 -/
theorem demand_then_err (D : Value) (f0 f1 x : Int) (w : World) (hx : x ≠ 0) :
    Calls Tryz.prog 15 #[.agg #[.int .i64 f0, .int .i64 f1, .int .i64 x], D] w fun e w' => e = .returned (.agg #[.int .i64 f0, .int .i64 f1, .int .i64 x]) ∧ Below w.heap.size w w' := by
  have hu1 := Tryz.underlying65
  have hu2 := Tryz.underlying23
  have c4b0 : (x == 0) = false := beq_eq_false_iff_ne.mpr hx
  have c4b1 : (x != 0) = true := bne_iff_ne.mpr hx
  clear hx
  have HB := Aside0.mk (Below.refl w.heap.size w)
  go_enter Tryz.func15, Tryz.ntmps15
  go_wp2_with (first | ((with_reducible refine gd 2 rfl ?_); refine bx_ 2 65 #[.int .i64 f0, .int .i64 f1, .int .i64 x] rfl rfl ?_; intro g2 hg w1 BK2 hb; have GE2 := bz HB hg; replace HB := bs HB hb; clear hb hg) | ((with_reducible refine gd 4 rfl ?_); refine bx_ 4 65 #[.int .i64 0, .int .i64 0, .int .i64 0] rfl rfl ?_; intro g4 hg w2 BK4 hb; have GE4 := bz HB hg; have ⟨NB2_4, NB4_2⟩ := nb BK2 hg; replace BK2 := bb BK2 hb; replace HB := bs HB hb; clear hb hg; have hz2 := X.k3 BK2; have hz4 := X.k3 BK4; have hn := nn NB2_4))
  refine bodyPost_ret (results_cell_row rfl _ _ g4 65 #[.int .i64 f0, .int .i64 f1, .int .i64 x] (0, 0) _ rfl (br_ BK4) Tryz.underlying65 rfl (by kernel_rfl)) rfl ?_
  exact ⟨rfl, bf HB⟩
theorem demand_then_ok (K : Nat) (fn : Func) (cap : Array Value) (hf : Tryz.prog.funcs[K]? = some fn) (hname : (fn.name == "runtime.NumGoroutine") = false) (hbd : fn.body.isSome = true) (f0 f1 x0 x1 x2 : Int) (w : World)
    (hdo : ∀ w1, Below w.heap.size w w1 → Calls Tryz.prog K (#[.agg #[.int .i64 f0, .int .i64 f1]] ++ cap) w1 fun e w' => e = .returned (.tuple #[.agg #[.int .i64 x0, .int .i64 x1], .int .i64 x2]) ∧ Below w1.heap.size w1 w') :
    Calls Tryz.prog 15 #[.agg #[.int .i64 f0, .int .i64 f1, .int .i64 0], .func (.func K) #[] cap] w fun e w' => e = .returned (.agg #[.int .i64 x0, .int .i64 x1, .int .i64 x2]) ∧ Below w.heap.size w w' := by
  have hu1 := Tryz.underlying65
  have hu2 := Tryz.underlying23
  have HD := Aside0.mk hdo
  have HF := Aside0.mk hf
  have HN := Aside0.mk hname
  have HY := Aside0.mk hbd
  clear hdo hf hname hbd
  have HB := Aside0.mk (Below.refl w.heap.size w)
  go_enter Tryz.func15, Tryz.ntmps15
  go_wp2_with (first | ((with_reducible refine gd 2 rfl ?_); refine bx_ 2 65 #[.int .i64 f0, .int .i64 f1, .int .i64 0] rfl rfl ?_; intro g2 hg w1 BK2 hb; have GE2 := bz HB hg; replace HB := bs HB hb; clear hb hg) | ((with_reducible refine gd 4 rfl ?_); refine bx_ 4 65 #[.int .i64 0, .int .i64 0, .int .i64 0] rfl rfl ?_; intro g4 hg w2 BK4 hb; have GE4 := bz HB hg; have ⟨NB2_4, NB4_2⟩ := nb BK2 hg; replace BK2 := bb BK2 hb; replace HB := bs HB hb; clear hb hg; have hz2 := X.k3 BK2; have hz4 := X.k3 BK4; have hn := nn NB2_4) | ((with_reducible refine gate_tmp rfl ?_); refine goesC_ (some 15) rfl rfl HF.out HN.out HY.out #[.agg #[.int .i64 f0, .int .i64 f1]] cap rfl ag rfl ?_; refine (HD.out _ (bf HB)).mono ?_; rintro e w3 ⟨rfl, hb⟩; refine ⟨_, rfl, ?_⟩; replace BK2 := bb BK2 hb; replace BK4 := bb BK4 hb; replace HB := bs HB hb; clear hb hz2 hz4) | ((with_reducible refine gd 5 rfl ?_); refine bx_ 5 23 #[.int .i64 0, .int .i64 0] rfl rfl ?_; intro g5 hg w4 BK5 hb; have GE5 := bz HB hg; have ⟨NB2_5, NB5_2⟩ := nb BK2 hg; have ⟨NB4_5, NB5_4⟩ := nb BK4 hg; replace BK4 := bb BK4 hb; replace HB := bs HB hb; clear hb hg; have hz4 := X.k3 BK4; have hz5 := X.k2 BK5; have hn5 := nn NB4_5))
  refine bodyPost_ret (results_cell_row rfl _ _ g4 65 #[.int .i64 x0, .int .i64 x1, .int .i64 x2] (0, 0) _ rfl (br_ BK4) Tryz.underlying65 rfl (by kernel_rfl)) rfl ?_
  exact ⟨rfl, bf HB⟩

/-! ### frac_wide_zero: function 86 -/
theorem frac_wide_zero.calls (a0_0 : Int) (a0_1 : Int) (r : Bool) (w : World) (h : frac_wide_zero.f a0_0 a0_1 = some r) :
  Calls Tryz.prog 86 #[.agg #[.int .u64 a0_0, .int .u64 a0_1]] w fun e w' => e = .returned (.bool r) ∧ Below w.heap.size w w' := by
 have hu88 := Tryz.underlying88
 have HB := Aside0.mk (Below.refl w.heap.size w)
 have H : (some ((Go.bits .or .u64 a0_0 a0_1) == 0)) = some r := h
 clear h
 obtain rfl := Option.some.inj H
 go_enter Tryz.func86, Tryz.ntmps86
 go_wp2_with (first | ((with_reducible refine gd 1 rfl ?_); refine bx_ 1 88 #[.int .u64 a0_0, .int .u64 a0_1] rfl rfl ?_; intro gb149 hg w2 BK149 hb; have GE149 := bz HB hg; replace HB := bs HB hb; clear hb hg; have hcz3 := X.k2 BK149))
 go_ret
 exact ⟨ae, bf HB⟩


/-! ### bits_TrailingZeros64: function 96 -/
theorem tz64_key (x a : Nat) (hx : x < 18446744073709551616) (hx0 : x ≠ 0) (hlow : x &&& (18446744073709551616 - x) = a) :
    IntKind.u64.wrap (Go.bits BinOp.and IntKind.u64 (x : Int) (IntKind.u64.wrap (-(x : Int))) * 285870213051353865) / 288230376151711744 = ((a * 285870213051353865 % 18446744073709551616 / 288230376151711744 : Nat) : Int) := by
  have e1 : IntKind.u64.wrap (-(x : Int)) = ((18446744073709551616 - x : Nat) : Int) := by rw [IntKind.wrap_u64]; omega
  rw [e1, bits_and_u64_nat x _ hx (by omega), hlow, IntKind.wrap_u64]
  omega
set_option maxHeartbeats 1000000 in
theorem tz64_core (x k idx : Nat) (w : World) (hx0 : ((x : Int) == 0) = false)
    (key : IntKind.u64.wrap (Go.bits BinOp.and IntKind.u64 (x : Int) (IntKind.u64.wrap (-(x : Int))) * 285870213051353865) / 288230376151711744 = (idx : Int))
    (hi : idx < 64) (hk : k < 64) (hcell : w.cell? ⟨3, idx, none⟩ = some (.int .u8 k)) :
    Calls Tryz.prog 96 #[.int .u64 x] w fun e w' => e = .returned (.int .i64 k) ∧ w' = w := by
  go_enter Tryz.func96, Tryz.ntmps96
  go_wp2_with (simp only [key])
  go_ret
  exact ⟨rfl, rfl⟩
theorem tz64_zero (w : World) : Calls Tryz.prog 96 #[.int .u64 0] w fun e w' => e = .returned (.int .i64 64) ∧ w' = w := by
  go_enter Tryz.func96, Tryz.ntmps96
  go_wp2
  go_ret
  exact ⟨rfl, rfl⟩
theorem bits_TrailingZeros64.calls (a0 r : Int) (w : World) (h : bits_TrailingZeros64.f a0 = some r) (hT : TabOK w) :
  Calls Tryz.prog 96 #[.int .u64 a0] w fun e w' => e = .returned (.int .i64 r) ∧ Drawn0 w w' := by
 unfold bits_TrailingZeros64.f at h
 by_cases c : 0 ≤ a0 ∧ a0 < 18446744073709551616
 ·rw [if_pos c] at h
  obtain rfl := Option.some.inj h
  obtain ⟨x, rfl⟩ := Int.eq_ofNat_of_zero_le c.1
  have hx : x < 18446744073709551616 := by omega
  by_cases hx0 : x = 0
  ·subst hx0
   exact (tz64_zero w).mono fun e w' ⟨he, hw⟩ => ⟨he, by rw [hw]; exact Drawn0.refl _⟩
  ·obtain ⟨hlow, hk⟩ := Lib.lowest_bit 64 x hx0 hx
   obtain ⟨hi, htab⟩ := Lib.deBruijn64_at _ hk
   have hcell := hT.tz _ hi
   rw [htab] at hcell
   exact (tz64_core x _ _ w (by simp; omega) (tz64_key x _ hx hx0 hlow) hi hk hcell).mono fun e w' ⟨he, hw⟩ => ⟨he, by rw [hw]; exact Drawn0.refl _⟩
 ·rw [if_neg c] at h
  cases h

/-! ### frac_wide_twos: function 87 -/
theorem frac_wide_twos.calls (a0_0 : Int) (a0_1 : Int) (r : Int) (w : World) (h : frac_wide_twos.f a0_0 a0_1 = some r) (hT : TabOK w) :
  Calls Tryz.prog 87 #[.agg #[.int .u64 a0_0, .int .u64 a0_1]] w fun e w' => e = .returned (.int .i64 r) ∧ Below w.heap.size w w' := by
 have GT := Aside0.mk hT
 clear hT
 have hu88 := Tryz.underlying88
 have HB := Aside0.mk (Below.refl w.heap.size w)
 have H : (if a0_1 = 0 then ((bits_TrailingZeros64.f a0_0).bind fun t151 => (some (wrap64 (64 + t151)))) else ((bits_TrailingZeros64.f a0_1).bind fun t152 => (some t152))) = some r := h
 clear h
 by_cases c2 : a0_1 = 0
 ·rw [if_pos c2] at H
  have c2b0 : (a0_1 == 0) = true := beq_iff_eq.mpr c2
  have c2b1 : (a0_1 != 0) = false := bne_eq_false_iff_eq.mpr c2
  clear c2
  replace H := bi_ H; obtain ⟨t151, A3, H⟩ := H
  (try dsimp only at H)
  obtain rfl := Option.some.inj H
  go_enter Tryz.func87, Tryz.ntmps87
  go_wp2_with (first | ((with_reducible refine gd 1 rfl ?_); refine bx_ 1 88 #[.int .u64 a0_0, .int .u64 a0_1] rfl rfl ?_; intro gb150 hg w4 BK150 hb; have GE150 := bz HB hg; replace HB := bs HB hb; clear hb hg; have hcz5 := X.k2 BK150) | ((with_reducible refine gc 96 rfl ?_); refine gm_ (some 8) rfl rfl Tryz.func96 (bits_TrailingZeros64.calls _ _ _ A3.out (tt GT)) ag ?_; rintro w' ⟨nd, rfl⟩))
  go_ret
  exact ⟨ae, bf HB⟩
 ·rw [if_neg c2] at H
  have c2b0 : (a0_1 == 0) = false := beq_eq_false_iff_ne.mpr c2
  have c2b1 : (a0_1 != 0) = true := bne_iff_ne.mpr c2
  replace H := bi_ H; obtain ⟨t152, A6, H⟩ := H
  (try dsimp only at H)
  obtain rfl := Option.some.inj H
  go_enter Tryz.func87, Tryz.ntmps87
  go_wp2_with (first | ((with_reducible refine gd 1 rfl ?_); refine bx_ 1 88 #[.int .u64 a0_0, .int .u64 a0_1] rfl rfl ?_; intro gb150 hg w7 BK150 hb; have GE150 := bz HB hg; replace HB := bs HB hb; clear hb hg; have hcz8 := X.k2 BK150) | ((with_reducible refine gc 96 rfl ?_); refine gm_ (some 12) rfl rfl Tryz.func96 (bits_TrailingZeros64.calls _ _ _ A6.out (tt GT)) ag ?_; rintro w' ⟨nd, rfl⟩))
  go_ret
  exact ⟨ae, bf HB⟩

/-! ### frac_wide_down: function 88 -/
def frac_wide_down.T3 : Bool × List (List Nat × List Nat) := (true, [([], []), ([0], [0]), ([], []), ([1, 2], [1, 2]), ([], []), ([4], [4]), ([], []), ([5, 6], [5, 6]), ([], []), ([8], [8]), ([], []), ([10], [10]), ([9, 11], [9, 11]), ([7, 12], [7, 12]), ([3, 13], [3, 13]), ([14, 0, 1, 2, 3, 4, 5, 6, 7, 8, 9, 10, 11, 12, 13, 14], [14])])
def frac_wide_down.B3 : List Nat := [0, 1, 0, 7, 0, 16, 0, 112, 0, 256, 0, 1024, 3840, 8176, 16383, 32767]
theorem frac_wide_down.tab3 : rtab .any (opsOf Tryz.f88 3) = frac_wide_down.T3 := by kernel_rfl
theorem frac_wide_down.bits3 : waitsOk frac_wide_down.T3.2 frac_wide_down.B3 = true := by kernel_rfl
theorem frac_wide_down.calls (a0_0 : Int) (a0_1 : Int) (a1 : Int) (r1 : Int) (r2 : Int) (w : World) (h : frac_wide_down.f a0_0 a0_1 a1 = some (r1, r2)) :
  Calls Tryz.prog 88 #[.agg #[.int .u64 a0_0, .int .u64 a0_1], .int .i64 a1] w fun e w' => e = .returned (.agg #[.int .u64 r1, .int .u64 r2]) ∧ Below w.heap.size w w' := by
 have hu88 := Tryz.underlying88
 have HB := Aside0.mk (Below.refl w.heap.size w)
 have H : (if a1 ≥ 64 then (if 0 ≤ (wrap64 (a1 - 64)) then (some (0, shr .u64 a0_0 (wrap64 (a1 - 64)))) else (none)) else (if 0 ≤ a1 then (if 0 ≤ (wrap64 (64 - a1)) then (some (shr .u64 a0_0 a1, Go.bits .or .u64 (shr .u64 a0_1 a1) (shl .u64 a0_0 (wrap64 (64 - a1))))) else (none)) else (none))) = some (r1, r2) := h
 clear h
 by_cases c3 : a1 ≥ 64
 ·rw [if_pos c3] at H
  have c3b0 : decide (64 ≤ a1) = true := decide_eq_true c3
  clear c3
  obtain ⟨ji4, hji4⟩ : ∃ j_ : Int, (wrap64 (a1 - 64)) = j_ := ⟨_, rfl⟩
  replace H : (if 0 ≤ (ji4) then (some (0, shr .u64 a0_0 (ji4))) else (none)) = some (r1, r2) := by first | (rw [hji4] at H; exact H) | (simp only [hji4] at H ⊢; exact H)
  have hji4w : (IntKind.i64.wrap (a1 - 64)) = ji4 := (i64_w _).trans hji4
  by_cases c5 : 0 ≤ (ji4)
  ·rw [if_pos c5] at H
   have c5b0 := eq_true c5
   have c5b1 : decide (0 ≤ (ji4)) = true := decide_eq_true c5
   clear c5
   obtain ⟨ji6, hji6⟩ : ∃ j_ : Int, (shr .u64 a0_0 (ji4)) = j_ := ⟨_, rfl⟩
   replace H : (some (0, ji6)) = some (r1, r2) := by first | (rw [hji6] at H; exact H) | (simp only [hji6] at H ⊢; exact H)
   have hji6_ : (a0_0 / 2 ^ min (ji4).toNat 64) = ji6 := hji6
   have hji6z : (ji4) ≤ 64 → (a0_0 / 2 ^ (ji4).toNat) = ji6 := shr_small hji6
   simp only [Option.some.injEq, Prod.mk.injEq] at H
   obtain ⟨rfl, rfl⟩ := H
   go_enter Tryz.func88, Tryz.ntmps88
   go_wp2_with (first | ((with_reducible refine gd 2 rfl ?_); refine bx_ 2 88 #[.int .u64 a0_0, .int .u64 a0_1] rfl rfl ?_; intro gb153 hg w7 BK153 hb; have GE153 := bz HB hg; replace HB := bs HB hb; clear hb hg) | ((with_reducible refine gd 4 rfl ?_); refine bx_ 4 88 #[.int .u64 0, .int .u64 0] rfl rfl ?_; intro gb154 hg w8 BK154 hb; have GE154 := bz HB hg; have ⟨NB153_154, NB154_153⟩ := nb BK153 hg; replace BK153 := bb BK153 hb; replace HB := bs HB hb; clear hb hg; have hnb9 := nn NB153_154; have hcz10 := X.k2 BK153; have hcz11 := X.k2 BK154))
   refine bodyPost_ret (results_cell_row rfl _ _ gb154 88 #[.int .u64 0, .int .u64 ji6] (0, 0) _ rfl (br_ BK154) Tryz.underlying88 rfl (by kernel_rfl)) rfl ?_
   exact ⟨by first | rfl | (simp [errW_none, errW_some] <;> rfl) | (simp only [← hji4, ← hji6]; first | rfl | (simp [errW_none, errW_some] <;> rfl)) | (simp [*, errW_none, errW_some] <;> rfl), bf HB⟩
  ·rw [if_neg c5] at H
   exact absurd H (by simp)
 ·rw [if_neg c3] at H
  have c3b0 : decide (64 ≤ a1) = false := decide_eq_false c3
  clear c3
  by_cases c12 : 0 ≤ a1
  ·rw [if_pos c12] at H
   have c12b0 := eq_true c12
   have c12b1 : decide (0 ≤ a1) = true := decide_eq_true c12
   clear c12
   obtain ⟨ji13, hji13⟩ : ∃ j_ : Int, (shr .u64 a0_0 a1) = j_ := ⟨_, rfl⟩
   replace H : (if 0 ≤ (wrap64 (64 - a1)) then (some (ji13, Go.bits .or .u64 (shr .u64 a0_1 a1) (shl .u64 a0_0 (wrap64 (64 - a1))))) else (none)) = some (r1, r2) := by first | (rw [hji13] at H; exact H) | (simp only [hji13] at H ⊢; exact H)
   have hji13_ : (a0_0 / 2 ^ min a1.toNat 64) = ji13 := hji13
   have hji13z : a1 ≤ 64 → (a0_0 / 2 ^ a1.toNat) = ji13 := shr_small hji13
   have c14b0 := eq_true (od_ : 0 ≤ a1)
   obtain ⟨ji15, hji15⟩ : ∃ j_ : Int, (shr .u64 a0_1 a1) = j_ := ⟨_, rfl⟩
   replace H : (if 0 ≤ (wrap64 (64 - a1)) then (some (ji13, Go.bits .or .u64 (ji15) (shl .u64 a0_0 (wrap64 (64 - a1))))) else (none)) = some (r1, r2) := by first | (rw [hji15] at H; exact H) | (simp only [hji15] at H ⊢; exact H)
   have hji15_ : (a0_1 / 2 ^ min a1.toNat 64) = ji15 := hji15
   have hji15z : a1 ≤ 64 → (a0_1 / 2 ^ a1.toNat) = ji15 := shr_small hji15
   obtain ⟨ji16, hji16⟩ : ∃ j_ : Int, (wrap64 (64 - a1)) = j_ := ⟨_, rfl⟩
   replace H : (if 0 ≤ (ji16) then (some (ji13, Go.bits .or .u64 (ji15) (shl .u64 a0_0 (ji16)))) else (none)) = some (r1, r2) := by first | (rw [hji16] at H; exact H) | (simp only [hji16] at H ⊢; exact H)
   have hji16w : (IntKind.i64.wrap (64 - a1)) = ji16 := (i64_w _).trans hji16
   by_cases c17 : 0 ≤ (ji16)
   ·rw [if_pos c17] at H
    have c17b0 := eq_true c17
    have c17b1 : decide (0 ≤ (ji16)) = true := decide_eq_true c17
    clear c17
    obtain ⟨ji18, hji18⟩ : ∃ j_ : Int, (shl .u64 a0_0 (ji16)) = j_ := ⟨_, rfl⟩
    replace H : (some (ji13, Go.bits .or .u64 (ji15) (ji18))) = some (r1, r2) := by first | (rw [hji18] at H; exact H) | (simp only [hji18] at H ⊢; exact H)
    have hji18_ : (IntKind.u64.wrap (a0_0 * 2 ^ min (ji16).toNat 64)) = ji18 := hji18
    have hji18z : (ji16) ≤ 64 → (IntKind.u64.wrap (a0_0 * 2 ^ (ji16).toNat)) = ji18 := shl_small hji18
    simp only [Option.some.injEq, Prod.mk.injEq] at H
    obtain ⟨rfl, rfl⟩ := H
    go_enter Tryz.func88, Tryz.ntmps88
    try go_wp2_with (first | ((with_reducible refine gd 2 rfl ?_); refine bx_ 2 88 #[.int .u64 a0_0, .int .u64 a0_1] rfl rfl ?_; intro gb153 hg w19 BK153 hb; have GE153 := bz HB hg; replace HB := bs HB hb; clear hb hg) | ((with_reducible refine gd 4 rfl ?_); refine bx_ 4 88 #[.int .u64 0, .int .u64 0] rfl rfl ?_; intro gb154 hg w20 BK154 hb; have GE154 := bz HB hg; have ⟨NB153_154, NB154_153⟩ := nb BK153 hg; replace BK153 := bb BK153 hb; replace HB := bs HB hb; clear hb hg))
    replace BK153 := Aside0.mk (blk_drew BK153.out)
    replace BK154 := Aside0.mk (blk_drew BK154.out)
    replace HB := Aside0.mk (below_drew1 HB.out)
    refine start_ (n := 16) (S := fun w' => c_ w' gb153 0 (.int .u64 a0_0) ∧ c_ w' gb153 1 (.int .u64 a0_1)) (ds := []) (m_ 16 0) (by kernel_rfl) rfl rfl ⟨ct BK153 0, ct BK153 1⟩ (fun hHeld => ?_); refine with_tabW frac_wide_down.tab3 frac_wide_down.bits3 (fun HT_ HW_ => ?_)
    generalize w20.drew = w21 at BK153 BK154 HB hHeld ⊢
    refine pu_ 0 (some 13) (m_ 16 1) rfl rfl (ao HT_) ?_
    refine pu_ 2 (some 15) (m_ 16 5) rfl rfl (ao HT_) ?_
    refine pu_ 4 (some 17) (m_ 16 21) rfl rfl (ao HT_) ?_
    refine pu_ 6 (some 19) (m_ 16 85) rfl rfl (ao HT_) ?_
    refine pu_ 8 (some 21) (m_ 16 341) rfl rfl (ao HT_) ?_
    refine pu_ 10 (some 23) (m_ 16 1365) rfl rfl (ao HT_) ?_
    refine pu_ 11 (some 24) (m_ 16 3413) rfl rfl (ao HT_) ?_
    refine tk_ 1 (some 14) (m_ 16 3415) rfl rfl (tw HT_ HW_) hHeld ?_
    refine pu_ 3 (some 16) (m_ 16 3423) rfl rfl (ao HT_) ?_
    refine tk_ 5 (some 18) (m_ 16 3455) rfl rfl (tw HT_ HW_) hHeld ?_
    refine pu_ 7 (some 20) (m_ 16 3583) rfl rfl (ao HT_) ?_
    refine tk_ 9 (some 22) (m_ 16 4095) rfl rfl (tw HT_ HW_) hHeld ?_
    refine pu_ 12 (some 25) (m_ 16 8191) rfl rfl (ao HT_) ?_
    refine pu_ 13 (some 26) (m_ 16 16383) rfl rfl (ao HT_) ?_
    refine pu_ 14 (some 27) (m_ 16 32767) rfl rfl (ao HT_) ?_
    refine o1_ 15 (none) (m_ 16 65535) rfl rfl (oo HT_) (fun K hK => ?_)
    have hs22 : c_ w21 gb154 0 (.int .u64 0) := ct BK154 0
    have hfs22 := blk_frozen BK154.out 0
    have hns22_0 := nn NB153_154
    have hs23 : c_ w21 gb154 1 (.int .u64 0) := ct BK154 1
    have hfs23 := blk_frozen BK154.out 1
    have hns23_0 := nn NB153_154
    refine skip_ (w1 := ?_) (by rfl) rfl ?_ ?_
    rotate_left
    ·go_simp
     rfl
    refine hK.out _ _ (by obtain ⟨d0, d1⟩ := hHeld; exact ⟨fa_ NB153_154 (fa_ NB153_154 d0), fa_ NB153_154 (fa_ NB153_154 d1)⟩) (fun hHeld => ?_)
    clear hK K
    refine done_ (done_of HT_.out (by kernel_rfl)) ?_
    try go_wp2
    refine bodyPost_ret (results_cell_row rfl _ _ gb154 88 #[.int .u64 ji13, .int .u64 (Go.bits .or .u64 (ji15) (ji18))] (0, 0) _ rfl (br_ BK154) Tryz.underlying88 rfl (by kernel_rfl)) rfl ?_
    exact ⟨by first | rfl | (simp [errW_none, errW_some] <;> rfl) | (simp only [← hji13, ← hji15, ← hji16, ← hji18]; first | rfl | (simp [errW_none, errW_some] <;> rfl)) | (simp [*, errW_none, errW_some] <;> rfl), bf HB⟩
   ·rw [if_neg c17] at H
    exact absurd H (by simp)
  ·rw [if_neg c12] at H
   exact absurd H (by simp)

/-! ### frac_wide_cmp: function 89 -/
theorem frac_wide_cmp.calls (a0_0 : Int) (a0_1 : Int) (a1_0 : Int) (a1_1 : Int) (r : Int) (w : World) (h : frac_wide_cmp.f a0_0 a0_1 a1_0 a1_1 = some r) :
  Calls Tryz.prog 89 #[.agg #[.int .u64 a0_0, .int .u64 a0_1], .agg #[.int .u64 a1_0, .int .u64 a1_1]] w fun e w' => e = .returned (.int .i64 r) ∧ Below w.heap.size w w' := by
 have hu88 := Tryz.underlying88
 have HB := Aside0.mk (Below.refl w.heap.size w)
 have H : (if (a0_0 == a1_0 && (a0_1 == a1_1)) = true then (some 0) else (if a0_0 < a1_0 then (some (-1)) else (if a0_0 = a1_0 then (if a0_1 < a1_1 then (some (-1)) else (some 1)) else (some 1)))) = some r := h
 clear h
 by_cases c3 : (a0_0 == a1_0 && (a0_1 == a1_1)) = true
 ·rw [if_pos c3] at H
  have c3b0 : (a0_0 == a1_0 && (a0_1 == a1_1)) = true := c3
  (try (have c3b1 : decide (a0_0 = a1_0 && (a0_1 == a1_1)) = true := by simpa using c3))
  (try (have c3b2 : (a0_0 == a1_0 && (a0_1 == a1_1)) = true := by simpa using c3))
  clear c3
  obtain rfl := Option.some.inj H
  go_enter Tryz.func89, Tryz.ntmps89
  go_wp2_with (first | ((with_reducible refine gd 2 rfl ?_); refine bx_ 2 88 #[.int .u64 a0_0, .int .u64 a0_1] rfl rfl ?_; intro gb155 hg w4 BK155 hb; have GE155 := bz HB hg; replace HB := bs HB hb; clear hb hg) | ((with_reducible refine gd 3 rfl ?_); refine bx_ 3 88 #[.int .u64 a1_0, .int .u64 a1_1] rfl rfl ?_; intro gb156 hg w5 BK156 hb; have GE156 := bz HB hg; have ⟨NB155_156, NB156_155⟩ := nb BK155 hg; replace BK155 := bb BK155 hb; replace HB := bs HB hb; clear hb hg; have hnb6 := nn NB155_156; have hcz7 := X.k2 BK155; have hcz8 := X.k2 BK156))
  all_goals first | (go_ret; refine ⟨?ea_, ?eb_⟩; (case ea_ => (first | rfl | (simp [errW_none, errW_some] <;> rfl) | (simp [*, errW_none, errW_some] <;> rfl))); (case eb_ => (repeat (first | (with_reducible first | exact HB.out | apply below_alloc | apply pw_below_drewN | apply below_drew1 | refine below_set ?_ GE155.out | refine below_set ?_ GE156.out) | exact HB.out)))) | (exfalso; simp_all; done)
 ·rw [if_neg c3] at H
  have c3b0 : (a0_0 == a1_0 && (a0_1 == a1_1)) = false := by simpa using c3
  (try (have c3b1 : decide (a0_0 = a1_0 && (a0_1 == a1_1)) = false := by simpa using c3))
  (try (have c3b2 : (a0_0 == a1_0 && (a0_1 == a1_1)) = false := by simpa using c3))
  (try (have c3b3 : ¬ (a0_0 = a1_0 && (a0_1 == a1_1)) := by simpa using c3))
  clear c3
  by_cases c9 : a0_0 < a1_0
  ·rw [if_pos c9] at H
   have c9b0 : decide (a0_0 < a1_0) = true := decide_eq_true c9
   clear c9
   obtain rfl := Option.some.inj H
   go_enter Tryz.func89, Tryz.ntmps89
   go_wp2_with (first | ((with_reducible refine gd 2 rfl ?_); refine bx_ 2 88 #[.int .u64 a0_0, .int .u64 a0_1] rfl rfl ?_; intro gb155 hg w10 BK155 hb; have GE155 := bz HB hg; replace HB := bs HB hb; clear hb hg) | ((with_reducible refine gd 3 rfl ?_); refine bx_ 3 88 #[.int .u64 a1_0, .int .u64 a1_1] rfl rfl ?_; intro gb156 hg w11 BK156 hb; have GE156 := bz HB hg; have ⟨NB155_156, NB156_155⟩ := nb BK155 hg; replace BK155 := bb BK155 hb; replace HB := bs HB hb; clear hb hg; have hnb12 := nn NB155_156; have hcz13 := X.k2 BK155; have hcz14 := X.k2 BK156))
   all_goals first | (go_ret; refine ⟨?ea_, ?eb_⟩; (case ea_ => (first | rfl | (simp [errW_none, errW_some] <;> rfl) | (simp [*, errW_none, errW_some] <;> rfl))); (case eb_ => (repeat (first | (with_reducible first | exact HB.out | apply below_alloc | apply pw_below_drewN | apply below_drew1 | refine below_set ?_ GE155.out | refine below_set ?_ GE156.out) | exact HB.out)))) | (exfalso; simp_all; done)
  ·rw [if_neg c9] at H
   have c9b0 : decide (a0_0 < a1_0) = false := decide_eq_false c9
   clear c9
   by_cases c15 : a0_0 = a1_0
   ·rw [if_pos c15] at H
    have c15b0 : (a0_0 == a1_0) = true := beq_iff_eq.mpr c15
    have c15b1 : (a0_0 != a1_0) = false := bne_eq_false_iff_eq.mpr c15
    clear c15
    by_cases c16 : a0_1 < a1_1
    ·rw [if_pos c16] at H
     have c16b0 : decide (a0_1 < a1_1) = true := decide_eq_true c16
     clear c16
     obtain rfl := Option.some.inj H
     go_enter Tryz.func89, Tryz.ntmps89
     go_wp2_with (first | ((with_reducible refine gd 2 rfl ?_); refine bx_ 2 88 #[.int .u64 a0_0, .int .u64 a0_1] rfl rfl ?_; intro gb155 hg w17 BK155 hb; have GE155 := bz HB hg; replace HB := bs HB hb; clear hb hg) | ((with_reducible refine gd 3 rfl ?_); refine bx_ 3 88 #[.int .u64 a1_0, .int .u64 a1_1] rfl rfl ?_; intro gb156 hg w18 BK156 hb; have GE156 := bz HB hg; have ⟨NB155_156, NB156_155⟩ := nb BK155 hg; replace BK155 := bb BK155 hb; replace HB := bs HB hb; clear hb hg; have hnb19 := nn NB155_156; have hcz20 := X.k2 BK155; have hcz21 := X.k2 BK156))
     all_goals first | (go_ret; refine ⟨?ea_, ?eb_⟩; (case ea_ => (first | rfl | (simp [errW_none, errW_some] <;> rfl) | (simp [*, errW_none, errW_some] <;> rfl))); (case eb_ => (repeat (first | (with_reducible first | exact HB.out | apply below_alloc | apply pw_below_drewN | apply below_drew1 | refine below_set ?_ GE155.out | refine below_set ?_ GE156.out) | exact HB.out)))) | (exfalso; simp_all; done)
    ·rw [if_neg c16] at H
     have c16b0 : decide (a0_1 < a1_1) = false := decide_eq_false c16
     clear c16
     obtain rfl := Option.some.inj H
     go_enter Tryz.func89, Tryz.ntmps89
     go_wp2_with (first | ((with_reducible refine gd 2 rfl ?_); refine bx_ 2 88 #[.int .u64 a0_0, .int .u64 a0_1] rfl rfl ?_; intro gb155 hg w22 BK155 hb; have GE155 := bz HB hg; replace HB := bs HB hb; clear hb hg) | ((with_reducible refine gd 3 rfl ?_); refine bx_ 3 88 #[.int .u64 a1_0, .int .u64 a1_1] rfl rfl ?_; intro gb156 hg w23 BK156 hb; have GE156 := bz HB hg; have ⟨NB155_156, NB156_155⟩ := nb BK155 hg; replace BK155 := bb BK155 hb; replace HB := bs HB hb; clear hb hg; have hnb24 := nn NB155_156; have hcz25 := X.k2 BK155; have hcz26 := X.k2 BK156))
     all_goals first | (go_ret; refine ⟨?ea_, ?eb_⟩; (case ea_ => (first | rfl | (simp [errW_none, errW_some] <;> rfl) | (simp [*, errW_none, errW_some] <;> rfl))); (case eb_ => (repeat (first | (with_reducible first | exact HB.out | apply below_alloc | apply pw_below_drewN | apply below_drew1 | refine below_set ?_ GE155.out | refine below_set ?_ GE156.out) | exact HB.out)))) | (exfalso; simp_all; done)
   ·rw [if_neg c15] at H
    have c15b0 : (a0_0 == a1_0) = false := beq_eq_false_iff_ne.mpr c15
    have c15b1 : (a0_0 != a1_0) = true := bne_iff_ne.mpr c15
    obtain rfl := Option.some.inj H
    go_enter Tryz.func89, Tryz.ntmps89
    go_wp2_with (first | ((with_reducible refine gd 2 rfl ?_); refine bx_ 2 88 #[.int .u64 a0_0, .int .u64 a0_1] rfl rfl ?_; intro gb155 hg w27 BK155 hb; have GE155 := bz HB hg; replace HB := bs HB hb; clear hb hg) | ((with_reducible refine gd 3 rfl ?_); refine bx_ 3 88 #[.int .u64 a1_0, .int .u64 a1_1] rfl rfl ?_; intro gb156 hg w28 BK156 hb; have GE156 := bz HB hg; have ⟨NB155_156, NB156_155⟩ := nb BK155 hg; replace BK155 := bb BK155 hb; replace HB := bs HB hb; clear hb hg; have hnb29 := nn NB155_156; have hcz30 := X.k2 BK155; have hcz31 := X.k2 BK156))
    all_goals first | (go_ret; refine ⟨?ea_, ?eb_⟩; (case ea_ => (first | rfl | (simp [errW_none, errW_some] <;> rfl) | (simp [*, errW_none, errW_some] <;> rfl))); (case eb_ => (repeat (first | (with_reducible first | exact HB.out | apply below_alloc | apply pw_below_drewN | apply below_drew1 | refine below_set ?_ GE155.out | refine below_set ?_ GE156.out) | exact HB.out)))) | (exfalso; simp_all; done)


/-! ### bits_Sub64: function 54 -/
theorem run_sub64 (x y b : Nat) (hb : b ≤ 1) (w : World) :
    (sub64Entry #[.int .u64 x, .int .u64 y, .int .u64 b]).run Tryz.prog w =
      .ok (.tuple #[.int .u64 (((x + 18446744073709551616 - y - b) % 18446744073709551616 : Nat) : Int), .int .u64 ((if x < y + b then 1 else 0 : Nat) : Int)]) w := by
  have : b = 0 ∨ b = 1 := by omega
  rcases this with rfl | rfl <;> rfl
theorem bits_Sub64.calls (a0 a1 a2 r1 r2 : Int) (w : World) (h : bits_Sub64.f a0 a1 a2 = some (r1, r2)) :
  XCalls Tryz.prog 54 #[.int .u64 a0, .int .u64 a1, .int .u64 a2] w fun e w' => e = .returned (.tuple #[.int .u64 r1, .int .u64 r2]) ∧ w = w' := by
 unfold bits_Sub64.f at h
 by_cases c : 0 ≤ a0 ∧ 0 ≤ a1 ∧ a1 < 18446744073709551616 ∧ 0 ≤ a2 ∧ a2 ≤ 1
 ·rw [if_pos c] at h
  simp only [Option.some.injEq, Prod.mk.injEq] at h
  obtain ⟨rfl, rfl⟩ := h
  obtain ⟨h0, h1, h2, h3, h4⟩ := c
  refine ⟨_, ?_, rfl, rfl⟩
  obtain ⟨x, rfl⟩ := Int.eq_ofNat_of_zero_le h0
  obtain ⟨y, rfl⟩ := Int.eq_ofNat_of_zero_le h1
  obtain ⟨b, rfl⟩ := Int.eq_ofNat_of_zero_le h3
  have e1 : (((x + 18446744073709551616 - y - b) % 18446744073709551616 : Nat) : Int) = ((x : Int) - y - b) % 18446744073709551616 := by omega
  have e2 : ((if x < y + b then 1 else 0 : Nat) : Int) = if (x : Int) < y + b then 1 else 0 := by split <;> split <;> omega
  rw [← e1, ← e2]
  rw [run_callFunc_extern Tryz.func54 (by kernel_rfl) (by kernel_rfl) (by kernel_rfl) (e := sub64Entry) (by kernel_rfl), run_sub64 x y b (by omega)]
  rfl
 ·rw [if_neg c] at h
  cases h

/-! ### frac_wide_minus: function 90 -/
theorem frac_wide_minus.calls (a0_0 : Int) (a0_1 : Int) (a1_0 : Int) (a1_1 : Int) (r1 : Int) (r2 : Int) (w : World) (h : frac_wide_minus.f a0_0 a0_1 a1_0 a1_1 = some (r1, r2)) :
  Calls Tryz.prog 90 #[.agg #[.int .u64 a0_0, .int .u64 a0_1], .agg #[.int .u64 a1_0, .int .u64 a1_1]] w fun e w' => e = .returned (.agg #[.int .u64 r1, .int .u64 r2]) ∧ Below w.heap.size w w' := by
 have hu88 := Tryz.underlying88
 have HB := Aside0.mk (Below.refl w.heap.size w)
 have H : ((bits_Sub64.f a0_1 a1_1 0).bind fun bt160 => ((bits_Sub64.f a0_0 a1_0 bt160.2).bind fun bt162 => (some (bt162.1, bt160.1)))) = some (r1, r2) := h
 clear h
 replace H := bi_ H; obtain ⟨⟨t160, t161⟩, A3, H⟩ := H
 (try dsimp only at H)
 replace H := bi_ H; obtain ⟨⟨t162, t163⟩, A4, H⟩ := H
 (try dsimp only at H)
 simp only [Option.some.injEq, Prod.mk.injEq] at H
 obtain ⟨rfl, rfl⟩ := H
 go_enter Tryz.func90, Tryz.ntmps90
 go_wp2_with (first | ((with_reducible refine gd 2 rfl ?_); refine bx_ 2 88 #[.int .u64 a0_0, .int .u64 a0_1] rfl rfl ?_; intro gb157 hg w5 BK157 hb; have GE157 := bz HB hg; replace HB := bs HB hb; clear hb hg) | ((with_reducible refine gd 3 rfl ?_); refine bx_ 3 88 #[.int .u64 a1_0, .int .u64 a1_1] rfl rfl ?_; intro gb158 hg w6 BK158 hb; have GE158 := bz HB hg; have ⟨NB157_158, NB158_157⟩ := nb BK157 hg; replace BK157 := bb BK157 hb; replace HB := bs HB hb; clear hb hg) | ((with_reducible refine gd 4 rfl ?_); refine bx_ 4 88 #[.int .u64 0, .int .u64 0] rfl rfl ?_; intro gb159 hg w7 BK159 hb; have GE159 := bz HB hg; have ⟨NB157_159, NB159_157⟩ := nb BK157 hg; have ⟨NB158_159, NB159_158⟩ := nb BK158 hg; replace BK157 := bb BK157 hb; replace BK158 := bb BK158 hb; replace HB := bs HB hb; clear hb hg; have hnb8 := nn NB157_158; have hnb9 := nn NB157_159; have hcz10 := X.k2 BK157; have hnb11 := nn NB158_159; have hcz12 := X.k2 BK158) | ((with_reducible refine gate_callee (f := 54) rfl ?_); refine goesX_ (some 14) rfl rfl #[.int .u64 a0_1, .int .u64 a1_1, .int .u64 0] rfl ag ?_; (with_reducible refine (bits_Sub64.calls _ _ _ _ _ _ A3.out).mono ?_); rintro e w' ⟨rfl, rfl⟩; refine ⟨_, rfl, ?_⟩; (try (rw [drewN_self w7]; generalize hq_ : World.drewN w7 _ = w7; have n0_ : Aside0 (w7.heap[gb157]? = some (.cells #[.int .u64 a0_0, .int .u64 a0_1] 88 (0, 0))) := ⟨by rw [← hq_]; exact (bx BK157)⟩; have n1_ : Aside0 (w7.heap[gb158]? = some (.cells #[.int .u64 a1_0, .int .u64 a1_1] 88 (0, 0))) := ⟨by rw [← hq_]; exact (bx BK158)⟩; have n2_ : Aside0 (w7.heap[gb159]? = some (.cells #[.int .u64 0, .int .u64 0] 88 (0, 0))) := ⟨by rw [← hq_]; exact (bx BK159)⟩; have n3_ : Aside0 (Below w.heap.size w w7) := ⟨by rw [← hq_]; exact (bf HB)⟩; clear BK157 BK158 BK159 HB hq_; have BK157 := n0_; have BK158 := n1_; have BK159 := n2_; have HB := n3_; clear n0_ n1_ n2_ n3_))) | ((with_reducible refine gate_callee (f := 54) rfl ?_); refine goesX_ (some 23) rfl rfl #[.int .u64 a0_0, .int .u64 a1_0, .int .u64 t161] rfl ag ?_; (with_reducible refine (bits_Sub64.calls _ _ _ _ _ _ A4.out).mono ?_); rintro e w' ⟨rfl, rfl⟩; refine ⟨_, rfl, ?_⟩; (try (rw [drewN_self w7]; generalize hq_ : World.drewN w7 _ = w7; have n0_ : Aside0 (w7.heap[gb157]? = some (.cells #[.int .u64 a0_0, .int .u64 a0_1] 88 (0, 0))) := ⟨by rw [← hq_]; exact (bx BK157)⟩; have n1_ : Aside0 (w7.heap[gb158]? = some (.cells #[.int .u64 a1_0, .int .u64 a1_1] 88 (0, 0))) := ⟨by rw [← hq_]; exact (bx BK158)⟩; have n2_ : Aside0 (w7.heap[gb159]? = some (.cells #[.int .u64 0, .int .u64 0] 88 (0, 0))) := ⟨by rw [← hq_]; exact (bx BK159)⟩; have n3_ : Aside0 (Below w.heap.size w w7) := ⟨by rw [← hq_]; exact (bf HB)⟩; clear BK157 BK158 BK159 HB hq_; have BK157 := n0_; have BK158 := n1_; have BK159 := n2_; have HB := n3_; clear n0_ n1_ n2_ n3_)); have hcz13 := X.k2 BK159))
 refine bodyPost_ret (results_cell_row rfl _ _ gb159 88 #[.int .u64 t162, .int .u64 t160] (0, 0) _ rfl (br_ BK159) Tryz.underlying88 rfl (by kernel_rfl)) rfl ?_
 exact ⟨ae, bf HB⟩

/-! ### frac_wide_up: function 91 -/
def frac_wide_up.T3 : Bool × List (List Nat × List Nat) := (true, [([], []), ([0], [0]), ([], []), ([1, 2], [1, 2]), ([], []), ([4], [4]), ([], []), ([6], [6]), ([5, 7], [5, 7]), ([3, 8], [3, 8]), ([], []), ([10], [10]), ([], []), ([11, 12], [11, 12]), ([9, 13], [9, 13]), ([14, 0, 1, 2, 3, 4, 5, 6, 7, 8, 9, 10, 11, 12, 13, 14], [14])])
def frac_wide_up.B3 : List Nat := [0, 1, 0, 7, 0, 16, 0, 64, 240, 511, 0, 1024, 0, 7168, 16383, 32767]
theorem frac_wide_up.tab3 : rtab .any (opsOf Tryz.f91 3) = frac_wide_up.T3 := by kernel_rfl
theorem frac_wide_up.bits3 : waitsOk frac_wide_up.T3.2 frac_wide_up.B3 = true := by kernel_rfl
theorem frac_wide_up.calls (a0_0 : Int) (a0_1 : Int) (a1 : Int) (r1 : Int) (r2 : Int) (w : World) (h : frac_wide_up.f a0_0 a0_1 a1 = some (r1, r2)) :
  Calls Tryz.prog 91 #[.agg #[.int .u64 a0_0, .int .u64 a0_1], .int .i64 a1] w fun e w' => e = .returned (.agg #[.int .u64 r1, .int .u64 r2]) ∧ Below w.heap.size w w' := by
 have hu88 := Tryz.underlying88
 have HB := Aside0.mk (Below.refl w.heap.size w)
 have H : (if a1 ≥ 64 then (if 0 ≤ (wrap64 (a1 - 64)) then (some (shl .u64 a0_1 (wrap64 (a1 - 64)), 0)) else (none)) else (if 0 ≤ a1 then (if 0 ≤ (wrap64 (64 - a1)) then (some (Go.bits .or .u64 (shl .u64 a0_0 a1) (shr .u64 a0_1 (wrap64 (64 - a1))), shl .u64 a0_1 a1)) else (none)) else (none))) = some (r1, r2) := h
 clear h
 by_cases c3 : a1 ≥ 64
 ·rw [if_pos c3] at H
  have c3b0 : decide (64 ≤ a1) = true := decide_eq_true c3
  clear c3
  obtain ⟨ji4, hji4⟩ : ∃ j_ : Int, (wrap64 (a1 - 64)) = j_ := ⟨_, rfl⟩
  replace H : (if 0 ≤ (ji4) then (some (shl .u64 a0_1 (ji4), 0)) else (none)) = some (r1, r2) := by first | (rw [hji4] at H; exact H) | (simp only [hji4] at H ⊢; exact H)
  have hji4w : (IntKind.i64.wrap (a1 - 64)) = ji4 := (i64_w _).trans hji4
  by_cases c5 : 0 ≤ (ji4)
  ·rw [if_pos c5] at H
   have c5b0 := eq_true c5
   have c5b1 : decide (0 ≤ (ji4)) = true := decide_eq_true c5
   clear c5
   obtain ⟨ji6, hji6⟩ : ∃ j_ : Int, (shl .u64 a0_1 (ji4)) = j_ := ⟨_, rfl⟩
   replace H : (some (ji6, 0)) = some (r1, r2) := by first | (rw [hji6] at H; exact H) | (simp only [hji6] at H ⊢; exact H)
   have hji6_ : (IntKind.u64.wrap (a0_1 * 2 ^ min (ji4).toNat 64)) = ji6 := hji6
   have hji6z : (ji4) ≤ 64 → (IntKind.u64.wrap (a0_1 * 2 ^ (ji4).toNat)) = ji6 := shl_small hji6
   simp only [Option.some.injEq, Prod.mk.injEq] at H
   obtain ⟨rfl, rfl⟩ := H
   go_enter Tryz.func91, Tryz.ntmps91
   go_wp2_with (first | ((with_reducible refine gd 2 rfl ?_); refine bx_ 2 88 #[.int .u64 a0_0, .int .u64 a0_1] rfl rfl ?_; intro gb164 hg w7 BK164 hb; have GE164 := bz HB hg; replace HB := bs HB hb; clear hb hg) | ((with_reducible refine gd 4 rfl ?_); refine bx_ 4 88 #[.int .u64 0, .int .u64 0] rfl rfl ?_; intro gb165 hg w8 BK165 hb; have GE165 := bz HB hg; have ⟨NB164_165, NB165_164⟩ := nb BK164 hg; replace BK164 := bb BK164 hb; replace HB := bs HB hb; clear hb hg; have hnb9 := nn NB164_165; have hcz10 := X.k2 BK164; have hcz11 := X.k2 BK165))
   refine bodyPost_ret (results_cell_row rfl _ _ gb165 88 #[.int .u64 ji6, .int .u64 0] (0, 0) _ rfl (br_ BK165) Tryz.underlying88 rfl (by kernel_rfl)) rfl ?_
   exact ⟨by first | rfl | (simp [errW_none, errW_some] <;> rfl) | (simp only [← hji4, ← hji6]; first | rfl | (simp [errW_none, errW_some] <;> rfl)) | (simp [*, errW_none, errW_some] <;> rfl), bf HB⟩
  ·rw [if_neg c5] at H
   exact absurd H (by simp)
 ·rw [if_neg c3] at H
  have c3b0 : decide (64 ≤ a1) = false := decide_eq_false c3
  clear c3
  by_cases c12 : 0 ≤ a1
  ·rw [if_pos c12] at H
   have c12b0 := eq_true c12
   have c12b1 : decide (0 ≤ a1) = true := decide_eq_true c12
   clear c12
   obtain ⟨ji13, hji13⟩ : ∃ j_ : Int, (shl .u64 a0_0 a1) = j_ := ⟨_, rfl⟩
   replace H : (if 0 ≤ (wrap64 (64 - a1)) then (some (Go.bits .or .u64 (ji13) (shr .u64 a0_1 (wrap64 (64 - a1))), shl .u64 a0_1 a1)) else (none)) = some (r1, r2) := by first | (rw [hji13] at H; exact H) | (simp only [hji13] at H ⊢; exact H)
   have hji13_ : (IntKind.u64.wrap (a0_0 * 2 ^ min a1.toNat 64)) = ji13 := hji13
   have hji13z : a1 ≤ 64 → (IntKind.u64.wrap (a0_0 * 2 ^ a1.toNat)) = ji13 := shl_small hji13
   obtain ⟨ji14, hji14⟩ : ∃ j_ : Int, (wrap64 (64 - a1)) = j_ := ⟨_, rfl⟩
   replace H : (if 0 ≤ (ji14) then (some (Go.bits .or .u64 (ji13) (shr .u64 a0_1 (ji14)), shl .u64 a0_1 a1)) else (none)) = some (r1, r2) := by first | (rw [hji14] at H; exact H) | (simp only [hji14] at H ⊢; exact H)
   have hji14w : (IntKind.i64.wrap (64 - a1)) = ji14 := (i64_w _).trans hji14
   by_cases c15 : 0 ≤ (ji14)
   ·rw [if_pos c15] at H
    have c15b0 := eq_true c15
    have c15b1 : decide (0 ≤ (ji14)) = true := decide_eq_true c15
    clear c15
    obtain ⟨ji16, hji16⟩ : ∃ j_ : Int, (shr .u64 a0_1 (ji14)) = j_ := ⟨_, rfl⟩
    replace H : (some (Go.bits .or .u64 (ji13) (ji16), shl .u64 a0_1 a1)) = some (r1, r2) := by first | (rw [hji16] at H; exact H) | (simp only [hji16] at H ⊢; exact H)
    have hji16_ : (a0_1 / 2 ^ min (ji14).toNat 64) = ji16 := hji16
    have hji16z : (ji14) ≤ 64 → (a0_1 / 2 ^ (ji14).toNat) = ji16 := shr_small hji16
    have c17b0 := eq_true (od_ : 0 ≤ a1)
    obtain ⟨ji18, hji18⟩ : ∃ j_ : Int, (shl .u64 a0_1 a1) = j_ := ⟨_, rfl⟩
    replace H : (some (Go.bits .or .u64 (ji13) (ji16), ji18)) = some (r1, r2) := by first | (rw [hji18] at H; exact H) | (simp only [hji18] at H ⊢; exact H)
    have hji18_ : (IntKind.u64.wrap (a0_1 * 2 ^ min a1.toNat 64)) = ji18 := hji18
    have hji18z : a1 ≤ 64 → (IntKind.u64.wrap (a0_1 * 2 ^ a1.toNat)) = ji18 := shl_small hji18
    simp only [Option.some.injEq, Prod.mk.injEq] at H
    obtain ⟨rfl, rfl⟩ := H
    go_enter Tryz.func91, Tryz.ntmps91
    try go_wp2_with (first | ((with_reducible refine gd 2 rfl ?_); refine bx_ 2 88 #[.int .u64 a0_0, .int .u64 a0_1] rfl rfl ?_; intro gb164 hg w19 BK164 hb; have GE164 := bz HB hg; replace HB := bs HB hb; clear hb hg) | ((with_reducible refine gd 4 rfl ?_); refine bx_ 4 88 #[.int .u64 0, .int .u64 0] rfl rfl ?_; intro gb165 hg w20 BK165 hb; have GE165 := bz HB hg; have ⟨NB164_165, NB165_164⟩ := nb BK164 hg; replace BK164 := bb BK164 hb; replace HB := bs HB hb; clear hb hg))
    replace BK164 := Aside0.mk (blk_drew BK164.out)
    replace BK165 := Aside0.mk (blk_drew BK165.out)
    replace HB := Aside0.mk (below_drew1 HB.out)
    refine start_ (n := 16) (S := fun w' => c_ w' gb164 0 (.int .u64 a0_0) ∧ c_ w' gb164 1 (.int .u64 a0_1)) (ds := []) (m_ 16 0) (by kernel_rfl) rfl rfl ⟨ct BK164 0, ct BK164 1⟩ (fun hHeld => ?_); refine with_tabW frac_wide_up.tab3 frac_wide_up.bits3 (fun HT_ HW_ => ?_)
    generalize w20.drew = w21 at BK164 BK165 HB hHeld ⊢
    refine pu_ 0 (some 13) (m_ 16 1) rfl rfl (ao HT_) ?_
    refine pu_ 2 (some 15) (m_ 16 5) rfl rfl (ao HT_) ?_
    refine pu_ 4 (some 17) (m_ 16 21) rfl rfl (ao HT_) ?_
    refine pu_ 6 (some 19) (m_ 16 85) rfl rfl (ao HT_) ?_
    refine pu_ 7 (some 20) (m_ 16 213) rfl rfl (ao HT_) ?_
    refine pu_ 10 (some 23) (m_ 16 1237) rfl rfl (ao HT_) ?_
    refine pu_ 12 (some 25) (m_ 16 5333) rfl rfl (ao HT_) ?_
    refine tk_ 1 (some 14) (m_ 16 5335) rfl rfl (tw HT_ HW_) hHeld ?_
    refine pu_ 3 (some 16) (m_ 16 5343) rfl rfl (ao HT_) ?_
    refine tk_ 5 (some 18) (m_ 16 5375) rfl rfl (tw HT_ HW_) hHeld ?_
    refine pu_ 8 (some 21) (m_ 16 5631) rfl rfl (ao HT_) ?_
    refine pu_ 9 (some 22) (m_ 16 6143) rfl rfl (ao HT_) ?_
    refine tk_ 11 (some 24) (m_ 16 8191) rfl rfl (tw HT_ HW_) hHeld ?_
    refine pu_ 13 (some 26) (m_ 16 16383) rfl rfl (ao HT_) ?_
    refine pu_ 14 (some 27) (m_ 16 32767) rfl rfl (ao HT_) ?_
    refine o1_ 15 (none) (m_ 16 65535) rfl rfl (oo HT_) (fun K hK => ?_)
    have hs22 : c_ w21 gb165 0 (.int .u64 0) := ct BK165 0
    have hfs22 := blk_frozen BK165.out 0
    have hns22_0 := nn NB164_165
    have hs23 : c_ w21 gb165 1 (.int .u64 0) := ct BK165 1
    have hfs23 := blk_frozen BK165.out 1
    have hns23_0 := nn NB164_165
    refine skip_ (w1 := ?_) (by rfl) rfl ?_ ?_
    rotate_left
    ·go_simp
     rfl
    refine hK.out _ _ (by obtain ⟨d0, d1⟩ := hHeld; exact ⟨fa_ NB164_165 (fa_ NB164_165 d0), fa_ NB164_165 (fa_ NB164_165 d1)⟩) (fun hHeld => ?_)
    clear hK K
    refine done_ (done_of HT_.out (by kernel_rfl)) ?_
    try go_wp2
    refine bodyPost_ret (results_cell_row rfl _ _ gb165 88 #[.int .u64 (Go.bits .or .u64 (ji13) (ji16)), .int .u64 ji18] (0, 0) _ rfl (br_ BK165) Tryz.underlying88 rfl (by kernel_rfl)) rfl ?_
    exact ⟨by first | rfl | (simp [errW_none, errW_some] <;> rfl) | (simp only [← hji13, ← hji14, ← hji16, ← hji18]; first | rfl | (simp [errW_none, errW_some] <;> rfl)) | (simp [*, errW_none, errW_some] <;> rfl), bf HB⟩
   ·rw [if_neg c15] at H
    exact absurd H (by simp)
  ·rw [if_neg c12] at H
   exact absurd H (by simp)

end Go.Proofs.YtfhokgkpcphmlaaGreatDoor.X
