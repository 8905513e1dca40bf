/- Walks: each '.calls' says that the Go function comes to what its Lean function tells. Conditions: as each theorem's head says. -/
import Derived.Test.YtjgnaccamakpdaaDoorXD
import Derived.Test.YtjgnaccamakpdaaDoorX0
import Derived.Test.YtjgnaccamakpdaaDoorX8
import Derived.Test.YtjgnaccamakpdaaDoorX11
import Derived.Test.YtjgnaccamakpdaaDoorX29
namespace Go.Proofs.YtjgnaccamakpdaaDoor.X
open Go.RowKit Go.Proofs.YtjgnaccamakpdaaDoorW.PrintWords Go.Proofs.YtjgnaccamakpdaaDoorW.PrintLast Go.Proofs.YtjgnaccamakpdaaDoorW.PrintMore
attribute [local go_sem] max2_int min2_int max_two min_two max_three min_three max_four min_four   -- for this text's walks alone
set_option linter.unusedVariables false
set_option maxHeartbeats 8000000
set_option maxRecDepth 100000
set_option linter.unusedSimpArgs false

/-! ### frac_Ceil: function 29 -/
theorem frac_Ceil.calls (k : Nat) (a0_0 : Int) (a0_1 : Int) (r : Int) (w : World) (h : frac_Ceil.f k a0_0 a0_1 = some r) (hT : TabOK w) :
    Calls Tryd.prog 29 #[.agg #[.int .i64 a0_0, .int .i64 a0_1]] w fun e w' => e = .returned (.int .i64 r) ∧ Below w.heap.size w w' := by
  have GT := Aside0.mk hT
  clear hT
  have hu23 := Tryd.underlying23
  have HB := Aside0.mk (Below.refl w.heap.size w)
  have H : ((frac_norm.f k a0_0 a0_1).bind fun bt935 => ((whole_Ceil.f bt935.1 bt935.2).bind fun bt937 => (some bt937.1))) = some r := h
  clear h
  replace H := bi_ H; obtain ⟨⟨t935, t936⟩, A2, H⟩ := H
  (try dsimp only at H)
  replace H := bi_ H; obtain ⟨⟨t937, t938⟩, A3, H⟩ := H
  (try dsimp only at H)
  obtain rfl := Option.some.inj H
  go_enter Tryd.func29, Tryd.ntmps29
  go_wp2_with (first | ((with_reducible refine gd 1 rfl ?_); refine bx_ 1 23 #[.int .i64 a0_0, .int .i64 a0_1] rfl rfl ?_; intro gb934 hg w4 BK934 hb; have GE934 := bz HB hg; replace HB := bs HB hb; clear hb hg; have hcz5 := k2 BK934) | ((with_reducible refine gc 56 rfl ?_); refine gm_ (some 6) rfl rfl Tryd.func56 (frac_norm.calls _ _ _ _ _ _ A2.out (tt GT)) ag ?_; intro w6 hb; replace BK934 := bb BK934 hb; replace HB := bs HB hb; (try clear hb); have hcz7 := k2 BK934) | ((with_reducible refine gc 62 rfl ?_); refine gm_ (some 12) rfl rfl Tryd.func62 (whole_Ceil.calls _ _ _ _ _ A3.out) ag ?_; rintro w' ⟨nd, rfl⟩))
  go_ret
  exact ⟨ae, bf HB⟩

/-! ### carrefourref01_Ceil: function 63 -/
theorem carrefourref01_Ceil.calls (k : Nat) (a0 : Int) (a1 : Int) (r1 : Int) (r2 : Int) (w : World) (h : carrefourref01_Ceil.f k a0 a1 = some (r1, r2)) :
    Calls Tryd.prog 63 #[.int .i64 a0, .int .i64 a1] w fun e w' => e = .returned (.tuple #[.int .i64 r1, .int .i64 r2]) ∧ Drawn0 w w' := by
  have H : ((carrefourref01_Floor.f k a0 a1).bind fun bt939 => (if bt939.2 = 0 then (if a1 = 0 then (none) else (if (Int.tmod a0 a1) = 0 then (some (bt939.1, bt939.2)) else (some (wrap64 (bt939.1 + 1), bt939.2)))) else (some (bt939.1, bt939.2)))) = some (r1, r2) := h
  clear h
  replace H := bi_ H; obtain ⟨⟨t939, t940⟩, A3, H⟩ := H
  (try dsimp only at H)
  by_cases c4 : t940 = 0
  · rw [if_pos c4] at H
    have c4b0 : (t940 == 0) = true := beq_iff_eq.mpr c4
    have c4b1 : (t940 != 0) = false := bne_eq_false_iff_eq.mpr c4
    clear c4
    by_cases c5 : a1 = 0
    · rw [if_pos c5] at H
      exact absurd H (by simp)
    · rw [if_neg c5] at H
      have c5b0 : (a1 == 0) = false := beq_eq_false_iff_ne.mpr c5
      have c5b1 : (a1 != 0) = true := bne_iff_ne.mpr c5
      by_cases c6 : (Int.tmod a0 a1) = 0
      · rw [if_pos c6] at H
        have c6b0 : ((Int.tmod a0 a1) == 0) = true := beq_iff_eq.mpr c6
        have c6b1 : ((Int.tmod a0 a1) != 0) = false := bne_eq_false_iff_eq.mpr c6
        clear c6
        simp only [Option.some.injEq, Prod.mk.injEq] at H
        obtain ⟨rfl, rfl⟩ := H
        go_enter Tryd.func63, Tryd.ntmps63
        go_wp2_with (first | ((with_reducible refine gc 61 rfl ?_); refine gm_ (some 11) rfl rfl Tryd.func61 (carrefourref01_Floor.calls _ _ _ _ _ _ A3.out) ag ?_; rintro w' ⟨nd, rfl⟩))
        go_ret2
        exact ⟨aq, dr⟩
      · rw [if_neg c6] at H
        have c6b0 : ((Int.tmod a0 a1) == 0) = false := beq_eq_false_iff_ne.mpr c6
        have c6b1 : ((Int.tmod a0 a1) != 0) = true := bne_iff_ne.mpr c6
        simp only [Option.some.injEq, Prod.mk.injEq] at H
        obtain ⟨rfl, rfl⟩ := H
        go_enter Tryd.func63, Tryd.ntmps63
        go_wp2_with (first | ((with_reducible refine gc 61 rfl ?_); refine gm_ (some 11) rfl rfl Tryd.func61 (carrefourref01_Floor.calls _ _ _ _ _ _ A3.out) ag ?_; rintro w' ⟨nd, rfl⟩))
        go_ret2
        exact ⟨aq, dr⟩
  · rw [if_neg c4] at H
    have c4b0 : (t940 == 0) = false := beq_eq_false_iff_ne.mpr c4
    have c4b1 : (t940 != 0) = true := bne_iff_ne.mpr c4
    simp only [Option.some.injEq, Prod.mk.injEq] at H
    obtain ⟨rfl, rfl⟩ := H
    go_enter Tryd.func63, Tryd.ntmps63
    go_wp2_with (first | ((with_reducible refine gc 61 rfl ?_); refine gm_ (some 11) rfl rfl Tryd.func61 (carrefourref01_Floor.calls _ _ _ _ _ _ A3.out) ag ?_; rintro w' ⟨nd, rfl⟩))
    go_ret2
    exact ⟨aq, dr⟩

/-! ### carrefourref02_Ceil: function 30 -/
theorem carrefourref02_Ceil.calls (k : Nat) (a0_0 : Int) (a0_1 : Int) (r : Int) (w : World) (h : carrefourref02_Ceil.f k a0_0 a0_1 = some r) :
    Calls Tryd.prog 30 #[.agg #[.int .i64 a0_0, .int .i64 a0_1]] w fun e w' => e = .returned (.int .i64 r) ∧ Below w.heap.size w w' := by
  have hu23 := Tryd.underlying23
  have HB := Aside0.mk (Below.refl w.heap.size w)
  have H : ((carrefourref02_Norm.f k a0_0 a0_1).bind fun bt942 => ((carrefourref01_Ceil.f k bt942.1 bt942.2).bind fun bt944 => (some bt944.1))) = some r := h
  clear h
  replace H := bi_ H; obtain ⟨⟨t942, t943⟩, A2, H⟩ := H
  (try dsimp only at H)
  replace H := bi_ H; obtain ⟨⟨t944, t945⟩, A3, H⟩ := H
  (try dsimp only at H)
  obtain rfl := Option.some.inj H
  go_enter Tryd.func30, Tryd.ntmps30
  go_wp2_with (first | ((with_reducible refine gd 1 rfl ?_); refine bx_ 1 23 #[.int .i64 a0_0, .int .i64 a0_1] rfl rfl ?_; intro gb941 hg w4 BK941 hb; have GE941 := bz HB hg; replace HB := bs HB hb; clear hb hg; have hcz5 := k2 BK941) | ((with_reducible refine gc 39 rfl ?_); refine gm_ (some 6) rfl rfl Tryd.func39 (carrefourref02_Norm.calls _ _ _ _ _ _ A2.out) ag ?_; intro w6 hb; replace BK941 := bb BK941 hb; replace HB := bs HB hb; (try clear hb); have hcz7 := k2 BK941) | ((with_reducible refine gc 63 rfl ?_); refine gm_ (some 12) rfl rfl Tryd.func63 (carrefourref01_Ceil.calls _ _ _ _ _ _ A3.out) ag ?_; rintro w' ⟨nd, rfl⟩))
  go_ret
  exact ⟨ae, bf HB⟩

/-! ### carrefourref02_Digits: function 65 -/
theorem carrefourref02_Digits.calls (k : Nat) (a0 : Int) (r : ByteArray) (w : World) (h : carrefourref02_Digits.f k a0 = some r) :
    Calls Tryd.prog 65 #[.int .i64 a0] w fun e w' => e = .returned (.string r) ∧ Below w.heap.size w w' := by
  have HB := Aside0.mk (Below.refl w.heap.size w)
  have H : ((carrefourref01_Size.f a0).bind fun t946 => (carrefourref02_Digits.l0 k a0 t946 (⟨#[]⟩ : ByteArray))) = some r := h
  clear h
  replace H := bi_ H; obtain ⟨t946, A2, H⟩ := H
  (try dsimp only at H)
  have H' := Aside0.mk H
  clear H
  go_enter Tryd.func65, Tryd.ntmps65
  go_wp2_with (first | ((with_reducible refine gc 43 rfl ?_); refine gm_ (some 6) rfl rfl Tryd.func43 (carrefourref01_Size.calls _ _ _ A2.out) ag ?_; rintro w' ⟨nd, rfl⟩))
  go_loopg [3, 4] k (fun kq v3 v4 w' => ∃ (x3_1 : Int) (x4_1 : ByteArray), v3 = .int .u64 x3_1 ∧ v4 = .string x4_1 ∧ Aside0 (carrefourref02_Digits.l0 kq a0 x3_1 x4_1 = some r) ∧ Aside0 (kq ≤ k) ∧ Aside0 (Below w.heap.size w w'))
  case atStart => exact ⟨(t946), ((⟨#[]⟩ : ByteArray)), (aq), (aq), H', ⟨Nat.le_refl _⟩, ⟨bf HB⟩⟩
  case round =>
    clear H'
    try clear p2
    obtain ⟨x3_1, x4_1, rfl, rfl, HA, HK1, HB⟩ := hrel
    cases gk with
    | zero => exact absurd HA.out (by simp [carrefourref02_Digits.l0])
    | succ k1 =>
      have H := HA.out
      clear HA
      simp only [carrefourref02_Digits.l0] at H
      by_cases c3 : x4_1.toList = ([] : List UInt8)
      · rw [if_pos c3] at H
        have c3b0 : (x4_1.toList == ([] : List UInt8)) = true := beq_iff_eq.mpr c3
        have c3b1 : (x4_1.toList != ([] : List UInt8)) = false := bne_eq_false_iff_eq.mpr c3
        clear c3
        obtain ⟨y947, hy947⟩ : ∃ y_ : List Int, y_ = (([(IntKind.u64.wrap (48 + (Int.tmod x3_1 10))) % 256] : List Int)) := ⟨_, rfl⟩
        replace H : (if (strOfNums y947).size + x4_1.size ≤ 9223372036854775807 then (carrefourref02_Digits.l0 k1 a0 (IntKind.u64.wrap (Int.tdiv x3_1 10)) ((strOfNums y947) ++ x4_1)) else (none)) = some r := by first | (rw [hy947]; with_reducible exact H) | (have H2_ := (Option.bind_some _ _).symm.trans H; rw [hy947]; with_reducible exact H2_) | (have H2_ := (Option.bind_some _ _).symm.trans H; with_reducible exact H2_) | with_reducible exact H | (rw [hy947]; exact H) | exact H
        have Ny947 := Aside0.mk hy947
        clear hy947
        by_cases c4 : (strOfNums y947).size + x4_1.size ≤ 9223372036854775807
        · rw [if_pos c4] at H
          have c4b0 := eq_true c4
          have c4b1 : decide ((strOfNums y947).size + x4_1.size ≤ 9223372036854775807) = true := decide_eq_true c4
          try have c4b2 : (9223372036854775807 < (strOfNums y947).size + x4_1.size) = False := eq_false (Nat.not_lt.2 c4)
          have H' := Aside0.mk H
          clear H
          go_wp2_with (first | ((with_reducible refine gate_dst (N := 17) rfl ?_); refine Kd.R_lit (Kd.int .u8) _ 5 ?hg (N := 17) ?hd (xs := ([(IntKind.u64.wrap (48 + (Int.tmod x3_1 10))) % 256] : List Int)) (inner := [.int .u8 ((IntKind.u64.wrap (48 + (Int.tmod x3_1 10))) % 256)]) (ok := fun _ => True) (okp := fun _ => True) ?hr ?hp (fun _ hk => hk) trivial (Below.refl _ _) (Nat.le_refl _) (by simp) ?_; (case hd => rfl); (case hg => rfl); (case hr => first | (go_simp; done) | (go_simp; rfl)); (case hp => exact (Reps.one (show Kd.M (Kd.int .u8) _ _ _ ((IntKind.u64.wrap (48 + (Int.tmod x3_1 10))) % 256) [.int .u8 ((IntKind.u64.wrap (48 + (Int.tmod x3_1 10))) % 256)] from rfl) (Reps.none _ _))); intro v948 w5 ho6 hb hg_ hnew_; clear hg_ hnew_; (first | rw [← Ny947.out] at ho6 | (simp only [Int.reduceToNat] at ho6; rw [← Ny947.out] at ho6)); have HO949 := Aside0.mk (Kd.R_lower ho6 (below_size (bf HB))); replace HB := bs HB hb; clear hb ho6; have hcv7 := own_string (P := Tryd.prog) Tryd.underlying89 Tryd.underlying5 Tryd.underlying9 (Kd.own_of_R HO949.out)))
          go_roundg k1
          case measure => have := HK1.out; omega
          case rel => exact ⟨(IntKind.u64.wrap (Int.tdiv x3_1 10)), ((strOfNums y947) ++ x4_1), (aq), (aq), H', ⟨by have := HK1.out; omega⟩, ⟨bf HB⟩⟩
        · rw [if_neg c4] at H
          exact absurd H (by simp)
      · rw [if_neg c3] at H
        have c3b0 : (x4_1.toList == ([] : List UInt8)) = false := beq_eq_false_iff_ne.mpr c3
        have c3b1 : (x4_1.toList != ([] : List UInt8)) = true := bne_iff_ne.mpr c3
        by_cases c8 : x3_1 > 0
        · rw [if_pos c8] at H
          have c8b0 : decide (0 < x3_1) = true := decide_eq_true c8
          clear c8
          obtain ⟨y950, hy950⟩ : ∃ y_ : List Int, y_ = (([(IntKind.u64.wrap (48 + (Int.tmod x3_1 10))) % 256] : List Int)) := ⟨_, rfl⟩
          replace H : (if (strOfNums y950).size + x4_1.size ≤ 9223372036854775807 then (carrefourref02_Digits.l0 k1 a0 (IntKind.u64.wrap (Int.tdiv x3_1 10)) ((strOfNums y950) ++ x4_1)) else (none)) = some r := by first | (rw [hy950]; with_reducible exact H) | (have H2_ := (Option.bind_some _ _).symm.trans H; rw [hy950]; with_reducible exact H2_) | (have H2_ := (Option.bind_some _ _).symm.trans H; with_reducible exact H2_) | with_reducible exact H | (rw [hy950]; exact H) | exact H
          have Ny950 := Aside0.mk hy950
          clear hy950
          by_cases c9 : (strOfNums y950).size + x4_1.size ≤ 9223372036854775807
          · rw [if_pos c9] at H
            have c9b0 := eq_true c9
            have c9b1 : decide ((strOfNums y950).size + x4_1.size ≤ 9223372036854775807) = true := decide_eq_true c9
            try have c9b2 : (9223372036854775807 < (strOfNums y950).size + x4_1.size) = False := eq_false (Nat.not_lt.2 c9)
            have H' := Aside0.mk H
            clear H
            go_wp2_with (first | ((with_reducible refine gate_dst (N := 17) rfl ?_); refine Kd.R_lit (Kd.int .u8) _ 5 ?hg (N := 17) ?hd (xs := ([(IntKind.u64.wrap (48 + (Int.tmod x3_1 10))) % 256] : List Int)) (inner := [.int .u8 ((IntKind.u64.wrap (48 + (Int.tmod x3_1 10))) % 256)]) (ok := fun _ => True) (okp := fun _ => True) ?hr ?hp (fun _ hk => hk) trivial (Below.refl _ _) (Nat.le_refl _) (by simp) ?_; (case hd => rfl); (case hg => rfl); (case hr => first | (go_simp; done) | (go_simp; rfl)); (case hp => exact (Reps.one (show Kd.M (Kd.int .u8) _ _ _ ((IntKind.u64.wrap (48 + (Int.tmod x3_1 10))) % 256) [.int .u8 ((IntKind.u64.wrap (48 + (Int.tmod x3_1 10))) % 256)] from rfl) (Reps.none _ _))); intro v951 w10 ho11 hb hg_ hnew_; clear hg_ hnew_; (first | rw [← Ny950.out] at ho11 | (simp only [Int.reduceToNat] at ho11; rw [← Ny950.out] at ho11)); have HO952 := Aside0.mk (Kd.R_lower ho11 (below_size (bf HB))); replace HB := bs HB hb; clear hb ho11; have hcv12 := own_string (P := Tryd.prog) Tryd.underlying89 Tryd.underlying5 Tryd.underlying9 (Kd.own_of_R HO952.out)))
            go_roundg k1
            case measure => have := HK1.out; omega
            case rel => exact ⟨(IntKind.u64.wrap (Int.tdiv x3_1 10)), ((strOfNums y950) ++ x4_1), (aq), (aq), H', ⟨by have := HK1.out; omega⟩, ⟨bf HB⟩⟩
          · rw [if_neg c9] at H
            exact absurd H (by simp)
        · rw [if_neg c8] at H
          have c8b0 : decide (0 < x3_1) = false := decide_eq_false c8
          clear c8
          by_cases c13 : a0 < 0
          · rw [if_pos c13] at H
            have c13b0 : decide (a0 < 0) = true := decide_eq_true c13
            clear c13
            by_cases c14 : 1 + x4_1.size ≤ 9223372036854775807
            · rw [if_pos c14] at H
              have c14b0 := eq_true c14
              have c14b1 : decide (1 + x4_1.size ≤ 9223372036854775807) = true := decide_eq_true c14
              try have c14b2 : (9223372036854775807 < 1 + x4_1.size) = False := eq_false (Nat.not_lt.2 c14)
              obtain rfl := Option.some.inj H
              go_wp2
              go_ret
              exact ⟨ae, bf HB⟩
            · rw [if_neg c14] at H
              exact absurd H (by simp)
          · rw [if_neg c13] at H
            have c13b0 : decide (a0 < 0) = false := decide_eq_false c13
            clear c13
            obtain rfl := Option.some.inj H
            go_wp2
            go_ret
            exact ⟨ae, bf HB⟩

/-! ### carrefourref02_Print: function 32 -/
def carrefourref02_Print.T2 : Bool × List (List Nat × List Nat) := (true, [([], []), ([0], [0]), ([1], [1]), ([2], [2]), ([], []), ([4], [4]), ([5, 2], [5]), ([3, 6], [3, 6]), ([7, 6, 0, 1, 2, 3, 4, 5, 6, 7], [7])])
def carrefourref02_Print.B2 : List Nat := [0, 1, 3, 7, 0, 16, 55, 127, 255]
theorem carrefourref02_Print.tab2 : rtab .any (opsOf Tryd.f32 2) = carrefourref02_Print.T2 := by kernel_rfl
theorem carrefourref02_Print.bits2 : waitsOk carrefourref02_Print.T2.2 carrefourref02_Print.B2 = true := by kernel_rfl
theorem carrefourref02_Print.calls (k : Nat) (a0_0 : Int) (a0_1 : Int) (r : ByteArray) (w : World) (h : carrefourref02_Print.f k a0_0 a0_1 = some r) :
    Calls Tryd.prog 32 #[.agg #[.int .i64 a0_0, .int .i64 a0_1]] w fun e w' => e = .returned (.string r) ∧ Below w.heap.size w w' := by
  have hu23 := Tryd.underlying23
  have HB := Aside0.mk (Below.refl w.heap.size w)
  have H : ((carrefourref02_Norm.f k a0_0 a0_1).bind fun bt954 => ((carrefourref02_Digits.f k bt954.1).bind fun t956 => (if t956.size + 1 ≤ 9223372036854775807 then ((carrefourref02_Digits.f k bt954.2).bind fun t957 => (if (t956 ++ (⟨#[47]⟩ : ByteArray)).size + t957.size ≤ 9223372036854775807 then (some ((t956 ++ (⟨#[47]⟩ : ByteArray)) ++ t957)) else (none))) else (none)))) = some r := h
  clear h
  replace H := bi_ H; obtain ⟨⟨t954, t955⟩, A2, H⟩ := H
  (try dsimp only at H)
  replace H := bi_ H; obtain ⟨t956, A3, H⟩ := H
  (try dsimp only at H)
  by_cases c4 : t956.size + 1 ≤ 9223372036854775807
  · rw [if_pos c4] at H
    have c4b0 := eq_true c4
    have c4b1 : decide (t956.size + 1 ≤ 9223372036854775807) = true := decide_eq_true c4
    try have c4b2 : (9223372036854775807 < t956.size + 1) = False := eq_false (Nat.not_lt.2 c4)
    replace H := bi_ H; obtain ⟨t957, A5, H⟩ := H
    (try dsimp only at H)
    by_cases c6 : (t956 ++ (⟨#[47]⟩ : ByteArray)).size + t957.size ≤ 9223372036854775807
    · rw [if_pos c6] at H
      have c6b0 := eq_true c6
      have c6b1 : decide ((t956 ++ (⟨#[47]⟩ : ByteArray)).size + t957.size ≤ 9223372036854775807) = true := decide_eq_true c6
      try have c6b2 : (9223372036854775807 < (t956 ++ (⟨#[47]⟩ : ByteArray)).size + t957.size) = False := eq_false (Nat.not_lt.2 c6)
      try have c6b3 : (9223372036854775807 < t956.size + 1 + t957.size) = False := eq_false (Nat.not_lt.2 (by have hs_ := c6; rw [ByteArray.size_append] at hs_; exact hs_))
      obtain rfl := Option.some.inj H
      go_enter Tryd.func32, Tryd.ntmps32
      try go_wp2_with (first | ((with_reducible refine gd 1 rfl ?_); refine bx_ 1 23 #[.int .i64 a0_0, .int .i64 a0_1] rfl rfl ?_; intro gb953 hg w7 BK953 hb; have GE953 := bz HB hg; replace HB := bs HB hb; clear hb hg; have hcz8 := k2 BK953) | ((with_reducible refine gc 39 rfl ?_); refine gm_ (some 4) rfl rfl Tryd.func39 (carrefourref02_Norm.calls _ _ _ _ _ _ A2.out) ag ?_; intro w9 hb; replace BK953 := bb BK953 hb; replace HB := bs HB hb; (try clear hb); have hcz10 := k2 BK953))
      have n0_ : Aside0 (((w9.setCell ⟨gb953, 0, none⟩ (.int .i64 t954)).setCell ⟨gb953, 1, none⟩ (.int .i64 t955)).heap[gb953]? = some (.cells #[.int .i64 t954, .int .i64 t955] 23 (0, 0))) := bq_ BK953
      have n1_ : Aside0 (Below w.heap.size w ((w9.setCell ⟨gb953, 0, none⟩ (.int .i64 t954)).setCell ⟨gb953, 1, none⟩ (.int .i64 t955))) := ⟨bf HB⟩
      (try clear BK953); (try clear HB)
      generalize ((w9.setCell ⟨gb953, 0, none⟩ (.int .i64 t954)).setCell ⟨gb953, 1, none⟩ (.int .i64 t955)) = w11 at n0_ n1_ ⊢
      have BK953 := n0_
      have HB := n1_
      clear n0_ n1_
      replace BK953 := Aside0.mk (blk_drew BK953.out)
      replace HB := Aside0.mk (below_drew1 HB.out)
      refine start_ (n := 9) (S := fun w' => c_ w' gb953 0 (.int .i64 t954) ∧ c_ w' gb953 1 (.int .i64 t955)) (ds := []) (m_ 9 0) (by kernel_rfl) rfl rfl ⟨ct BK953 0, ct BK953 1⟩ (fun hHeld => ?_); refine with_tabW carrefourref02_Print.tab2 carrefourref02_Print.bits2 (fun HT_ HW_ => ?_)
      generalize w11.drew = w12 at BK953 HB hHeld ⊢
      refine pu_ 0 (some 5) (m_ 9 1) rfl rfl (ao HT_) ?_
      refine pu_ 4 (some 9) (m_ 9 17) rfl rfl (ao HT_) ?_
      refine tk_ 1 (some 6) (m_ 9 19) rfl rfl (tw HT_ HW_) hHeld ?_
      refine tk_ 5 (some 10) (m_ 9 51) rfl rfl (tw HT_ HW_) hHeld ?_
      refine o1_ 2 (some 7) (m_ 9 55) rfl rfl (oo HT_) (fun K hK => ?_)
      refine gs_ rfl Tryd.func65 (carrefourref02_Digits.calls _ _ _ _ A3.out) ag ?_
      intro w13 hb
      replace BK953 := bb BK953 hb
      replace HB := bs HB hb
      (try clear hb)
      refine hK.out _ _ ⟨ct BK953 0, ct BK953 1⟩ (fun hHeld => ?_)
      clear hK K
      refine nr_ (some 7) ?_
      refine pu_ 3 (some 8) (m_ 9 63) rfl rfl (ao HT_) ?_
      refine o1_ 6 (some 11) (m_ 9 127) rfl rfl (oo HT_) (fun K hK => ?_)
      refine gs_ rfl Tryd.func65 (carrefourref02_Digits.calls _ _ _ _ A5.out) ag ?_
      intro w14 hb
      replace BK953 := bb BK953 hb
      replace HB := bs HB hb
      (try clear hb)
      refine hK.out _ _ ⟨ct BK953 0, ct BK953 1⟩ (fun hHeld => ?_)
      clear hK K
      refine nr_ (some 11) ?_
      refine pu_ 7 (some 12) (m_ 9 255) rfl rfl (ao HT_) ?_
      refine pu_ 8 (some 2) (m_ 9 511) rfl rfl (ao HT_) ?_
      refine done_ (done_of HT_.out (by kernel_rfl)) ?_
      try go_wp2
      go_ret
      exact ⟨ae, bf HB⟩
    · rw [if_neg c6] at H
      exact absurd H (by simp)
  · rw [if_neg c4] at H
    exact absurd H (by simp)

end Go.Proofs.YtjgnaccamakpdaaDoor.X
