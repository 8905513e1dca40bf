/- Walks: each '.calls' says that the Go function comes to what its Lean function tells. Conditions: as each theorem's head says. -/
import Derived.Test.YtcdddmaibchjjaaDoorXD
import Derived.Test.YtcdddmaibchjjaaDoorX0
import Derived.Test.YtcdddmaibchjjaaDoorHL
namespace Go.Proofs.YtcdddmaibchjjaaDoor.X
open Go.RowKit Go.Proofs.YtcdddmaibchjjaaDoorW.PrintWords Go.Proofs.YtcdddmaibchjjaaDoorW.PrintLast Go.Proofs.YtcdddmaibchjjaaDoorW.PrintMore
attribute [local go_sem] max2_int min2_int max_two min_two max_three min_three max_four min_four   -- for this text's walks alone
set_option linter.unusedVariables false
set_option maxHeartbeats 8000000
set_option maxRecDepth 100000
set_option linter.unusedSimpArgs false

/-! ### carrefourlaw14_few: function 7 -/
theorem carrefourlaw14_few.calls (a0 : Int) (A1 : Option Addr) (c1 : Nat) (l1 : List (S34)) (r : Bool) (w : World) (hr1 : Kd.C k34 w A1 l1.length l1) (hc1 : l1.length ≤ c1) (h : carrefourlaw14_few.f a0 l1 = some r) :
  Calls Tryd.prog 7 #[.int .i64 a0, .slice A1 l1.length c1] w fun e w' => e = .returned (.bool r) ∧ Drawn0 w w' := by
 have HR1 := Aside0.mk hr1
 have HC1 := Aside0.mk hc1
 clear hr1 hc1
 have H : (if a0 ≤ 12 then (some (decide ((l1.length : Int) ≤ 60))) else (if a0 > 64 then (some (decide ((l1.length : Int) ≤ 60))) else (some false))) = some r := h
 clear h
 by_cases c3 : a0 ≤ 12
 ·rw [if_pos c3] at H
  have c3b0 : decide (a0 ≤ 12) = true := decide_eq_true c3
  clear c3
  obtain rfl := Option.some.inj H
  go_enter Tryd.func7, Tryd.ntmps7
  go_wp2
  go_ret
  exact ⟨aq, dr⟩
 ·rw [if_neg c3] at H
  have c3b0 : decide (a0 ≤ 12) = false := decide_eq_false c3
  clear c3
  by_cases c4 : a0 > 64
  ·rw [if_pos c4] at H
   have c4b0 : decide (64 < a0) = true := decide_eq_true c4
   clear c4
   obtain rfl := Option.some.inj H
   go_enter Tryd.func7, Tryd.ntmps7
   go_wp2
   go_ret
   exact ⟨aq, dr⟩
  ·rw [if_neg c4] at H
   have c4b0 : decide (64 < a0) = false := decide_eq_false c4
   clear c4
   obtain rfl := Option.some.inj H
   go_enter Tryd.func7, Tryd.ntmps7
   go_wp2
   go_ret
   exact ⟨aq, dr⟩


/-! ### paths_Longest: function 8 -/
/-! ### paths_Way: function 12 -/
/-! ### carrefourlaw14_awake: function 10 -/
theorem carrefourlaw14_awake.calls (k : Nat)  (r : Bool) (w : World) (h : carrefourlaw14_awake.f k  = some r) (hT : TabOK w) :
  Calls Tryd.prog 10 #[] w fun e w' => e = .returned (.bool r) ∧ Below w.heap.size w w' := by
 have GT := Aside0.mk hT
 clear hT
 have hu34 := Tryd.underlying34
 have HB := Aside0.mk (Below.refl w.heap.size w)
 have H : ((some (([(⟨0, 1, 3⟩ : S34), (⟨1, 2, 4⟩ : S34), (⟨0, 2, 5⟩ : S34)] : List (S34)) : List (S34))).bind fun y101 => ((paths_Longest.f k 3 y101).bind fun bt104 => (if y101.length < 5864062014805 then ((paths_Longest.f k 3 (y101 ++ [(⟨2, 1, 0⟩ : S34)])).bind fun bt111 => ((paths_Way.f k 3 y101 2).bind fun t115 => (if bt104.2 = 0 then (if (bt104.1.length : Int) = 3 then (if 1 < (bt104.1.length : Int) then (if (rd bt104.1 1) = 3 then (if 2 < (bt104.1.length : Int) then (if (rd bt104.1 2) = 7 then (if bt111.2 = 140 then (if (t115.length : Int) = 3 then (if 1 < (t115.length : Int) then (some ((rd t115 1) == 1)) else (none)) else (some false)) else (some false)) else (some false)) else (none)) else (some false)) else (none)) else (some false)) else (some false)))) else (none)))) = some r := h
 clear h
 obtain ⟨y101, hy101⟩ : ∃ y_ : List (S34), y_ = (([(⟨0, 1, 3⟩ : S34), (⟨1, 2, 4⟩ : S34), (⟨0, 2, 5⟩ : S34)] : List (S34))) := ⟨_, rfl⟩
 replace H : ((paths_Longest.f k 3 y101).bind fun bt104 => (if y101.length < 5864062014805 then ((paths_Longest.f k 3 (y101 ++ [(⟨2, 1, 0⟩ : S34)])).bind fun bt111 => ((paths_Way.f k 3 y101 2).bind fun t115 => (if bt104.2 = 0 then (if (bt104.1.length : Int) = 3 then (if 1 < (bt104.1.length : Int) then (if (rd bt104.1 1) = 3 then (if 2 < (bt104.1.length : Int) then (if (rd bt104.1 2) = 7 then (if bt111.2 = 140 then (if (t115.length : Int) = 3 then (if 1 < (t115.length : Int) then (some ((rd t115 1) == 1)) else (none)) else (some false)) else (some false)) else (some false)) else (none)) else (some false)) else (none)) else (some false)) else (some false)))) else (none))) = some r := by first | (rw [hy101]; with_reducible exact H) | (have H2_ := (Option.bind_some _ _).symm.trans H; rw [hy101]; with_reducible exact H2_) | (have H2_ := (Option.bind_some _ _).symm.trans H; with_reducible exact H2_) | with_reducible exact H | (rw [hy101]; exact H) | exact H
 have Ny101 := Aside0.mk hy101
 clear hy101
 replace H := bi_ H; obtain ⟨⟨t104, t105⟩, A1, H⟩ := H
 (try dsimp only at H)
 by_cases c2 : y101.length < 5864062014805
 ·rw [if_pos c2] at H
  have LMc2 := Aside0.mk c2
  clear c2
  obtain ⟨y108, hy108⟩ : ∃ y_ : List (S34), y_ = (y101 ++ [(⟨2, 1, 0⟩ : S34)]) := ⟨_, rfl⟩
  replace H : ((paths_Longest.f k 3 y108).bind fun bt111 => ((paths_Way.f k 3 y101 2).bind fun t115 => (if t105 = 0 then (if (t104.length : Int) = 3 then (if 1 < (t104.length : Int) then (if (rd t104 1) = 3 then (if 2 < (t104.length : Int) then (if (rd t104 2) = 7 then (if bt111.2 = 140 then (if (t115.length : Int) = 3 then (if 1 < (t115.length : Int) then (some ((rd t115 1) == 1)) else (none)) else (some false)) else (some false)) else (some false)) else (none)) else (some false)) else (none)) else (some false)) else (some false)))) = some r := by first | (rw [hy108]; with_reducible exact H) | (have H2_ := (Option.bind_some _ _).symm.trans H; rw [hy108]; with_reducible exact H2_) | (have H2_ := (Option.bind_some _ _).symm.trans H; with_reducible exact H2_) | with_reducible exact H | (rw [hy108]; exact H) | exact H
  have Ny108 := Aside0.mk hy108
  clear hy108
  replace H := bi_ H; obtain ⟨⟨t111, t112⟩, A3, H⟩ := H
  (try dsimp only at H)
  replace H := bi_ H; obtain ⟨t115, A4, H⟩ := H
  (try dsimp only at H)
  by_cases c5 : t105 = 0
  ·rw [if_pos c5] at H
   have c5b0 : (t105 == 0) = true := beq_iff_eq.mpr c5
   have c5b1 : (t105 != 0) = false := bne_eq_false_iff_eq.mpr c5
   clear c5
   by_cases c6 : (t104.length : Int) = 3
   ·rw [if_pos c6] at H
    have c6b0 : ((t104.length : Int) == 3) = true := beq_iff_eq.mpr c6
    have c6b1 : ((t104.length : Int) != 3) = false := bne_eq_false_iff_eq.mpr c6
    clear c6
    by_cases c7 : 1 < (t104.length : Int)
    ·rw [if_pos c7] at H
     have c7b0 : decide (1 < (t104.length : Int)) = true := decide_eq_true c7
     have c7b1 : decide (1 < t104.length) = true := decide_eq_true (by omega)
     clear c7
     by_cases c8 : (rd t104 1) = 3
     ·rw [if_pos c8] at H
      have c8b0 : ((rd t104 1) == 3) = true := beq_iff_eq.mpr c8
      have c8b1 : ((rd t104 1) != 3) = false := bne_eq_false_iff_eq.mpr c8
      clear c8
      by_cases c9 : 2 < (t104.length : Int)
      ·rw [if_pos c9] at H
       have c9b0 : decide (2 < (t104.length : Int)) = true := decide_eq_true c9
       have c9b1 : decide (2 < t104.length) = true := decide_eq_true (by omega)
       clear c9
       by_cases c10 : (rd t104 2) = 7
       ·rw [if_pos c10] at H
        have c10b0 : ((rd t104 2) == 7) = true := beq_iff_eq.mpr c10
        have c10b1 : ((rd t104 2) != 7) = false := bne_eq_false_iff_eq.mpr c10
        clear c10
        by_cases c11 : t112 = 140
        ·rw [if_pos c11] at H
         have c11b0 : (t112 == 140) = true := beq_iff_eq.mpr c11
         have c11b1 : (t112 != 140) = false := bne_eq_false_iff_eq.mpr c11
         clear c11
         by_cases c12 : (t115.length : Int) = 3
         ·rw [if_pos c12] at H
          have c12b0 : ((t115.length : Int) == 3) = true := beq_iff_eq.mpr c12
          have c12b1 : ((t115.length : Int) != 3) = false := bne_eq_false_iff_eq.mpr c12
          clear c12
          by_cases c13 : 1 < (t115.length : Int)
          ·rw [if_pos c13] at H
           have c13b0 : decide (1 < (t115.length : Int)) = true := decide_eq_true c13
           have c13b1 : decide (1 < t115.length) = true := decide_eq_true (by omega)
           clear c13
           obtain rfl := Option.some.inj H
           go_enter Tryd.func10, Tryd.ntmps10
           go_wp2_with (first | ((with_reducible refine gate_dst (N := 10) rfl ?_); (try (refine gate_guard (by rfl) ?_; dsimp only)); refine R_lit_full k34 _ 34 ?hg (N := 10) ?hd (xs := ([(⟨0, 1, 3⟩ : S34), (⟨1, 2, 4⟩ : S34), (⟨0, 2, 5⟩ : S34)] : List (S34))) (inner := [.int .i64 0, .int .i64 1, .int .i64 3, .int .i64 1, .int .i64 2, .int .i64 4, .int .i64 0, .int .i64 2, .int .i64 5]) (ok := fun _ => True) (okp := fun _ => True) ?hr ?hp (fun _ hk => hk) trivial (Below.refl _ _) (Nat.le_refl _) (by simp) ?_; (case hd => rfl); (case hg => rfl); (case hr => first | (go_simp; done) | (go_simp; rfl)); (case hp => exact (Reps.c3 (show Kd.M k34 _ _ _ (⟨0, 1, 3⟩ : S34) [.int .i64 0, .int .i64 1, .int .i64 3] from (k34_mkM _ _ _ (⟨0, 1, 3⟩ : S34) )) (Reps.c3 (show Kd.M k34 _ _ _ (⟨1, 2, 4⟩ : S34) [.int .i64 1, .int .i64 2, .int .i64 4] from (k34_mkM _ _ _ (⟨1, 2, 4⟩ : S34) )) (Reps.c3 (show Kd.M k34 _ _ _ (⟨0, 2, 5⟩ : S34) [.int .i64 0, .int .i64 2, .int .i64 5] from (k34_mkM _ _ _ (⟨0, 2, 5⟩ : S34) )) (Reps.none _ _))))); intro v102 w14 ho15 hb hg_ hnew_; clear hg_; rw [← Ny101.out] at ho15 hnew_; obtain ⟨g72, rfl⟩ := hnew_; have HO103 := Aside0.mk (Kd.R_lower ho15 (below_size (bf HB))); replace HB := bs HB hb; clear hb ho15; skip) | ((with_reducible refine gc 8 rfl ?_); refine gl_ (some 13) rfl rfl Tryd.func8 ((paths_Longest.calls _ _ _ _ _ _ _ _ ?side1 ?side2 A1.out (tt GT)).mono ?_) ag; (case side1 => exact rc HO103); (case side2 => exact (Kd.R_reads' HO103.out).2.1); rintro e w17 ⟨v106, rfl, ho0, hb⟩; refine ⟨_, rfl, ?_⟩; have HO107 := Aside0.mk (Kd.R_lower ho0 (below_size (bf HB))); replace HO103 := rb HO103 hb; replace HB := bs HB hb; (try clear hb); (try clear ho0)) | ((with_reducible refine gate_builtin (b := .append) (xs := #[.tmp 17, .tmp 19]) rfl ?_); (try (refine gate_guard (by rfl) ?_; dsimp only)); at_builtin; refine R_append_full k34 (w0 := w) w.heap.size rfl (.tmp 17) (.tmp 19) 22 34 (.agg #[(.int .i64 0), (.int .i64 0), (.int .i64 0)]) 24 rfl Tryd.underlying22 info34 rfl (by decide) (by omega) g72 y101 (⟨2, 1, 0⟩ : S34) [.int .i64 2, .int .i64 1, .int .i64 0] (fun _ => True) (fun _ => False) rfl rfl ?aP (fun _ hk => hk.elim) ?aF ?aO ?aB ?aS ?aL ?_; (case aP => exact k34_mkM _ _ _ (⟨2, 1, 0⟩ : S34)); (case aB => exact (bf HB)); (case aF => exact (fun _ _ => trivial)); (case aO => exact (Rt_ HO103.out)); (case aS => exact (below_size (bf HB))); (case aL => have := LMc2.out; omega); intro v109 w18 ho hold hb hg hat; rw [← Ny108.out] at ho; have n0_ := Aside0.mk (Kd.R_grown (Rt_ HO107.out) hg (fun k _ => by simp)); have n1_ := Aside0.mk (hb); have n2_ := Aside0.mk (ho); clear HO107; clear HB; clear HO103; have HO103 := Aside0.mk hold; clear hold; have HO107 := n0_; have HB := n1_; have HO110 := n2_; clear n0_ n1_ n2_; clear ho hb hg hat; obtain ⟨Ao19, co19, eo19⟩ := Kd.R_slice HO110.out; subst eo19) | ((with_reducible refine gc 8 rfl ?_); refine gl_ (some 21) rfl rfl Tryd.func8 ((paths_Longest.calls _ _ _ _ _ _ _ _ ?side1 ?side2 A3.out (tt GT)).mono ?_) ag; (case side1 => exact rc HO110); (case side2 => exact (Kd.R_reads' HO110.out).2.1); rintro e w20 ⟨v113, rfl, ho0, hb⟩; refine ⟨_, rfl, ?_⟩; have HO114 := Aside0.mk (Kd.R_lower (Kd.R_new' ho0 (rl HO107)) (below_size (bf HB))); replace HO107 := re_ HO107 (Kd.R_base ho0) hb; replace HO103 := rb HO103 hb; replace HO110 := rb HO110 hb; replace HB := bs HB hb; (try clear hb); (try clear ho0)) | ((with_reducible refine gc 12 rfl ?_); refine gl_ (some 25) rfl rfl Tryd.func12 ((paths_Way.calls _ _ _ _ _ _ _ _ ?side1 ?side2 A4.out (tt GT)).mono ?_) ag; (case side1 => exact rc HO103); (case side2 => exact (Kd.R_reads' HO103.out).2.1); rintro e w21 ⟨v116, rfl, ho0, hb⟩; refine ⟨_, rfl, ?_⟩; have HO117 := Aside0.mk (Kd.R_lower ho0 (below_size (bf HB))); replace HO107 := rb HO107 hb; replace HO110 := rb HO110 hb; replace HO114 := rb HO114 hb; replace HB := bs HB hb; (try clear hb); (try clear ho0); obtain ⟨Ao22, co22, eo22⟩ := Kd.R_slice HO107.out; subst eo22; have p118 : 0 ≤ (1 : Int) := (by omega); have q118 : 1 < (t104.length : Int) := od_; obtain ⟨ad118, e118, hx118_0⟩ := Kd.at_int (Kd.R_reads' HO107.out).2.2 1 p118 q118; cases e118; (try simp only [show (1 : Int).toNat = 1 from rfl, Nat.reduceMul, Nat.reduceEqDiff, Go.Addr.add, ↓reduceIte] at hx118_0); have qi118 : (1 < t104.length) = True := eq_true (by omega); (try rw [show ((1 : Int)).toNat = 1 from rfl] at hx118_0); replace p118 := eq_true p118; replace q118 := eq_true q118; have p119 : 0 ≤ (2 : Int) := (by omega); have q119 : 2 < (t104.length : Int) := od_; obtain ⟨ad119, e119, hx119_0⟩ := Kd.at_int (Kd.R_reads' HO107.out).2.2 2 p119 q119; obtain rfl : ad118 = ad119 := (by injection e119); (try simp only [show (2 : Int).toNat = 2 from rfl, Nat.reduceMul, Nat.reduceEqDiff, Go.Addr.add, ↓reduceIte] at hx119_0); have qi119 : (2 < t104.length) = True := eq_true (by omega); (try rw [show ((2 : Int)).toNat = 2 from rfl] at hx119_0); replace p119 := eq_true p119; replace q119 := eq_true q119; obtain ⟨Ao23, co23, eo23⟩ := Kd.R_slice HO117.out; subst eo23; have p120 : 0 ≤ (1 : Int) := (by omega); have q120 : 1 < (t115.length : Int) := od_; obtain ⟨ad120, e120, hx120_0⟩ := Kd.at_int (Kd.R_reads' HO117.out).2.2 1 p120 q120; cases e120; (try simp only [show (1 : Int).toNat = 1 from rfl, Nat.reduceMul, Nat.reduceEqDiff, Go.Addr.add, ↓reduceIte] at hx120_0); have qi120 : (1 < t115.length) = True := eq_true (by omega); (try rw [show ((1 : Int)).toNat = 1 from rfl] at hx120_0); replace p120 := eq_true p120; replace q120 := eq_true q120))
           go_ret
           exact ⟨ae, bf HB⟩
          ·rw [if_neg c13] at H
           exact absurd H (by simp)
         ·rw [if_neg c12] at H
          have c12b0 : ((t115.length : Int) == 3) = false := beq_eq_false_iff_ne.mpr c12
          have c12b1 : ((t115.length : Int) != 3) = true := bne_iff_ne.mpr c12
          obtain rfl := Option.some.inj H
          go_enter Tryd.func10, Tryd.ntmps10
          go_wp2_with (first | ((with_reducible refine gate_dst (N := 10) rfl ?_); (try (refine gate_guard (by rfl) ?_; dsimp only)); refine R_lit_full k34 _ 34 ?hg (N := 10) ?hd (xs := ([(⟨0, 1, 3⟩ : S34), (⟨1, 2, 4⟩ : S34), (⟨0, 2, 5⟩ : S34)] : List (S34))) (inner := [.int .i64 0, .int .i64 1, .int .i64 3, .int .i64 1, .int .i64 2, .int .i64 4, .int .i64 0, .int .i64 2, .int .i64 5]) (ok := fun _ => True) (okp := fun _ => True) ?hr ?hp (fun _ hk => hk) trivial (Below.refl _ _) (Nat.le_refl _) (by simp) ?_; (case hd => rfl); (case hg => rfl); (case hr => first | (go_simp; done) | (go_simp; rfl)); (case hp => exact (Reps.c3 (show Kd.M k34 _ _ _ (⟨0, 1, 3⟩ : S34) [.int .i64 0, .int .i64 1, .int .i64 3] from (k34_mkM _ _ _ (⟨0, 1, 3⟩ : S34) )) (Reps.c3 (show Kd.M k34 _ _ _ (⟨1, 2, 4⟩ : S34) [.int .i64 1, .int .i64 2, .int .i64 4] from (k34_mkM _ _ _ (⟨1, 2, 4⟩ : S34) )) (Reps.c3 (show Kd.M k34 _ _ _ (⟨0, 2, 5⟩ : S34) [.int .i64 0, .int .i64 2, .int .i64 5] from (k34_mkM _ _ _ (⟨0, 2, 5⟩ : S34) )) (Reps.none _ _))))); intro v102 w24 ho25 hb hg_ hnew_; clear hg_; rw [← Ny101.out] at ho25 hnew_; obtain ⟨g72, rfl⟩ := hnew_; have HO103 := Aside0.mk (Kd.R_lower ho25 (below_size (bf HB))); replace HB := bs HB hb; clear hb ho25; skip) | ((with_reducible refine gc 8 rfl ?_); refine gl_ (some 13) rfl rfl Tryd.func8 ((paths_Longest.calls _ _ _ _ _ _ _ _ ?side1 ?side2 A1.out (tt GT)).mono ?_) ag; (case side1 => exact rc HO103); (case side2 => exact (Kd.R_reads' HO103.out).2.1); rintro e w27 ⟨v106, rfl, ho0, hb⟩; refine ⟨_, rfl, ?_⟩; have HO107 := Aside0.mk (Kd.R_lower ho0 (below_size (bf HB))); replace HO103 := rb HO103 hb; replace HB := bs HB hb; (try clear hb); (try clear ho0)) | ((with_reducible refine gate_builtin (b := .append) (xs := #[.tmp 17, .tmp 19]) rfl ?_); (try (refine gate_guard (by rfl) ?_; dsimp only)); at_builtin; refine R_append_full k34 (w0 := w) w.heap.size rfl (.tmp 17) (.tmp 19) 22 34 (.agg #[(.int .i64 0), (.int .i64 0), (.int .i64 0)]) 24 rfl Tryd.underlying22 info34 rfl (by decide) (by omega) g72 y101 (⟨2, 1, 0⟩ : S34) [.int .i64 2, .int .i64 1, .int .i64 0] (fun _ => True) (fun _ => False) rfl rfl ?aP (fun _ hk => hk.elim) ?aF ?aO ?aB ?aS ?aL ?_; (case aP => exact k34_mkM _ _ _ (⟨2, 1, 0⟩ : S34)); (case aB => exact (bf HB)); (case aF => exact (fun _ _ => trivial)); (case aO => exact (Rt_ HO103.out)); (case aS => exact (below_size (bf HB))); (case aL => have := LMc2.out; omega); intro v109 w28 ho hold hb hg hat; rw [← Ny108.out] at ho; have n0_ := Aside0.mk (Kd.R_grown (Rt_ HO107.out) hg (fun k _ => by simp)); have n1_ := Aside0.mk (hb); have n2_ := Aside0.mk (ho); clear HO107; clear HB; clear HO103; have HO103 := Aside0.mk hold; clear hold; have HO107 := n0_; have HB := n1_; have HO110 := n2_; clear n0_ n1_ n2_; clear ho hb hg hat; obtain ⟨Ao29, co29, eo29⟩ := Kd.R_slice HO110.out; subst eo29) | ((with_reducible refine gc 8 rfl ?_); refine gl_ (some 21) rfl rfl Tryd.func8 ((paths_Longest.calls _ _ _ _ _ _ _ _ ?side1 ?side2 A3.out (tt GT)).mono ?_) ag; (case side1 => exact rc HO110); (case side2 => exact (Kd.R_reads' HO110.out).2.1); rintro e w30 ⟨v113, rfl, ho0, hb⟩; refine ⟨_, rfl, ?_⟩; have HO114 := Aside0.mk (Kd.R_lower (Kd.R_new' ho0 (rl HO107)) (below_size (bf HB))); replace HO107 := re_ HO107 (Kd.R_base ho0) hb; replace HO103 := rb HO103 hb; replace HO110 := rb HO110 hb; replace HB := bs HB hb; (try clear hb); (try clear ho0)) | ((with_reducible refine gc 12 rfl ?_); refine gl_ (some 25) rfl rfl Tryd.func12 ((paths_Way.calls _ _ _ _ _ _ _ _ ?side1 ?side2 A4.out (tt GT)).mono ?_) ag; (case side1 => exact rc HO103); (case side2 => exact (Kd.R_reads' HO103.out).2.1); rintro e w31 ⟨v116, rfl, ho0, hb⟩; refine ⟨_, rfl, ?_⟩; have HO117 := Aside0.mk (Kd.R_lower ho0 (below_size (bf HB))); replace HO107 := rb HO107 hb; replace HO110 := rb HO110 hb; replace HO114 := rb HO114 hb; replace HB := bs HB hb; (try clear hb); (try clear ho0); obtain ⟨Ao32, co32, eo32⟩ := Kd.R_slice HO107.out; subst eo32; have p118 : 0 ≤ (1 : Int) := (by omega); have q118 : 1 < (t104.length : Int) := od_; obtain ⟨ad118, e118, hx118_0⟩ := Kd.at_int (Kd.R_reads' HO107.out).2.2 1 p118 q118; cases e118; (try simp only [show (1 : Int).toNat = 1 from rfl, Nat.reduceMul, Nat.reduceEqDiff, Go.Addr.add, ↓reduceIte] at hx118_0); have qi118 : (1 < t104.length) = True := eq_true (by omega); (try rw [show ((1 : Int)).toNat = 1 from rfl] at hx118_0); replace p118 := eq_true p118; replace q118 := eq_true q118; have p119 : 0 ≤ (2 : Int) := (by omega); have q119 : 2 < (t104.length : Int) := od_; obtain ⟨ad119, e119, hx119_0⟩ := Kd.at_int (Kd.R_reads' HO107.out).2.2 2 p119 q119; obtain rfl : ad118 = ad119 := (by injection e119); (try simp only [show (2 : Int).toNat = 2 from rfl, Nat.reduceMul, Nat.reduceEqDiff, Go.Addr.add, ↓reduceIte] at hx119_0); have qi119 : (2 < t104.length) = True := eq_true (by omega); (try rw [show ((2 : Int)).toNat = 2 from rfl] at hx119_0); replace p119 := eq_true p119; replace q119 := eq_true q119; obtain ⟨Ao33, co33, eo33⟩ := Kd.R_slice HO117.out; subst eo33))
          go_ret
          exact ⟨ae, bf HB⟩
        ·rw [if_neg c11] at H
         have c11b0 : (t112 == 140) = false := beq_eq_false_iff_ne.mpr c11
         have c11b1 : (t112 != 140) = true := bne_iff_ne.mpr c11
         obtain rfl := Option.some.inj H
         go_enter Tryd.func10, Tryd.ntmps10
         go_wp2_with (first | ((with_reducible refine gate_dst (N := 10) rfl ?_); (try (refine gate_guard (by rfl) ?_; dsimp only)); refine R_lit_full k34 _ 34 ?hg (N := 10) ?hd (xs := ([(⟨0, 1, 3⟩ : S34), (⟨1, 2, 4⟩ : S34), (⟨0, 2, 5⟩ : S34)] : List (S34))) (inner := [.int .i64 0, .int .i64 1, .int .i64 3, .int .i64 1, .int .i64 2, .int .i64 4, .int .i64 0, .int .i64 2, .int .i64 5]) (ok := fun _ => True) (okp := fun _ => True) ?hr ?hp (fun _ hk => hk) trivial (Below.refl _ _) (Nat.le_refl _) (by simp) ?_; (case hd => rfl); (case hg => rfl); (case hr => first | (go_simp; done) | (go_simp; rfl)); (case hp => exact (Reps.c3 (show Kd.M k34 _ _ _ (⟨0, 1, 3⟩ : S34) [.int .i64 0, .int .i64 1, .int .i64 3] from (k34_mkM _ _ _ (⟨0, 1, 3⟩ : S34) )) (Reps.c3 (show Kd.M k34 _ _ _ (⟨1, 2, 4⟩ : S34) [.int .i64 1, .int .i64 2, .int .i64 4] from (k34_mkM _ _ _ (⟨1, 2, 4⟩ : S34) )) (Reps.c3 (show Kd.M k34 _ _ _ (⟨0, 2, 5⟩ : S34) [.int .i64 0, .int .i64 2, .int .i64 5] from (k34_mkM _ _ _ (⟨0, 2, 5⟩ : S34) )) (Reps.none _ _))))); intro v102 w34 ho35 hb hg_ hnew_; clear hg_; rw [← Ny101.out] at ho35 hnew_; obtain ⟨g72, rfl⟩ := hnew_; have HO103 := Aside0.mk (Kd.R_lower ho35 (below_size (bf HB))); replace HB := bs HB hb; clear hb ho35; skip) | ((with_reducible refine gc 8 rfl ?_); refine gl_ (some 13) rfl rfl Tryd.func8 ((paths_Longest.calls _ _ _ _ _ _ _ _ ?side1 ?side2 A1.out (tt GT)).mono ?_) ag; (case side1 => exact rc HO103); (case side2 => exact (Kd.R_reads' HO103.out).2.1); rintro e w37 ⟨v106, rfl, ho0, hb⟩; refine ⟨_, rfl, ?_⟩; have HO107 := Aside0.mk (Kd.R_lower ho0 (below_size (bf HB))); replace HO103 := rb HO103 hb; replace HB := bs HB hb; (try clear hb); (try clear ho0)) | ((with_reducible refine gate_builtin (b := .append) (xs := #[.tmp 17, .tmp 19]) rfl ?_); (try (refine gate_guard (by rfl) ?_; dsimp only)); at_builtin; refine R_append_full k34 (w0 := w) w.heap.size rfl (.tmp 17) (.tmp 19) 22 34 (.agg #[(.int .i64 0), (.int .i64 0), (.int .i64 0)]) 24 rfl Tryd.underlying22 info34 rfl (by decide) (by omega) g72 y101 (⟨2, 1, 0⟩ : S34) [.int .i64 2, .int .i64 1, .int .i64 0] (fun _ => True) (fun _ => False) rfl rfl ?aP (fun _ hk => hk.elim) ?aF ?aO ?aB ?aS ?aL ?_; (case aP => exact k34_mkM _ _ _ (⟨2, 1, 0⟩ : S34)); (case aB => exact (bf HB)); (case aF => exact (fun _ _ => trivial)); (case aO => exact (Rt_ HO103.out)); (case aS => exact (below_size (bf HB))); (case aL => have := LMc2.out; omega); intro v109 w38 ho hold hb hg hat; rw [← Ny108.out] at ho; have n0_ := Aside0.mk (Kd.R_grown (Rt_ HO107.out) hg (fun k _ => by simp)); have n1_ := Aside0.mk (hb); have n2_ := Aside0.mk (ho); clear HO107; clear HB; clear HO103; have HO103 := Aside0.mk hold; clear hold; have HO107 := n0_; have HB := n1_; have HO110 := n2_; clear n0_ n1_ n2_; clear ho hb hg hat; obtain ⟨Ao39, co39, eo39⟩ := Kd.R_slice HO110.out; subst eo39) | ((with_reducible refine gc 8 rfl ?_); refine gl_ (some 21) rfl rfl Tryd.func8 ((paths_Longest.calls _ _ _ _ _ _ _ _ ?side1 ?side2 A3.out (tt GT)).mono ?_) ag; (case side1 => exact rc HO110); (case side2 => exact (Kd.R_reads' HO110.out).2.1); rintro e w40 ⟨v113, rfl, ho0, hb⟩; refine ⟨_, rfl, ?_⟩; have HO114 := Aside0.mk (Kd.R_lower (Kd.R_new' ho0 (rl HO107)) (below_size (bf HB))); replace HO107 := re_ HO107 (Kd.R_base ho0) hb; replace HO103 := rb HO103 hb; replace HO110 := rb HO110 hb; replace HB := bs HB hb; (try clear hb); (try clear ho0)) | ((with_reducible refine gc 12 rfl ?_); refine gl_ (some 25) rfl rfl Tryd.func12 ((paths_Way.calls _ _ _ _ _ _ _ _ ?side1 ?side2 A4.out (tt GT)).mono ?_) ag; (case side1 => exact rc HO103); (case side2 => exact (Kd.R_reads' HO103.out).2.1); rintro e w41 ⟨v116, rfl, ho0, hb⟩; refine ⟨_, rfl, ?_⟩; have HO117 := Aside0.mk (Kd.R_lower ho0 (below_size (bf HB))); replace HO107 := rb HO107 hb; replace HO110 := rb HO110 hb; replace HO114 := rb HO114 hb; replace HB := bs HB hb; (try clear hb); (try clear ho0); obtain ⟨Ao42, co42, eo42⟩ := Kd.R_slice HO107.out; subst eo42; have p118 : 0 ≤ (1 : Int) := (by omega); have q118 : 1 < (t104.length : Int) := od_; obtain ⟨ad118, e118, hx118_0⟩ := Kd.at_int (Kd.R_reads' HO107.out).2.2 1 p118 q118; cases e118; (try simp only [show (1 : Int).toNat = 1 from rfl, Nat.reduceMul, Nat.reduceEqDiff, Go.Addr.add, ↓reduceIte] at hx118_0); have qi118 : (1 < t104.length) = True := eq_true (by omega); (try rw [show ((1 : Int)).toNat = 1 from rfl] at hx118_0); replace p118 := eq_true p118; replace q118 := eq_true q118; have p119 : 0 ≤ (2 : Int) := (by omega); have q119 : 2 < (t104.length : Int) := od_; obtain ⟨ad119, e119, hx119_0⟩ := Kd.at_int (Kd.R_reads' HO107.out).2.2 2 p119 q119; obtain rfl : ad118 = ad119 := (by injection e119); (try simp only [show (2 : Int).toNat = 2 from rfl, Nat.reduceMul, Nat.reduceEqDiff, Go.Addr.add, ↓reduceIte] at hx119_0); have qi119 : (2 < t104.length) = True := eq_true (by omega); (try rw [show ((2 : Int)).toNat = 2 from rfl] at hx119_0); replace p119 := eq_true p119; replace q119 := eq_true q119))
         go_ret
         exact ⟨ae, bf HB⟩
       ·rw [if_neg c10] at H
        have c10b0 : ((rd t104 2) == 7) = false := beq_eq_false_iff_ne.mpr c10
        have c10b1 : ((rd t104 2) != 7) = true := bne_iff_ne.mpr c10
        obtain rfl := Option.some.inj H
        go_enter Tryd.func10, Tryd.ntmps10
        go_wp2_with (first | ((with_reducible refine gate_dst (N := 10) rfl ?_); (try (refine gate_guard (by rfl) ?_; dsimp only)); refine R_lit_full k34 _ 34 ?hg (N := 10) ?hd (xs := ([(⟨0, 1, 3⟩ : S34), (⟨1, 2, 4⟩ : S34), (⟨0, 2, 5⟩ : S34)] : List (S34))) (inner := [.int .i64 0, .int .i64 1, .int .i64 3, .int .i64 1, .int .i64 2, .int .i64 4, .int .i64 0, .int .i64 2, .int .i64 5]) (ok := fun _ => True) (okp := fun _ => True) ?hr ?hp (fun _ hk => hk) trivial (Below.refl _ _) (Nat.le_refl _) (by simp) ?_; (case hd => rfl); (case hg => rfl); (case hr => first | (go_simp; done) | (go_simp; rfl)); (case hp => exact (Reps.c3 (show Kd.M k34 _ _ _ (⟨0, 1, 3⟩ : S34) [.int .i64 0, .int .i64 1, .int .i64 3] from (k34_mkM _ _ _ (⟨0, 1, 3⟩ : S34) )) (Reps.c3 (show Kd.M k34 _ _ _ (⟨1, 2, 4⟩ : S34) [.int .i64 1, .int .i64 2, .int .i64 4] from (k34_mkM _ _ _ (⟨1, 2, 4⟩ : S34) )) (Reps.c3 (show Kd.M k34 _ _ _ (⟨0, 2, 5⟩ : S34) [.int .i64 0, .int .i64 2, .int .i64 5] from (k34_mkM _ _ _ (⟨0, 2, 5⟩ : S34) )) (Reps.none _ _))))); intro v102 w43 ho44 hb hg_ hnew_; clear hg_; rw [← Ny101.out] at ho44 hnew_; obtain ⟨g72, rfl⟩ := hnew_; have HO103 := Aside0.mk (Kd.R_lower ho44 (below_size (bf HB))); replace HB := bs HB hb; clear hb ho44; skip) | ((with_reducible refine gc 8 rfl ?_); refine gl_ (some 13) rfl rfl Tryd.func8 ((paths_Longest.calls _ _ _ _ _ _ _ _ ?side1 ?side2 A1.out (tt GT)).mono ?_) ag; (case side1 => exact rc HO103); (case side2 => exact (Kd.R_reads' HO103.out).2.1); rintro e w46 ⟨v106, rfl, ho0, hb⟩; refine ⟨_, rfl, ?_⟩; have HO107 := Aside0.mk (Kd.R_lower ho0 (below_size (bf HB))); replace HO103 := rb HO103 hb; replace HB := bs HB hb; (try clear hb); (try clear ho0)) | ((with_reducible refine gate_builtin (b := .append) (xs := #[.tmp 17, .tmp 19]) rfl ?_); (try (refine gate_guard (by rfl) ?_; dsimp only)); at_builtin; refine R_append_full k34 (w0 := w) w.heap.size rfl (.tmp 17) (.tmp 19) 22 34 (.agg #[(.int .i64 0), (.int .i64 0), (.int .i64 0)]) 24 rfl Tryd.underlying22 info34 rfl (by decide) (by omega) g72 y101 (⟨2, 1, 0⟩ : S34) [.int .i64 2, .int .i64 1, .int .i64 0] (fun _ => True) (fun _ => False) rfl rfl ?aP (fun _ hk => hk.elim) ?aF ?aO ?aB ?aS ?aL ?_; (case aP => exact k34_mkM _ _ _ (⟨2, 1, 0⟩ : S34)); (case aB => exact (bf HB)); (case aF => exact (fun _ _ => trivial)); (case aO => exact (Rt_ HO103.out)); (case aS => exact (below_size (bf HB))); (case aL => have := LMc2.out; omega); intro v109 w47 ho hold hb hg hat; rw [← Ny108.out] at ho; have n0_ := Aside0.mk (Kd.R_grown (Rt_ HO107.out) hg (fun k _ => by simp)); have n1_ := Aside0.mk (hb); have n2_ := Aside0.mk (ho); clear HO107; clear HB; clear HO103; have HO103 := Aside0.mk hold; clear hold; have HO107 := n0_; have HB := n1_; have HO110 := n2_; clear n0_ n1_ n2_; clear ho hb hg hat; obtain ⟨Ao48, co48, eo48⟩ := Kd.R_slice HO110.out; subst eo48) | ((with_reducible refine gc 8 rfl ?_); refine gl_ (some 21) rfl rfl Tryd.func8 ((paths_Longest.calls _ _ _ _ _ _ _ _ ?side1 ?side2 A3.out (tt GT)).mono ?_) ag; (case side1 => exact rc HO110); (case side2 => exact (Kd.R_reads' HO110.out).2.1); rintro e w49 ⟨v113, rfl, ho0, hb⟩; refine ⟨_, rfl, ?_⟩; have HO114 := Aside0.mk (Kd.R_lower (Kd.R_new' ho0 (rl HO107)) (below_size (bf HB))); replace HO107 := re_ HO107 (Kd.R_base ho0) hb; replace HO103 := rb HO103 hb; replace HO110 := rb HO110 hb; replace HB := bs HB hb; (try clear hb); (try clear ho0)) | ((with_reducible refine gc 12 rfl ?_); refine gl_ (some 25) rfl rfl Tryd.func12 ((paths_Way.calls _ _ _ _ _ _ _ _ ?side1 ?side2 A4.out (tt GT)).mono ?_) ag; (case side1 => exact rc HO103); (case side2 => exact (Kd.R_reads' HO103.out).2.1); rintro e w50 ⟨v116, rfl, ho0, hb⟩; refine ⟨_, rfl, ?_⟩; have HO117 := Aside0.mk (Kd.R_lower ho0 (below_size (bf HB))); replace HO107 := rb HO107 hb; replace HO110 := rb HO110 hb; replace HO114 := rb HO114 hb; replace HB := bs HB hb; (try clear hb); (try clear ho0); obtain ⟨Ao51, co51, eo51⟩ := Kd.R_slice HO107.out; subst eo51; have p118 : 0 ≤ (1 : Int) := (by omega); have q118 : 1 < (t104.length : Int) := od_; obtain ⟨ad118, e118, hx118_0⟩ := Kd.at_int (Kd.R_reads' HO107.out).2.2 1 p118 q118; cases e118; (try simp only [show (1 : Int).toNat = 1 from rfl, Nat.reduceMul, Nat.reduceEqDiff, Go.Addr.add, ↓reduceIte] at hx118_0); have qi118 : (1 < t104.length) = True := eq_true (by omega); (try rw [show ((1 : Int)).toNat = 1 from rfl] at hx118_0); replace p118 := eq_true p118; replace q118 := eq_true q118; have p119 : 0 ≤ (2 : Int) := (by omega); have q119 : 2 < (t104.length : Int) := od_; obtain ⟨ad119, e119, hx119_0⟩ := Kd.at_int (Kd.R_reads' HO107.out).2.2 2 p119 q119; obtain rfl : ad118 = ad119 := (by injection e119); (try simp only [show (2 : Int).toNat = 2 from rfl, Nat.reduceMul, Nat.reduceEqDiff, Go.Addr.add, ↓reduceIte] at hx119_0); have qi119 : (2 < t104.length) = True := eq_true (by omega); (try rw [show ((2 : Int)).toNat = 2 from rfl] at hx119_0); replace p119 := eq_true p119; replace q119 := eq_true q119))
        go_ret
        exact ⟨ae, bf HB⟩
      ·rw [if_neg c9] at H
       exact absurd H (by simp)
     ·rw [if_neg c8] at H
      have c8b0 : ((rd t104 1) == 3) = false := beq_eq_false_iff_ne.mpr c8
      have c8b1 : ((rd t104 1) != 3) = true := bne_iff_ne.mpr c8
      obtain rfl := Option.some.inj H
      go_enter Tryd.func10, Tryd.ntmps10
      go_wp2_with (first | ((with_reducible refine gate_dst (N := 10) rfl ?_); (try (refine gate_guard (by rfl) ?_; dsimp only)); refine R_lit_full k34 _ 34 ?hg (N := 10) ?hd (xs := ([(⟨0, 1, 3⟩ : S34), (⟨1, 2, 4⟩ : S34), (⟨0, 2, 5⟩ : S34)] : List (S34))) (inner := [.int .i64 0, .int .i64 1, .int .i64 3, .int .i64 1, .int .i64 2, .int .i64 4, .int .i64 0, .int .i64 2, .int .i64 5]) (ok := fun _ => True) (okp := fun _ => True) ?hr ?hp (fun _ hk => hk) trivial (Below.refl _ _) (Nat.le_refl _) (by simp) ?_; (case hd => rfl); (case hg => rfl); (case hr => first | (go_simp; done) | (go_simp; rfl)); (case hp => exact (Reps.c3 (show Kd.M k34 _ _ _ (⟨0, 1, 3⟩ : S34) [.int .i64 0, .int .i64 1, .int .i64 3] from (k34_mkM _ _ _ (⟨0, 1, 3⟩ : S34) )) (Reps.c3 (show Kd.M k34 _ _ _ (⟨1, 2, 4⟩ : S34) [.int .i64 1, .int .i64 2, .int .i64 4] from (k34_mkM _ _ _ (⟨1, 2, 4⟩ : S34) )) (Reps.c3 (show Kd.M k34 _ _ _ (⟨0, 2, 5⟩ : S34) [.int .i64 0, .int .i64 2, .int .i64 5] from (k34_mkM _ _ _ (⟨0, 2, 5⟩ : S34) )) (Reps.none _ _))))); intro v102 w52 ho53 hb hg_ hnew_; clear hg_; rw [← Ny101.out] at ho53 hnew_; obtain ⟨g72, rfl⟩ := hnew_; have HO103 := Aside0.mk (Kd.R_lower ho53 (below_size (bf HB))); replace HB := bs HB hb; clear hb ho53; skip) | ((with_reducible refine gc 8 rfl ?_); refine gl_ (some 13) rfl rfl Tryd.func8 ((paths_Longest.calls _ _ _ _ _ _ _ _ ?side1 ?side2 A1.out (tt GT)).mono ?_) ag; (case side1 => exact rc HO103); (case side2 => exact (Kd.R_reads' HO103.out).2.1); rintro e w55 ⟨v106, rfl, ho0, hb⟩; refine ⟨_, rfl, ?_⟩; have HO107 := Aside0.mk (Kd.R_lower ho0 (below_size (bf HB))); replace HO103 := rb HO103 hb; replace HB := bs HB hb; (try clear hb); (try clear ho0)) | ((with_reducible refine gate_builtin (b := .append) (xs := #[.tmp 17, .tmp 19]) rfl ?_); (try (refine gate_guard (by rfl) ?_; dsimp only)); at_builtin; refine R_append_full k34 (w0 := w) w.heap.size rfl (.tmp 17) (.tmp 19) 22 34 (.agg #[(.int .i64 0), (.int .i64 0), (.int .i64 0)]) 24 rfl Tryd.underlying22 info34 rfl (by decide) (by omega) g72 y101 (⟨2, 1, 0⟩ : S34) [.int .i64 2, .int .i64 1, .int .i64 0] (fun _ => True) (fun _ => False) rfl rfl ?aP (fun _ hk => hk.elim) ?aF ?aO ?aB ?aS ?aL ?_; (case aP => exact k34_mkM _ _ _ (⟨2, 1, 0⟩ : S34)); (case aB => exact (bf HB)); (case aF => exact (fun _ _ => trivial)); (case aO => exact (Rt_ HO103.out)); (case aS => exact (below_size (bf HB))); (case aL => have := LMc2.out; omega); intro v109 w56 ho hold hb hg hat; rw [← Ny108.out] at ho; have n0_ := Aside0.mk (Kd.R_grown (Rt_ HO107.out) hg (fun k _ => by simp)); have n1_ := Aside0.mk (hb); have n2_ := Aside0.mk (ho); clear HO107; clear HB; clear HO103; have HO103 := Aside0.mk hold; clear hold; have HO107 := n0_; have HB := n1_; have HO110 := n2_; clear n0_ n1_ n2_; clear ho hb hg hat; obtain ⟨Ao57, co57, eo57⟩ := Kd.R_slice HO110.out; subst eo57) | ((with_reducible refine gc 8 rfl ?_); refine gl_ (some 21) rfl rfl Tryd.func8 ((paths_Longest.calls _ _ _ _ _ _ _ _ ?side1 ?side2 A3.out (tt GT)).mono ?_) ag; (case side1 => exact rc HO110); (case side2 => exact (Kd.R_reads' HO110.out).2.1); rintro e w58 ⟨v113, rfl, ho0, hb⟩; refine ⟨_, rfl, ?_⟩; have HO114 := Aside0.mk (Kd.R_lower (Kd.R_new' ho0 (rl HO107)) (below_size (bf HB))); replace HO107 := re_ HO107 (Kd.R_base ho0) hb; replace HO103 := rb HO103 hb; replace HO110 := rb HO110 hb; replace HB := bs HB hb; (try clear hb); (try clear ho0)) | ((with_reducible refine gc 12 rfl ?_); refine gl_ (some 25) rfl rfl Tryd.func12 ((paths_Way.calls _ _ _ _ _ _ _ _ ?side1 ?side2 A4.out (tt GT)).mono ?_) ag; (case side1 => exact rc HO103); (case side2 => exact (Kd.R_reads' HO103.out).2.1); rintro e w59 ⟨v116, rfl, ho0, hb⟩; refine ⟨_, rfl, ?_⟩; have HO117 := Aside0.mk (Kd.R_lower ho0 (below_size (bf HB))); replace HO107 := rb HO107 hb; replace HO110 := rb HO110 hb; replace HO114 := rb HO114 hb; replace HB := bs HB hb; (try clear hb); (try clear ho0); obtain ⟨Ao60, co60, eo60⟩ := Kd.R_slice HO107.out; subst eo60; have p118 : 0 ≤ (1 : Int) := (by omega); have q118 : 1 < (t104.length : Int) := od_; obtain ⟨ad118, e118, hx118_0⟩ := Kd.at_int (Kd.R_reads' HO107.out).2.2 1 p118 q118; cases e118; (try simp only [show (1 : Int).toNat = 1 from rfl, Nat.reduceMul, Nat.reduceEqDiff, Go.Addr.add, ↓reduceIte] at hx118_0); have qi118 : (1 < t104.length) = True := eq_true (by omega); (try rw [show ((1 : Int)).toNat = 1 from rfl] at hx118_0); replace p118 := eq_true p118; replace q118 := eq_true q118))
      go_ret
      exact ⟨ae, bf HB⟩
    ·rw [if_neg c7] at H
     exact absurd H (by simp)
   ·rw [if_neg c6] at H
    have c6b0 : ((t104.length : Int) == 3) = false := beq_eq_false_iff_ne.mpr c6
    have c6b1 : ((t104.length : Int) != 3) = true := bne_iff_ne.mpr c6
    obtain rfl := Option.some.inj H
    go_enter Tryd.func10, Tryd.ntmps10
    go_wp2_with (first | ((with_reducible refine gate_dst (N := 10) rfl ?_); (try (refine gate_guard (by rfl) ?_; dsimp only)); refine R_lit_full k34 _ 34 ?hg (N := 10) ?hd (xs := ([(⟨0, 1, 3⟩ : S34), (⟨1, 2, 4⟩ : S34), (⟨0, 2, 5⟩ : S34)] : List (S34))) (inner := [.int .i64 0, .int .i64 1, .int .i64 3, .int .i64 1, .int .i64 2, .int .i64 4, .int .i64 0, .int .i64 2, .int .i64 5]) (ok := fun _ => True) (okp := fun _ => True) ?hr ?hp (fun _ hk => hk) trivial (Below.refl _ _) (Nat.le_refl _) (by simp) ?_; (case hd => rfl); (case hg => rfl); (case hr => first | (go_simp; done) | (go_simp; rfl)); (case hp => exact (Reps.c3 (show Kd.M k34 _ _ _ (⟨0, 1, 3⟩ : S34) [.int .i64 0, .int .i64 1, .int .i64 3] from (k34_mkM _ _ _ (⟨0, 1, 3⟩ : S34) )) (Reps.c3 (show Kd.M k34 _ _ _ (⟨1, 2, 4⟩ : S34) [.int .i64 1, .int .i64 2, .int .i64 4] from (k34_mkM _ _ _ (⟨1, 2, 4⟩ : S34) )) (Reps.c3 (show Kd.M k34 _ _ _ (⟨0, 2, 5⟩ : S34) [.int .i64 0, .int .i64 2, .int .i64 5] from (k34_mkM _ _ _ (⟨0, 2, 5⟩ : S34) )) (Reps.none _ _))))); intro v102 w61 ho62 hb hg_ hnew_; clear hg_; rw [← Ny101.out] at ho62 hnew_; obtain ⟨g72, rfl⟩ := hnew_; have HO103 := Aside0.mk (Kd.R_lower ho62 (below_size (bf HB))); replace HB := bs HB hb; clear hb ho62; skip) | ((with_reducible refine gc 8 rfl ?_); refine gl_ (some 13) rfl rfl Tryd.func8 ((paths_Longest.calls _ _ _ _ _ _ _ _ ?side1 ?side2 A1.out (tt GT)).mono ?_) ag; (case side1 => exact rc HO103); (case side2 => exact (Kd.R_reads' HO103.out).2.1); rintro e w64 ⟨v106, rfl, ho0, hb⟩; refine ⟨_, rfl, ?_⟩; have HO107 := Aside0.mk (Kd.R_lower ho0 (below_size (bf HB))); replace HO103 := rb HO103 hb; replace HB := bs HB hb; (try clear hb); (try clear ho0)) | ((with_reducible refine gate_builtin (b := .append) (xs := #[.tmp 17, .tmp 19]) rfl ?_); (try (refine gate_guard (by rfl) ?_; dsimp only)); at_builtin; refine R_append_full k34 (w0 := w) w.heap.size rfl (.tmp 17) (.tmp 19) 22 34 (.agg #[(.int .i64 0), (.int .i64 0), (.int .i64 0)]) 24 rfl Tryd.underlying22 info34 rfl (by decide) (by omega) g72 y101 (⟨2, 1, 0⟩ : S34) [.int .i64 2, .int .i64 1, .int .i64 0] (fun _ => True) (fun _ => False) rfl rfl ?aP (fun _ hk => hk.elim) ?aF ?aO ?aB ?aS ?aL ?_; (case aP => exact k34_mkM _ _ _ (⟨2, 1, 0⟩ : S34)); (case aB => exact (bf HB)); (case aF => exact (fun _ _ => trivial)); (case aO => exact (Rt_ HO103.out)); (case aS => exact (below_size (bf HB))); (case aL => have := LMc2.out; omega); intro v109 w65 ho hold hb hg hat; rw [← Ny108.out] at ho; have n0_ := Aside0.mk (Kd.R_grown (Rt_ HO107.out) hg (fun k _ => by simp)); have n1_ := Aside0.mk (hb); have n2_ := Aside0.mk (ho); clear HO107; clear HB; clear HO103; have HO103 := Aside0.mk hold; clear hold; have HO107 := n0_; have HB := n1_; have HO110 := n2_; clear n0_ n1_ n2_; clear ho hb hg hat; obtain ⟨Ao66, co66, eo66⟩ := Kd.R_slice HO110.out; subst eo66) | ((with_reducible refine gc 8 rfl ?_); refine gl_ (some 21) rfl rfl Tryd.func8 ((paths_Longest.calls _ _ _ _ _ _ _ _ ?side1 ?side2 A3.out (tt GT)).mono ?_) ag; (case side1 => exact rc HO110); (case side2 => exact (Kd.R_reads' HO110.out).2.1); rintro e w67 ⟨v113, rfl, ho0, hb⟩; refine ⟨_, rfl, ?_⟩; have HO114 := Aside0.mk (Kd.R_lower (Kd.R_new' ho0 (rl HO107)) (below_size (bf HB))); replace HO107 := re_ HO107 (Kd.R_base ho0) hb; replace HO103 := rb HO103 hb; replace HO110 := rb HO110 hb; replace HB := bs HB hb; (try clear hb); (try clear ho0)) | ((with_reducible refine gc 12 rfl ?_); refine gl_ (some 25) rfl rfl Tryd.func12 ((paths_Way.calls _ _ _ _ _ _ _ _ ?side1 ?side2 A4.out (tt GT)).mono ?_) ag; (case side1 => exact rc HO103); (case side2 => exact (Kd.R_reads' HO103.out).2.1); rintro e w68 ⟨v116, rfl, ho0, hb⟩; refine ⟨_, rfl, ?_⟩; have HO117 := Aside0.mk (Kd.R_lower ho0 (below_size (bf HB))); replace HO107 := rb HO107 hb; replace HO110 := rb HO110 hb; replace HO114 := rb HO114 hb; replace HB := bs HB hb; (try clear hb); (try clear ho0); obtain ⟨Ao69, co69, eo69⟩ := Kd.R_slice HO107.out; subst eo69))
    go_ret
    exact ⟨ae, bf HB⟩
  ·rw [if_neg c5] at H
   have c5b0 : (t105 == 0) = false := beq_eq_false_iff_ne.mpr c5
   have c5b1 : (t105 != 0) = true := bne_iff_ne.mpr c5
   obtain rfl := Option.some.inj H
   go_enter Tryd.func10, Tryd.ntmps10
   go_wp2_with (first | ((with_reducible refine gate_dst (N := 10) rfl ?_); (try (refine gate_guard (by rfl) ?_; dsimp only)); refine R_lit_full k34 _ 34 ?hg (N := 10) ?hd (xs := ([(⟨0, 1, 3⟩ : S34), (⟨1, 2, 4⟩ : S34), (⟨0, 2, 5⟩ : S34)] : List (S34))) (inner := [.int .i64 0, .int .i64 1, .int .i64 3, .int .i64 1, .int .i64 2, .int .i64 4, .int .i64 0, .int .i64 2, .int .i64 5]) (ok := fun _ => True) (okp := fun _ => True) ?hr ?hp (fun _ hk => hk) trivial (Below.refl _ _) (Nat.le_refl _) (by simp) ?_; (case hd => rfl); (case hg => rfl); (case hr => first | (go_simp; done) | (go_simp; rfl)); (case hp => exact (Reps.c3 (show Kd.M k34 _ _ _ (⟨0, 1, 3⟩ : S34) [.int .i64 0, .int .i64 1, .int .i64 3] from (k34_mkM _ _ _ (⟨0, 1, 3⟩ : S34) )) (Reps.c3 (show Kd.M k34 _ _ _ (⟨1, 2, 4⟩ : S34) [.int .i64 1, .int .i64 2, .int .i64 4] from (k34_mkM _ _ _ (⟨1, 2, 4⟩ : S34) )) (Reps.c3 (show Kd.M k34 _ _ _ (⟨0, 2, 5⟩ : S34) [.int .i64 0, .int .i64 2, .int .i64 5] from (k34_mkM _ _ _ (⟨0, 2, 5⟩ : S34) )) (Reps.none _ _))))); intro v102 w70 ho71 hb hg_ hnew_; clear hg_; rw [← Ny101.out] at ho71 hnew_; obtain ⟨g72, rfl⟩ := hnew_; have HO103 := Aside0.mk (Kd.R_lower ho71 (below_size (bf HB))); replace HB := bs HB hb; clear hb ho71; skip) | ((with_reducible refine gc 8 rfl ?_); refine gl_ (some 13) rfl rfl Tryd.func8 ((paths_Longest.calls _ _ _ _ _ _ _ _ ?side1 ?side2 A1.out (tt GT)).mono ?_) ag; (case side1 => exact rc HO103); (case side2 => exact (Kd.R_reads' HO103.out).2.1); rintro e w73 ⟨v106, rfl, ho0, hb⟩; refine ⟨_, rfl, ?_⟩; have HO107 := Aside0.mk (Kd.R_lower ho0 (below_size (bf HB))); replace HO103 := rb HO103 hb; replace HB := bs HB hb; (try clear hb); (try clear ho0)) | ((with_reducible refine gate_builtin (b := .append) (xs := #[.tmp 17, .tmp 19]) rfl ?_); (try (refine gate_guard (by rfl) ?_; dsimp only)); at_builtin; refine R_append_full k34 (w0 := w) w.heap.size rfl (.tmp 17) (.tmp 19) 22 34 (.agg #[(.int .i64 0), (.int .i64 0), (.int .i64 0)]) 24 rfl Tryd.underlying22 info34 rfl (by decide) (by omega) g72 y101 (⟨2, 1, 0⟩ : S34) [.int .i64 2, .int .i64 1, .int .i64 0] (fun _ => True) (fun _ => False) rfl rfl ?aP (fun _ hk => hk.elim) ?aF ?aO ?aB ?aS ?aL ?_; (case aP => exact k34_mkM _ _ _ (⟨2, 1, 0⟩ : S34)); (case aB => exact (bf HB)); (case aF => exact (fun _ _ => trivial)); (case aO => exact (Rt_ HO103.out)); (case aS => exact (below_size (bf HB))); (case aL => have := LMc2.out; omega); intro v109 w74 ho hold hb hg hat; rw [← Ny108.out] at ho; have n0_ := Aside0.mk (Kd.R_grown (Rt_ HO107.out) hg (fun k _ => by simp)); have n1_ := Aside0.mk (hb); have n2_ := Aside0.mk (ho); clear HO107; clear HB; clear HO103; have HO103 := Aside0.mk hold; clear hold; have HO107 := n0_; have HB := n1_; have HO110 := n2_; clear n0_ n1_ n2_; clear ho hb hg hat; obtain ⟨Ao75, co75, eo75⟩ := Kd.R_slice HO110.out; subst eo75) | ((with_reducible refine gc 8 rfl ?_); refine gl_ (some 21) rfl rfl Tryd.func8 ((paths_Longest.calls _ _ _ _ _ _ _ _ ?side1 ?side2 A3.out (tt GT)).mono ?_) ag; (case side1 => exact rc HO110); (case side2 => exact (Kd.R_reads' HO110.out).2.1); rintro e w76 ⟨v113, rfl, ho0, hb⟩; refine ⟨_, rfl, ?_⟩; have HO114 := Aside0.mk (Kd.R_lower (Kd.R_new' ho0 (rl HO107)) (below_size (bf HB))); replace HO107 := re_ HO107 (Kd.R_base ho0) hb; replace HO103 := rb HO103 hb; replace HO110 := rb HO110 hb; replace HB := bs HB hb; (try clear hb); (try clear ho0)) | ((with_reducible refine gc 12 rfl ?_); refine gl_ (some 25) rfl rfl Tryd.func12 ((paths_Way.calls _ _ _ _ _ _ _ _ ?side1 ?side2 A4.out (tt GT)).mono ?_) ag; (case side1 => exact rc HO103); (case side2 => exact (Kd.R_reads' HO103.out).2.1); rintro e w77 ⟨v116, rfl, ho0, hb⟩; refine ⟨_, rfl, ?_⟩; have HO117 := Aside0.mk (Kd.R_lower ho0 (below_size (bf HB))); replace HO107 := rb HO107 hb; replace HO110 := rb HO110 hb; replace HO114 := rb HO114 hb; replace HB := bs HB hb; (try clear hb); (try clear ho0)))
   go_ret
   exact ⟨ae, bf HB⟩
 ·rw [if_neg c2] at H
  exact absurd H (by simp)

/-! ### carrefourlaw14_length: function 14 -/
theorem carrefourlaw14_length.calls (k : Nat) (A0 : Option Addr) (c0 : Nat) (l0 : List (S34)) (A1 : Option Addr) (c1 : Nat) (l1 : List Int) (r : Int) (w : World) (hr0 : Kd.C k34 w A0 l0.length l0) (hc0 : l0.length ≤ c0) (hr1 : Kd.C (Kd.int .i64) w A1 l1.length l1) (hc1 : l1.length ≤ c1) (h : carrefourlaw14_length.f k l0 l1 = some r) :
  Calls Tryd.prog 14 #[.slice A0 l0.length c0, .slice A1 l1.length c1] w fun e w' => e = .returned (.int .i64 r) ∧ Below w.heap.size w w' := by
 have HR0 := Aside0.mk hr0
 have HC0 := Aside0.mk hc0
 clear hr0 hc0
 have HR1 := Aside0.mk hr1
 have HC1 := Aside0.mk hc1
 clear hr1 hc1
 have HB := Aside0.mk (Below.refl w.heap.size w)
 have H : (carrefourlaw14_length.l0 k l0 l1 0 1) = some r := h
 clear h
 have H' := Aside0.mk H
 clear H
 go_enter Tryd.func14, Tryd.ntmps14
 go_wp2
 repeat (go_quiet (fail); try go_wp2)
 go_loopg [5, 6] k (fun kq v5 v6 w' => ∃ (x5_1 : Int) (x6_1 : Int), v5 = .int .i64 x5_1 ∧ v6 = .int .i64 x6_1 ∧ Aside0 (carrefourlaw14_length.l0 kq l0 l1 x5_1 x6_1 = some r) ∧ Aside0 (kq ≤ k) ∧ Aside0 (Below w.heap.size w w'))
 case atStart => exact ⟨(0), (1), (aq), (aq), H', ⟨Nat.le_refl _⟩, ⟨bf HB⟩⟩
 case round =>
  clear H'
  (try clear c1); (try clear p2)
  obtain ⟨x5_1, x6_1, rfl, rfl, HA, HK1, HB⟩ := hrel
  cases gk with
  | zero => exact absurd HA.out (by simp [carrefourlaw14_length.l0])
  | succ k1 =>
   have H := HA.out
   clear HA
   simp only [carrefourlaw14_length.l0] at H
   by_cases c3 : x6_1 < (l1.length : Int)
   ·rw [if_pos c3] at H
    have c3b0 : decide (x6_1 < (l1.length : Int)) = true := decide_eq_true c3
    clear c3
    have H' := Aside0.mk H
    clear H
    go_wp2
    repeat (go_quiet (fail); try go_wp2)
    go_loopg [7, 8] k1 (fun kq v7 v8 w' => ∃ (x7_2 : Int) (x8_2 : Int), v7 = .int .i64 x7_2 ∧ v8 = .int .i64 x8_2 ∧ Aside0 (carrefourlaw14_length.l1 kq l0 l1 x5_1 x6_1 x7_2 x8_2 = some r) ∧ Aside0 (kq ≤ k1) ∧ Aside0 (Below w.heap.size w w'))
    case atStart => exact ⟨((-1)), (0), (aq), (aq), H', ⟨Nat.le_refl _⟩, ⟨bf HB⟩⟩
    case round =>
     clear H'
     (try clear c1); (try clear p2); (try clear c3); (try clear c3b0); (try clear p2)
     obtain ⟨x7_2, x8_2, rfl, rfl, HA, HK2, HB⟩ := hrel
     cases gk with
     | zero => exact absurd HA.out (by simp [carrefourlaw14_length.l1])
     | succ k2 =>
      have H := HA.out
      clear HA
      simp only [carrefourlaw14_length.l1] at H
      by_cases c4 : x8_2 < (l0.length : Int)
      ·rw [if_pos c4] at H
       have c4b0 : decide (x8_2 < (l0.length : Int)) = true := decide_eq_true c4
       clear c4
       by_cases c5 : 0 ≤ x8_2
       ·rw [if_pos c5] at H
        have c5b0 : decide (0 ≤ x8_2) = true := decide_eq_true c5
        clear c5
        obtain ⟨ji6, hji6⟩ : ∃ j_ : Int, (wrap64 (x6_1 - 1)) = j_ := ⟨_, rfl⟩
        replace H : (if 0 ≤ (ji6) then (if (ji6) < (l1.length : Int) then (if ((rd_T34 l0 x8_2).f0) = (rd l1 (ji6)) then (if 0 ≤ x6_1 then (if x6_1 < (l1.length : Int) then (if ((rd_T34 l0 x8_2).f1) = (rd l1 x6_1) then (carrefourlaw14_length.l1 k2 l0 l1 x5_1 x6_1 (mx x7_2 ((rd_T34 l0 x8_2).f2)) (wrap64 (x8_2 + 1))) else (carrefourlaw14_length.l1 k2 l0 l1 x5_1 x6_1 x7_2 (wrap64 (x8_2 + 1)))) else (none)) else (none)) else (carrefourlaw14_length.l1 k2 l0 l1 x5_1 x6_1 x7_2 (wrap64 (x8_2 + 1)))) else (none)) else (none)) = some r := by first | (rw [hji6] at H; exact H) | (simp only [hji6] at H ⊢; exact H)
        have hji6w : (IntKind.i64.wrap (x6_1 - 1)) = ji6 := (i64_w _).trans hji6
        by_cases c7 : 0 ≤ (ji6)
        ·rw [if_pos c7] at H
         have c7b0 : decide (0 ≤ (ji6)) = true := decide_eq_true c7
         clear c7
         by_cases c8 : (ji6) < (l1.length : Int)
         ·rw [if_pos c8] at H
          have c8b0 : decide ((ji6) < (l1.length : Int)) = true := decide_eq_true c8
          clear c8
          by_cases c9 : ((rd_T34 l0 x8_2).f0) = (rd l1 (ji6))
          ·rw [if_pos c9] at H
           have c9b0 : (((rd_T34 l0 x8_2).f0) == (rd l1 (ji6))) = true := beq_iff_eq.mpr c9
           have c9b1 : (((rd_T34 l0 x8_2).f0) != (rd l1 (ji6))) = false := bne_eq_false_iff_eq.mpr c9
           clear c9
           by_cases c10 : 0 ≤ x6_1
           ·rw [if_pos c10] at H
            have c10b0 : decide (0 ≤ x6_1) = true := decide_eq_true c10
            clear c10
            by_cases c11 : x6_1 < (l1.length : Int)
            ·rw [if_pos c11] at H
             have c11b0 : decide (x6_1 < (l1.length : Int)) = true := decide_eq_true c11
             clear c11
             by_cases c12 : ((rd_T34 l0 x8_2).f1) = (rd l1 x6_1)
             ·rw [if_pos c12] at H
              have c12b0 : (((rd_T34 l0 x8_2).f1) == (rd l1 x6_1)) = true := beq_iff_eq.mpr c12
              have c12b1 : (((rd_T34 l0 x8_2).f1) != (rd l1 x6_1)) = false := bne_eq_false_iff_eq.mpr c12
              clear c12
              obtain ⟨ji13, hji13⟩ : ∃ j_ : Int, (mx x7_2 ((rd_T34 l0 x8_2).f2)) = j_ := ⟨_, rfl⟩
              replace H : (carrefourlaw14_length.l1 k2 l0 l1 x5_1 x6_1 ji13 (wrap64 (x8_2 + 1))) = some r := by first | (rw [hji13] at H; exact H) | (simp only [hji13] at H ⊢; exact H)
              have hji13_ : (if x7_2 < ((rd_T34 l0 x8_2).f2) then ((rd_T34 l0 x8_2).f2) else x7_2) = ji13 := hji13
              have H' := Aside0.mk H
              clear H
              have p121 : 0 ≤ (x8_2 : Int) := od_
              have q121 : x8_2 < (l0.length : Int) := od_
              obtain ⟨ad121, e121, hx121_0, hx121_1, hx121_2⟩ := at_T34 HR0.out x8_2 p121 q121
              cases e121
              replace hx121_0 := hx_ HB hx121_0
              replace hx121_1 := hx_ HB hx121_1
              replace hx121_2 := hx_ HB hx121_2
              replace p121 := eq_true p121
              replace q121 := eq_true q121
              have p122 : 0 ≤ ((ji6) : Int) := od_
              have q122 : (ji6) < (l1.length : Int) := od_
              obtain ⟨ad122, e122, hx122_0⟩ := Kd.at_int HR1.out (ji6) p122 q122
              cases e122
              replace hx122_0 := hx_ HB hx122_0
              replace p122 := eq_true p122
              replace q122 := eq_true q122
              have p123 : 0 ≤ (x8_2 : Int) := od_
              have q123 : x8_2 < (l0.length : Int) := od_
              obtain ⟨ad123, e123, hx123_0, hx123_1, hx123_2⟩ := at_T34 HR0.out x8_2 p123 q123
              obtain rfl : ad121 = ad123 := (by injection e123)
              replace hx123_0 := hx_ HB hx123_0
              replace hx123_1 := hx_ HB hx123_1
              replace hx123_2 := hx_ HB hx123_2
              replace p123 := eq_true p123
              replace q123 := eq_true q123
              have p124 : 0 ≤ (x6_1 : Int) := od_
              have q124 : x6_1 < (l1.length : Int) := od_
              obtain ⟨ad124, e124, hx124_0⟩ := Kd.at_int HR1.out x6_1 p124 q124
              obtain rfl : ad122 = ad124 := (by injection e124)
              replace hx124_0 := hx_ HB hx124_0
              replace p124 := eq_true p124
              replace q124 := eq_true q124
              have p125 : 0 ≤ (x8_2 : Int) := od_
              have q125 : x8_2 < (l0.length : Int) := od_
              obtain ⟨ad125, e125, hx125_0, hx125_1, hx125_2⟩ := at_T34 HR0.out x8_2 p125 q125
              obtain rfl : ad121 = ad125 := (by injection e125)
              replace hx125_0 := hx_ HB hx125_0
              replace hx125_1 := hx_ HB hx125_1
              replace hx125_2 := hx_ HB hx125_2
              replace p125 := eq_true p125
              replace q125 := eq_true q125
              go_wp2
              repeat (go_quiet (fail); try go_wp2)
              go_roundg k2
              case measure => have := HK1.out; have := HK2.out; omega
              case rel => exact ⟨(ji13), (wrap64 (x8_2 + 1)), (by first | rfl | (simp; done) | (simp only [← hji13] <;> (first | rfl | simp)) | (simp [*]; done)), (aq), H', ⟨by have := HK1.out; have := HK2.out; omega⟩, ⟨bf HB⟩⟩
             ·rw [if_neg c12] at H
              have c12b0 : (((rd_T34 l0 x8_2).f1) == (rd l1 x6_1)) = false := beq_eq_false_iff_ne.mpr c12
              have c12b1 : (((rd_T34 l0 x8_2).f1) != (rd l1 x6_1)) = true := bne_iff_ne.mpr c12
              have H' := Aside0.mk H
              clear H
              have p121 : 0 ≤ (x8_2 : Int) := od_
              have q121 : x8_2 < (l0.length : Int) := od_
              obtain ⟨ad121, e121, hx121_0, hx121_1, hx121_2⟩ := at_T34 HR0.out x8_2 p121 q121
              cases e121
              replace hx121_0 := hx_ HB hx121_0
              replace hx121_1 := hx_ HB hx121_1
              replace hx121_2 := hx_ HB hx121_2
              replace p121 := eq_true p121
              replace q121 := eq_true q121
              have p122 : 0 ≤ ((ji6) : Int) := od_
              have q122 : (ji6) < (l1.length : Int) := od_
              obtain ⟨ad122, e122, hx122_0⟩ := Kd.at_int HR1.out (ji6) p122 q122
              cases e122
              replace hx122_0 := hx_ HB hx122_0
              replace p122 := eq_true p122
              replace q122 := eq_true q122
              have p123 : 0 ≤ (x8_2 : Int) := od_
              have q123 : x8_2 < (l0.length : Int) := od_
              obtain ⟨ad123, e123, hx123_0, hx123_1, hx123_2⟩ := at_T34 HR0.out x8_2 p123 q123
              obtain rfl : ad121 = ad123 := (by injection e123)
              replace hx123_0 := hx_ HB hx123_0
              replace hx123_1 := hx_ HB hx123_1
              replace hx123_2 := hx_ HB hx123_2
              replace p123 := eq_true p123
              replace q123 := eq_true q123
              have p124 : 0 ≤ (x6_1 : Int) := od_
              have q124 : x6_1 < (l1.length : Int) := od_
              obtain ⟨ad124, e124, hx124_0⟩ := Kd.at_int HR1.out x6_1 p124 q124
              obtain rfl : ad122 = ad124 := (by injection e124)
              replace hx124_0 := hx_ HB hx124_0
              replace p124 := eq_true p124
              replace q124 := eq_true q124
              go_wp2
              repeat (go_quiet (fail); try go_wp2)
              go_roundg k2
              case measure => have := HK1.out; have := HK2.out; omega
              case rel => exact ⟨(x7_2), (wrap64 (x8_2 + 1)), (aq), (aq), H', ⟨by have := HK1.out; have := HK2.out; omega⟩, ⟨bf HB⟩⟩
            ·rw [if_neg c11] at H
             exact absurd H (by simp)
           ·rw [if_neg c10] at H
            exact absurd H (by simp)
          ·rw [if_neg c9] at H
           have c9b0 : (((rd_T34 l0 x8_2).f0) == (rd l1 (ji6))) = false := beq_eq_false_iff_ne.mpr c9
           have c9b1 : (((rd_T34 l0 x8_2).f0) != (rd l1 (ji6))) = true := bne_iff_ne.mpr c9
           have H' := Aside0.mk H
           clear H
           have p121 : 0 ≤ (x8_2 : Int) := od_
           have q121 : x8_2 < (l0.length : Int) := od_
           obtain ⟨ad121, e121, hx121_0, hx121_1, hx121_2⟩ := at_T34 HR0.out x8_2 p121 q121
           cases e121
           replace hx121_0 := hx_ HB hx121_0
           replace hx121_1 := hx_ HB hx121_1
           replace hx121_2 := hx_ HB hx121_2
           replace p121 := eq_true p121
           replace q121 := eq_true q121
           have p122 : 0 ≤ ((ji6) : Int) := od_
           have q122 : (ji6) < (l1.length : Int) := od_
           obtain ⟨ad122, e122, hx122_0⟩ := Kd.at_int HR1.out (ji6) p122 q122
           cases e122
           replace hx122_0 := hx_ HB hx122_0
           replace p122 := eq_true p122
           replace q122 := eq_true q122
           go_wp2
           repeat (go_quiet (fail); try go_wp2)
           go_roundg k2
           case measure => have := HK1.out; have := HK2.out; omega
           case rel => exact ⟨(x7_2), (wrap64 (x8_2 + 1)), (aq), (aq), H', ⟨by have := HK1.out; have := HK2.out; omega⟩, ⟨bf HB⟩⟩
         ·rw [if_neg c8] at H
          exact absurd H (by simp)
        ·rw [if_neg c7] at H
         exact absurd H (by simp)
       ·rw [if_neg c5] at H
        exact absurd H (by simp)
      ·rw [if_neg c4] at H
       have c4b0 : decide (x8_2 < (l0.length : Int)) = false := decide_eq_false c4
       clear c4
       have H' := Aside0.mk H
       clear H
       go_wp2
       repeat (go_quiet (fail); try go_wp2)
       go_loopg [9] k2 (fun kq v9 w' => ∃ (x9_3 : Int), v9 = .int .i64 x9_3 ∧ Aside0 (carrefourlaw14_length.l2 kq l0 l1 x5_1 x6_1 x7_2 x9_3 = some r) ∧ Aside0 (kq ≤ k2) ∧ Aside0 (Below w.heap.size w w'))
       case atStart => exact ⟨(0), (aq), H', ⟨Nat.le_refl _⟩, ⟨bf HB⟩⟩
       case round =>
        clear H'
        (try clear c1); (try clear p1); (try clear q1); (try clear hx1); (try clear p2); (try clear c3); (try clear c3b0); (try clear c4); (try clear c4b0); (try clear c5); (try clear c5b0); (try clear p6); (try clear c7); (try clear c7b0); (try clear c8); (try clear c8b0); (try clear c9); (try clear c9b0); (try clear c9b1); (try clear c10); (try clear c10b0); (try clear c11); (try clear c11b0); (try clear c12); (try clear c12b0); (try clear c12b1); (try clear p12); (try clear q12); (try clear hx12); (try clear hx121_0); (try clear hx121_1); (try clear hx121_2); (try clear hx122_0); (try clear hx123_0); (try clear hx123_1); (try clear hx123_2); (try clear hx124_0); (try clear hx125_0); (try clear hx125_1); (try clear hx125_2); (try clear p121); (try clear p122); (try clear p123); (try clear p124); (try clear p125); (try clear p2); (try clear q121); (try clear q122); (try clear q123); (try clear q124); (try clear q125)
        obtain ⟨x9_3, rfl, HA, HK3, HB⟩ := hrel
        cases gk with
        | zero => exact absurd HA.out (by simp [carrefourlaw14_length.l2])
        | succ k3 =>
         have H := HA.out
         clear HA
         simp only [carrefourlaw14_length.l2] at H
         by_cases c14 : x9_3 < x6_1
         ·rw [if_pos c14] at H
          have c14b0 : decide (x9_3 < x6_1) = true := decide_eq_true c14
          clear c14
          by_cases c15 : 0 ≤ x9_3
          ·rw [if_pos c15] at H
           have c15b0 : decide (0 ≤ x9_3) = true := decide_eq_true c15
           clear c15
           by_cases c16 : x9_3 < (l1.length : Int)
           ·rw [if_pos c16] at H
            have c16b0 : decide (x9_3 < (l1.length : Int)) = true := decide_eq_true c16
            clear c16
            by_cases c17 : 0 ≤ x6_1
            ·rw [if_pos c17] at H
             have c17b0 : decide (0 ≤ x6_1) = true := decide_eq_true c17
             clear c17
             by_cases c18 : x6_1 < (l1.length : Int)
             ·rw [if_pos c18] at H
              have c18b0 : decide (x6_1 < (l1.length : Int)) = true := decide_eq_true c18
              clear c18
              by_cases c19 : (rd l1 x9_3) = (rd l1 x6_1)
              ·rw [if_pos c19] at H
               have c19b0 : ((rd l1 x9_3) == (rd l1 x6_1)) = true := beq_iff_eq.mpr c19
               have c19b1 : ((rd l1 x9_3) != (rd l1 x6_1)) = false := bne_eq_false_iff_eq.mpr c19
               clear c19
               obtain rfl := Option.some.inj H
               have p126 : 0 ≤ (x9_3 : Int) := od_
               have q126 : x9_3 < (l1.length : Int) := od_
               obtain ⟨ad126, e126, hx126_0⟩ := Kd.at_int HR1.out x9_3 p126 q126
               cases e126
               replace hx126_0 := hx_ HB hx126_0
               replace p126 := eq_true p126
               replace q126 := eq_true q126
               have p127 : 0 ≤ (x6_1 : Int) := od_
               have q127 : x6_1 < (l1.length : Int) := od_
               obtain ⟨ad127, e127, hx127_0⟩ := Kd.at_int HR1.out x6_1 p127 q127
               obtain rfl : ad126 = ad127 := (by injection e127)
               replace hx127_0 := hx_ HB hx127_0
               replace p127 := eq_true p127
               replace q127 := eq_true q127
               go_wp2
               repeat (go_quiet (fail); try go_wp2)
               go_ret
               exact ⟨ae, bf HB⟩
              ·rw [if_neg c19] at H
               have c19b0 : ((rd l1 x9_3) == (rd l1 x6_1)) = false := beq_eq_false_iff_ne.mpr c19
               have c19b1 : ((rd l1 x9_3) != (rd l1 x6_1)) = true := bne_iff_ne.mpr c19
               have H' := Aside0.mk H
               clear H
               have p126 : 0 ≤ (x9_3 : Int) := od_
               have q126 : x9_3 < (l1.length : Int) := od_
               obtain ⟨ad126, e126, hx126_0⟩ := Kd.at_int HR1.out x9_3 p126 q126
               cases e126
               replace hx126_0 := hx_ HB hx126_0
               replace p126 := eq_true p126
               replace q126 := eq_true q126
               have p127 : 0 ≤ (x6_1 : Int) := od_
               have q127 : x6_1 < (l1.length : Int) := od_
               obtain ⟨ad127, e127, hx127_0⟩ := Kd.at_int HR1.out x6_1 p127 q127
               obtain rfl : ad126 = ad127 := (by injection e127)
               replace hx127_0 := hx_ HB hx127_0
               replace p127 := eq_true p127
               replace q127 := eq_true q127
               go_wp2
               repeat (go_quiet (fail); try go_wp2)
               go_roundg k3
               case measure => have := HK1.out; have := HK2.out; have := HK3.out; omega
               case rel => exact ⟨(wrap64 (x9_3 + 1)), (aq), H', ⟨by have := HK1.out; have := HK2.out; have := HK3.out; omega⟩, ⟨bf HB⟩⟩
             ·rw [if_neg c18] at H
              exact absurd H (by simp)
            ·rw [if_neg c17] at H
             exact absurd H (by simp)
           ·rw [if_neg c16] at H
            exact absurd H (by simp)
          ·rw [if_neg c15] at H
           exact absurd H (by simp)
         ·rw [if_neg c14] at H
          have c14b0 : decide (x9_3 < x6_1) = false := decide_eq_false c14
          clear c14
          by_cases c20 : x7_2 < 0
          ·rw [if_pos c20] at H
           have c20b0 : decide (x7_2 < 0) = true := decide_eq_true c20
           clear c20
           obtain rfl := Option.some.inj H
           go_wp2
           repeat (go_quiet (fail); try go_wp2)
           go_ret
           exact ⟨ae, bf HB⟩
          ·rw [if_neg c20] at H
           have c20b0 : decide (x7_2 < 0) = false := decide_eq_false c20
           clear c20
           have H' := Aside0.mk H
           clear H
           go_wp2
           repeat (go_quiet (fail); try go_wp2)
           go_roundg k3
           case measure => have := HK1.out; have := HK2.out; have := HK3.out; omega
           case rel => exact ⟨(wrap64 (x5_1 + x7_2)), (wrap64 (x6_1 + 1)), (aq), (aq), H', ⟨by have := HK1.out; have := HK2.out; have := HK3.out; omega⟩, ⟨bf HB⟩⟩
   ·rw [if_neg c3] at H
    have c3b0 : decide (x6_1 < (l1.length : Int)) = false := decide_eq_false c3
    clear c3
    obtain rfl := Option.some.inj H
    go_wp2
    repeat (go_quiet (fail); try go_wp2)
    go_ret
    exact ⟨ae, bf HB⟩

end Go.Proofs.YtcdddmaibchjjaaDoor.X
