/- Walks: each '.calls' says that the Go function comes to what its Lean function tells. Conditions: as each theorem's head says. -/
import Derived.Test.YtcdddmaibchjjaaDoorXD
import Derived.Test.YtcdddmaibchjjaaDoorX0
import Derived.Test.YtcdddmaibchjjaaDoorHL
namespace Go.Proofs.YtcdddmaibchjjaaDoor.X
open Go.RowKit Go.Proofs.YtcdddmaibchjjaaDoorW.PrintWords Go.Proofs.YtcdddmaibchjjaaDoorW.PrintLast Go.Proofs.YtcdddmaibchjjaaDoorW.PrintMore
attribute [local go_sem] max2_int min2_int max_two min_two max_three min_three max_four min_four   -- for this text's walks alone
set_option linter.unusedVariables false
set_option maxHeartbeats 8000000
set_option maxRecDepth 100000
set_option linter.unusedSimpArgs false

/-! ### carrefourlaw14_few: function 7 -/
theorem carrefourlaw14_few.calls (a0 : Int) (A1 : Option Addr) (c1 : Nat) (l1 : List (S34)) (r : Bool) (w : World) (hr1 : Kd.C k34 w A1 l1.length l1) (hc1 : l1.length ≤ c1) (h : carrefourlaw14_few.f a0 l1 = some r) :
  Calls Tryd.prog 7 #[.int .i64 a0, .slice A1 l1.length c1] w fun e w' => e = .returned (.bool r) ∧ Drawn0 w w' := by
 have HR1 := Aside0.mk hr1
 have HC1 := Aside0.mk hc1
 clear hr1 hc1
 have H : (if a0 ≤ 12 then (some (decide ((l1.length : Int) ≤ 60))) else (if a0 > 64 then (some (decide ((l1.length : Int) ≤ 60))) else (some false))) = some r := h
 clear h
 by_cases c3 : a0 ≤ 12
 ·rw [if_pos c3] at H
  have c3b0 : decide (a0 ≤ 12) = true := decide_eq_true c3
  clear c3
  obtain rfl := Option.some.inj H
  go_enter Tryd.func7, Tryd.ntmps7
  go_wp2
  go_ret
  exact ⟨aq, dr⟩
 ·rw [if_neg c3] at H
  have c3b0 : decide (a0 ≤ 12) = false := decide_eq_false c3
  clear c3
  by_cases c4 : a0 > 64
  ·rw [if_pos c4] at H
   have c4b0 : decide (64 < a0) = true := decide_eq_true c4
   clear c4
   obtain rfl := Option.some.inj H
   go_enter Tryd.func7, Tryd.ntmps7
   go_wp2
   go_ret
   exact ⟨aq, dr⟩
  ·rw [if_neg c4] at H
   have c4b0 : decide (64 < a0) = false := decide_eq_false c4
   clear c4
   obtain rfl := Option.some.inj H
   go_enter Tryd.func7, Tryd.ntmps7
   go_wp2
   go_ret
   exact ⟨aq, dr⟩


/-! ### paths_Longest: function 8 -/
/-! ### paths_Way: function 12 -/
/-! ### carrefourlaw14_awake: function 10 -/
theorem carrefourlaw14_awake.calls (k : Nat)  (r : Bool) (w : World) (h : carrefourlaw14_awake.f k  = some r) (hT : TabOK w) :
  Calls Tryd.prog 10 #[] w fun e w' => e = .returned (.bool r) ∧ Below w.heap.size w w' := by
 have GT := Aside0.mk hT
 clear hT
 have hu34 := Tryd.underlying34
 have HB := Aside0.mk (Below.refl w.heap.size w)
 have H : ((some (([(⟨0, 1, 3⟩ : S34), (⟨1, 2, 4⟩ : S34), (⟨0, 2, 5⟩ : S34)] : List (S34)) : List (S34))).bind fun y101 => ((paths_Longest.f k 3 y101).bind fun bt104 => (if y101.length < 5864062014805 then ((paths_Longest.f k 3 (y101 ++ [(⟨2, 1, 0⟩ : S34)])).bind fun bt111 => ((paths_Way.f k 3 y101 2).bind fun t115 => (if bt104.2 = 0 then (if (bt104.1.length : Int) = 3 then (if 1 < (bt104.1.length : Int) then (if (rd bt104.1 1) = 3 then (if 2 < (bt104.1.length : Int) then (if (rd bt104.1 2) = 7 then (if bt111.2 = 140 then (if (t115.length : Int) = 3 then (if 1 < (t115.length : Int) then (some ((rd t115 1) == 1)) else (none)) else (some false)) else (some false)) else (some false)) else (none)) else (some false)) else (none)) else (some false)) else (some false)))) else (none)))) = some r := h
 clear h
 obtain ⟨y101, hy101⟩ : ∃ y_ : List (S34), y_ = (([(⟨0, 1, 3⟩ : S34), (⟨1, 2, 4⟩ : S34), (⟨0, 2, 5⟩ : S34)] : List (S34))) := ⟨_, rfl⟩
 replace H : ((paths_Longest.f k 3 y101).bind fun bt104 => (if y101.length < 5864062014805 then ((paths_Longest.f k 3 (y101 ++ [(⟨2, 1, 0⟩ : S34)])).bind fun bt111 => ((paths_Way.f k 3 y101 2).bind fun t115 => (if bt104.2 = 0 then (if (bt104.1.length : Int) = 3 then (if 1 < (bt104.1.length : Int) then (if (rd bt104.1 1) = 3 then (if 2 < (bt104.1.length : Int) then (if (rd bt104.1 2) = 7 then (if bt111.2 = 140 then (if (t115.length : Int) = 3 then (if 1 < (t115.length : Int) then (some ((rd t115 1) == 1)) else (none)) else (some false)) else (some false)) else (some false)) else (none)) else (some false)) else (none)) else (some false)) else (some false)))) else (none))) = some r := by first | (rw [hy101]; with_reducible exact H) | (have H2_ := (Option.bind_some _ _).symm.trans H; rw [hy101]; with_reducible exact H2_) | (have H2_ := (Option.bind_some _ _).symm.trans H; with_reducible exact H2_) | with_reducible exact H | (rw [hy101]; exact H) | exact H
 have Ny101 := Aside0.mk hy101
 clear hy101
 replace H := bi_ H; obtain ⟨⟨t104, t105⟩, A1, H⟩ := H
 (try dsimp only at H)
 by_cases c2 : y101.length < 5864062014805
 ·rw [if_pos c2] at H
  have LMc2 := Aside0.mk c2
  clear c2
  obtain ⟨y108, hy108⟩ : ∃ y_ : List (S34), y_ = (y101 ++ [(⟨2, 1, 0⟩ : S34)]) := ⟨_, rfl⟩
  replace H : ((paths_Longest.f k 3 y108).bind fun bt111 => ((paths_Way.f k 3 y101 2).bind fun t115 => (if t105 = 0 then (if (t104.length : Int) = 3 then (if 1 < (t104.length : Int) then (if (rd t104 1) = 3 then (if 2 < (t104.length : Int) then (if (rd t104 2) = 7 then (if bt111.2 = 140 then (if (t115.length : Int) = 3 then (if 1 < (t115.length : Int) then (some ((rd t115 1) == 1)) else (none)) else (some false)) else (some false)) else (some false)) else (none)) else (some false)) else (none)) else (some false)) else (some false)))) = some r := by first | (rw [hy108]; with_reducible exact H) | (have H2_ := (Option.bind_some _ _).symm.trans H; rw [hy108]; with_reducible exact H2_) | (have H2_ := (Option.bind_some _ _).symm.trans H; with_reducible exact H2_) | with_reducible exact H | (rw [hy108]; exact H) | exact H
  have Ny108 := Aside0.mk hy108
  clear hy108
  replace H := bi_ H; obtain ⟨⟨t111, t112⟩, A3, H⟩ := H
  (try dsimp only at H)
  replace H := bi_ H; obtain ⟨t115, A4, H⟩ := H
  (try dsimp only at H)
  by_cases c5 : t105 = 0
  ·rw [if_pos c5] at H
   have c5b0 : (t105 == 0) = true := beq_iff_eq.mpr c5
   have c5b1 : (t105 != 0) = false := bne_eq_false_iff_eq.mpr c5
   clear c5
   by_cases c6 : (t104.length : Int) = 3
   ·rw [if_pos c6] at H
    have c6b0 : ((t104.length : Int) == 3) = true := beq_iff_eq.mpr c6
    have c6b1 : ((t104.length : Int) != 3) = false := bne_eq_false_iff_eq.mpr c6
    clear c6
    by_cases c7 : 1 < (t104.length : Int)
    ·rw [if_pos c7] at H
     have c7b0 : decide (1 < (t104.length : Int)) = true := decide_eq_true c7
     have c7b1 : decide (1 < t104.length) = true := decide_eq_true (by omega)
     clear c7
     by_cases c8 : (rd t104 1) = 3
     ·rw [if_pos c8] at H
      have c8b0 : ((rd t104 1) == 3) = true := beq_iff_eq.mpr c8
      have c8b1 : ((rd t104 1) != 3) = false := bne_eq_false_iff_eq.mpr c8
      clear c8
      by_cases c9 : 2 < (t104.length : Int)
      ·rw [if_pos c9] at H
       have c9b0 : decide (2 < (t104.length : Int)) = true := decide_eq_true c9
       have c9b1 : decide (2 < t104.length) = true := decide_eq_true (by omega)
       clear c9
       by_cases c10 : (rd t104 2) = 7
       ·rw [if_pos c10] at H
        have c10b0 : ((rd t104 2) == 7) = true := beq_iff_eq.mpr c10
        have c10b1 : ((rd t104 2) != 7) = false := bne_eq_false_iff_eq.mpr c10
        clear c10
        by_cases c11 : t112 = 140
        ·rw [if_pos c11] at H
         have c11b0 : (t112 == 140) = true := beq_iff_eq.mpr c11
         have c11b1 : (t112 != 140) = false := bne_eq_false_iff_eq.mpr c11
         clear c11
         by_cases c12 : (t115.length : Int) = 3
         ·rw [if_pos c12] at H
          have c12b0 : ((t115.length : Int) == 3) = true := beq_iff_eq.mpr c12
          have c12b1 : ((t115.length : Int) != 3) = false := bne_eq_false_iff_eq.mpr c12
          clear c12
          by_cases c13 : 1 < (t115.length : Int)
          ·rw [if_pos c13] at H
           have c13b0 : decide (1 < (t115.length : Int)) = true := decide_eq_true c13
           have c13b1 : decide (1 < t115.length) = true := decide_eq_true (by omega)
           clear c13
           obtain rfl := Option.some.inj H
           go_enter Tryd.func10, Tryd.ntmps10
           go_wp2_with (first | ((with_reducible refine gate_dst (N := 10) rfl ?_); (try (refine gate_guard (by rfl) ?_; dsimp only)); refine R_lit_full k34 _ 34 ?hg (N := 10) ?hd (xs := ([(⟨0, 1, 3⟩ : S34), (⟨1, 2, 4⟩ : S34), (⟨0, 2, 5⟩ : S34)] : List (S34))) (inner := [.int .i64 0, .int .i64 1, .int .i64 3, .int .i64 1, .int .i64 2, .int .i64 4, .int .i64 0, .int .i64 2, .int .i64 5]) (ok := fun _ => True) (okp := fun _ => True) ?hr ?hp (fun _ hk => hk) trivial (Below.refl _ _) (Nat.le_refl _) (by simp) ?_; (case hd => rfl); (case hg => rfl); (case hr => first | (go_simp; done) | (go_simp; rfl)); (case hp => exact (Reps.c3 (show Kd.M k34 _ _ _ (⟨0, 1, 3⟩ : S34) [.int .i64 0, .int .i64 1, .int .i64 3] from (k34_mkM _ _ _ (⟨0, 1, 3⟩ : S34) )) (Reps.c3 (show Kd.M k34 _ _ _ (⟨1, 2, 4⟩ : S34) [.int .i64 1, .int .i64 2, .int .i64 4] from (k34_mkM _ _ _ (⟨1, 2, 4⟩ : S34) )) (Reps.c3 (show Kd.M k34 _ _ _ (⟨0, 2, 5⟩ : S34) [.int .i64 0, .int .i64 2, .int .i64 5] from (k34_mkM _ _ _ (⟨0, 2, 5⟩ : S34) )) (Reps.none _ _))))); intro v102 w14 ho15 hb hg_ hnew_; clear hg_; rw [← Ny101.out] at ho15 hnew_; obtain ⟨g72, rfl⟩ := hnew_; have HO103 := Aside0.mk (Kd.R_lower ho15 (below_size (bf HB))); replace HB := bs HB hb; clear hb ho15; skip) | ((with_reducible refine gc 8 rfl ?_); refine gl_ (some 13) rfl rfl Tryd.func8 ((paths_Longest.calls _ _ _ _ _ _ _ _ ?side1 ?side2 A1.out (tt GT)).mono ?_) ag; (case side1 => exact rc HO103); (case side2 => exact (Kd.R_reads' HO103.out).2.1); rintro e w17 ⟨v106, rfl, ho0, hb⟩; refine ⟨_, rfl, ?_⟩; have HO107 := Aside0.mk (Kd.R_lower ho0 (below_size (bf HB))); replace HO103 := rb HO103 hb; replace HB := bs HB hb; (try clear hb); (try clear ho0)) | ((with_reducible refine gate_builtin (b := .append) (xs := #[.tmp 17, .tmp 19]) rfl ?_); (try (refine gate_guard (by rfl) ?_; dsimp only)); at_builtin; refine R_append_full k34 (w0 := w) w.heap.size rfl (.tmp 17) (.tmp 19) 22 34 (.agg #[(.int .i64 0), (.int .i64 0), (.int .i64 0)]) 24 rfl Tryd.underlying22 info34 rfl (by decide) (by omega) g72 y101 (⟨2, 1, 0⟩ : S34) [.int .i64 2, .int .i64 1, .int .i64 0] (fun _ => True) (fun _ => False) rfl rfl ?aP (fun _ hk => hk.elim) ?aF ?aO ?aB ?aS ?aL ?_; (case aP => exact k34_mkM _ _ _ (⟨2, 1, 0⟩ : S34)); (case aB => exact (bf HB)); (case aF => exact (fun _ _ => trivial)); (case aO => exact (Rt_ HO103.out)); (case aS => exact (below_size (bf HB))); (case aL => have := LMc2.out; omega); intro v109 w18 ho hold hb hg hat; rw [← Ny108.out] at ho; have n0_ := Aside0.mk (Kd.R_grown (Rt_ HO107.out) hg (fun k _ => by simp)); have n1_ := Aside0.mk (hb); have n2_ := Aside0.mk (ho); clear HO107; clear HB; clear HO103; have HO103 := Aside0.mk hold; clear hold; have HO107 := n0_; have HB := n1_; have HO110 := n2_; clear n0_ n1_ n2_; clear ho hb hg hat; obtain ⟨Ao19, co19, eo19⟩ := Kd.R_slice HO110.out; subst eo19) | ((with_reducible refine gc 8 rfl ?_); refine gl_ (some 21) rfl rfl Tryd.func8 ((paths_Longest.calls _ _ _ _ _ _ _ _ ?side1 ?side2 A3.out (tt GT)).mono ?_) ag; (case side1 => exact rc HO110); (case side2 => exact (Kd.R_reads' HO110.out).2.1); rintro e w20 ⟨v113, rfl, ho0, hb⟩; refine ⟨_, rfl, ?_⟩; have HO114 := Aside0.mk (Kd.R_lower (Kd.R_new' ho0 (rl HO107)) (below_size (bf HB))); replace HO107 := re_ HO107 (Kd.R_base ho0) hb; replace HO103 := rb HO103 hb; replace HO110 := rb HO110 hb; replace HB := bs HB hb; (try clear hb); (try clear ho0)) | ((with_reducible refine gc 12 rfl ?_); refine gl_ (some 25) rfl rfl Tryd.func12 ((paths_Way.calls _ _ _ _ _ _ _ _ ?side1 ?side2 A4.out (tt GT)).mono ?_) ag; (case side1 => exact rc HO103); (case side2 => exact (Kd.R_reads' HO103.out).2.1); rintro e w21 ⟨v116, rfl, ho0, hb⟩; refine ⟨_, rfl, ?_⟩; have HO117 := Aside0.mk (Kd.R_lower ho0 (below_size (bf HB))); replace HO107 := rb HO107 hb; replace HO110 := rb HO110 hb; replace HO114 := rb HO114 hb; replace HB := bs HB hb; (try clear hb); (try clear ho0); obtain ⟨Ao22, co22, eo22⟩ := Kd.R_slice HO107.out; subst eo22; have p118 : 0 ≤ (1 : Int) := (by omega); have q118 : 1 < (t104.length : Int) := od_; obtain ⟨ad118, e118, hx118_0⟩ := Kd.at_int (Kd.R_reads' HO107.out).2.2 1 p118 q118; cases e118; (try simp only [show (1 : Int).toNat = 1 from rfl, Nat.reduceMul, Nat.reduceEqDiff, Go.Addr.add, ↓reduceIte] at hx118_0); have qi118 : (1 < t104.length) = True := eq_true (by omega); (try rw [show ((1 : Int)).toNat = 1 from rfl] at hx118_0); replace p118 := eq_true p118; replace q118 := eq_true q118; have p119 : 0 ≤ (2 : Int) := (by omega); have q119 : 2 < (t104.length : Int) := od_; obtain ⟨ad119, e119, hx119_0⟩ := Kd.at_int (Kd.R_reads' HO107.out).2.2 2 p119 q119; obtain rfl : ad118 = ad119 := (by injection e119); (try simp only [show (2 : Int).toNat = 2 from rfl, Nat.reduceMul, Nat.reduceEqDiff, Go.Addr.add, ↓reduceIte] at hx119_0); have qi119 : (2 < t104.length) = True := eq_true (by omega); (try rw [show ((2 : Int)).toNat = 2 from rfl] at hx119_0); replace p119 := eq_true p119; replace q119 := eq_true q119; obtain ⟨Ao23, co23, eo23⟩ := Kd.R_slice HO117.out; subst eo23; have p120 : 0 ≤ (1 : Int) := (by omega); have q120 : 1 < (t115.length : Int) := od_; obtain ⟨ad120, e120, hx120_0⟩ := Kd.at_int (Kd.R_reads' HO117.out).2.2 1 p120 q120; cases e120; (try simp only [show (1 : Int).toNat = 1 from rfl, Nat.reduceMul, Nat.reduceEqDiff, Go.Addr.add, ↓reduceIte] at hx120_0); have qi120 : (1 < t115.length) = True := eq_true (by omega); (try rw [show ((1 : Int)).toNat = 1 from rfl] at hx120_0); replace p120 := eq_true p120; replace q120 := eq_true q120))
           go_ret
           exact ⟨ae, bf HB⟩
          ·rw [if_neg c13] at H
           exact absurd H (by simp)
         ·rw [if_neg c12] at H
          have c12b0 : ((t115.length : Int) == 3) = false := beq_eq_false_iff_ne.mpr c12
          have c12b1 : ((t115.length : Int) != 3) = true := bne_iff_ne.mpr c12
          obtain rfl := Option.some.inj H
          go_enter Tryd.func10, Tryd.ntmps10
          go_wp2_with (first | ((with_reducible refine gate_dst (N := 10) rfl ?_); (try (refine gate_guard (by rfl) ?_; dsimp only)); refine R_lit_full k34 _ 34 ?hg (N := 10) ?hd (xs := ([(⟨0, 1, 3⟩ : S34), (⟨1, 2, 4⟩ : S34), (⟨0, 2, 5⟩ : S34)] : List (S34))) (inner := [.int .i64 0, .int .i64 1, .int .i64 3, .int .i64 1, .int .i64 2, .int .i64 4, .int .i64 0, .int .i64 2, .int .i64 5]) (ok := fun _ => True) (okp := fun _ => True) ?hr ?hp (fun _ hk => hk) trivial (Below.refl _ _) (Nat.le_refl _) (by simp) ?_; (case hd => rfl); (case hg => rfl); (case hr => first | (go_simp; done) | (go_simp; rfl)); (case hp => exact (Reps.c3 (show Kd.M k34 _ _ _ (⟨0, 1, 3⟩ : S34) [.int .i64 0, .int .i64 1, .int .i64 3] from (k34_mkM _ _ _ (⟨0, 1, 3⟩ : S34) )) (Reps.c3 (show Kd.M k34 _ _ _ (⟨1, 2, 4⟩ : S34) [.int .i64 1, .int .i64 2, .int .i64 4] from (k34_mkM _ _ _ (⟨1, 2, 4⟩ : S34) )) (Reps.c3 (show Kd.M k34 _ _ _ (⟨0, 2, 5⟩ : S34) [.int .i64 0, .int .i64 2, .int .i64 5] from (k34_mkM _ _ _ (⟨0, 2, 5⟩ : S34) )) (Reps.none _ _))))); intro v102 w24 ho25 hb hg_ hnew_; clear hg_; rw [← Ny101.out] at ho25 hnew_; obtain ⟨g72, rfl⟩ := hnew_; have HO103 := Aside0.mk (Kd.R_lower ho25 (below_size (bf HB))); replace HB := bs HB hb; clear hb ho25; skip) | ((with_reducible refine gc 8 rfl ?_); refine gl_ (some 13) rfl rfl Tryd.func8 ((paths_Longest.calls _ _ _ _ _ _ _ _ ?side1 ?side2 A1.out (tt GT)).mono ?_) ag; (case side1 => exact rc HO103); (case side2 => exact (Kd.R_reads' HO103.out).2.1); rintro e w27 ⟨v106, rfl, ho0, hb⟩; refine ⟨_, rfl, ?_⟩; have HO107 := Aside0.mk (Kd.R_lower ho0 (below_size (bf HB))); replace HO103 := rb HO103 hb; replace HB := bs HB hb; (try clear hb); (try clear ho0)) | ((with_reducible refine gate_builtin (b := .append) (xs := #[.tmp 17, .tmp 19]) rfl ?_); (try (refine gate_guard (by rfl) ?_; dsimp only)); at_builtin; refine R_append_full k34 (w0 := w) w.heap.size rfl (.tmp 17) (.tmp 19) 22 34 (.agg #[(.int .i64 0), (.int .i64 0), (.int .i64 0)]) 24 rfl Tryd.underlying22 info34 rfl (by decide) (by omega) g72 y101 (⟨2, 1, 0⟩ : S34) [.int .i64 2, .int .i64 1, .int .i64 0] (fun _ => True) (fun _ => False) rfl rfl ?aP (fun _ hk => hk.elim) ?aF ?aO ?aB ?aS ?aL ?_; (case aP => exact k34_mkM _ _ _ (⟨2, 1, 0⟩ : S34)); (case aB => exact (bf HB)); (case aF => exact (fun _ _ => trivial)); (case aO => exact (Rt_ HO103.out)); (case aS => exact (below_size (bf HB))); (case aL => have := LMc2.out; omega); intro v109 w28 ho hold hb hg hat; rw [← Ny108.out] at ho; have n0_ := Aside0.mk (Kd.R_grown (Rt_ HO107.out) hg (fun k _ => by simp)); have n1_ := Aside0.mk (hb); have n2_ := Aside0.mk (ho); clear HO107; clear HB; clear HO103; have HO103 := Aside0.mk hold; clear hold; have HO107 := n0_; have HB := n1_; have HO110 := n2_; clear n0_ n1_ n2_; clear ho hb hg hat; obtain ⟨Ao29, co29, eo29⟩ := Kd.R_slice HO110.out; subst eo29) | ((with_reducible refine gc 8 rfl ?_); refine gl_ (some 21) rfl rfl Tryd.func8 ((paths_Longest.calls _ _ _ _ _ _ _ _ ?side1 ?side2 A3.out (tt GT)).mono ?_) ag; (case side1 => exact rc HO110); (case side2 => exact (Kd.R_reads' HO110.out).2.1); rintro e w30 ⟨v113, rfl, ho0, hb⟩; refine ⟨_, rfl, ?_⟩; have HO114 := Aside0.mk (Kd.R_lower (Kd.R_new' ho0 (rl HO107)) (below_size (bf HB))); replace HO107 := re_ HO107 (Kd.R_base ho0) hb; replace HO103 := rb HO103 hb; replace HO110 := rb HO110 hb; replace HB := bs HB hb; (try clear hb); (try clear ho0)) | ((with_reducible refine gc 12 rfl ?_); refine gl_ (some 25) rfl rfl Tryd.func12 ((paths_Way.calls _ _ _ _ _ _ _ _ ?side1 ?side2 A4.out (tt GT)).mono ?_) ag; (case side1 => exact rc HO103); (case side2 => exact (Kd.R_reads' HO103.out).2.1); rintro e w31 ⟨v116, rfl, ho0, hb⟩; refine ⟨_, rfl, ?_⟩; have HO117 := Aside0.mk (Kd.R_lower ho0 (below_size (bf HB))); replace HO107 := rb HO107 hb; replace HO110 := rb HO110 hb; replace HO114 := rb HO114 hb; replace HB := bs HB hb; (try clear hb); (try clear ho0); obtain ⟨Ao32, co32, eo32⟩ := Kd.R_slice HO107.out; subst eo32; have p118 : 0 ≤ (1 : Int) := (by omega); have q118 : 1 < (t104.length : Int) := od_; obtain ⟨ad118, e118, hx118_0⟩ := Kd.at_int (Kd.R_reads' HO107.out).2.2 1 p118 q118; cases e118; (try simp only [show (1 : Int).toNat = 1 from rfl, Nat.reduceMul, Nat.reduceEqDiff, Go.Addr.add, ↓reduceIte] at hx118_0); have qi118 : (1 < t104.length) = True := eq_true (by omega); (try rw [show ((1 : Int)).toNat = 1 from rfl] at hx118_0); replace p118 := eq_true p118; replace q118 := eq_true q118; have p119 : 0 ≤ (2 : Int) := (by omega); have q119 : 2 < (t104.length : Int) := od_; obtain ⟨ad119, e119, hx119_0⟩ := Kd.at_int (Kd.R_reads' HO107.out).2.2 2 p119 q119; obtain rfl : ad118 = ad119 := (by injection e119); (try simp only [show (2 : Int).toNat = 2 from rfl, Nat.reduceMul, Nat.reduceEqDiff, Go.Addr.add, ↓reduceIte] at hx119_0); have qi119 : (2 < t104.length) = True := eq_true (by omega); (try rw [show ((2 : Int)).toNat = 2 from rfl] at hx119_0); replace p119 := eq_true p119; replace q119 := eq_true q119; obtain ⟨Ao33, co33, eo33⟩ := Kd.R_slice HO117.out; subst eo33))
          go_ret
          exact ⟨ae, bf HB⟩
        ·rw [if_neg c11] at H
         have c11b0 : (t112 == 140) = false := beq_eq_false_iff_ne.mpr c11
         have c11b1 : (t112 != 140) = true := bne_iff_ne.mpr c11
         obtain rfl := Option.some.inj H
         go_enter Tryd.func10, Tryd.ntmps10
         go_wp2_with (first | ((with_reducible refine gate_dst (N := 10) rfl ?_); (try (refine gate_guard (by rfl) ?_; dsimp only)); refine R_lit_full k34 _ 34 ?hg (N := 10) ?hd (xs := ([(⟨0, 1, 3⟩ : S34), (⟨1, 2, 4⟩ : S34), (⟨0, 2, 5⟩ : S34)] : List (S34))) (inner := [.int .i64 0, .int .i64 1, .int .i64 3, .int .i64 1, .int .i64 2, .int .i64 4, .int .i64 0, .int .i64 2, .int .i64 5]) (ok := fun _ => True) (okp := fun _ => True) ?hr ?hp (fun _ hk => hk) trivial (Below.refl _ _) (Nat.le_refl _) (by simp) ?_; (case hd => rfl); (case hg => rfl); (case hr => first | (go_simp; done) | (go_simp; rfl)); (case hp => exact (Reps.c3 (show Kd.M k34 _ _ _ (⟨0, 1, 3⟩ : S34) [.int .i64 0, .int .i64 1, .int .i64 3] from (k34_mkM _ _ _ (⟨0, 1, 3⟩ : S34) )) (Reps.c3 (show Kd.M k34 _ _ _ (⟨1, 2, 4⟩ : S34) [.int .i64 1, .int .i64 2, .int .i64 4] from (k34_mkM _ _ _ (⟨1, 2, 4⟩ : S34) )) (Reps.c3 (show Kd.M k34 _ _ _ (⟨0, 2, 5⟩ : S34) [.int .i64 0, .int .i64 2, .int .i64 5] from (k34_mkM _ _ _ (⟨0, 2, 5⟩ : S34) )) (Reps.none _ _))))); intro v102 w34 ho35 hb hg_ hnew_; clear hg_; rw [← Ny101.out] at ho35 hnew_; obtain ⟨g72, rfl⟩ := hnew_; have HO103 := Aside0.mk (Kd.R_lower ho35 (below_size (bf HB))); replace HB := bs HB hb; clear hb ho35; skip) | ((with_reducible refine gc 8 rfl ?_); refine gl_ (some 13) rfl rfl Tryd.func8 ((paths_Longest.calls _ _ _ _ _ _ _ _ ?side1 ?side2 A1.out (tt GT)).mono ?_) ag; (case side1 => exact rc HO103); (case side2 => exact (Kd.R_reads' HO103.out).2.1); rintro e w37 ⟨v106, rfl, ho0, hb⟩; refine ⟨_, rfl, ?_⟩; have HO107 := Aside0.mk (Kd.R_lower ho0 (below_size (bf HB))); replace HO103 := rb HO103 hb; replace HB := bs HB hb; (try clear hb); (try clear ho0)) | ((with_reducible refine gate_builtin (b := .append) (xs := #[.tmp 17, .tmp 19]) rfl ?_); (try (refine gate_guard (by rfl) ?_; dsimp only)); at_builtin; refine R_append_full k34 (w0 := w) w.heap.size rfl (.tmp 17) (.tmp 19) 22 34 (.agg #[(.int .i64 0), (.int .i64 0), (.int .i64 0)]) 24 rfl Tryd.underlying22 info34 rfl (by decide) (by omega) g72 y101 (⟨2, 1, 0⟩ : S34) [.int .i64 2, .int .i64 1, .int .i64 0] (fun _ => True) (fun _ => False) rfl rfl ?aP (fun _ hk => hk.elim) ?aF ?aO ?aB ?aS ?aL ?_; (case aP => exact k34_mkM _ _ _ (⟨2, 1, 0⟩ : S34)); (case aB => exact (bf HB)); (case aF => exact (fun _ _ => trivial)); (case aO => exact (Rt_ HO103.out)); (case aS => exact (below_size (bf HB))); (case aL => have := LMc2.out; omega); intro v109 w38 ho hold hb hg hat; rw [← Ny108.out] at ho; have n0_ := Aside0.mk (Kd.R_grown (Rt_ HO107.out) hg (fun k _ => by simp)); have n1_ := Aside0.mk (hb); have n2_ := Aside0.mk (ho); clear HO107; clear HB; clear HO103; have HO103 := Aside0.mk hold; clear hold; have HO107 := n0_; have HB := n1_; have HO110 := n2_; clear n0_ n1_ n2_; clear ho hb hg hat; obtain ⟨Ao39, co39, eo39⟩ := Kd.R_slice HO110.out; subst eo39) | ((with_reducible refine gc 8 rfl ?_); refine gl_ (some 21) rfl rfl Tryd.func8 ((paths_Longest.calls _ _ _ _ _ _ _ _ ?side1 ?side2 A3.out (tt GT)).mono ?_) ag; (case side1 => exact rc HO110); (case side2 => exact (Kd.R_reads' HO110.out).2.1); rintro e w40 ⟨v113, rfl, ho0, hb⟩; refine ⟨_, rfl, ?_⟩; have HO114 := Aside0.mk (Kd.R_lower (Kd.R_new' ho0 (rl HO107)) (below_size (bf HB))); replace HO107 := re_ HO107 (Kd.R_base ho0) hb; replace HO103 := rb HO103 hb; replace HO110 := rb HO110 hb; replace HB := bs HB hb; (try clear hb); (try clear ho0)) | ((with_reducible refine gc 12 rfl ?_); refine gl_ (some 25) rfl rfl Tryd.func12 ((paths_Way.calls _ _ _ _ _ _ _ _ ?side1 ?side2 A4.out (tt GT)).mono ?_) ag; (case side1 => exact rc HO103); (case side2 => exact (Kd.R_reads' HO103.out).2.1); rintro e w41 ⟨v116, rfl, ho0, hb⟩; refine ⟨_, rfl, ?_⟩; have HO117 := Aside0.mk (Kd.R_lower ho0 (below_size (bf HB))); replace HO107 := rb HO107 hb; replace HO110 := rb HO110 hb; replace HO114 := rb HO114 hb; replace HB := bs HB hb; (try clear hb); (try clear ho0); obtain ⟨Ao42, co42, eo42⟩ := Kd.R_slice HO107.out; subst eo42; have p118 : 0 ≤ (1 : Int) := (by omega); have q118 : 1 < (t104.length : Int) := od_; obtain ⟨ad118, e118, hx118_0⟩ := Kd.at_int (Kd.R_reads' HO107.out).2.2 1 p118 q118; cases e118; (try simp only [show (1 : Int).toNat = 1 from rfl, Nat.reduceMul, Nat.reduceEqDiff, Go.Addr.add, ↓reduceIte] at hx118_0); have qi118 : (1 < t104.length) = True := eq_true (by omega); (try rw [show ((1 : Int)).toNat = 1 from rfl] at hx118_0); replace p118 := eq_true p118; replace q118 := eq_true q118; have p119 : 0 ≤ (2 : Int) := (by omega); have q119 : 2 < (t104.length : Int) := od_; obtain ⟨ad119, e119, hx119_0⟩ := Kd.at_int (Kd.R_reads' HO107.out).2.2 2 p119 q119; obtain rfl : ad118 = ad119 := (by injection e119); (try simp only [show (2 : Int).toNat = 2 from rfl, Nat.reduceMul, Nat.reduceEqDiff, Go.Addr.add, ↓reduceIte] at hx119_0); have qi119 : (2 < t104.length) = True := eq_true (by omega); (try rw [show ((2 : Int)).toNat = 2 from rfl] at hx119_0); replace p119 := eq_true p119; replace q119 := eq_true q119))
         go_ret
         exact ⟨ae, bf HB⟩
       ·rw [if_neg c10] at H
        have c10b0 : ((rd t104 2) == 7) = false := beq_eq_false_iff_ne.mpr c10
        have c10b1 : ((rd t104 2) != 7) = true := bne_iff_ne.mpr c10
        obtain rfl := Option.some.inj H
        go_enter Tryd.func10, Tryd.ntmps10
        go_wp2_with (first | ((with_reducible refine gate_dst (N := 10) rfl ?_); (try (refine gate_guard (by rfl) ?_; dsimp only)); refine R_lit_full k34 _ 34 ?hg (N := 10) ?hd (xs := ([(⟨0, 1, 3⟩ : S34), (⟨1, 2, 4⟩ : S34), (⟨0, 2, 5⟩ : S34)] : List (S34))) (inner := [.int .i64 0, .int .i64 1, .int .i64 3, .int .i64 1, .int .i64 2, .int .i64 4, .int .i64 0, .int .i64 2, .int .i64 5]) (ok := fun _ => True) (okp := fun _ => True) ?hr ?hp (fun _ hk => hk) trivial (Below.refl _ _) (Nat.le_refl _) (by simp) ?_; (case hd => rfl); (case hg => rfl); (case hr => first | (go_simp; done) | (go_simp; rfl)); (case hp => exact (Reps.c3 (show Kd.M k34 _ _ _ (⟨0, 1, 3⟩ : S34) [.int .i64 0, .int .i64 1, .int .i64 3] from (k34_mkM _ _ _ (⟨0, 1, 3⟩ : S34) )) (Reps.c3 (show Kd.M k34 _ _ _ (⟨1, 2, 4⟩ : S34) [.int .i64 1, .int .i64 2, .int .i64 4] from (k34_mkM _ _ _ (⟨1, 2, 4⟩ : S34) )) (Reps.c3 (show Kd.M k34 _ _ _ (⟨0, 2, 5⟩ : S34) [.int .i64 0, .int .i64 2, .int .i64 5] from (k34_mkM _ _ _ (⟨0, 2, 5⟩ : S34) )) (Reps.none _ _))))); intro v102 w43 ho44 hb hg_ hnew_; clear hg_; rw [← Ny101.out] at ho44 hnew_; obtain ⟨g72, rfl⟩ := hnew_; have HO103 := Aside0.mk (Kd.R_lower ho44 (below_size (bf HB))); replace HB := bs HB hb; clear hb ho44; skip) | ((with_reducible refine gc 8 rfl ?_); refine gl_ (some 13) rfl rfl Tryd.func8 ((paths_Longest.calls _ _ _ _ _ _ _ _ ?side1 ?side2 A1.out (tt GT)).mono ?_) ag; (case side1 => exact rc HO103); (case side2 => exact (Kd.R_reads' HO103.out).2.1); rintro e w46 ⟨v106, rfl, ho0, hb⟩; refine ⟨_, rfl, ?_⟩; have HO107 := Aside0.mk (Kd.R_lower ho0 (below_size (bf HB))); replace HO103 := rb HO103 hb; replace HB := bs HB hb; (try clear hb); (try clear ho0)) | ((with_reducible refine gate_builtin (b := .append) (xs := #[.tmp 17, .tmp 19]) rfl ?_); (try (refine gate_guard (by rfl) ?_; dsimp only)); at_builtin; refine R_append_full k34 (w0 := w) w.heap.size rfl (.tmp 17) (.tmp 19) 22 34 (.agg #[(.int .i64 0), (.int .i64 0), (.int .i64 0)]) 24 rfl Tryd.underlying22 info34 rfl (by decide) (by omega) g72 y101 (⟨2, 1, 0⟩ : S34) [.int .i64 2, .int .i64 1, .int .i64 0] (fun _ => True) (fun _ => False) rfl rfl ?aP (fun _ hk => hk.elim) ?aF ?aO ?aB ?aS ?aL ?_; (case aP => exact k34_mkM _ _ _ (⟨2, 1, 0⟩ : S34)); (case aB => exact (bf HB)); (case aF => exact (fun _ _ => trivial)); (case aO => exact (Rt_ HO103.out)); (case aS => exact (below_size (bf HB))); (case aL => have := LMc2.out; omega); intro v109 w47 ho hold hb hg hat; rw [← Ny108.out] at ho; have n0_ := Aside0.mk (Kd.R_grown (Rt_ HO107.out) hg (fun k _ => by simp)); have n1_ := Aside0.mk (hb); have n2_ := Aside0.mk (ho); clear HO107; clear HB; clear HO103; have HO103 := Aside0.mk hold; clear hold; have HO107 := n0_; have HB := n1_; have HO110 := n2_; clear n0_ n1_ n2_; clear ho hb hg hat; obtain ⟨Ao48, co48, eo48⟩ := Kd.R_slice HO110.out; subst eo48) | ((with_reducible refine gc 8 rfl ?_); refine gl_ (some 21) rfl rfl Tryd.func8 ((paths_Longest.calls _ _ _ _ _ _ _ _ ?side1 ?side2 A3.out (tt GT)).mono ?_) ag; (case side1 => exact rc HO110); (case side2 => exact (Kd.R_reads' HO110.out).2.1); rintro e w49 ⟨v113, rfl, ho0, hb⟩; refine ⟨_, rfl, ?_⟩; have HO114 := Aside0.mk (Kd.R_lower (Kd.R_new' ho0 (rl HO107)) (below_size (bf HB))); replace HO107 := re_ HO107 (Kd.R_base ho0) hb; replace HO103 := rb HO103 hb; replace HO110 := rb HO110 hb; replace HB := bs HB hb; (try clear hb); (try clear ho0)) | ((with_reducible refine gc 12 rfl ?_); refine gl_ (some 25) rfl rfl Tryd.func12 ((paths_Way.calls _ _ _ _ _ _ _ _ ?side1 ?side2 A4.out (tt GT)).mono ?_) ag; (case side1 => exact rc HO103); (case side2 => exact (Kd.R_reads' HO103.out).2.1); rintro e w50 ⟨v116, rfl, ho0, hb⟩; refine ⟨_, rfl, ?_⟩; have HO117 := Aside0.mk (Kd.R_lower ho0 (below_size (bf HB))); replace HO107 := rb HO107 hb; replace HO110 := rb HO110 hb; replace HO114 := rb HO114 hb; replace HB := bs HB hb; (try clear hb); (try clear ho0); obtain ⟨Ao51, co51, eo51⟩ := Kd.R_slice HO107.out; subst eo51; have p118 : 0 ≤ (1 : Int) := (by omega); have q118 : 1 < (t104.length : Int) := od_; obtain ⟨ad118, e118, hx118_0⟩ := Kd.at_int (Kd.R_reads' HO107.out).2.2 1 p118 q118; cases e118; (try simp only [show (1 : Int).toNat = 1 from rfl, Nat.reduceMul, Nat.reduceEqDiff, Go.Addr.add, ↓reduceIte] at hx118_0); have qi118 : (1 < t104.length) = True := eq_true (by omega); (try rw [show ((1 : Int)).toNat = 1 from rfl] at hx118_0); replace p118 := eq_true p118; replace q118 := eq_true q118; have p119 : 0 ≤ (2 : Int) := (by omega); have q119 : 2 < (t104.length : Int) := od_; obtain ⟨ad119, e119, hx119_0⟩ := Kd.at_int (Kd.R_reads' HO107.out).2.2 2 p119 q119; obtain rfl : ad118 = ad119 := (by injection e119); (try simp only [show (2 : Int).toNat = 2 from rfl, Nat.reduceMul, Nat.reduceEqDiff, Go.Addr.add, ↓reduceIte] at hx119_0); have qi119 : (2 < t104.length) = True := eq_true (by omega); (try rw [show ((2 : Int)).toNat = 2 from rfl] at hx119_0); replace p119 := eq_true p119; replace q119 := eq_true q119))
        go_ret
        exact ⟨ae, bf HB⟩
      ·rw [if_neg c9] at H
       exact absurd H (by simp)
     ·rw [if_neg c8] at H
      have c8b0 : ((rd t104 1) == 3) = false := beq_eq_false_iff_ne.mpr c8
      have c8b1 : ((rd t104 1) != 3) = true := bne_iff_ne.mpr c8
      obtain rfl := Option.some.inj H
      go_enter Tryd.func10, Tryd.ntmps10
      go_wp2_with (first | ((with_reducible refine gate_dst (N := 10) rfl ?_); (try (refine gate_guard (by rfl) ?_; dsimp only)); refine R_lit_full k34 _ 34 ?hg (N := 10) ?hd (xs := ([(⟨0, 1, 3⟩ : S34), (⟨1, 2, 4⟩ : S34), (⟨0, 2, 5⟩ : S34)] : List (S34))) (inner := [.int .i64 0, .int .i64 1, .int .i64 3, .int .i64 1, .int .i64 2, .int .i64 4, .int .i64 0, .int .i64 2, .int .i64 5]) (ok := fun _ => True) (okp := fun _ => True) ?hr ?hp (fun _ hk => hk) trivial (Below.refl _ _) (Nat.le_refl _) (by simp) ?_; (case hd => rfl); (case hg => rfl); (case hr => first | (go_simp; done) | (go_simp; rfl)); (case hp => exact (Reps.c3 (show Kd.M k34 _ _ _ (⟨0, 1, 3⟩ : S34) [.int .i64 0, .int .i64 1, .int .i64 3] from (k34_mkM _ _ _ (⟨0, 1, 3⟩ : S34) )) (Reps.c3 (show Kd.M k34 _ _ _ (⟨1, 2, 4⟩ : S34) [.int .i64 1, .int .i64 2, .int .i64 4] from (k34_mkM _ _ _ (⟨1, 2, 4⟩ : S34) )) (Reps.c3 (show Kd.M k34 _ _ _ (⟨0, 2, 5⟩ : S34) [.int .i64 0, .int .i64 2, .int .i64 5] from (k34_mkM _ _ _ (⟨0, 2, 5⟩ : S34) )) (Reps.none _ _))))); intro v102 w52 ho53 hb hg_ hnew_; clear hg_; rw [← Ny101.out] at ho53 hnew_; obtain ⟨g72, rfl⟩ := hnew_; have HO103 := Aside0.mk (Kd.R_lower ho53 (below_size (bf HB))); replace HB := bs HB hb; clear hb ho53; skip) | ((with_reducible refine gc 8 rfl ?_); refine gl_ (some 13) rfl rfl Tryd.func8 ((paths_Longest.calls _ _ _ _ _ _ _ _ ?side1 ?side2 A1.out (tt GT)).mono ?_) ag; (case side1 => exact rc HO103); (case side2 => exact (Kd.R_reads' HO103.out).2.1); rintro e w55 ⟨v106, rfl, ho0, hb⟩; refine ⟨_, rfl, ?_⟩; have HO107 := Aside0.mk (Kd.R_lower ho0 (below_size (bf HB))); replace HO103 := rb HO103 hb; replace HB := bs HB hb; (try clear hb); (try clear ho0)) | ((with_reducible refine gate_builtin (b := .append) (xs := #[.tmp 17, .tmp 19]) rfl ?_); (try (refine gate_guard (by rfl) ?_; dsimp only)); at_builtin; refine R_append_full k34 (w0 := w) w.heap.size rfl (.tmp 17) (.tmp 19) 22 34 (.agg #[(.int .i64 0), (.int .i64 0), (.int .i64 0)]) 24 rfl Tryd.underlying22 info34 rfl (by decide) (by omega) g72 y101 (⟨2, 1, 0⟩ : S34) [.int .i64 2, .int .i64 1, .int .i64 0] (fun _ => True) (fun _ => False) rfl rfl ?aP (fun _ hk => hk.elim) ?aF ?aO ?aB ?aS ?aL ?_; (case aP => exact k34_mkM _ _ _ (⟨2, 1, 0⟩ : S34)); (case aB => exact (bf HB)); (case aF => exact (fun _ _ => trivial)); (case aO => exact (Rt_ HO103.out)); (case aS => exact (below_size (bf HB))); (case aL => have := LMc2.out; omega); intro v109 w56 ho hold hb hg hat; rw [← Ny108.out] at ho; have n0_ := Aside0.mk (Kd.R_grown (Rt_ HO107.out) hg (fun k _ => by simp)); have n1_ := Aside0.mk (hb); have n2_ := Aside0.mk (ho); clear HO107; clear HB; clear HO103; have HO103 := Aside0.mk hold; clear hold; have HO107 := n0_; have HB := n1_; have HO110 := n2_; clear n0_ n1_ n2_; clear ho hb hg hat; obtain ⟨Ao57, co57, eo57⟩ := Kd.R_slice HO110.out; subst eo57) | ((with_reducible refine gc 8 rfl ?_); refine gl_ (some 21) rfl rfl Tryd.func8 ((paths_Longest.calls _ _ _ _ _ _ _ _ ?side1 ?side2 A3.out (tt GT)).mono ?_) ag; (case side1 => exact rc HO110); (case side2 => exact (Kd.R_reads' HO110.out).2.1); rintro e w58 ⟨v113, rfl, ho0, hb⟩; refine ⟨_, rfl, ?_⟩; have HO114 := Aside0.mk (Kd.R_lower (Kd.R_new' ho0 (rl HO107)) (below_size (bf HB))); replace HO107 := re_ HO107 (Kd.R_base ho0) hb; replace HO103 := rb HO103 hb; replace HO110 := rb HO110 hb; replace HB := bs HB hb; (try clear hb); (try clear ho0)) | ((with_reducible refine gc 12 rfl ?_); refine gl_ (some 25) rfl rfl Tryd.func12 ((paths_Way.calls _ _ _ _ _ _ _ _ ?side1 ?side2 A4.out (tt GT)).mono ?_) ag; (case side1 => exact rc HO103); (case side2 => exact (Kd.R_reads' HO103.out).2.1); rintro e w59 ⟨v116, rfl, ho0, hb⟩; refine ⟨_, rfl, ?_⟩; have HO117 := Aside0.mk (Kd.R_lower ho0 (below_size (bf HB))); replace HO107 := rb HO107 hb; replace HO110 := rb HO110 hb; replace HO114 := rb HO114 hb; replace HB := bs HB hb; (try clear hb); (try clear ho0); obtain ⟨Ao60, co60, eo60⟩ := Kd.R_slice HO107.out; subst eo60; have p118 : 0 ≤ (1 : Int) := (by omega); have q118 : 1 < (t104.length : Int) := od_; obtain ⟨ad118, e118, hx118_0⟩ := Kd.at_int (Kd.R_reads' HO107.out).2.2 1 p118 q118; cases e118; (try simp only [show (1 : Int).toNat = 1 from rfl, Nat.reduceMul, Nat.reduceEqDiff, Go.Addr.add, ↓reduceIte] at hx118_0); have qi118 : (1 < t104.length) = True := eq_true (by omega); (try rw [show ((1 : Int)).toNat = 1 from rfl] at hx118_0); replace p118 := eq_true p118; replace q118 := eq_true q118))
      go_ret
      exact ⟨ae, bf HB⟩
    ·rw [if_neg c7] at H
     exact absurd H (by simp)
   ·rw [if_neg c6] at H
    have c6b0 : ((t104.length : Int) == 3) = false := beq_eq_false_iff_ne.mpr c6
    have c6b1 : ((t104.length : Int) != 3) = true := bne_iff_ne.mpr c6
    obtain rfl := Option.some.inj H
    go_enter Tryd.func10, Tryd.ntmps10
    go_wp2_with (first | ((with_reducible refine gate_dst (N := 10) rfl ?_); (try (refine gate_guard (by rfl) ?_; dsimp only)); refine R_lit_full k34 _ 34 ?hg (N := 10) ?hd (xs := ([(⟨0, 1, 3⟩ : S34), (⟨1, 2, 4⟩ : S34), (⟨0, 2, 5⟩ : S34)] : List (S34))) (inner := [.int .i64 0, .int .i64 1, .int .i64 3, .int .i64 1, .int .i64 2, .int .i64 4, .int .i64 0, .int .i64 2, .int .i64 5]) (ok := fun _ => True) (okp := fun _ => True) ?hr ?hp (fun _ hk => hk) trivial (Below.refl _ _) (Nat.le_refl _) (by simp) ?_; (case hd => rfl); (case hg => rfl); (case hr => first | (go_simp; done) | (go_simp; rfl)); (case hp => exact (Reps.c3 (show Kd.M k34 _ _ _ (⟨0, 1, 3⟩ : S34) [.int .i64 0, .int .i64 1, .int .i64 3] from (k34_mkM _ _ _ (⟨0, 1, 3⟩ : S34) )) (Reps.c3 (show Kd.M k34 _ _ _ (⟨1, 2, 4⟩ : S34) [.int .i64 1, .int .i64 2, .int .i64 4] from (k34_mkM _ _ _ (⟨1, 2, 4⟩ : S34) )) (Reps.c3 (show Kd.M k34 _ _ _ (⟨0, 2, 5⟩ : S34) [.int .i64 0, .int .i64 2, .int .i64 5] from (k34_mkM _ _ _ (⟨0, 2, 5⟩ : S34) )) (Reps.none _ _))))); intro v102 w61 ho62 hb hg_ hnew_; clear hg_; rw [← Ny101.out] at ho62 hnew_; obtain ⟨g72, rfl⟩ := hnew_; have HO103 := Aside0.mk (Kd.R_lower ho62 (below_size (bf HB))); replace HB := bs HB hb; clear hb ho62; skip) | ((with_reducible refine gc 8 rfl ?_); refine gl_ (some 13) rfl rfl Tryd.func8 ((paths_Longest.calls _ _ _ _ _ _ _ _ ?side1 ?side2 A1.out (tt GT)).mono ?_) ag; (case side1 => exact rc HO103); (case side2 => exact (Kd.R_reads' HO103.out).2.1); rintro e w64 ⟨v106, rfl, ho0, hb⟩; refine ⟨_, rfl, ?_⟩; have HO107 := Aside0.mk (Kd.R_lower ho0 (below_size (bf HB))); replace HO103 := rb HO103 hb; replace HB := bs HB hb; (try clear hb); (try clear ho0)) | ((with_reducible refine gate_builtin (b := .append) (xs := #[.tmp 17, .tmp 19]) rfl ?_); (try (refine gate_guard (by rfl) ?_; dsimp only)); at_builtin; refine R_append_full k34 (w0 := w) w.heap.size rfl (.tmp 17) (.tmp 19) 22 34 (.agg #[(.int .i64 0), (.int .i64 0), (.int .i64 0)]) 24 rfl Tryd.underlying22 info34 rfl (by decide) (by omega) g72 y101 (⟨2, 1, 0⟩ : S34) [.int .i64 2, .int .i64 1, .int .i64 0] (fun _ => True) (fun _ => False) rfl rfl ?aP (fun _ hk => hk.elim) ?aF ?aO ?aB ?aS ?aL ?_; (case aP => exact k34_mkM _ _ _ (⟨2, 1, 0⟩ : S34)); (case aB => exact (bf HB)); (case aF => exact (fun _ _ => trivial)); (case aO => exact (Rt_ HO103.out)); (case aS => exact (below_size (bf HB))); (case aL => have := LMc2.out; omega); intro v109 w65 ho hold hb hg hat; rw [← Ny108.out] at ho; have n0_ := Aside0.mk (Kd.R_grown (Rt_ HO107.out) hg (fun k _ => by simp)); have n1_ := Aside0.mk (hb); have n2_ := Aside0.mk (ho); clear HO107; clear HB; clear HO103; have HO103 := Aside0.mk hold; clear hold; have HO107 := n0_; have HB := n1_; have HO110 := n2_; clear n0_ n1_ n2_; clear ho hb hg hat; obtain ⟨Ao66, co66, eo66⟩ := Kd.R_slice HO110.out; subst eo66) | ((with_reducible refine gc 8 rfl ?_); refine gl_ (some 21) rfl rfl Tryd.func8 ((paths_Longest.calls _ _ _ _ _ _ _ _ ?side1 ?side2 A3.out (tt GT)).mono ?_) ag; (case side1 => exact rc HO110); (case side2 => exact (Kd.R_reads' HO110.out).2.1); rintro e w67 ⟨v113, rfl, ho0, hb⟩; refine ⟨_, rfl, ?_⟩; have HO114 := Aside0.mk (Kd.R_lower (Kd.R_new' ho0 (rl HO107)) (below_size (bf HB))); replace HO107 := re_ HO107 (Kd.R_base ho0) hb; replace HO103 := rb HO103 hb; replace HO110 := rb HO110 hb; replace HB := bs HB hb; (try clear hb); (try clear ho0)) | ((with_reducible refine gc 12 rfl ?_); refine gl_ (some 25) rfl rfl Tryd.func12 ((paths_Way.calls _ _ _ _ _ _ _ _ ?side1 ?side2 A4.out (tt GT)).mono ?_) ag; (case side1 => exact rc HO103); (case side2 => exact (Kd.R_reads' HO103.out).2.1); rintro e w68 ⟨v116, rfl, ho0, hb⟩; refine ⟨_, rfl, ?_⟩; have HO117 := Aside0.mk (Kd.R_lower ho0 (below_size (bf HB))); replace HO107 := rb HO107 hb; replace HO110 := rb HO110 hb; replace HO114 := rb HO114 hb; replace HB := bs HB hb; (try clear hb); (try clear ho0); obtain ⟨Ao69, co69, eo69⟩ := Kd.R_slice HO107.out; subst eo69))
    go_ret
    exact ⟨ae, bf HB⟩
  ·rw [if_neg c5] at H
   have c5b0 : (t105 == 0) = false := beq_eq_false_iff_ne.mpr c5
   have c5b1 : (t105 != 0) = true := bne_iff_ne.mpr c5
   obtain rfl := Option.some.inj H
   go_enter Tryd.func10, Tryd.ntmps10
   go_wp2_with (first | ((with_reducible refine gate_dst (N := 10) rfl ?_); (try (refine gate_guard (by rfl) ?_; dsimp only)); refine R_lit_full k34 _ 34 ?hg (N := 10) ?hd (xs := ([(⟨0, 1, 3⟩ : S34), (⟨1, 2, 4⟩ : S34), (⟨0, 2, 5⟩ : S34)] : List (S34))) (inner := [.int .i64 0, .int .i64 1, .int .i64 3, .int .i64 1, .int .i64 2, .int .i64 4, .int .i64 0, .int .i64 2, .int .i64 5]) (ok := fun _ => True) (okp := fun _ => True) ?hr ?hp (fun _ hk => hk) trivial (Below.refl _ _) (Nat.le_refl _) (by simp) ?_; (case hd => rfl); (case hg => rfl); (case hr => first | (go_simp; done) | (go_simp; rfl)); (case hp => exact (Reps.c3 (show Kd.M k34 _ _ _ (⟨0, 1, 3⟩ : S34) [.int .i64 0, .int .i64 1, .int .i64 3] from (k34_mkM _ _ _ (⟨0, 1, 3⟩ : S34) )) (Reps.c3 (show Kd.M k34 _ _ _ (⟨1, 2, 4⟩ : S34) [.int .i64 1, .int .i64 2, .int .i64 4] from (k34_mkM _ _ _ (⟨1, 2, 4⟩ : S34) )) (Reps.c3 (show Kd.M k34 _ _ _ (⟨0, 2, 5⟩ : S34) [.int .i64 0, .int .i64 2, .int .i64 5] from (k34_mkM _ _ _ (⟨0, 2, 5⟩ : S34) )) (Reps.none _ _))))); intro v102 w70 ho71 hb hg_ hnew_; clear hg_; rw [← Ny101.out] at ho71 hnew_; obtain ⟨g72, rfl⟩ := hnew_; have HO103 := Aside0.mk (Kd.R_lower ho71 (below_size (bf HB))); replace HB := bs HB hb; clear hb ho71; skip) | ((with_reducible refine gc 8 rfl ?_); refine gl_ (some 13) rfl rfl Tryd.func8 ((paths_Longest.calls _ _ _ _ _ _ _ _ ?side1 ?side2 A1.out (tt GT)).mono ?_) ag; (case side1 => exact rc HO103); (case side2 => exact (Kd.R_reads' HO103.out).2.1); rintro e w73 ⟨v106, rfl, ho0, hb⟩; refine ⟨_, rfl, ?_⟩; have HO107 := Aside0.mk (Kd.R_lower ho0 (below_size (bf HB))); replace HO103 := rb HO103 hb; replace HB := bs HB hb; (try clear hb); (try clear ho0)) | ((with_reducible refine gate_builtin (b := .append) (xs := #[.tmp 17, .tmp 19]) rfl ?_); (try (refine gate_guard (by rfl) ?_; dsimp only)); at_builtin; refine R_append_full k34 (w0 := w) w.heap.size rfl (.tmp 17) (.tmp 19) 22 34 (.agg #[(.int .i64 0), (.int .i64 0), (.int .i64 0)]) 24 rfl Tryd.underlying22 info34 rfl (by decide) (by omega) g72 y101 (⟨2, 1, 0⟩ : S34) [.int .i64 2, .int .i64 1, .int .i64 0] (fun _ => True) (fun _ => False) rfl rfl ?aP (fun _ hk => hk.elim) ?aF ?aO ?aB ?aS ?aL ?_; (case aP => exact k34_mkM _ _ _ (⟨2, 1, 0⟩ : S34)); (case aB => exact (bf HB)); (case aF => exact (fun _ _ => trivial)); (case aO => exact (Rt_ HO103.out)); (case aS => exact (below_size (bf HB))); (case aL => have := LMc2.out; omega); intro v109 w74 ho hold hb hg hat; rw [← Ny108.out] at ho; have n0_ := Aside0.mk (Kd.R_grown (Rt_ HO107.out) hg (fun k _ => by simp)); have n1_ := Aside0.mk (hb); have n2_ := Aside0.mk (ho); clear HO107; clear HB; clear HO103; have HO103 := Aside0.mk hold; clear hold; have HO107 := n0_; have HB := n1_; have HO110 := n2_; clear n0_ n1_ n2_; clear ho hb hg hat; obtain ⟨Ao75, co75, eo75⟩ := Kd.R_slice HO110.out; subst eo75) | ((with_reducible refine gc 8 rfl ?_); refine gl_ (some 21) rfl rfl Tryd.func8 ((paths_Longest.calls _ _ _ _ _ _ _ _ ?side1 ?side2 A3.out (tt GT)).mono ?_) ag; (case side1 => exact rc HO110); (case side2 => exact (Kd.R_reads' HO110.out).2.1); rintro e w76 ⟨v113, rfl, ho0, hb⟩; refine ⟨_, rfl, ?_⟩; have HO114 := Aside0.mk (Kd.R_lower (Kd.R_new' ho0 (rl HO107)) (below_size (bf HB))); replace HO107 := re_ HO107 (Kd.R_base ho0) hb; replace HO103 := rb HO103 hb; replace HO110 := rb HO110 hb; replace HB := bs HB hb; (try clear hb); (try clear ho0)) | ((with_reducible refine gc 12 rfl ?_); refine gl_ (some 25) rfl rfl Tryd.func12 ((paths_Way.calls _ _ _ _ _ _ _ _ ?side1 ?side2 A4.out (tt GT)).mono ?_) ag; (case side1 => exact rc HO103); (case side2 => exact (Kd.R_reads' HO103.out).2.1); rintro e w77 ⟨v116, rfl, ho0, hb⟩; refine ⟨_, rfl, ?_⟩; have HO117 := Aside0.mk (Kd.R_lower ho0 (below_size (bf HB))); replace HO107 := rb HO107 hb; replace HO110 := rb HO110 hb; replace HO114 := rb HO114 hb; replace HB := bs HB hb; (try clear hb); (try clear ho0)))
   go_ret
   exact ⟨ae, bf HB⟩
 ·rw [if_neg c2] at H
  exact absurd H (by simp)

/-! ### carrefourlaw14_simple: function 11 -/
theorem carrefourlaw14_simple.calls (k : Nat) (A0 : Option Addr) (c0 : Nat) (l0 : List (S34)) (r : Bool) (w : World) (hr0 : Kd.C k34 w A0 l0.length l0) (hc0 : l0.length ≤ c0) (h : carrefourlaw14_simple.f k l0 = some r) :
  Calls Tryd.prog 11 #[.slice A0 l0.length c0] w fun e w' => e = .returned (.bool r) ∧ Drawn0 w w' := by
 have HR0 := Aside0.mk hr0
 have HC0 := Aside0.mk hc0
 clear hr0 hc0
 have H : (carrefourlaw14_simple.l0 k l0 0) = some r := h
 clear h
 have H' := Aside0.mk H
 clear H
 go_enter Tryd.func11, Tryd.ntmps11
 go_wp2
 go_loopg [3] k (fun kq v3 w' => ∃ (x3_1 : Int), v3 = .int .i64 x3_1 ∧ Aside0 (carrefourlaw14_simple.l0 kq l0 x3_1 = some r) ∧ Aside0 (kq ≤ k) ∧ Drawn0 w w')
 case atStart => exact ⟨(0), (aq), H', ⟨Nat.le_refl _⟩, dr⟩
 case round =>
  clear H'
  (try clear c1)
  obtain ⟨x3_1, rfl, HA, HK1, ⟨m1, rfl⟩⟩ := hrel
  cases gk with
  | zero => exact absurd HA.out (by simp [carrefourlaw14_simple.l0])
  | succ k1 =>
   have H := HA.out
   clear HA
   simp only [carrefourlaw14_simple.l0] at H
   by_cases c2 : x3_1 < (l0.length : Int)
   ·rw [if_pos c2] at H
    have c2b0 : decide (x3_1 < (l0.length : Int)) = true := decide_eq_true c2
    clear c2
    by_cases c3 : 0 ≤ x3_1
    ·rw [if_pos c3] at H
     have c3b0 : decide (0 ≤ x3_1) = true := decide_eq_true c3
     clear c3
     by_cases c4 : ((rd_T34 l0 x3_1).f2) = 0
     ·rw [if_pos c4] at H
      have c4b0 : (((rd_T34 l0 x3_1).f2) == 0) = true := beq_iff_eq.mpr c4
      have c4b1 : (((rd_T34 l0 x3_1).f2) != 0) = false := bne_eq_false_iff_eq.mpr c4
      clear c4
      obtain rfl := Option.some.inj H
      have p121 : 0 ≤ (x3_1 : Int) := od_
      have q121 : x3_1 < (l0.length : Int) := od_
      obtain ⟨ad121, e121, hx121_0, hx121_1, hx121_2⟩ := at_T34 HR0.out x3_1 p121 q121
      cases e121
      replace p121 := eq_true p121
      replace q121 := eq_true q121
      go_wp2
      go_ret
      exact ⟨aq, dr⟩
     ·rw [if_neg c4] at H
      have c4b0 : (((rd_T34 l0 x3_1).f2) == 0) = false := beq_eq_false_iff_ne.mpr c4
      have c4b1 : (((rd_T34 l0 x3_1).f2) != 0) = true := bne_iff_ne.mpr c4
      have H' := Aside0.mk H
      clear H
      have p121 : 0 ≤ (x3_1 : Int) := od_
      have q121 : x3_1 < (l0.length : Int) := od_
      obtain ⟨ad121, e121, hx121_0, hx121_1, hx121_2⟩ := at_T34 HR0.out x3_1 p121 q121
      cases e121
      replace p121 := eq_true p121
      replace q121 := eq_true q121
      go_wp2
      go_roundg k1
      case measure => have := HK1.out; omega
      case rel => exact ⟨(wrap64 (x3_1 + 1)), (aq), H', ⟨by have := HK1.out; omega⟩, dr⟩
    ·rw [if_neg c3] at H
     exact absurd H (by simp)
   ·rw [if_neg c2] at H
    have c2b0 : decide (x3_1 < (l0.length : Int)) = false := decide_eq_false c2
    clear c2
    obtain rfl := Option.some.inj H
    go_wp2
    go_ret
    exact ⟨aq, dr⟩

/-! ### carrefourref14_Right: function 16 -/
theorem carrefourref14_Right.calls (k : Nat) (a0 : Int) (A1 : Option Addr) (c1 : Nat) (l1 : List (S34)) (r : Bool) (w : World) (hr1 : Kd.C k34 w A1 l1.length l1) (hc1 : l1.length ≤ c1) (h : carrefourref14_Right.f k a0 l1 = some r) :
  Calls Tryd.prog 16 #[.int .i64 a0, .slice A1 l1.length c1] w fun e w' => e = .returned (.bool r) ∧ Drawn0 w w' := by
 have HR1 := Aside0.mk hr1
 have HC1 := Aside0.mk hc1
 clear hr1 hc1
 have H : (if a0 < 1 then (carrefourref14_Right.j0 k a0 l1 true) else (if a0 > 64 then (carrefourref14_Right.j0 k a0 l1 true) else (carrefourref14_Right.j0 k a0 l1 (decide ((l1.length : Int) > 1000))))) = some r := h
 clear h
 have HC3 := Aside0.mk H
 clear H
 go_enter Tryd.func16, Tryd.ntmps16
 go_upto_region 1 with (fail)
 go_cut [16] (fun v16 wc => ∃ (kq : Nat) (x16_2 : Bool), v16 = .bool x16_2 ∧ Aside0 (carrefourref14_Right.j0 kq a0 l1 x16_2 = some r) ∧ Aside0 (kq ≤ k) ∧ Drawn0 w wc)
 case first =>
  have H := HC3.out
  clear HC3
  by_cases c4 : a0 < 1
  ·rw [if_pos c4] at H
   have c4b0 : decide (a0 < 1) = true := decide_eq_true c4
   clear c4
   (first | rw [c4b0] | (simp only [i64_w, i32_w]; rw [c4b0]) | skip)
   have H' := Aside0.mk H
   clear H
   go_wp2
   go_meet
   case rel => exact ⟨_, (true), (aq), H', ⟨by first | omega | exact Nat.le_refl _⟩, dr⟩
  ·rw [if_neg c4] at H
   have c4b0 : decide (a0 < 1) = false := decide_eq_false c4
   clear c4
   (first | rw [c4b0] | (simp only [i64_w, i32_w]; rw [c4b0]) | skip)
   by_cases c5 : a0 > 64
   ·rw [if_pos c5] at H
    have c5b0 : decide (64 < a0) = true := decide_eq_true c5
    clear c5
    have H' := Aside0.mk H
    clear H
    go_wp2
    go_meet
    case rel => exact ⟨_, (true), (aq), H', ⟨by first | omega | exact Nat.le_refl _⟩, dr⟩
   ·rw [if_neg c5] at H
    have c5b0 : decide (64 < a0) = false := decide_eq_false c5
    clear c5
    have H' := Aside0.mk H
    clear H
    go_wp2
    go_meet
    case rel => exact ⟨_, (decide ((l1.length : Int) > 1000)), (aq), H', ⟨by first | omega | exact Nat.le_refl _⟩, dr⟩
 case rest =>
  clear HC3
  (try clear c1); (try clear p2); (try clear c4); (try clear c4b0); (try clear c5); (try clear c5b0)
  obtain ⟨kq, x16_2, rfl, HA, HJ2, ⟨mc2, rfl⟩⟩ := hcut
  cases kq with
  | zero => exact absurd HA.out (by simp [carrefourref14_Right.j0])
  | succ kj2 =>
   have H := HA.out
   clear HA
   simp only [carrefourref14_Right.j0] at H
   by_cases c6 : x16_2 = true
   ·subst c6
    have H1 : (some false) = some r := by rw [if_pos rfl] at H; exact H
    clear H
    have H := H1
    clear H1
    obtain rfl := Option.some.inj H
    go_wp2
    go_ret
    exact ⟨aq, dr⟩
   ·replace c6 := Bool.eq_false_iff.mpr c6
    subst c6
    have H1 : (carrefourref14_Right.l0 kj2 a0 l1 0) = some r := by rw [if_neg (show ¬ (false = true) by decide)] at H; exact H
    clear H
    have H := H1
    clear H1
    have H' := Aside0.mk H
    clear H
    go_wp2
    go_loopg [5] kj2 (fun kq v5 w' => ∃ (x5_2 : Int), v5 = .int .i64 x5_2 ∧ Aside0 (carrefourref14_Right.l0 kq a0 l1 x5_2 = some r) ∧ Aside0 (kq ≤ kj2) ∧ Drawn0 w w')
    case atStart => exact ⟨(0), (aq), H', ⟨Nat.le_refl _⟩, dr⟩
    case round =>
     clear H'
     (try clear c1); (try clear c2); (try clear p2); (try clear c4); (try clear c4b0); (try clear c5); (try clear c5b0); (try clear c6); (try clear p2)
     obtain ⟨x5_2, rfl, HA, HK2, ⟨m2, rfl⟩⟩ := hrel
     cases gk with
     | zero => exact absurd HA.out (by simp [carrefourref14_Right.l0])
     | succ k2 =>
      have H := HA.out
      clear HA
      simp only [carrefourref14_Right.l0] at H
      by_cases c7 : x5_2 < (l1.length : Int)
      ·rw [if_pos c7] at H
       have c7b0 : decide (x5_2 < (l1.length : Int)) = true := decide_eq_true c7
       clear c7
       by_cases c8 : 0 ≤ x5_2
       ·rw [if_pos c8] at H
        have c8b0 : decide (0 ≤ x5_2) = true := decide_eq_true c8
        clear c8
        by_cases c9 : ((rd_T34 l1 x5_2).f0) < 0
        ·rw [if_pos c9] at H
         have c9b0 : decide (((rd_T34 l1 x5_2).f0) < 0) = true := decide_eq_true c9
         clear c9
         obtain rfl := Option.some.inj H
         have p122 : 0 ≤ (x5_2 : Int) := od_
         have q122 : x5_2 < (l1.length : Int) := od_
         obtain ⟨ad122, e122, hx122_0, hx122_1, hx122_2⟩ := at_T34 HR1.out x5_2 p122 q122
         cases e122
         replace p122 := eq_true p122
         replace q122 := eq_true q122
         go_wp2
         go_ret
         exact ⟨aq, dr⟩
        ·rw [if_neg c9] at H
         have c9b0 : decide (((rd_T34 l1 x5_2).f0) < 0) = false := decide_eq_false c9
         clear c9
         by_cases c10 : ((rd_T34 l1 x5_2).f0) ≥ a0
         ·rw [if_pos c10] at H
          have c10b0 : decide (a0 ≤ ((rd_T34 l1 x5_2).f0)) = true := decide_eq_true c10
          clear c10
          obtain rfl := Option.some.inj H
          have p122 : 0 ≤ (x5_2 : Int) := od_
          have q122 : x5_2 < (l1.length : Int) := od_
          obtain ⟨ad122, e122, hx122_0, hx122_1, hx122_2⟩ := at_T34 HR1.out x5_2 p122 q122
          cases e122
          replace p122 := eq_true p122
          replace q122 := eq_true q122
          have p123 : 0 ≤ (x5_2 : Int) := od_
          have q123 : x5_2 < (l1.length : Int) := od_
          obtain ⟨ad123, e123, hx123_0, hx123_1, hx123_2⟩ := at_T34 HR1.out x5_2 p123 q123
          obtain rfl : ad122 = ad123 := (by injection e123)
          replace p123 := eq_true p123
          replace q123 := eq_true q123
          go_wp2
          go_ret
          exact ⟨aq, dr⟩
         ·rw [if_neg c10] at H
          have c10b0 : decide (a0 ≤ ((rd_T34 l1 x5_2).f0)) = false := decide_eq_false c10
          clear c10
          by_cases c11 : ((rd_T34 l1 x5_2).f1) < 0
          ·rw [if_pos c11] at H
           have c11b0 : decide (((rd_T34 l1 x5_2).f1) < 0) = true := decide_eq_true c11
           clear c11
           obtain rfl := Option.some.inj H
           have p122 : 0 ≤ (x5_2 : Int) := od_
           have q122 : x5_2 < (l1.length : Int) := od_
           obtain ⟨ad122, e122, hx122_0, hx122_1, hx122_2⟩ := at_T34 HR1.out x5_2 p122 q122
           cases e122
           replace p122 := eq_true p122
           replace q122 := eq_true q122
           have p123 : 0 ≤ (x5_2 : Int) := od_
           have q123 : x5_2 < (l1.length : Int) := od_
           obtain ⟨ad123, e123, hx123_0, hx123_1, hx123_2⟩ := at_T34 HR1.out x5_2 p123 q123
           obtain rfl : ad122 = ad123 := (by injection e123)
           replace p123 := eq_true p123
           replace q123 := eq_true q123
           have p124 : 0 ≤ (x5_2 : Int) := od_
           have q124 : x5_2 < (l1.length : Int) := od_
           obtain ⟨ad124, e124, hx124_0, hx124_1, hx124_2⟩ := at_T34 HR1.out x5_2 p124 q124
           obtain rfl : ad122 = ad124 := (by injection e124)
           replace p124 := eq_true p124
           replace q124 := eq_true q124
           go_wp2
           go_ret
           exact ⟨aq, dr⟩
          ·rw [if_neg c11] at H
           have c11b0 : decide (((rd_T34 l1 x5_2).f1) < 0) = false := decide_eq_false c11
           clear c11
           by_cases c12 : ((rd_T34 l1 x5_2).f1) ≥ a0
           ·rw [if_pos c12] at H
            have c12b0 : decide (a0 ≤ ((rd_T34 l1 x5_2).f1)) = true := decide_eq_true c12
            clear c12
            obtain rfl := Option.some.inj H
            have p122 : 0 ≤ (x5_2 : Int) := od_
            have q122 : x5_2 < (l1.length : Int) := od_
            obtain ⟨ad122, e122, hx122_0, hx122_1, hx122_2⟩ := at_T34 HR1.out x5_2 p122 q122
            cases e122
            replace p122 := eq_true p122
            replace q122 := eq_true q122
            have p123 : 0 ≤ (x5_2 : Int) := od_
            have q123 : x5_2 < (l1.length : Int) := od_
            obtain ⟨ad123, e123, hx123_0, hx123_1, hx123_2⟩ := at_T34 HR1.out x5_2 p123 q123
            obtain rfl : ad122 = ad123 := (by injection e123)
            replace p123 := eq_true p123
            replace q123 := eq_true q123
            have p124 : 0 ≤ (x5_2 : Int) := od_
            have q124 : x5_2 < (l1.length : Int) := od_
            obtain ⟨ad124, e124, hx124_0, hx124_1, hx124_2⟩ := at_T34 HR1.out x5_2 p124 q124
            obtain rfl : ad122 = ad124 := (by injection e124)
            replace p124 := eq_true p124
            replace q124 := eq_true q124
            have p125 : 0 ≤ (x5_2 : Int) := od_
            have q125 : x5_2 < (l1.length : Int) := od_
            obtain ⟨ad125, e125, hx125_0, hx125_1, hx125_2⟩ := at_T34 HR1.out x5_2 p125 q125
            obtain rfl : ad122 = ad125 := (by injection e125)
            replace p125 := eq_true p125
            replace q125 := eq_true q125
            go_wp2
            go_ret
            exact ⟨aq, dr⟩
           ·rw [if_neg c12] at H
            have c12b0 : decide (a0 ≤ ((rd_T34 l1 x5_2).f1)) = false := decide_eq_false c12
            clear c12
            by_cases c13 : ((rd_T34 l1 x5_2).f2) < 0
            ·rw [if_pos c13] at H
             have c13b0 : decide (((rd_T34 l1 x5_2).f2) < 0) = true := decide_eq_true c13
             clear c13
             obtain rfl := Option.some.inj H
             have p122 : 0 ≤ (x5_2 : Int) := od_
             have q122 : x5_2 < (l1.length : Int) := od_
             obtain ⟨ad122, e122, hx122_0, hx122_1, hx122_2⟩ := at_T34 HR1.out x5_2 p122 q122
             cases e122
             replace p122 := eq_true p122
             replace q122 := eq_true q122
             have p123 : 0 ≤ (x5_2 : Int) := od_
             have q123 : x5_2 < (l1.length : Int) := od_
             obtain ⟨ad123, e123, hx123_0, hx123_1, hx123_2⟩ := at_T34 HR1.out x5_2 p123 q123
             obtain rfl : ad122 = ad123 := (by injection e123)
             replace p123 := eq_true p123
             replace q123 := eq_true q123
             have p124 : 0 ≤ (x5_2 : Int) := od_
             have q124 : x5_2 < (l1.length : Int) := od_
             obtain ⟨ad124, e124, hx124_0, hx124_1, hx124_2⟩ := at_T34 HR1.out x5_2 p124 q124
             obtain rfl : ad122 = ad124 := (by injection e124)
             replace p124 := eq_true p124
             replace q124 := eq_true q124
             have p125 : 0 ≤ (x5_2 : Int) := od_
             have q125 : x5_2 < (l1.length : Int) := od_
             obtain ⟨ad125, e125, hx125_0, hx125_1, hx125_2⟩ := at_T34 HR1.out x5_2 p125 q125
             obtain rfl : ad122 = ad125 := (by injection e125)
             replace p125 := eq_true p125
             replace q125 := eq_true q125
             have p126 : 0 ≤ (x5_2 : Int) := od_
             have q126 : x5_2 < (l1.length : Int) := od_
             obtain ⟨ad126, e126, hx126_0, hx126_1, hx126_2⟩ := at_T34 HR1.out x5_2 p126 q126
             obtain rfl : ad122 = ad126 := (by injection e126)
             replace p126 := eq_true p126
             replace q126 := eq_true q126
             go_wp2
             go_ret
             exact ⟨aq, dr⟩
            ·rw [if_neg c13] at H
             have c13b0 : decide (((rd_T34 l1 x5_2).f2) < 0) = false := decide_eq_false c13
             clear c13
             by_cases c14 : ((rd_T34 l1 x5_2).f2) > 6000
             ·rw [if_pos c14] at H
              have c14b0 : decide (6000 < ((rd_T34 l1 x5_2).f2)) = true := decide_eq_true c14
              clear c14
              obtain rfl := Option.some.inj H
              have p122 : 0 ≤ (x5_2 : Int) := od_
              have q122 : x5_2 < (l1.length : Int) := od_
              obtain ⟨ad122, e122, hx122_0, hx122_1, hx122_2⟩ := at_T34 HR1.out x5_2 p122 q122
              cases e122
              replace p122 := eq_true p122
              replace q122 := eq_true q122
              have p123 : 0 ≤ (x5_2 : Int) := od_
              have q123 : x5_2 < (l1.length : Int) := od_
              obtain ⟨ad123, e123, hx123_0, hx123_1, hx123_2⟩ := at_T34 HR1.out x5_2 p123 q123
              obtain rfl : ad122 = ad123 := (by injection e123)
              replace p123 := eq_true p123
              replace q123 := eq_true q123
              have p124 : 0 ≤ (x5_2 : Int) := od_
              have q124 : x5_2 < (l1.length : Int) := od_
              obtain ⟨ad124, e124, hx124_0, hx124_1, hx124_2⟩ := at_T34 HR1.out x5_2 p124 q124
              obtain rfl : ad122 = ad124 := (by injection e124)
              replace p124 := eq_true p124
              replace q124 := eq_true q124
              have p125 : 0 ≤ (x5_2 : Int) := od_
              have q125 : x5_2 < (l1.length : Int) := od_
              obtain ⟨ad125, e125, hx125_0, hx125_1, hx125_2⟩ := at_T34 HR1.out x5_2 p125 q125
              obtain rfl : ad122 = ad125 := (by injection e125)
              replace p125 := eq_true p125
              replace q125 := eq_true q125
              have p126 : 0 ≤ (x5_2 : Int) := od_
              have q126 : x5_2 < (l1.length : Int) := od_
              obtain ⟨ad126, e126, hx126_0, hx126_1, hx126_2⟩ := at_T34 HR1.out x5_2 p126 q126
              obtain rfl : ad122 = ad126 := (by injection e126)
              replace p126 := eq_true p126
              replace q126 := eq_true q126
              have p127 : 0 ≤ (x5_2 : Int) := od_
              have q127 : x5_2 < (l1.length : Int) := od_
              obtain ⟨ad127, e127, hx127_0, hx127_1, hx127_2⟩ := at_T34 HR1.out x5_2 p127 q127
              obtain rfl : ad122 = ad127 := (by injection e127)
              replace p127 := eq_true p127
              replace q127 := eq_true q127
              go_wp2
              go_ret
              exact ⟨aq, dr⟩
             ·rw [if_neg c14] at H
              have c14b0 : decide (6000 < ((rd_T34 l1 x5_2).f2)) = false := decide_eq_false c14
              clear c14
              have H' := Aside0.mk H
              clear H
              have p122 : 0 ≤ (x5_2 : Int) := od_
              have q122 : x5_2 < (l1.length : Int) := od_
              obtain ⟨ad122, e122, hx122_0, hx122_1, hx122_2⟩ := at_T34 HR1.out x5_2 p122 q122
              cases e122
              replace p122 := eq_true p122
              replace q122 := eq_true q122
              have p123 : 0 ≤ (x5_2 : Int) := od_
              have q123 : x5_2 < (l1.length : Int) := od_
              obtain ⟨ad123, e123, hx123_0, hx123_1, hx123_2⟩ := at_T34 HR1.out x5_2 p123 q123
              obtain rfl : ad122 = ad123 := (by injection e123)
              replace p123 := eq_true p123
              replace q123 := eq_true q123
              have p124 : 0 ≤ (x5_2 : Int) := od_
              have q124 : x5_2 < (l1.length : Int) := od_
              obtain ⟨ad124, e124, hx124_0, hx124_1, hx124_2⟩ := at_T34 HR1.out x5_2 p124 q124
              obtain rfl : ad122 = ad124 := (by injection e124)
              replace p124 := eq_true p124
              replace q124 := eq_true q124
              have p125 : 0 ≤ (x5_2 : Int) := od_
              have q125 : x5_2 < (l1.length : Int) := od_
              obtain ⟨ad125, e125, hx125_0, hx125_1, hx125_2⟩ := at_T34 HR1.out x5_2 p125 q125
              obtain rfl : ad122 = ad125 := (by injection e125)
              replace p125 := eq_true p125
              replace q125 := eq_true q125
              have p126 : 0 ≤ (x5_2 : Int) := od_
              have q126 : x5_2 < (l1.length : Int) := od_
              obtain ⟨ad126, e126, hx126_0, hx126_1, hx126_2⟩ := at_T34 HR1.out x5_2 p126 q126
              obtain rfl : ad122 = ad126 := (by injection e126)
              replace p126 := eq_true p126
              replace q126 := eq_true q126
              have p127 : 0 ≤ (x5_2 : Int) := od_
              have q127 : x5_2 < (l1.length : Int) := od_
              obtain ⟨ad127, e127, hx127_0, hx127_1, hx127_2⟩ := at_T34 HR1.out x5_2 p127 q127
              obtain rfl : ad122 = ad127 := (by injection e127)
              replace p127 := eq_true p127
              replace q127 := eq_true q127
              go_wp2
              go_roundg k2
              case measure => have := HJ2.out; have := HK2.out; omega
              case rel => exact ⟨(wrap64 (x5_2 + 1)), (aq), H', ⟨by have := HJ2.out; have := HK2.out; omega⟩, dr⟩
       ·rw [if_neg c8] at H
        exact absurd H (by simp)
      ·rw [if_neg c7] at H
       have c7b0 : decide (x5_2 < (l1.length : Int)) = false := decide_eq_false c7
       clear c7
       obtain rfl := Option.some.inj H
       go_wp2
       go_ret
       exact ⟨aq, dr⟩

end Go.Proofs.YtcdddmaibchjjaaDoor.X
