/- Walks: each '.calls' says that the Go function comes to what its Lean function tells. Conditions: as each theorem's head says. -/
import Derived.Test.YtcdddmaibchjjaaDoorXD
import Derived.Test.YtcdddmaibchjjaaDoorX0
import Derived.Test.YtcdddmaibchjjaaDoorX1
namespace Go.Proofs.YtcdddmaibchjjaaDoor.X
open Go.RowKit Go.Proofs.YtcdddmaibchjjaaDoorW.PrintWords Go.Proofs.YtcdddmaibchjjaaDoorW.PrintLast Go.Proofs.YtcdddmaibchjjaaDoorW.PrintMore
attribute [local go_sem] max2_int min2_int max_two min_two max_three min_three max_four min_four   -- for this text's walks alone
set_option linter.unusedVariables false
set_option maxHeartbeats 8000000
set_option maxRecDepth 100000
set_option linter.unusedSimpArgs false

/-! ### carrefourlaw14_PathsMore: function 6 -/
def carrefourlaw14_PathsMore.T4 : Bool × List (List Nat × List Nat) := (true, [([], []), ([], []), ([], []), ([1, 2], [1, 2]), ([], []), ([4], [4]), ([3, 5, 3], [3, 5]), ([0, 6, 6], [0, 6]), ([7], [7]), ([8], [8]), ([8], [8]), ([9, 7, 0, 1, 2, 3, 4, 5, 6, 7, 8, 9], [9]), ([10, 11, 0, 1, 2, 3, 4, 5, 6, 7, 8, 9, 10, 11], [10])])
def carrefourlaw14_PathsMore.B4 : List Nat := [0, 0, 0, 6, 0, 16, 62, 127, 255, 511, 511, 1023, 4095]
theorem carrefourlaw14_PathsMore.tab4 : rtab .any (opsOf Tryd.f6 4) = carrefourlaw14_PathsMore.T4 := by kernel_rfl
theorem carrefourlaw14_PathsMore.bits4 : waitsOk carrefourlaw14_PathsMore.T4.2 carrefourlaw14_PathsMore.B4 = true := by kernel_rfl
def carrefourlaw14_PathsMore.T13 : Bool × List (List Nat × List Nat) := (true, [([], []), ([], []), ([0, 1], [0, 1]), ([2], [2]), ([], []), ([], []), ([4, 5], [4, 5]), ([6], [6]), ([3, 7], [3, 7])])
def carrefourlaw14_PathsMore.B13 : List Nat := [0, 0, 3, 7, 0, 0, 48, 112, 255]
theorem carrefourlaw14_PathsMore.tab13 : rtab .any (opsOf Tryd.f6 13) = carrefourlaw14_PathsMore.T13 := by kernel_rfl
theorem carrefourlaw14_PathsMore.bits13 : waitsOk carrefourlaw14_PathsMore.T13.2 carrefourlaw14_PathsMore.B13 = true := by kernel_rfl
def carrefourlaw14_PathsMore.T15 : Bool × List (List Nat × List Nat) := (true, [([], []), ([0], [0]), ([1], [1]), ([1], [1]), ([2, 3, 1], [1, 2, 3]), ([4, 1], [1, 4]), ([1], [1]), ([1], [1]), ([6, 7, 1], [1, 6, 7]), ([8, 1], [1, 8]), ([5, 9, 1], [1, 5, 9]), ([1, 10], [1, 10]), ([11, 1, 0, 1, 2, 3, 4, 5, 6, 7, 8, 9, 10, 11], [0, 11])])
def carrefourlaw14_PathsMore.B15 : List Nat := [0, 1, 3, 3, 15, 31, 3, 3, 195, 451, 1023, 2047, 4095]
theorem carrefourlaw14_PathsMore.tab15 : rtab .any (opsOf Tryd.f6 15) = carrefourlaw14_PathsMore.T15 := by kernel_rfl
theorem carrefourlaw14_PathsMore.bits15 : waitsOk carrefourlaw14_PathsMore.T15.2 carrefourlaw14_PathsMore.B15 = true := by kernel_rfl
def carrefourlaw14_PathsMore.T16 : Bool × List (List Nat × List Nat) := (true, [([], []), ([], []), ([1], [1]), ([0, 2], [0, 2]), ([3], [3]), ([4], [4]), ([5], [5]), ([6], [6]), ([6], [6]), ([8, 6], [6, 8]), ([7, 9, 6], [6, 7, 9]), ([10, 6], [6, 10]), ([6], [6]), ([6], [6]), ([13, 6], [6, 13]), ([12, 14, 6], [6, 12, 14]), ([15, 6], [6, 15]), ([6], [6]), ([17, 6], [6, 17]), ([16, 18, 6], [6, 16, 18]), ([11, 19, 6], [6, 11, 19]), ([6, 20], [6, 20]), ([21, 6, 0, 1, 2, 3, 4, 5, 6, 7, 8, 9, 10, 11, 12, 13, 14, 15, 16, 17, 18, 19, 20, 21], [21])])
def carrefourlaw14_PathsMore.B16 : List Nat := [0, 0, 2, 7, 15, 31, 63, 127, 127, 383, 1023, 2047, 127, 127, 8319, 28799, 61567, 127, 131199, 520319, 1048575, 2097151, 4194303]
theorem carrefourlaw14_PathsMore.tab16 : rtab .any (opsOf Tryd.f6 16) = carrefourlaw14_PathsMore.T16 := by kernel_rfl
theorem carrefourlaw14_PathsMore.bits16 : waitsOk carrefourlaw14_PathsMore.T16.2 carrefourlaw14_PathsMore.B16 = true := by kernel_rfl
theorem carrefourlaw14_PathsMore.calls (k : Nat) (a0 : Int) (A1 : Option Addr) (c1 : Nat) (l1 : List (S34)) (a2_0 : Int) (a2_1 : Int) (a2_2 : Int) (r : Bool) (w : World) (hr1 : Kd.C k34 w A1 l1.length l1) (hc1 : l1.length ≤ c1) (h : carrefourlaw14_PathsMore.f k a0 l1 a2_0 a2_1 a2_2 = some r) (hT : TabOK w) :
  Calls Tryd.prog 6 #[.int .i64 a0, .slice A1 l1.length c1, .agg #[.int .i64 a2_0, .int .i64 a2_1, .int .i64 a2_2]] w fun e w' => e = .returned (.bool r) ∧ Below w.heap.size w w' := by
 have GT := Aside0.mk hT
 clear hT
 have hu34 := Tryd.underlying34
 have HR1 := Aside0.mk hr1
 have HC1 := Aside0.mk hc1
 clear hr1 hc1
 have HB := Aside0.mk (Below.refl w.heap.size w)
 have H : ((carrefourlaw14_few.f a0 l1).bind fun t122 => (if t122 = true then ((paths_Longest.f k a0 l1).bind fun bt123 => ((some (([] : List (S34)) : List (S34))).bind fun y127 => (if y127.length + l1.length < 5864062014805 then ((some (y127 ++ l1 : List (S34))).bind fun y130 => ((some (([(⟨a2_0, a2_1, a2_2⟩ : S34)] : List (S34)) : List (S34))).bind fun y133 => (if y130.length + y133.length < 5864062014805 then ((paths_Longest.f k a0 (y130 ++ y133)).bind fun bt139 => (if bt123.2 = 0 then (carrefourlaw14_PathsMore.j0 k a0 bt123.1 bt123.2 bt139.1 bt139.2 (bt139.2 != 0) a2_0 a2_1 a2_2) else (carrefourlaw14_PathsMore.j0 k a0 bt123.1 bt123.2 bt139.1 bt139.2 true a2_0 a2_1 a2_2))) else (none)))) else (none)))) else (some true))) = some r := h
 clear h
 replace H := bi_ H; obtain ⟨t122, A4, H⟩ := H
 (try dsimp only at H)
 by_cases c5 : t122 = true
 ·subst c5
  have H1 : ((paths_Longest.f k a0 l1).bind fun bt123 => ((some (([] : List (S34)) : List (S34))).bind fun y127 => (if y127.length + l1.length < 5864062014805 then ((some (y127 ++ l1 : List (S34))).bind fun y130 => ((some (([(⟨a2_0, a2_1, a2_2⟩ : S34)] : List (S34)) : List (S34))).bind fun y133 => (if y130.length + y133.length < 5864062014805 then ((paths_Longest.f k a0 (y130 ++ y133)).bind fun bt139 => (if bt123.2 = 0 then (carrefourlaw14_PathsMore.j0 k a0 bt123.1 bt123.2 bt139.1 bt139.2 (bt139.2 != 0) a2_0 a2_1 a2_2) else (carrefourlaw14_PathsMore.j0 k a0 bt123.1 bt123.2 bt139.1 bt139.2 true a2_0 a2_1 a2_2))) else (none)))) else (none)))) = some r := by rw [if_pos rfl] at H; exact H
  clear H
  have H := H1
  clear H1
  replace H := bi_ H; obtain ⟨⟨t123, t124⟩, A6, H⟩ := H
  (try dsimp only at H)
  obtain ⟨y127, hy127⟩ : ∃ y_ : List (S34), y_ = (([] : List (S34))) := ⟨_, rfl⟩
  replace H : (if y127.length + l1.length < 5864062014805 then ((some (y127 ++ l1 : List (S34))).bind fun y130 => ((some (([(⟨a2_0, a2_1, a2_2⟩ : S34)] : List (S34)) : List (S34))).bind fun y133 => (if y130.length + y133.length < 5864062014805 then ((paths_Longest.f k a0 (y130 ++ y133)).bind fun bt139 => (if t124 = 0 then (carrefourlaw14_PathsMore.j0 k a0 t123 t124 bt139.1 bt139.2 (bt139.2 != 0) a2_0 a2_1 a2_2) else (carrefourlaw14_PathsMore.j0 k a0 t123 t124 bt139.1 bt139.2 true a2_0 a2_1 a2_2))) else (none)))) else (none)) = some r := by first | (rw [hy127]; with_reducible exact H) | (have H2_ := (Option.bind_some _ _).symm.trans H; rw [hy127]; with_reducible exact H2_) | (have H2_ := (Option.bind_some _ _).symm.trans H; with_reducible exact H2_) | with_reducible exact H | (rw [hy127]; exact H) | exact H
  have Ny127 := Aside0.mk hy127
  clear hy127
  by_cases c7 : y127.length + l1.length < 5864062014805
  ·rw [if_pos c7] at H
   have LMc7 := Aside0.mk c7
   clear c7
   obtain ⟨y130, hy130⟩ : ∃ y_ : List (S34), y_ = (y127 ++ l1) := ⟨_, rfl⟩
   replace H : ((some (([(⟨a2_0, a2_1, a2_2⟩ : S34)] : List (S34)) : List (S34))).bind fun y133 => (if y130.length + y133.length < 5864062014805 then ((paths_Longest.f k a0 (y130 ++ y133)).bind fun bt139 => (if t124 = 0 then (carrefourlaw14_PathsMore.j0 k a0 t123 t124 bt139.1 bt139.2 (bt139.2 != 0) a2_0 a2_1 a2_2) else (carrefourlaw14_PathsMore.j0 k a0 t123 t124 bt139.1 bt139.2 true a2_0 a2_1 a2_2))) else (none))) = some r := by first | (rw [hy130]; with_reducible exact H) | (have H2_ := (Option.bind_some _ _).symm.trans H; rw [hy130]; with_reducible exact H2_) | (have H2_ := (Option.bind_some _ _).symm.trans H; with_reducible exact H2_) | with_reducible exact H | (rw [hy130]; exact H) | exact H
   have Ny130 := Aside0.mk hy130
   clear hy130
   obtain ⟨y133, hy133⟩ : ∃ y_ : List (S34), y_ = (([(⟨a2_0, a2_1, a2_2⟩ : S34)] : List (S34))) := ⟨_, rfl⟩
   replace H : (if y130.length + y133.length < 5864062014805 then ((paths_Longest.f k a0 (y130 ++ y133)).bind fun bt139 => (if t124 = 0 then (carrefourlaw14_PathsMore.j0 k a0 t123 t124 bt139.1 bt139.2 (bt139.2 != 0) a2_0 a2_1 a2_2) else (carrefourlaw14_PathsMore.j0 k a0 t123 t124 bt139.1 bt139.2 true a2_0 a2_1 a2_2))) else (none)) = some r := by first | (rw [hy133]; with_reducible exact H) | (have H2_ := (Option.bind_some _ _).symm.trans H; rw [hy133]; with_reducible exact H2_) | (have H2_ := (Option.bind_some _ _).symm.trans H; with_reducible exact H2_) | with_reducible exact H | (rw [hy133]; exact H) | exact H
   have Ny133 := Aside0.mk hy133
   clear hy133
   by_cases c8 : y130.length + y133.length < 5864062014805
   ·rw [if_pos c8] at H
    have LMc8 := Aside0.mk c8
    clear c8
    obtain ⟨y136, hy136⟩ : ∃ y_ : List (S34), y_ = (y130 ++ y133) := ⟨_, rfl⟩
    replace H : ((paths_Longest.f k a0 y136).bind fun bt139 => (if t124 = 0 then (carrefourlaw14_PathsMore.j0 k a0 t123 t124 bt139.1 bt139.2 (bt139.2 != 0) a2_0 a2_1 a2_2) else (carrefourlaw14_PathsMore.j0 k a0 t123 t124 bt139.1 bt139.2 true a2_0 a2_1 a2_2))) = some r := by first | (rw [hy136]; with_reducible exact H) | (have H2_ := (Option.bind_some _ _).symm.trans H; rw [hy136]; with_reducible exact H2_) | (have H2_ := (Option.bind_some _ _).symm.trans H; with_reducible exact H2_) | with_reducible exact H | (rw [hy136]; exact H) | exact H
    have Ny136 := Aside0.mk hy136
    clear hy136
    replace H := bi_ H; obtain ⟨⟨t139, t140⟩, A9, H⟩ := H
    (try dsimp only at H)
    have HC10 := Aside0.mk H
    clear H
    go_enter Tryd.func6, Tryd.ntmps6
    try go_wp2_with (first | ((with_reducible refine gate_dst (N := 5) rfl ?_); (try (refine gate_guard (by rfl) ?_; dsimp only)); refine box_event ?hg (N := 5) ?hd (cs := #[.int .i64 a2_0, .int .i64 a2_1, .int .i64 a2_2]) (t := 34) ?hr ?_; (case hd => rfl); (case hg => rfl); (case hr => first | (go_simp; done) | (go_simp; rfl)); intro gb121 hg w11 hbox hb; have BK121 := Aside0.mk (hbox); have GE121 := bz HB hg; replace HB := bs HB hb; clear hb hg) | ((with_reducible refine gc 7 rfl ?_); refine gm_ (some 16) rfl rfl Tryd.func7 (carrefourlaw14_few.calls _ _ _ _ _ _ ?side1 ?side2 A4.out) ag ?_; (case side1 => repeat (first | exact (Kd.C_below HR1.out HB.out) | (with_reducible refine Kd.C_alloc ?_ _) | (with_reducible refine Kd.C_drewN ?_ _) | (with_reducible refine Kd.C_drew ?_))); (case side2 => exact HC1.out); rintro w' ⟨nd, rfl⟩) | ((with_reducible refine gc 8 rfl ?_); refine gl_ (some 21) rfl rfl Tryd.func8 ((paths_Longest.calls _ _ _ _ _ _ _ _ ?side1 ?side2 A6.out (tt GT)).mono ?_) ag; (case side1 => repeat (first | exact (Kd.C_below HR1.out (bf HB)) | (with_reducible refine Kd.C_alloc ?_ _) | (with_reducible refine Kd.C_drewN ?_ _) | (with_reducible refine Kd.C_drew ?_))); (case side2 => exact HC1.out); rintro e w12 ⟨v125, rfl, ho0, hb⟩; refine ⟨_, rfl, ?_⟩; have HO126 := Aside0.mk (Kd.R_lower ho0 (below_size (bf HB))); replace BK121 := bb BK121 hb; replace HB := bs HB hb; (try clear hb); (try clear ho0)))
    replace HO126 := Aside0.mk (Kd.R_drew HO126.out)
    replace BK121 := Aside0.mk (blk_drew BK121.out)
    replace HB := Aside0.mk (below_drew1 HB.out)
    refine start_ (n := 13) (S := fun w' => c_ w' gb121 0 (.int .i64 a2_0) ∧ c_ w' gb121 1 (.int .i64 a2_1) ∧ c_ w' gb121 2 (.int .i64 a2_2)) (ds := []) (m_ 13 0) (by kernel_rfl) rfl rfl ⟨ct BK121 0, ct BK121 1, ct BK121 2⟩ (fun hHeld => ?_); refine with_tabW carrefourlaw14_PathsMore.tab4 carrefourlaw14_PathsMore.bits4 (fun HT_ HW_ => ?_)
    generalize w12.drew = w13 at HO126 BK121 HB hHeld ⊢
    refine pu_ 0 (some 25) (m_ 13 1) rfl rfl (ao HT_) ?_
    refine pu_ 2 (some 27) (m_ 13 5) rfl rfl (ao HT_) ?_
    refine tk_ 4 (some 29) (m_ 13 21) rfl rfl (tw HT_ HW_) hHeld ?_
    refine join_ (σ := Value × Value × Value) 7 (m_ 13 63) (fun s_ => [(26, s_.1), (28, s_.2.1), (30, s_.2.2)]) (fun s_ w' => (c_ w' gb121 0 (.int .i64 a2_0) ∧ c_ w' gb121 1 (.int .i64 a2_1) ∧ c_ w' gb121 2 (.int .i64 a2_2)) ∧ (Kd.R (Kd.int .i64) 2 w' w.heap.size (fun _ => True) v125 t123) ∧ (Kd.R k34 34 w' w.heap.size (fun k_ => some k_ ≠ (s_.2.2 : Value).ownBlock ∧ k_ ≠ gb121) s_.2.1 y130) ∧ (Kd.R k34 34 w' w.heap.size (fun k_ => some k_ ≠ (s_.2.1 : Value).ownBlock ∧ k_ ≠ gb121) s_.2.2 y133) ∧ (w'.heap[gb121]? = some (.cells #[.int .i64 a2_0, .int .i64 a2_1, .int .i64 a2_2] 34 (0, 0))) ∧ (Below w.heap.size w w')) ?_ ?_
    rotate_left
    ·intro hCont
     refine two_ (i := 1) (j := 5) (Ni := some 26) (Nj := some 30) (m_ 13 23) (m_ 13 53) rfl rfl rfl rfl (two_of HT_.out (by kernel_rfl)) (by decide) (by decide) (fun K hK => ?_) (fun K hK => ?_)
     ·skip
      refine Kd.R_lit_step k34 _ 34 ?hg (N := 26) ?hd (xs := ([] : List (S34))) (inner := []) (ok := fun _ => True) (okp := fun _ => True) ?hr ?hp (fun _ hk => hk) trivial (Below.refl _ _) (Nat.le_refl _) (by simp) ?_; (case hd => rfl); (case hg => rfl); (case hr => first | (go_simp; done) | (go_simp; rfl)); (case hp => exact (Reps.none _ _))
      intro v128 w14 ho15 hb hg_ hnew_
      clear hg_ hnew_
      (first | rw [← Ny127.out] at ho15 | (simp only [Int.reduceToNat] at ho15; rw [← Ny127.out] at ho15))
      have HO129 := Aside0.mk (Kd.R_lower (Kd.R_newB ho15 (g := gb121) (o := .cells #[.int .i64 a2_0, .int .i64 a2_1, .int .i64 a2_2] 34 (0, 0)) (bx BK121)) (below_size (bf HB)))
      replace HO126 := rb HO126 hb
      replace BK121 := bb BK121 hb
      replace HB := bs HB hb
      clear hb ho15
      refine hK.out _ _ ⟨ct BK121 0, ct BK121 1, ct BK121 2⟩ (fun hHeld => ?_)
      clear hK K
      refine nr_ (some 26) ?_
      refine two_ (i := 3) (j := 5) (Ni := some 28) (Nj := some 30) (m_ 13 31) (m_ 13 55) rfl rfl rfl rfl (two_of HT_.out (by kernel_rfl)) (by decide) (by decide) (fun K hK => ?_) (fun K hK => ?_)
      ·skip
       refine Kd.R_append_rows_step k34 (w0 := w) w.heap.size (by rfl) (.tmp 26) (.tmp 27) 22 34 (.agg #[(.int .i64 0), (.int .i64 0), (.int .i64 0)]) 24 rfl Tryd.underlying22 info34 rfl (by decide) (by omega) v128 y127 l1 _ _ _ (fun k_ => k_ ≠ gb121) (fun _ => False) rfl rfl ?aO ?aR (fun _ _ h => h) (fun _ h => h.elim) ?aF ?aB ?aS ?aL ?_
       (case aR => repeat (first | exact (Kd.C_below HR1.out HB.out) | (with_reducible refine Kd.C_alloc ?_ _) | (with_reducible refine Kd.C_drewN ?_ _) | (with_reducible refine Kd.C_drew ?_)))
       (case aB => exact (bf HB))
       (case aF => exact (fun k_ hk => Kd.freshB (g := gb121) (o := .cells #[.int .i64 a2_0, .int .i64 a2_1, .int .i64 a2_2] 34 (0, 0)) (bx BK121) k_ hk))
       (case aO => exact (Rt_ (Kd.R_mono HO129.out (fun _ hk => hk.2))))
       (case aS => exact (below_size (bf HB)))
       (case aL => have := LMc7.out; omega)
       intro v131 w16 ho hb hg hat
       rw [← Ny130.out] at ho
       have n0_ := Aside0.mk (blk_grown (g := gb121) (o := .cells #[.int .i64 a2_0, .int .i64 a2_1, .int .i64 a2_2] 34 (0, 0)) (bx BK121) hg (Kd.R_away HO129.out (fun _ hk => hk.2)))
       have n1_ := Aside0.mk (Kd.R_over' (Rt_ HO126.out) (Kd.R_typed (Rt_ HO129.out)) (by decide) hg)
       have n2_ := Aside0.mk (hb)
       have n3_ := Aside0.mk (ho)
       clear BK121
       clear HO126
       clear HB
       clear HO129
       have BK121 := n0_
       have HO126 := n1_
       have HB := n2_
       have HO132 := n3_
       clear n0_ n1_ n2_ n3_
       clear ho hb hg hat
       refine hK.out _ _ ⟨ct BK121 0, ct BK121 1, ct BK121 2⟩ (fun hHeld => ?_)
       clear hK K
       refine nr_ (some 28) ?_
       refine o1_ 5 (some 30) (m_ 13 63) rfl rfl (oo HT_) (fun K hK => ?_)
       refine Kd.R_lit_step k34 _ 34 ?hg (N := 30) ?hd (xs := ([(⟨a2_0, a2_1, a2_2⟩ : S34)] : List (S34))) (inner := [.int .i64 a2_0, .int .i64 a2_1, .int .i64 a2_2]) (ok := fun _ => True) (okp := fun _ => True) ?hr ?hp (fun _ hk => hk) trivial (Below.refl _ _) (Nat.le_refl _) (by simp) ?_; (case hd => rfl); (case hg => rfl); (case hr => first | (go_simp; done) | (go_simp; rfl)); (case hp => exact (Reps.c3 (show Kd.M k34 _ _ _ (⟨a2_0, a2_1, a2_2⟩ : S34) [.int .i64 a2_0, .int .i64 a2_1, .int .i64 a2_2] from (k34_mkM _ _ _ (⟨a2_0, a2_1, a2_2⟩ : S34) )) (Reps.none _ _)))
       intro v134 w17 ho18 hb hg_ hnew_
       clear hg_ hnew_
       (first | rw [← Ny133.out] at ho18 | (simp only [Int.reduceToNat] at ho18; rw [← Ny133.out] at ho18))
       have HO135 := Aside0.mk (Kd.R_lower (Kd.R_newB (Kd.R_new' ho18 (rl HO132)) (g := gb121) (o := .cells #[.int .i64 a2_0, .int .i64 a2_1, .int .i64 a2_2] 34 (0, 0)) (bx BK121)) (below_size (bf HB)))
       replace HO126 := rb HO126 hb
       replace HO132 := re_ HO132 (Kd.R_base ho18) hb
       replace BK121 := bb BK121 hb
       replace HB := bs HB hb
       clear hb ho18
       refine hK.out _ _ ⟨ct BK121 0, ct BK121 1, ct BK121 2⟩ (fun hHeld => ?_)
       clear hK K
       refine nr_ (some 30) ?_
       exact norm_ (by simp only [putAll, Act.put, si, s0, s1]) (hCont (v128, v131, v134) _ ⟨hHeld, (Rt_ HO126.out), (Rt_ (Kd.R_mono HO132.out (fun _ hk => ⟨hk.2, hk.1⟩))), (Rt_ (Kd.R_mono HO135.out (fun _ hk => ⟨hk.1.2, hk.2⟩))), (bx BK121), (bf HB)⟩)
      ·skip
       refine Kd.R_lit_step k34 _ 34 ?hg (N := 30) ?hd (xs := ([(⟨a2_0, a2_1, a2_2⟩ : S34)] : List (S34))) (inner := [.int .i64 a2_0, .int .i64 a2_1, .int .i64 a2_2]) (ok := fun _ => True) (okp := fun _ => True) ?hr ?hp (fun _ hk => hk) trivial (Below.refl _ _) (Nat.le_refl _) (by simp) ?_; (case hd => rfl); (case hg => rfl); (case hr => first | (go_simp; done) | (go_simp; rfl)); (case hp => exact (Reps.c3 (show Kd.M k34 _ _ _ (⟨a2_0, a2_1, a2_2⟩ : S34) [.int .i64 a2_0, .int .i64 a2_1, .int .i64 a2_2] from (k34_mkM _ _ _ (⟨a2_0, a2_1, a2_2⟩ : S34) )) (Reps.none _ _)))
       intro v134 w16 ho17 hb hg_ hnew_
       clear hg_ hnew_
       (first | rw [← Ny133.out] at ho17 | (simp only [Int.reduceToNat] at ho17; rw [← Ny133.out] at ho17))
       have HO135 := Aside0.mk (Kd.R_lower (Kd.R_newB (Kd.R_new' ho17 (rl HO129)) (g := gb121) (o := .cells #[.int .i64 a2_0, .int .i64 a2_1, .int .i64 a2_2] 34 (0, 0)) (bx BK121)) (below_size (bf HB)))
       replace HO126 := rb HO126 hb
       replace HO129 := re_ HO129 (Kd.R_base ho17) hb
       replace BK121 := bb BK121 hb
       replace HB := bs HB hb
       clear hb ho17
       refine hK.out _ _ ⟨ct BK121 0, ct BK121 1, ct BK121 2⟩ (fun hHeld => ?_)
       clear hK K
       refine nr_ (some 30) ?_
       refine o1_ 3 (some 28) (m_ 13 63) rfl rfl (oo HT_) (fun K hK => ?_)
       refine Kd.R_append_rows_step k34 (w0 := w) w.heap.size (by rfl) (.tmp 26) (.tmp 27) 22 34 (.agg #[(.int .i64 0), (.int .i64 0), (.int .i64 0)]) 24 rfl Tryd.underlying22 info34 rfl (by decide) (by omega) v128 y127 l1 _ _ _ (fun k_ => some k_ ≠ (v134 : Value).ownBlock ∧ k_ ≠ gb121) (fun _ => False) rfl rfl ?aO ?aR (fun _ _ h => h) (fun _ h => h.elim) ?aF ?aB ?aS ?aL ?_
       (case aR => repeat (first | exact (Kd.C_below HR1.out HB.out) | (with_reducible refine Kd.C_alloc ?_ _) | (with_reducible refine Kd.C_drewN ?_ _) | (with_reducible refine Kd.C_drew ?_)))
       (case aB => exact (bf HB))
       (case aF => exact (fun k_ hk => ⟨Kd.fresh' (rl HO135) k_ hk, Kd.freshB (g := gb121) (o := .cells #[.int .i64 a2_0, .int .i64 a2_1, .int .i64 a2_2] 34 (0, 0)) (bx BK121) k_ hk⟩))
       (case aO => exact (Rt_ (Kd.R_mono HO129.out (fun _ hk => ⟨hk.2, hk.1.2⟩))))
       (case aS => exact (below_size (bf HB)))
       (case aL => have := LMc7.out; omega)
       intro v131 w18 ho hb hg hat
       rw [← Ny130.out] at ho
       have n0_ := Aside0.mk (blk_grown (g := gb121) (o := .cells #[.int .i64 a2_0, .int .i64 a2_1, .int .i64 a2_2] 34 (0, 0)) (bx BK121) hg (Kd.R_away HO129.out (fun _ hk => hk.1.2)))
       have n1_ := Aside0.mk (Kd.R_over' (Rt_ HO126.out) (Kd.R_typed (Rt_ HO129.out)) (by decide) hg)
       have n2_ := Aside0.mk (Kd.R_after (ok := (fun k_ => k_ ≠ gb121)) (Rt_ (Kd.R_mono HO135.out (fun _ hk => ⟨hk.2, hk.1.2⟩))) hg hat)
       have n3_ := Aside0.mk (hb)
       have n4_ := Aside0.mk (ho)
       clear BK121
       clear HO126
       clear HO135
       clear HB
       clear HO129
       have BK121 := n0_
       have HO126 := n1_
       have HO135 := n2_
       have HB := n3_
       have HO132 := n4_
       clear n0_ n1_ n2_ n3_ n4_
       clear ho hb hg hat
       refine hK.out _ _ ⟨ct BK121 0, ct BK121 1, ct BK121 2⟩ (fun hHeld => ?_)
       clear hK K
       refine nr_ (some 28) ?_
       exact norm_ (by simp only [putAll, Act.put, si, s0, s1]) (hCont (v128, v131, v134) _ ⟨hHeld, (Rt_ HO126.out), (Rt_ HO132.out), (Rt_ (Kd.R_mono HO135.out (fun _ hk => ⟨hk.2, hk.1⟩))), (bx BK121), (bf HB)⟩)
     ·skip
      refine Kd.R_lit_step k34 _ 34 ?hg (N := 30) ?hd (xs := ([(⟨a2_0, a2_1, a2_2⟩ : S34)] : List (S34))) (inner := [.int .i64 a2_0, .int .i64 a2_1, .int .i64 a2_2]) (ok := fun _ => True) (okp := fun _ => True) ?hr ?hp (fun _ hk => hk) trivial (Below.refl _ _) (Nat.le_refl _) (by simp) ?_; (case hd => rfl); (case hg => rfl); (case hr => first | (go_simp; done) | (go_simp; rfl)); (case hp => exact (Reps.c3 (show Kd.M k34 _ _ _ (⟨a2_0, a2_1, a2_2⟩ : S34) [.int .i64 a2_0, .int .i64 a2_1, .int .i64 a2_2] from (k34_mkM _ _ _ (⟨a2_0, a2_1, a2_2⟩ : S34) )) (Reps.none _ _)))
      intro v134 w14 ho15 hb hg_ hnew_
      clear hg_ hnew_
      (first | rw [← Ny133.out] at ho15 | (simp only [Int.reduceToNat] at ho15; rw [← Ny133.out] at ho15))
      have HO135 := Aside0.mk (Kd.R_lower (Kd.R_newB ho15 (g := gb121) (o := .cells #[.int .i64 a2_0, .int .i64 a2_1, .int .i64 a2_2] 34 (0, 0)) (bx BK121)) (below_size (bf HB)))
      replace HO126 := rb HO126 hb
      replace BK121 := bb BK121 hb
      replace HB := bs HB hb
      clear hb ho15
      refine hK.out _ _ ⟨ct BK121 0, ct BK121 1, ct BK121 2⟩ (fun hHeld => ?_)
      clear hK K
      refine nr_ (some 30) ?_
      refine o1_ 1 (some 26) (m_ 13 55) rfl rfl (oo HT_) (fun K hK => ?_)
      refine Kd.R_lit_step k34 _ 34 ?hg (N := 26) ?hd (xs := ([] : List (S34))) (inner := []) (ok := fun _ => True) (okp := fun _ => True) ?hr ?hp (fun _ hk => hk) trivial (Below.refl _ _) (Nat.le_refl _) (by simp) ?_; (case hd => rfl); (case hg => rfl); (case hr => first | (go_simp; done) | (go_simp; rfl)); (case hp => exact (Reps.none _ _))
      intro v128 w16 ho17 hb hg_ hnew_
      clear hg_ hnew_
      (first | rw [← Ny127.out] at ho17 | (simp only [Int.reduceToNat] at ho17; rw [← Ny127.out] at ho17))
      have HO129 := Aside0.mk (Kd.R_lower (Kd.R_newB (Kd.R_new' ho17 (rl HO135)) (g := gb121) (o := .cells #[.int .i64 a2_0, .int .i64 a2_1, .int .i64 a2_2] 34 (0, 0)) (bx BK121)) (below_size (bf HB)))
      replace HO126 := rb HO126 hb
      replace HO135 := re_ HO135 (Kd.R_base ho17) hb
      replace BK121 := bb BK121 hb
      replace HB := bs HB hb
      clear hb ho17
      refine hK.out _ _ ⟨ct BK121 0, ct BK121 1, ct BK121 2⟩ (fun hHeld => ?_)
      clear hK K
      refine nr_ (some 26) ?_
      refine o1_ 3 (some 28) (m_ 13 63) rfl rfl (oo HT_) (fun K hK => ?_)
      refine Kd.R_append_rows_step k34 (w0 := w) w.heap.size (by rfl) (.tmp 26) (.tmp 27) 22 34 (.agg #[(.int .i64 0), (.int .i64 0), (.int .i64 0)]) 24 rfl Tryd.underlying22 info34 rfl (by decide) (by omega) v128 y127 l1 _ _ _ (fun k_ => some k_ ≠ (v134 : Value).ownBlock ∧ k_ ≠ gb121) (fun _ => False) rfl rfl ?aO ?aR (fun _ _ h => h) (fun _ h => h.elim) ?aF ?aB ?aS ?aL ?_
      (case aR => repeat (first | exact (Kd.C_below HR1.out HB.out) | (with_reducible refine Kd.C_alloc ?_ _) | (with_reducible refine Kd.C_drewN ?_ _) | (with_reducible refine Kd.C_drew ?_)))
      (case aB => exact (bf HB))
      (case aF => exact (fun k_ hk => ⟨Kd.fresh' (rl HO135) k_ hk, Kd.freshB (g := gb121) (o := .cells #[.int .i64 a2_0, .int .i64 a2_1, .int .i64 a2_2] 34 (0, 0)) (bx BK121) k_ hk⟩))
      (case aO => exact (Rt_ (Kd.R_mono HO129.out (fun _ hk => ⟨hk.1.2, hk.2⟩))))
      (case aS => exact (below_size (bf HB)))
      (case aL => have := LMc7.out; omega)
      intro v131 w18 ho hb hg hat
      rw [← Ny130.out] at ho
      have n0_ := Aside0.mk (blk_grown (g := gb121) (o := .cells #[.int .i64 a2_0, .int .i64 a2_1, .int .i64 a2_2] 34 (0, 0)) (bx BK121) hg (Kd.R_away HO129.out (fun _ hk => hk.2)))
      have n1_ := Aside0.mk (Kd.R_over' (Rt_ HO126.out) (Kd.R_typed (Rt_ HO129.out)) (by decide) hg)
      have n2_ := Aside0.mk (Kd.R_after (ok := (fun k_ => k_ ≠ gb121)) (Rt_ (Kd.R_mono HO135.out (fun _ hk => ⟨hk.1.2, hk.2⟩))) hg hat)
      have n3_ := Aside0.mk (hb)
      have n4_ := Aside0.mk (ho)
      clear BK121
      clear HO126
      clear HO135
      clear HB
      clear HO129
      have BK121 := n0_
      have HO126 := n1_
      have HO135 := n2_
      have HB := n3_
      have HO132 := n4_
      clear n0_ n1_ n2_ n3_ n4_
      clear ho hb hg hat
      refine hK.out _ _ ⟨ct BK121 0, ct BK121 1, ct BK121 2⟩ (fun hHeld => ?_)
      clear hK K
      refine nr_ (some 28) ?_
      exact norm_ (by simp only [putAll, Act.put, si, s0, s1]) (hCont (v128, v131, v134) _ ⟨hHeld, (Rt_ HO126.out), (Rt_ HO132.out), (Rt_ (Kd.R_mono HO135.out (fun _ hk => ⟨hk.2, hk.1⟩))), (bx BK121), (bf HB)⟩)
    rintro ⟨v128, v131, v134⟩ w19 ⟨hS_, h0_, h1_, h2_, h3_, h4_⟩
    have n0_ : Aside0 (Kd.R (Kd.int .i64) 2 w19 w.heap.size (fun _ => True) v125 t123) := ⟨h0_⟩
    have n1_ : Aside0 (Kd.R k34 34 w19 w.heap.size (fun k_ => some k_ ≠ (v134 : Value).ownBlock ∧ k_ ≠ gb121) v131 y130) := ⟨h1_⟩
    have n2_ : Aside0 (Kd.R k34 34 w19 w.heap.size (fun k_ => some k_ ≠ (v131 : Value).ownBlock ∧ k_ ≠ gb121) v134 y133) := ⟨h2_⟩
    have n3_ : Aside0 (w19.heap[gb121]? = some (.cells #[.int .i64 a2_0, .int .i64 a2_1, .int .i64 a2_2] 34 (0, 0))) := ⟨h3_⟩
    have n4_ : Aside0 (Below w.heap.size w w19) := ⟨h4_⟩
    clear HO126
    clear BK121
    clear HB
    clear h0_ h1_ h2_ h3_ h4_
    have HO126 := n0_
    have HO132 := n1_
    have HO135 := n2_
    have BK121 := n3_
    have HB := n4_
    clear n0_ n1_ n2_ n3_ n4_
    have hHeld : c_ w19 gb121 0 (.int .i64 a2_0) ∧ c_ w19 gb121 1 (.int .i64 a2_1) ∧ c_ w19 gb121 2 (.int .i64 a2_2) := hS_
    obtain ⟨Ao21, co21, eo21⟩ := Kd.R_slice HO135.out
    (first | subst eo21 | (injection eo21 with f1_ f2_ f3_; have f4_ := f1_.symm; have f5_ := f3_.symm; clear f1_ f2_ f3_; subst f4_; subst f5_))
    refine norm_ (a' := ?_) ?_ ?_
    rotate_left
    ·simp only [putAll, Act.put, si, s0, s1]
     rfl
    refine o1_ 6 (some 31) (m_ 13 127) rfl rfl (oo HT_) (fun K hK => ?_)
    refine Kd.R_append_rows_step k34 (w0 := w) w.heap.size (by rfl) (.tmp 28) (.tmp 30) 22 34 (.agg #[(.int .i64 0), (.int .i64 0), (.int .i64 0)]) 24 rfl Tryd.underlying22 info34 rfl (by decide) (by omega) v131 y130 y133 _ _ _ (fun k_ => some k_ ≠ (.slice Ao21 y133.length co21 : Value).ownBlock ∧ k_ ≠ gb121) (fun _ => False) rfl rfl ?aO ?aR (fun _ _ h => h) (fun _ h => h.elim) ?aF ?aB ?aS ?aL ?_
    (case aR => exact rc HO135)
    (case aB => exact (bf HB))
    (case aF => exact (fun k_ hk => ⟨Kd.fresh' (rl HO135) k_ hk, Kd.freshB (g := gb121) (o := .cells #[.int .i64 a2_0, .int .i64 a2_1, .int .i64 a2_2] 34 (0, 0)) (bx BK121) k_ hk⟩))
    (case aO => exact (Rt_ HO132.out))
    (case aS => exact (below_size (bf HB)))
    (case aL => have := LMc8.out; omega)
    intro v137 w20 ho hb hg hat
    rw [← Ny136.out] at ho
    have n0_ := Aside0.mk (blk_grown (g := gb121) (o := .cells #[.int .i64 a2_0, .int .i64 a2_1, .int .i64 a2_2] 34 (0, 0)) (bx BK121) hg (Kd.R_away HO132.out (fun _ hk => hk.2)))
    have n1_ := Aside0.mk (Kd.R_over' (Rt_ HO126.out) (Kd.R_typed (Rt_ HO132.out)) (by decide) hg)
    have n2_ := Aside0.mk (Kd.R_after (ok := (fun k_ => k_ ≠ gb121)) (Rt_ (Kd.R_mono HO135.out (fun _ hk => ⟨hk.2, hk.1⟩))) hg hat)
    have n3_ := Aside0.mk (hb)
    have n4_ := Aside0.mk (ho)
    clear BK121
    clear HO126
    clear HO135
    clear HB
    clear HO132
    have BK121 := n0_
    have HO126 := n1_
    have HO135 := n2_
    have HB := n3_
    have HO138 := n4_
    clear n0_ n1_ n2_ n3_ n4_
    clear ho hb hg hat
    obtain ⟨Ao22, co22, eo22⟩ := Kd.R_slice HO138.out
    (first | subst eo22 | (injection eo22 with f1_ f2_ f3_; have f4_ := f1_.symm; have f5_ := f3_.symm; clear f1_ f2_ f3_; subst f4_; subst f5_))
    refine hK.out _ _ ⟨ct BK121 0, ct BK121 1, ct BK121 2⟩ (fun hHeld => ?_)
    clear hK K
    refine nr_ (some 31) ?_
    refine o1_ 7 (some 32) (m_ 13 255) rfl rfl (oo HT_) (fun K hK => ?_)
    refine goes_ Tryd.func8 (by kernel_rfl) rfl #[.int .i64 a0, .slice Ao22 y136.length co22] (by rfl) rfl rfl ag ?_
    with_reducible refine (paths_Longest.calls _ _ _ _ _ _ _ _ ?side1 ?side2 A9.out (tt GT)).mono ?_
    (case side1 => exact rc HO138)
    (case side2 => exact (Kd.R_reads' HO138.out).2.1)
    rintro e w23 ⟨v141, rfl, ho0, hb⟩
    refine ⟨_, rfl, ?_⟩
    have HO142 := Aside0.mk (Kd.R_lower (Kd.R_new' ho0 (rl HO126)) (below_size (bf HB)))
    replace HO126 := re_ HO126 (Kd.R_base ho0) hb
    replace HO135 := rb HO135 hb
    replace HO138 := rb HO138 hb
    replace BK121 := bb BK121 hb
    replace HB := bs HB hb
    (try clear hb); (try clear ho0)
    refine hK.out _ _ ⟨ct BK121 0, ct BK121 1, ct BK121 2⟩ (fun hHeld => ?_)
    clear hK K
    refine nr_ (some 32) ?_
    refine pu_ 8 (some 24) (m_ 13 511) rfl rfl (ao HT_) ?_
    refine pu_ 9 (some 33) (m_ 13 1023) rfl rfl (ao HT_) ?_
    refine pu_ 10 (some 34) (m_ 13 2047) rfl rfl (ao HT_) ?_
    refine pu_ 11 (some 9) (m_ 13 4095) rfl rfl (ao HT_) ?_
    refine pu_ 12 (some 10) (m_ 13 8191) rfl rfl (ao HT_) ?_
    refine done_ (done_of HT_.out (by kernel_rfl)) ?_
    go_upto_region 5 with (fail)
    go_cut [40] (fun v40 wc => ∃ (kq : Nat) (x40_9 : Bool), v40 = .bool x40_9 ∧ Aside0 (carrefourlaw14_PathsMore.j0 kq a0 t123 t124 t139 t140 x40_9 a2_0 a2_1 a2_2 = some r) ∧ Aside0 (kq ≤ k) ∧ Aside0 (Kd.R (Kd.int .i64) 2 wc w.heap.size (fun k_ => some k_ ≠ (v141 : Value).ownBlock) v125 t123) ∧ Aside0 (Kd.R (Kd.int .i64) 2 wc w.heap.size (fun k_ => some k_ ≠ (v125 : Value).ownBlock) v141 t139) ∧ Aside0 (wc.heap[gb121]? = some (.cells #[.int .i64 a2_0, .int .i64 a2_1, .int .i64 a2_2] 34 (0, 0))) ∧ Aside0 (Below w.heap.size w wc))
    case first =>
     have H := HC10.out
     clear HC10
     by_cases c24 : t124 = 0
     ·rw [if_pos c24] at H
      have c24b0 : (t124 == 0) = true := beq_iff_eq.mpr c24
      have c24b1 : (t124 != 0) = false := bne_eq_false_iff_eq.mpr c24
      clear c24
      (first | rw [c24b0] | (simp only [i64_w, i32_w]; rw [c24b0]) | skip)
      have H' := Aside0.mk H
      clear H
      go_wp2
      go_meet
      case rel => exact ⟨_, ((t140 != 0)), (aq), H', ⟨by first | omega | exact Nat.le_refl _⟩, ⟨Rt_ (Kd.R_mono HO126.out (fun _ hk => hk.2))⟩, ⟨Rt_ (Kd.R_mono HO142.out (fun _ hk => hk.2))⟩, bu_ BK121, ⟨bf HB⟩⟩
     ·rw [if_neg c24] at H
      have c24b0 : (t124 == 0) = false := beq_eq_false_iff_ne.mpr c24
      have c24b1 : (t124 != 0) = true := bne_iff_ne.mpr c24
      (first | rw [c24b0] | (simp only [i64_w, i32_w]; rw [c24b0]) | skip)
      have H' := Aside0.mk H
      clear H
      go_wp2
      go_meet
      case rel => exact ⟨_, (true), (aq), H', ⟨by first | omega | exact Nat.le_refl _⟩, ⟨Rt_ (Kd.R_mono HO126.out (fun _ hk => hk.2))⟩, ⟨Rt_ (Kd.R_mono HO142.out (fun _ hk => hk.2))⟩, bu_ BK121, ⟨bf HB⟩⟩
    case rest =>
     clear HC10
     (try clear c1); (try clear c2); (try clear p2); (try clear c3); (try clear c5); (try clear c6); (try clear c7); (try clear c8); (try clear c24); (try clear c24b0); (try clear c24b1)
     obtain ⟨kq, x40_9, rfl, HA, HJ9, HO_7, HO_9, BK121, HB⟩ := hcut
     cases kq with
     | zero => exact absurd HA.out (by simp [carrefourlaw14_PathsMore.j0])
     | succ kj9 =>
      have H := HA.out
      clear HA
      simp only [carrefourlaw14_PathsMore.j0] at H
      by_cases c25 : x40_9 = true
      ·subst c25
       have H1 : (if t140 = 0 then (if t124 = 0 then ((carrefourlaw14_awake.f kj9).bind fun t143 => (some t143)) else (some false)) else ((carrefourlaw14_awake.f kj9).bind fun t144 => (some t144))) = some r := by rw [if_pos rfl] at H; exact H
       clear H
       have H := H1
       clear H1
       by_cases c26 : t140 = 0
       ·rw [if_pos c26] at H
        have c26b0 : (t140 == 0) = true := beq_iff_eq.mpr c26
        have c26b1 : (t140 != 0) = false := bne_eq_false_iff_eq.mpr c26
        clear c26
        by_cases c27 : t124 = 0
        ·rw [if_pos c27] at H
         have c27b0 : (t124 == 0) = true := beq_iff_eq.mpr c27
         have c27b1 : (t124 != 0) = false := bne_eq_false_iff_eq.mpr c27
         clear c27
         replace H := bi_ H; obtain ⟨t143, A28, H⟩ := H
         (try dsimp only at H)
         obtain rfl := Option.some.inj H
         go_wp2_with (first | (go_at_call 10; (with_reducible refine (carrefourlaw14_awake.calls kj9 _ _ A28.out (tt GT)).mono ?_); rintro e w29 ⟨rfl, hb⟩; replace HO_7 := Aside0.mk (Kd.R_below (Rt_ HO_7.out) hb); replace HO_9 := Aside0.mk (Kd.R_below (Rt_ HO_9.out) hb); replace BK121 := bb BK121 hb; replace HB := bs HB hb; (try clear hb)))
         go_ret
         exact ⟨ae, bf HB⟩
        ·rw [if_neg c27] at H
         have c27b0 : (t124 == 0) = false := beq_eq_false_iff_ne.mpr c27
         have c27b1 : (t124 != 0) = true := bne_iff_ne.mpr c27
         obtain rfl := Option.some.inj H
         go_wp2
         go_ret
         exact ⟨ae, bf HB⟩
       ·rw [if_neg c26] at H
        have c26b0 : (t140 == 0) = false := beq_eq_false_iff_ne.mpr c26
        have c26b1 : (t140 != 0) = true := bne_iff_ne.mpr c26
        replace H := bi_ H; obtain ⟨t144, A30, H⟩ := H
        (try dsimp only at H)
        obtain rfl := Option.some.inj H
        go_wp2_with (first | (go_at_call 10; (with_reducible refine (carrefourlaw14_awake.calls kj9 _ _ A30.out (tt GT)).mono ?_); rintro e w31 ⟨rfl, hb⟩; replace HO_7 := Aside0.mk (Kd.R_below (Rt_ HO_7.out) hb); replace HO_9 := Aside0.mk (Kd.R_below (Rt_ HO_9.out) hb); replace BK121 := bb BK121 hb; replace HB := bs HB hb; (try clear hb)))
        go_ret
        exact ⟨ae, bf HB⟩
      ·replace c25 := Bool.eq_false_iff.mpr c25
       subst c25
       have H1 : (if (t123.length : Int) = a0 then (carrefourlaw14_PathsMore.j1 kj9 a0 t123 t139 ((t139.length : Int) != a0) a2_0 a2_1 a2_2) else (carrefourlaw14_PathsMore.j1 kj9 a0 t123 t139 true a2_0 a2_1 a2_2)) = some r := by rw [if_neg (show ¬ (false = true) by decide)] at H; exact H
       clear H
       have H := H1
       clear H1
       have HC32 := Aside0.mk H
       clear H
       go_upto_region 7 with (fail)
       go_cut [59] (fun v59 wc => ∃ (kq : Nat) (x59_31 : Bool), v59 = .bool x59_31 ∧ Aside0 (carrefourlaw14_PathsMore.j1 kq a0 t123 t139 x59_31 a2_0 a2_1 a2_2 = some r) ∧ Aside0 (kq ≤ kj9) ∧ Aside0 (Kd.R (Kd.int .i64) 2 wc w.heap.size (fun k_ => some k_ ≠ (v141 : Value).ownBlock) v125 t123) ∧ Aside0 (Kd.R (Kd.int .i64) 2 wc w.heap.size (fun k_ => some k_ ≠ (v125 : Value).ownBlock) v141 t139) ∧ Aside0 (wc.heap[gb121]? = some (.cells #[.int .i64 a2_0, .int .i64 a2_1, .int .i64 a2_2] 34 (0, 0))) ∧ Aside0 (Below w.heap.size w wc))
       case first =>
        have H := HC32.out
        clear HC32
        by_cases c33 : (t123.length : Int) = a0
        ·rw [if_pos c33] at H
         have c33b0 : ((t123.length : Int) == a0) = true := beq_iff_eq.mpr c33
         have c33b1 : ((t123.length : Int) != a0) = false := bne_eq_false_iff_eq.mpr c33
         clear c33
         (first | rw [c33b0] | (simp only [i64_w, i32_w]; rw [c33b0]) | skip)
         have H' := Aside0.mk H
         clear H
         obtain ⟨Ao34, co34, eo34⟩ := Kd.R_slice HO_7.out
         subst eo34
         obtain ⟨Ao35, co35, eo35⟩ := Kd.R_slice HO_9.out
         subst eo35
         go_wp2
         go_meet
         case rel => exact ⟨_, (((t139.length : Int) != a0)), (aq), H', ⟨by have := HJ9.out; first | omega | exact Nat.le_refl _⟩, ⟨Rt_ HO_7.out⟩, ⟨Rt_ HO_9.out⟩, bu_ BK121, ⟨bf HB⟩⟩
        ·rw [if_neg c33] at H
         have c33b0 : ((t123.length : Int) == a0) = false := beq_eq_false_iff_ne.mpr c33
         have c33b1 : ((t123.length : Int) != a0) = true := bne_iff_ne.mpr c33
         (first | rw [c33b0] | (simp only [i64_w, i32_w]; rw [c33b0]) | skip)
         have H' := Aside0.mk H
         clear H
         obtain ⟨Ao36, co36, eo36⟩ := Kd.R_slice HO_7.out
         subst eo36
         go_wp2
         go_meet
         case rel => exact ⟨_, (true), (aq), H', ⟨by have := HJ9.out; first | omega | exact Nat.le_refl _⟩, ⟨Rt_ HO_7.out⟩, ⟨Rt_ HO_9.out⟩, bu_ BK121, ⟨bf HB⟩⟩
       case rest =>
        clear HC32
        (try clear c1); (try clear c2); (try clear p2); (try clear c3); (try clear c5); (try clear c6); (try clear c7); (try clear c8); (try clear c24); (try clear c24b0); (try clear c24b1); (try clear c25); (try clear c26); (try clear c26b0); (try clear c26b1); (try clear c27); (try clear c27b0); (try clear c27b1); (try clear c33); (try clear c33b0); (try clear c33b1); (try clear p2)
        obtain ⟨kq, x59_31, rfl, HA, HJ31, HO_7, HO_9, BK121, HB⟩ := hcut
        cases kq with
        | zero => exact absurd HA.out (by simp [carrefourlaw14_PathsMore.j1])
        | succ kj31 =>
         have H := HA.out
         clear HA
         simp only [carrefourlaw14_PathsMore.j1] at H
         by_cases c37 : x59_31 = true
         ·subst c37
          have H1 : (some false) = some r := by rw [if_pos rfl] at H; exact H
          clear H
          have H := H1
          clear H1
          obtain rfl := Option.some.inj H
          go_wp2
          go_ret
          exact ⟨ae, bf HB⟩
         ·replace c37 := Bool.eq_false_iff.mpr c37
          subst c37
          have H1 : (carrefourlaw14_PathsMore.l0 kj31 a0 t123 t139 true 0 a2_0 a2_1 a2_2) = some r := by rw [if_neg (show ¬ (false = true) by decide)] at H; exact H
          clear H
          have H := H1
          clear H1
          have H' := Aside0.mk H
          clear H
          go_wp2
          go_loopg [11, 12] kj31 (fun kq v11 v12 w' => ∃ (x11_3 : Bool) (x12_3 : Int), v11 = .bool x11_3 ∧ v12 = .int .i64 x12_3 ∧ Aside0 (carrefourlaw14_PathsMore.l0 kq a0 t123 t139 x11_3 x12_3 a2_0 a2_1 a2_2 = some r) ∧ Aside0 (kq ≤ kj31) ∧ Aside0 (Kd.R (Kd.int .i64) 2 w' w.heap.size (fun k_ => some k_ ≠ (v141 : Value).ownBlock) v125 t123) ∧ Aside0 (Kd.R (Kd.int .i64) 2 w' w.heap.size (fun k_ => some k_ ≠ (v125 : Value).ownBlock) v141 t139) ∧ Aside0 (w'.heap[gb121]? = some (.cells #[.int .i64 a2_0, .int .i64 a2_1, .int .i64 a2_2] 34 (0, 0))) ∧ Aside0 (Below w.heap.size w w'))
          case atStart => exact ⟨(true), (0), (aq), (aq), H', ⟨Nat.le_refl _⟩, ⟨Rt_ HO_7.out⟩, ⟨Rt_ HO_9.out⟩, bu_ BK121, ⟨bf HB⟩⟩
          case round =>
           clear H'
           (try clear c1); (try clear c2); (try clear p2); (try clear c3); (try clear c5); (try clear c6); (try clear c7); (try clear c8); (try clear c24); (try clear c24b0); (try clear c24b1); (try clear c25); (try clear c26); (try clear c26b0); (try clear c26b1); (try clear c27); (try clear c27b0); (try clear c27b1); (try clear c33); (try clear c33b0); (try clear c33b1); (try clear c37); (try clear p2)
           obtain ⟨x11_3, x12_3, rfl, rfl, HA, HK3, HO_7, HO_9, BK121, HB⟩ := hrel
           cases gk with
           | zero => exact absurd HA.out (by simp [carrefourlaw14_PathsMore.l0])
           | succ k3 =>
            have H := HA.out
            clear HA
            simp only [carrefourlaw14_PathsMore.l0] at H
            by_cases c38 : x12_3 < a0
            ·rw [if_pos c38] at H
             have c38b0 : decide (x12_3 < a0) = true := decide_eq_true c38
             clear c38
             by_cases c39 : 0 ≤ x12_3
             ·rw [if_pos c39] at H
              have c39b0 : decide (0 ≤ x12_3) = true := decide_eq_true c39
              clear c39
              by_cases c40 : x12_3 < (t139.length : Int)
              ·rw [if_pos c40] at H
               have c40b0 : decide (x12_3 < (t139.length : Int)) = true := decide_eq_true c40
               clear c40
               by_cases c41 : x12_3 < (t123.length : Int)
               ·rw [if_pos c41] at H
                have c41b0 : decide (x12_3 < (t123.length : Int)) = true := decide_eq_true c41
                clear c41
                by_cases c42 : (rd t139 x12_3) < (rd t123 x12_3)
                ·rw [if_pos c42] at H
                 have c42b0 : decide ((rd t139 x12_3) < (rd t123 x12_3)) = true := decide_eq_true c42
                 clear c42
                 obtain rfl := Option.some.inj H
                 try go_wp2
                 replace HO_7 := Aside0.mk (Kd.R_drew HO_7.out)
                 replace HO_9 := Aside0.mk (Kd.R_drew HO_9.out)
                 replace BK121 := Aside0.mk (blk_drew BK121.out)
                 replace HB := Aside0.mk (below_drew1 HB.out)
                 obtain ⟨Ao44, co44, eo44⟩ := Kd.R_slice HO_9.out
                 (first | subst eo44 | (injection eo44 with f1_ f2_ f3_; have f4_ := f1_.symm; have f5_ := f3_.symm; clear f1_ f2_ f3_; subst f4_; subst f5_))
                 have p145 : 0 ≤ (x12_3 : Int) := od_
                 have q145 : x12_3 < (t139.length : Int) := od_
                 obtain ⟨ad145, e145, hx145_0⟩ := Kd.at_int (Kd.R_reads' HO_9.out).2.2 x12_3 p145 q145
                 cases e145
                 replace p145 := eq_true p145
                 replace q145 := eq_true q145
                 obtain ⟨Ao45, co45, eo45⟩ := Kd.R_slice HO_7.out
                 (first | subst eo45 | (injection eo45 with f1_ f2_ f3_; have f4_ := f1_.symm; have f5_ := f3_.symm; clear f1_ f2_ f3_; subst f4_; subst f5_))
                 have p146 : 0 ≤ (x12_3 : Int) := od_
                 have q146 : x12_3 < (t123.length : Int) := od_
                 obtain ⟨ad146, e146, hx146_0⟩ := Kd.at_int (Kd.R_reads' HO_7.out).2.2 x12_3 p146 q146
                 cases e146
                 replace p146 := eq_true p146
                 replace q146 := eq_true q146
                 refine start_ (n := 9) (S := fun w' => w'.cell? (ad145.add (x12_3).toNat) = some (.int .i64 (rd t139 x12_3)) ∧ w'.cell? (ad146.add (x12_3).toNat) = some (.int .i64 (rd t123 x12_3))) (ds := []) (m_ 9 0) (by kernel_rfl) rfl rfl ⟨hx145_0, hx146_0⟩ (fun hHeld => ?_); refine with_tabW carrefourlaw14_PathsMore.tab13 carrefourlaw14_PathsMore.bits13 (fun HT_ HW_ => ?_)
                 generalize wr.drew = w43 at HO_7 HO_9 BK121 HB hx145_0 hx146_0 hHeld ⊢
                 refine pu_ 0 (some 65) (m_ 9 1) rfl rfl (ao HT_) ?_
                 refine pu_ 1 (some 66) (m_ 9 3) rfl rfl (ao HT_) ?_
                 refine pu_ 2 (some 67) (m_ 9 7) rfl rfl (ao HT_) ?_
                 refine pu_ 4 (some 69) (m_ 9 23) rfl rfl (ao HT_) ?_
                 refine pu_ 5 (some 70) (m_ 9 55) rfl rfl (ao HT_) ?_
                 refine pu_ 6 (some 71) (m_ 9 119) rfl rfl (ao HT_) ?_
                 refine tk_ 3 (some 68) (m_ 9 127) rfl rfl (tw HT_ HW_) hHeld ?_
                 refine tk_ 7 (some 72) (m_ 9 255) rfl rfl (tw HT_ HW_) hHeld ?_
                 refine pu_ 8 (some 73) (m_ 9 511) rfl rfl (ao HT_) ?_
                 refine done_ (done_of HT_.out (by kernel_rfl)) ?_
                 try go_wp2
                 go_ret
                 exact ⟨ae, bf HB⟩
                ·rw [if_neg c42] at H
                 have c42b0 : decide ((rd t139 x12_3) < (rd t123 x12_3)) = false := decide_eq_false c42
                 clear c42
                 by_cases c46 : x11_3 = true
                 ·subst c46
                  have H1 : (carrefourlaw14_PathsMore.l0 k3 a0 t123 t139 ((rd t123 x12_3) == (rd t139 x12_3)) (wrap64 (x12_3 + 1)) a2_0 a2_1 a2_2) = some r := by rw [if_pos rfl] at H; exact H
                  clear H
                  have H := H1
                  clear H1
                  have H' := Aside0.mk H
                  clear H
                  try go_wp2
                  replace HO_7 := Aside0.mk (Kd.R_drew HO_7.out)
                  replace HO_9 := Aside0.mk (Kd.R_drew HO_9.out)
                  replace BK121 := Aside0.mk (blk_drew BK121.out)
                  replace HB := Aside0.mk (below_drew1 HB.out)
                  obtain ⟨Ao48, co48, eo48⟩ := Kd.R_slice HO_9.out
                  (first | subst eo48 | (injection eo48 with f1_ f2_ f3_; have f4_ := f1_.symm; have f5_ := f3_.symm; clear f1_ f2_ f3_; subst f4_; subst f5_))
                  have p145 : 0 ≤ (x12_3 : Int) := od_
                  have q145 : x12_3 < (t139.length : Int) := od_
                  obtain ⟨ad145, e145, hx145_0⟩ := Kd.at_int (Kd.R_reads' HO_9.out).2.2 x12_3 p145 q145
                  cases e145
                  replace p145 := eq_true p145
                  replace q145 := eq_true q145
                  obtain ⟨Ao49, co49, eo49⟩ := Kd.R_slice HO_7.out
                  (first | subst eo49 | (injection eo49 with f1_ f2_ f3_; have f4_ := f1_.symm; have f5_ := f3_.symm; clear f1_ f2_ f3_; subst f4_; subst f5_))
                  have p146 : 0 ≤ (x12_3 : Int) := od_
                  have q146 : x12_3 < (t123.length : Int) := od_
                  obtain ⟨ad146, e146, hx146_0⟩ := Kd.at_int (Kd.R_reads' HO_7.out).2.2 x12_3 p146 q146
                  cases e146
                  replace p146 := eq_true p146
                  replace q146 := eq_true q146
                  refine start_ (n := 9) (S := fun w' => w'.cell? (ad145.add (x12_3).toNat) = some (.int .i64 (rd t139 x12_3)) ∧ w'.cell? (ad146.add (x12_3).toNat) = some (.int .i64 (rd t123 x12_3))) (ds := []) (m_ 9 0) (by kernel_rfl) rfl rfl ⟨hx145_0, hx146_0⟩ (fun hHeld => ?_); refine with_tabW carrefourlaw14_PathsMore.tab13 carrefourlaw14_PathsMore.bits13 (fun HT_ HW_ => ?_)
                  generalize wr.drew = w47 at HO_7 HO_9 BK121 HB hx145_0 hx146_0 hHeld ⊢
                  refine pu_ 0 (some 65) (m_ 9 1) rfl rfl (ao HT_) ?_
                  refine pu_ 1 (some 66) (m_ 9 3) rfl rfl (ao HT_) ?_
                  refine pu_ 2 (some 67) (m_ 9 7) rfl rfl (ao HT_) ?_
                  refine pu_ 4 (some 69) (m_ 9 23) rfl rfl (ao HT_) ?_
                  refine pu_ 5 (some 70) (m_ 9 55) rfl rfl (ao HT_) ?_
                  refine pu_ 6 (some 71) (m_ 9 119) rfl rfl (ao HT_) ?_
                  refine tk_ 3 (some 68) (m_ 9 127) rfl rfl (tw HT_ HW_) hHeld ?_
                  refine tk_ 7 (some 72) (m_ 9 255) rfl rfl (tw HT_ HW_) hHeld ?_
                  refine pu_ 8 (some 73) (m_ 9 511) rfl rfl (ao HT_) ?_
                  refine done_ (done_of HT_.out (by kernel_rfl)) ?_
                  try go_wp2
                  replace HO_7 := Aside0.mk (Kd.R_drew HO_7.out)
                  replace HO_9 := Aside0.mk (Kd.R_drew HO_9.out)
                  replace BK121 := Aside0.mk (blk_drew BK121.out)
                  replace HB := Aside0.mk (below_drew1 HB.out)
                  have p147 : 0 ≤ (x12_3 : Int) := od_
                  have q147 : x12_3 < (t123.length : Int) := od_
                  obtain ⟨ad147, e147, hx147_0⟩ := Kd.at_int (Kd.R_reads' HO_7.out).2.2 x12_3 p147 q147
                  obtain rfl : ad146 = ad147 := (by injection e147)
                  replace p147 := eq_true p147
                  replace q147 := eq_true q147
                  have p148 : 0 ≤ (x12_3 : Int) := od_
                  have q148 : x12_3 < (t139.length : Int) := od_
                  obtain ⟨ad148, e148, hx148_0⟩ := Kd.at_int (Kd.R_reads' HO_9.out).2.2 x12_3 p148 q148
                  obtain rfl : ad145 = ad148 := (by injection e148)
                  replace p148 := eq_true p148
                  replace q148 := eq_true q148
                  refine start_ (n := 13) (S := fun w' => w'.cell? (ad146.add (x12_3).toNat) = some (.int .i64 (rd t123 x12_3)) ∧ w'.cell? (ad145.add (x12_3).toNat) = some (.int .i64 (rd t139 x12_3))) (ds := []) (m_ 13 0) (by kernel_rfl) rfl rfl ⟨hx147_0, hx148_0⟩ (fun hHeld => ?_); refine with_tabW carrefourlaw14_PathsMore.tab15 carrefourlaw14_PathsMore.bits15 (fun HT_ HW_ => ?_)
                  generalize w47.drew = w50 at HO_7 HO_9 BK121 HB hx147_0 hx148_0 hHeld ⊢
                  refine pu_ 0 (some 74) (m_ 13 1) rfl rfl (ao HT_) ?_
                  refine pu_ 1 (some 75) (m_ 13 3) rfl rfl (ao HT_) ?_
                  refine pu_ 2 (some 76) (m_ 13 7) rfl rfl (ao HT_) ?_
                  refine pu_ 3 (some 77) (m_ 13 15) rfl rfl (ao HT_) ?_
                  refine pu_ 4 (some 78) (m_ 13 31) rfl rfl (ao HT_) ?_
                  refine pu_ 6 (some 80) (m_ 13 95) rfl rfl (ao HT_) ?_
                  refine pu_ 7 (some 81) (m_ 13 223) rfl rfl (ao HT_) ?_
                  refine pu_ 8 (some 82) (m_ 13 479) rfl rfl (ao HT_) ?_
                  refine tk_ 5 (some 79) (m_ 13 511) rfl rfl (tw HT_ HW_) hHeld ?_
                  refine tk_ 9 (some 83) (m_ 13 1023) rfl rfl (tw HT_ HW_) hHeld ?_
                  refine pu_ 10 (some 84) (m_ 13 2047) rfl rfl (ao HT_) ?_
                  refine pu_ 11 (some 85) (m_ 13 4095) rfl rfl (ao HT_) ?_
                  refine pu_ 12 (some 11) (m_ 13 8191) rfl rfl (ao HT_) ?_
                  refine done_ (done_of HT_.out (by kernel_rfl)) ?_
                  try go_wp2
                  go_roundg k3
                  case measure => have := HJ9.out; have := HJ31.out; have := HK3.out; omega
                  case rel => exact ⟨(((rd t123 x12_3) == (rd t139 x12_3))), (wrap64 (x12_3 + 1)), (aq), (aq), H', ⟨by have := HJ9.out; have := HJ31.out; have := HK3.out; omega⟩, ⟨Rt_ HO_7.out⟩, ⟨Rt_ HO_9.out⟩, bu_ BK121, ⟨bf HB⟩⟩
                 ·replace c46 := Bool.eq_false_iff.mpr c46
                  subst c46
                  have H1 : (carrefourlaw14_PathsMore.l0 k3 a0 t123 t139 false (wrap64 (x12_3 + 1)) a2_0 a2_1 a2_2) = some r := by rw [if_neg (show ¬ (false = true) by decide)] at H; exact H
                  clear H
                  have H := H1
                  clear H1
                  have H' := Aside0.mk H
                  clear H
                  try go_wp2
                  replace HO_7 := Aside0.mk (Kd.R_drew HO_7.out)
                  replace HO_9 := Aside0.mk (Kd.R_drew HO_9.out)
                  replace BK121 := Aside0.mk (blk_drew BK121.out)
                  replace HB := Aside0.mk (below_drew1 HB.out)
                  obtain ⟨Ao52, co52, eo52⟩ := Kd.R_slice HO_9.out
                  (first | subst eo52 | (injection eo52 with f1_ f2_ f3_; have f4_ := f1_.symm; have f5_ := f3_.symm; clear f1_ f2_ f3_; subst f4_; subst f5_))
                  have p145 : 0 ≤ (x12_3 : Int) := od_
                  have q145 : x12_3 < (t139.length : Int) := od_
                  obtain ⟨ad145, e145, hx145_0⟩ := Kd.at_int (Kd.R_reads' HO_9.out).2.2 x12_3 p145 q145
                  cases e145
                  replace p145 := eq_true p145
                  replace q145 := eq_true q145
                  obtain ⟨Ao53, co53, eo53⟩ := Kd.R_slice HO_7.out
                  (first | subst eo53 | (injection eo53 with f1_ f2_ f3_; have f4_ := f1_.symm; have f5_ := f3_.symm; clear f1_ f2_ f3_; subst f4_; subst f5_))
                  have p146 : 0 ≤ (x12_3 : Int) := od_
                  have q146 : x12_3 < (t123.length : Int) := od_
                  obtain ⟨ad146, e146, hx146_0⟩ := Kd.at_int (Kd.R_reads' HO_7.out).2.2 x12_3 p146 q146
                  cases e146
                  replace p146 := eq_true p146
                  replace q146 := eq_true q146
                  refine start_ (n := 9) (S := fun w' => w'.cell? (ad145.add (x12_3).toNat) = some (.int .i64 (rd t139 x12_3)) ∧ w'.cell? (ad146.add (x12_3).toNat) = some (.int .i64 (rd t123 x12_3))) (ds := []) (m_ 9 0) (by kernel_rfl) rfl rfl ⟨hx145_0, hx146_0⟩ (fun hHeld => ?_); refine with_tabW carrefourlaw14_PathsMore.tab13 carrefourlaw14_PathsMore.bits13 (fun HT_ HW_ => ?_)
                  generalize wr.drew = w51 at HO_7 HO_9 BK121 HB hx145_0 hx146_0 hHeld ⊢
                  refine pu_ 0 (some 65) (m_ 9 1) rfl rfl (ao HT_) ?_
                  refine pu_ 1 (some 66) (m_ 9 3) rfl rfl (ao HT_) ?_
                  refine pu_ 2 (some 67) (m_ 9 7) rfl rfl (ao HT_) ?_
                  refine pu_ 4 (some 69) (m_ 9 23) rfl rfl (ao HT_) ?_
                  refine pu_ 5 (some 70) (m_ 9 55) rfl rfl (ao HT_) ?_
                  refine pu_ 6 (some 71) (m_ 9 119) rfl rfl (ao HT_) ?_
                  refine tk_ 3 (some 68) (m_ 9 127) rfl rfl (tw HT_ HW_) hHeld ?_
                  refine tk_ 7 (some 72) (m_ 9 255) rfl rfl (tw HT_ HW_) hHeld ?_
                  refine pu_ 8 (some 73) (m_ 9 511) rfl rfl (ao HT_) ?_
                  refine done_ (done_of HT_.out (by kernel_rfl)) ?_
                  try go_wp2
                  replace HO_7 := Aside0.mk (Kd.R_drew HO_7.out)
                  replace HO_9 := Aside0.mk (Kd.R_drew HO_9.out)
                  replace BK121 := Aside0.mk (blk_drew BK121.out)
                  replace HB := Aside0.mk (below_drew1 HB.out)
                  refine start_ (n := 13) (S := fun w' => True) (ds := []) (m_ 13 0) (by kernel_rfl) rfl rfl trivial (fun hHeld => ?_); refine with_tabW carrefourlaw14_PathsMore.tab15 carrefourlaw14_PathsMore.bits15 (fun HT_ HW_ => ?_)
                  generalize w51.drew = w54 at HO_7 HO_9 BK121 HB hHeld ⊢
                  refine pu_ 0 (some 74) (m_ 13 1) rfl rfl (ao HT_) ?_
                  refine pu_ 1 (some 75) (m_ 13 3) rfl rfl (ao HT_) ?_
                  refine pv_ 2 (some 76) (m_ 13 7) rfl rfl (ao HT_) ?_
                  refine pv_ 3 (some 77) (m_ 13 15) rfl rfl (ao HT_) ?_
                  refine pv_ 4 (some 78) (m_ 13 31) rfl rfl (ao HT_) ?_
                  refine pv_ 5 (some 79) (m_ 13 63) rfl rfl (ao HT_) ?_
                  refine pv_ 6 (some 80) (m_ 13 127) rfl rfl (ao HT_) ?_
                  refine pv_ 7 (some 81) (m_ 13 255) rfl rfl (ao HT_) ?_
                  refine pv_ 8 (some 82) (m_ 13 511) rfl rfl (ao HT_) ?_
                  refine pv_ 9 (some 83) (m_ 13 1023) rfl rfl (ao HT_) ?_
                  refine pv_ 10 (some 84) (m_ 13 2047) rfl rfl (ao HT_) ?_
                  refine pu_ 11 (some 85) (m_ 13 4095) rfl rfl (ao HT_) ?_
                  refine pu_ 12 (some 11) (m_ 13 8191) rfl rfl (ao HT_) ?_
                  refine done_ (done_of HT_.out (by kernel_rfl)) ?_
                  try go_wp2
                  go_roundg k3
                  case measure => have := HJ9.out; have := HJ31.out; have := HK3.out; omega
                  case rel => exact ⟨(false), (wrap64 (x12_3 + 1)), (aq), (aq), H', ⟨by have := HJ9.out; have := HJ31.out; have := HK3.out; omega⟩, ⟨Rt_ HO_7.out⟩, ⟨Rt_ HO_9.out⟩, bu_ BK121, ⟨bf HB⟩⟩
               ·rw [if_neg c41] at H
                exact absurd H (by simp)
              ·rw [if_neg c40] at H
               exact absurd H (by simp)
             ·rw [if_neg c39] at H
              exact absurd H (by simp)
            ·rw [if_neg c38] at H
             have c38b0 : decide (x12_3 < a0) = false := decide_eq_false c38
             clear c38
             by_cases c55 : 0 ≤ a2_0
             ·rw [if_pos c55] at H
              have c55b0 : decide (0 ≤ a2_0) = true := decide_eq_true c55
              clear c55
              by_cases c56 : a2_0 < (t123.length : Int)
              ·rw [if_pos c56] at H
               have c56b0 : decide (a2_0 < (t123.length : Int)) = true := decide_eq_true c56
               clear c56
               by_cases c57 : (rd t123 a2_0) < 0
               ·rw [if_pos c57] at H
                have c57b0 : decide ((rd t123 a2_0) < 0) = true := decide_eq_true c57
                clear c57
                by_cases c58 : (x11_3 == true) = true
                ·rw [if_pos c58] at H
                 have c58b0 : (x11_3 == true) = true := c58
                 (try (have c58b1 : decide (x11_3 = true) = true := by simpa using c58))
                 (try (have c58b2 : (x11_3 == true) = true := by simpa using c58))
                 clear c58
                 replace H := bi_ H; obtain ⟨t150, A59, H⟩ := H
                 (try dsimp only at H)
                 obtain rfl := Option.some.inj H
                 try go_wp2
                 replace HO_7 := Aside0.mk (Kd.R_drew HO_7.out)
                 replace HO_9 := Aside0.mk (Kd.R_drew HO_9.out)
                 replace BK121 := Aside0.mk (blk_drew BK121.out)
                 replace HB := Aside0.mk (below_drew1 HB.out)
                 obtain ⟨Ao61, co61, eo61⟩ := Kd.R_slice HO_7.out
                 (first | subst eo61 | (injection eo61 with f1_ f2_ f3_; have f4_ := f1_.symm; have f5_ := f3_.symm; clear f1_ f2_ f3_; subst f4_; subst f5_))
                 have p149 : 0 ≤ (a2_0 : Int) := od_
                 have q149 : a2_0 < (t123.length : Int) := od_
                 obtain ⟨ad149, e149, hx149_0⟩ := Kd.at_int (Kd.R_reads' HO_7.out).2.2 a2_0 p149 q149
                 cases e149
                 replace p149 := eq_true p149
                 replace q149 := eq_true q149
                 refine start_ (n := 23) (S := fun w' => c_ w' gb121 0 (.int .i64 a2_0) ∧ c_ w' gb121 1 (.int .i64 a2_1) ∧ c_ w' gb121 2 (.int .i64 a2_2) ∧ w'.cell? (ad149.add (a2_0).toNat) = some (.int .i64 (rd t123 a2_0))) (ds := []) (m_ 23 0) (by kernel_rfl) rfl rfl ⟨ct BK121 0, ct BK121 1, ct BK121 2, hx149_0⟩ (fun hHeld => ?_); refine with_tabW carrefourlaw14_PathsMore.tab16 carrefourlaw14_PathsMore.bits16 (fun HT_ HW_ => ?_)
                 generalize wr.drew = w60 at HO_7 HO_9 BK121 HB hx149_0 hHeld ⊢
                 refine pu_ 0 (some 86) (m_ 23 1) rfl rfl (ao HT_) ?_
                 refine pu_ 1 (some 87) (m_ 23 3) rfl rfl (ao HT_) ?_
                 refine tk_ 2 (some 88) (m_ 23 7) rfl rfl (tw HT_ HW_) hHeld ?_
                 refine pu_ 3 (some 89) (m_ 23 15) rfl rfl (ao HT_) ?_
                 refine tk_ 4 (some 90) (m_ 23 31) rfl rfl (tw HT_ HW_) hHeld ?_
                 refine pu_ 5 (some 91) (m_ 23 63) rfl rfl (ao HT_) ?_
                 refine pu_ 6 (some 92) (m_ 23 127) rfl rfl (ao HT_) ?_
                 refine pv_ 7 (some 93) (m_ 23 255) rfl rfl (ao HT_) ?_
                 refine pv_ 8 (some 94) (m_ 23 511) rfl rfl (ao HT_) ?_
                 refine pv_ 9 (some 95) (m_ 23 1023) rfl rfl (ao HT_) ?_
                 refine pv_ 10 (some 96) (m_ 23 2047) rfl rfl (ao HT_) ?_
                 refine pv_ 11 (some 97) (m_ 23 4095) rfl rfl (ao HT_) ?_
                 refine pv_ 12 (some 98) (m_ 23 8191) rfl rfl (ao HT_) ?_
                 refine pv_ 13 (some 99) (m_ 23 16383) rfl rfl (ao HT_) ?_
                 refine pv_ 14 (some 100) (m_ 23 32767) rfl rfl (ao HT_) ?_
                 refine pv_ 15 (some 101) (m_ 23 65535) rfl rfl (ao HT_) ?_
                 refine pv_ 16 (some 102) (m_ 23 131071) rfl rfl (ao HT_) ?_
                 refine pv_ 17 (some 103) (m_ 23 262143) rfl rfl (ao HT_) ?_
                 refine pv_ 18 (some 104) (m_ 23 524287) rfl rfl (ao HT_) ?_
                 refine pv_ 19 (some 105) (m_ 23 1048575) rfl rfl (ao HT_) ?_
                 refine pv_ 20 (some 106) (m_ 23 2097151) rfl rfl (ao HT_) ?_
                 refine pu_ 21 (some 107) (m_ 23 4194303) rfl rfl (ao HT_) ?_
                 refine pu_ 22 (some 13) (m_ 23 8388607) rfl rfl (ao HT_) ?_
                 refine done_ (done_of HT_.out (by kernel_rfl)) ?_
                 try go_wp2_with (first | (go_at_call 10; (with_reducible refine (carrefourlaw14_awake.calls _ _ _ A59.out (tt GT)).mono ?_); rintro e w62 ⟨rfl, hb⟩; replace HO_7 := Aside0.mk (Kd.R_below (Rt_ HO_7.out) hb); replace HO_9 := Aside0.mk (Kd.R_below (Rt_ HO_9.out) hb); replace BK121 := bb BK121 hb; replace HB := bs HB hb; (try clear hb)))
                 go_ret
                 exact ⟨ae, bf HB⟩
                ·rw [if_neg c58] at H
                 have c58b0 : (x11_3 == true) = false := by simpa using c58
                 (try (have c58b1 : decide (x11_3 = true) = false := by simpa using c58))
                 (try (have c58b2 : (x11_3 == true) = false := by simpa using c58))
                 (try (have c58b3 : ¬ (x11_3 = true) := by simpa using c58))
                 clear c58
                 obtain rfl := Option.some.inj H
                 try go_wp2
                 replace HO_7 := Aside0.mk (Kd.R_drew HO_7.out)
                 replace HO_9 := Aside0.mk (Kd.R_drew HO_9.out)
                 replace BK121 := Aside0.mk (blk_drew BK121.out)
                 replace HB := Aside0.mk (below_drew1 HB.out)
                 obtain ⟨Ao64, co64, eo64⟩ := Kd.R_slice HO_7.out
                 (first | subst eo64 | (injection eo64 with f1_ f2_ f3_; have f4_ := f1_.symm; have f5_ := f3_.symm; clear f1_ f2_ f3_; subst f4_; subst f5_))
                 have p149 : 0 ≤ (a2_0 : Int) := od_
                 have q149 : a2_0 < (t123.length : Int) := od_
                 obtain ⟨ad149, e149, hx149_0⟩ := Kd.at_int (Kd.R_reads' HO_7.out).2.2 a2_0 p149 q149
                 cases e149
                 replace p149 := eq_true p149
                 replace q149 := eq_true q149
                 refine start_ (n := 23) (S := fun w' => c_ w' gb121 0 (.int .i64 a2_0) ∧ c_ w' gb121 1 (.int .i64 a2_1) ∧ c_ w' gb121 2 (.int .i64 a2_2) ∧ w'.cell? (ad149.add (a2_0).toNat) = some (.int .i64 (rd t123 a2_0))) (ds := []) (m_ 23 0) (by kernel_rfl) rfl rfl ⟨ct BK121 0, ct BK121 1, ct BK121 2, hx149_0⟩ (fun hHeld => ?_); refine with_tabW carrefourlaw14_PathsMore.tab16 carrefourlaw14_PathsMore.bits16 (fun HT_ HW_ => ?_)
                 generalize wr.drew = w63 at HO_7 HO_9 BK121 HB hx149_0 hHeld ⊢
                 refine pu_ 0 (some 86) (m_ 23 1) rfl rfl (ao HT_) ?_
                 refine pu_ 1 (some 87) (m_ 23 3) rfl rfl (ao HT_) ?_
                 refine tk_ 2 (some 88) (m_ 23 7) rfl rfl (tw HT_ HW_) hHeld ?_
                 refine pu_ 3 (some 89) (m_ 23 15) rfl rfl (ao HT_) ?_
                 refine tk_ 4 (some 90) (m_ 23 31) rfl rfl (tw HT_ HW_) hHeld ?_
                 refine pu_ 5 (some 91) (m_ 23 63) rfl rfl (ao HT_) ?_
                 refine pu_ 6 (some 92) (m_ 23 127) rfl rfl (ao HT_) ?_
                 refine pv_ 7 (some 93) (m_ 23 255) rfl rfl (ao HT_) ?_
                 refine pv_ 8 (some 94) (m_ 23 511) rfl rfl (ao HT_) ?_
                 refine pv_ 9 (some 95) (m_ 23 1023) rfl rfl (ao HT_) ?_
                 refine pv_ 10 (some 96) (m_ 23 2047) rfl rfl (ao HT_) ?_
                 refine pv_ 11 (some 97) (m_ 23 4095) rfl rfl (ao HT_) ?_
                 refine pv_ 12 (some 98) (m_ 23 8191) rfl rfl (ao HT_) ?_
                 refine pv_ 13 (some 99) (m_ 23 16383) rfl rfl (ao HT_) ?_
                 refine pv_ 14 (some 100) (m_ 23 32767) rfl rfl (ao HT_) ?_
                 refine pv_ 15 (some 101) (m_ 23 65535) rfl rfl (ao HT_) ?_
                 refine pv_ 16 (some 102) (m_ 23 131071) rfl rfl (ao HT_) ?_
                 refine pv_ 17 (some 103) (m_ 23 262143) rfl rfl (ao HT_) ?_
                 refine pv_ 18 (some 104) (m_ 23 524287) rfl rfl (ao HT_) ?_
                 refine pv_ 19 (some 105) (m_ 23 1048575) rfl rfl (ao HT_) ?_
                 refine pv_ 20 (some 106) (m_ 23 2097151) rfl rfl (ao HT_) ?_
                 refine pu_ 21 (some 107) (m_ 23 4194303) rfl rfl (ao HT_) ?_
                 refine pu_ 22 (some 13) (m_ 23 8388607) rfl rfl (ao HT_) ?_
                 refine done_ (done_of HT_.out (by kernel_rfl)) ?_
                 try go_wp2
                 go_ret
                 exact ⟨ae, bf HB⟩
               ·rw [if_neg c57] at H
                have c57b0 : decide ((rd t123 a2_0) < 0) = false := decide_eq_false c57
                clear c57
                by_cases c65 : 0 ≤ a2_1
                ·rw [if_pos c65] at H
                 have c65b0 : decide (0 ≤ a2_1) = true := decide_eq_true c65
                 clear c65
                 by_cases c66 : a2_1 < (t123.length : Int)
                 ·rw [if_pos c66] at H
                  have c66b0 : decide (a2_1 < (t123.length : Int)) = true := decide_eq_true c66
                  clear c66
                  by_cases c67 : (x11_3 == (decide ((rd t123 a2_1) ≥ (wrap64 ((rd t123 a2_0) + a2_2))))) = true
                  ·rw [if_pos c67] at H
                   have c67b0 : (x11_3 == (decide ((rd t123 a2_1) ≥ (wrap64 ((rd t123 a2_0) + a2_2))))) = true := c67
                   (try (have c67b1 : decide (x11_3 = (decide ((rd t123 a2_1) ≥ (wrap64 ((rd t123 a2_0) + a2_2))))) = true := by simpa using c67))
                   (try (have c67b2 : (x11_3 == (decide ((rd t123 a2_1) ≥ (wrap64 ((rd t123 a2_0) + a2_2))))) = true := by simpa using c67))
                   clear c67
                   replace H := bi_ H; obtain ⟨t153, A68, H⟩ := H
                   (try dsimp only at H)
                   obtain rfl := Option.some.inj H
                   try go_wp2
                   replace HO_7 := Aside0.mk (Kd.R_drew HO_7.out)
                   replace HO_9 := Aside0.mk (Kd.R_drew HO_9.out)
                   replace BK121 := Aside0.mk (blk_drew BK121.out)
                   replace HB := Aside0.mk (below_drew1 HB.out)
                   obtain ⟨Ao70, co70, eo70⟩ := Kd.R_slice HO_7.out
                   (first | subst eo70 | (injection eo70 with f1_ f2_ f3_; have f4_ := f1_.symm; have f5_ := f3_.symm; clear f1_ f2_ f3_; subst f4_; subst f5_))
                   have p149 : 0 ≤ (a2_0 : Int) := od_
                   have q149 : a2_0 < (t123.length : Int) := od_
                   obtain ⟨ad149, e149, hx149_0⟩ := Kd.at_int (Kd.R_reads' HO_7.out).2.2 a2_0 p149 q149
                   cases e149
                   replace p149 := eq_true p149
                   replace q149 := eq_true q149
                   have p151 : 0 ≤ (a2_1 : Int) := od_
                   have q151 : a2_1 < (t123.length : Int) := od_
                   obtain ⟨ad151, e151, hx151_0⟩ := Kd.at_int (Kd.R_reads' HO_7.out).2.2 a2_1 p151 q151
                   obtain rfl : ad149 = ad151 := (by injection e151)
                   replace p151 := eq_true p151
                   replace q151 := eq_true q151
                   have p152 : 0 ≤ (a2_0 : Int) := od_
                   have q152 : a2_0 < (t123.length : Int) := od_
                   obtain ⟨ad152, e152, hx152_0⟩ := Kd.at_int (Kd.R_reads' HO_7.out).2.2 a2_0 p152 q152
                   obtain rfl : ad149 = ad152 := (by injection e152)
                   replace p152 := eq_true p152
                   replace q152 := eq_true q152
                   refine start_ (n := 23) (S := fun w' => c_ w' gb121 0 (.int .i64 a2_0) ∧ c_ w' gb121 1 (.int .i64 a2_1) ∧ c_ w' gb121 2 (.int .i64 a2_2) ∧ w'.cell? (ad149.add (a2_0).toNat) = some (.int .i64 (rd t123 a2_0)) ∧ w'.cell? (ad149.add (a2_1).toNat) = some (.int .i64 (rd t123 a2_1)) ∧ w'.cell? (ad149.add (a2_0).toNat) = some (.int .i64 (rd t123 a2_0))) (ds := []) (m_ 23 0) (by kernel_rfl) rfl rfl ⟨ct BK121 0, ct BK121 1, ct BK121 2, hx149_0, hx151_0, hx152_0⟩ (fun hHeld => ?_); refine with_tabW carrefourlaw14_PathsMore.tab16 carrefourlaw14_PathsMore.bits16 (fun HT_ HW_ => ?_)
                   generalize wr.drew = w69 at HO_7 HO_9 BK121 HB hx149_0 hx151_0 hx152_0 hHeld ⊢
                   refine pu_ 0 (some 86) (m_ 23 1) rfl rfl (ao HT_) ?_
                   refine pu_ 1 (some 87) (m_ 23 3) rfl rfl (ao HT_) ?_
                   refine tk_ 2 (some 88) (m_ 23 7) rfl rfl (tw HT_ HW_) hHeld ?_
                   refine pu_ 3 (some 89) (m_ 23 15) rfl rfl (ao HT_) ?_
                   refine tk_ 4 (some 90) (m_ 23 31) rfl rfl (tw HT_ HW_) hHeld ?_
                   refine pu_ 5 (some 91) (m_ 23 63) rfl rfl (ao HT_) ?_
                   refine pu_ 6 (some 92) (m_ 23 127) rfl rfl (ao HT_) ?_
                   refine pu_ 7 (some 93) (m_ 23 255) rfl rfl (ao HT_) ?_
                   refine pu_ 8 (some 94) (m_ 23 511) rfl rfl (ao HT_) ?_
                   refine pu_ 12 (some 98) (m_ 23 4607) rfl rfl (ao HT_) ?_
                   refine pu_ 13 (some 99) (m_ 23 12799) rfl rfl (ao HT_) ?_
                   refine pu_ 17 (some 103) (m_ 23 143871) rfl rfl (ao HT_) ?_
                   refine tk_ 9 (some 95) (m_ 23 144383) rfl rfl (tw HT_ HW_) hHeld ?_
                   refine pu_ 10 (some 96) (m_ 23 145407) rfl rfl (ao HT_) ?_
                   refine tk_ 11 (some 97) (m_ 23 147455) rfl rfl (tw HT_ HW_) hHeld ?_
                   refine tk_ 14 (some 100) (m_ 23 163839) rfl rfl (tw HT_ HW_) hHeld ?_
                   refine pu_ 15 (some 101) (m_ 23 196607) rfl rfl (ao HT_) ?_
                   refine tk_ 16 (some 102) (m_ 23 262143) rfl rfl (tw HT_ HW_) hHeld ?_
                   refine tk_ 18 (some 104) (m_ 23 524287) rfl rfl (tw HT_ HW_) hHeld ?_
                   refine pu_ 19 (some 105) (m_ 23 1048575) rfl rfl (ao HT_) ?_
                   refine pu_ 20 (some 106) (m_ 23 2097151) rfl rfl (ao HT_) ?_
                   refine pu_ 21 (some 107) (m_ 23 4194303) rfl rfl (ao HT_) ?_
                   refine pu_ 22 (some 13) (m_ 23 8388607) rfl rfl (ao HT_) ?_
                   refine done_ (done_of HT_.out (by kernel_rfl)) ?_
                   try go_wp2_with (first | (go_at_call 10; (with_reducible refine (carrefourlaw14_awake.calls _ _ _ A68.out (tt GT)).mono ?_); rintro e w71 ⟨rfl, hb⟩; replace HO_7 := Aside0.mk (Kd.R_below (Rt_ HO_7.out) hb); replace HO_9 := Aside0.mk (Kd.R_below (Rt_ HO_9.out) hb); replace BK121 := bb BK121 hb; replace HB := bs HB hb; (try clear hb)))
                   go_ret
                   exact ⟨ae, bf HB⟩
                  ·rw [if_neg c67] at H
                   have c67b0 : (x11_3 == (decide ((rd t123 a2_1) ≥ (wrap64 ((rd t123 a2_0) + a2_2))))) = false := by simpa using c67
                   (try (have c67b1 : decide (x11_3 = (decide ((rd t123 a2_1) ≥ (wrap64 ((rd t123 a2_0) + a2_2))))) = false := by simpa using c67))
                   (try (have c67b2 : (x11_3 == (decide ((rd t123 a2_1) ≥ (wrap64 ((rd t123 a2_0) + a2_2))))) = false := by simpa using c67))
                   (try (have c67b3 : ¬ (x11_3 = (decide ((rd t123 a2_1) ≥ (wrap64 ((rd t123 a2_0) + a2_2))))) := by simpa using c67))
                   clear c67
                   obtain rfl := Option.some.inj H
                   try go_wp2
                   replace HO_7 := Aside0.mk (Kd.R_drew HO_7.out)
                   replace HO_9 := Aside0.mk (Kd.R_drew HO_9.out)
                   replace BK121 := Aside0.mk (blk_drew BK121.out)
                   replace HB := Aside0.mk (below_drew1 HB.out)
                   obtain ⟨Ao73, co73, eo73⟩ := Kd.R_slice HO_7.out
                   (first | subst eo73 | (injection eo73 with f1_ f2_ f3_; have f4_ := f1_.symm; have f5_ := f3_.symm; clear f1_ f2_ f3_; subst f4_; subst f5_))
                   have p149 : 0 ≤ (a2_0 : Int) := od_
                   have q149 : a2_0 < (t123.length : Int) := od_
                   obtain ⟨ad149, e149, hx149_0⟩ := Kd.at_int (Kd.R_reads' HO_7.out).2.2 a2_0 p149 q149
                   cases e149
                   replace p149 := eq_true p149
                   replace q149 := eq_true q149
                   have p151 : 0 ≤ (a2_1 : Int) := od_
                   have q151 : a2_1 < (t123.length : Int) := od_
                   obtain ⟨ad151, e151, hx151_0⟩ := Kd.at_int (Kd.R_reads' HO_7.out).2.2 a2_1 p151 q151
                   obtain rfl : ad149 = ad151 := (by injection e151)
                   replace p151 := eq_true p151
                   replace q151 := eq_true q151
                   have p152 : 0 ≤ (a2_0 : Int) := od_
                   have q152 : a2_0 < (t123.length : Int) := od_
                   obtain ⟨ad152, e152, hx152_0⟩ := Kd.at_int (Kd.R_reads' HO_7.out).2.2 a2_0 p152 q152
                   obtain rfl : ad149 = ad152 := (by injection e152)
                   replace p152 := eq_true p152
                   replace q152 := eq_true q152
                   refine start_ (n := 23) (S := fun w' => c_ w' gb121 0 (.int .i64 a2_0) ∧ c_ w' gb121 1 (.int .i64 a2_1) ∧ c_ w' gb121 2 (.int .i64 a2_2) ∧ w'.cell? (ad149.add (a2_0).toNat) = some (.int .i64 (rd t123 a2_0)) ∧ w'.cell? (ad149.add (a2_1).toNat) = some (.int .i64 (rd t123 a2_1)) ∧ w'.cell? (ad149.add (a2_0).toNat) = some (.int .i64 (rd t123 a2_0))) (ds := []) (m_ 23 0) (by kernel_rfl) rfl rfl ⟨ct BK121 0, ct BK121 1, ct BK121 2, hx149_0, hx151_0, hx152_0⟩ (fun hHeld => ?_); refine with_tabW carrefourlaw14_PathsMore.tab16 carrefourlaw14_PathsMore.bits16 (fun HT_ HW_ => ?_)
                   generalize wr.drew = w72 at HO_7 HO_9 BK121 HB hx149_0 hx151_0 hx152_0 hHeld ⊢
                   refine pu_ 0 (some 86) (m_ 23 1) rfl rfl (ao HT_) ?_
                   refine pu_ 1 (some 87) (m_ 23 3) rfl rfl (ao HT_) ?_
                   refine tk_ 2 (some 88) (m_ 23 7) rfl rfl (tw HT_ HW_) hHeld ?_
                   refine pu_ 3 (some 89) (m_ 23 15) rfl rfl (ao HT_) ?_
                   refine tk_ 4 (some 90) (m_ 23 31) rfl rfl (tw HT_ HW_) hHeld ?_
                   refine pu_ 5 (some 91) (m_ 23 63) rfl rfl (ao HT_) ?_
                   refine pu_ 6 (some 92) (m_ 23 127) rfl rfl (ao HT_) ?_
                   refine pu_ 7 (some 93) (m_ 23 255) rfl rfl (ao HT_) ?_
                   refine pu_ 8 (some 94) (m_ 23 511) rfl rfl (ao HT_) ?_
                   refine pu_ 12 (some 98) (m_ 23 4607) rfl rfl (ao HT_) ?_
                   refine pu_ 13 (some 99) (m_ 23 12799) rfl rfl (ao HT_) ?_
                   refine pu_ 17 (some 103) (m_ 23 143871) rfl rfl (ao HT_) ?_
                   refine tk_ 9 (some 95) (m_ 23 144383) rfl rfl (tw HT_ HW_) hHeld ?_
                   refine pu_ 10 (some 96) (m_ 23 145407) rfl rfl (ao HT_) ?_
                   refine tk_ 11 (some 97) (m_ 23 147455) rfl rfl (tw HT_ HW_) hHeld ?_
                   refine tk_ 14 (some 100) (m_ 23 163839) rfl rfl (tw HT_ HW_) hHeld ?_
                   refine pu_ 15 (some 101) (m_ 23 196607) rfl rfl (ao HT_) ?_
                   refine tk_ 16 (some 102) (m_ 23 262143) rfl rfl (tw HT_ HW_) hHeld ?_
                   refine tk_ 18 (some 104) (m_ 23 524287) rfl rfl (tw HT_ HW_) hHeld ?_
                   refine pu_ 19 (some 105) (m_ 23 1048575) rfl rfl (ao HT_) ?_
                   refine pu_ 20 (some 106) (m_ 23 2097151) rfl rfl (ao HT_) ?_
                   refine pu_ 21 (some 107) (m_ 23 4194303) rfl rfl (ao HT_) ?_
                   refine pu_ 22 (some 13) (m_ 23 8388607) rfl rfl (ao HT_) ?_
                   refine done_ (done_of HT_.out (by kernel_rfl)) ?_
                   try go_wp2
                   go_ret
                   exact ⟨ae, bf HB⟩
                 ·rw [if_neg c66] at H
                  exact absurd H (by simp)
                ·rw [if_neg c65] at H
                 exact absurd H (by simp)
              ·rw [if_neg c56] at H
               exact absurd H (by simp)
             ·rw [if_neg c55] at H
              exact absurd H (by simp)
   ·rw [if_neg c8] at H
    exact absurd H (by simp)
  ·rw [if_neg c7] at H
   exact absurd H (by simp)
 ·replace c5 := Bool.eq_false_iff.mpr c5
  subst c5
  have H1 : (some true) = some r := by rw [if_neg (show ¬ (false = true) by decide)] at H; exact H
  clear H
  have H := H1
  clear H1
  obtain rfl := Option.some.inj H
  go_enter Tryd.func6, Tryd.ntmps6
  go_wp2_with (first | ((with_reducible refine gate_dst (N := 5) rfl ?_); (try (refine gate_guard (by rfl) ?_; dsimp only)); refine box_event ?hg (N := 5) ?hd (cs := #[.int .i64 a2_0, .int .i64 a2_1, .int .i64 a2_2]) (t := 34) ?hr ?_; (case hd => rfl); (case hg => rfl); (case hr => first | (go_simp; done) | (go_simp; rfl)); intro gb121 hg w74 hbox hb; have BK121 := Aside0.mk (hbox); have GE121 := bz HB hg; replace HB := bs HB hb; clear hb hg) | ((with_reducible refine gc 7 rfl ?_); refine gm_ (some 16) rfl rfl Tryd.func7 (carrefourlaw14_few.calls _ _ _ _ _ _ ?side1 ?side2 A4.out) ag ?_; (case side1 => repeat (first | exact (Kd.C_below HR1.out HB.out) | (with_reducible refine Kd.C_alloc ?_ _) | (with_reducible refine Kd.C_drewN ?_ _) | (with_reducible refine Kd.C_drew ?_))); (case side2 => exact HC1.out); rintro w' ⟨nd, rfl⟩))
  go_ret
  exact ⟨ae, bf HB⟩

end Go.Proofs.YtcdddmaibchjjaaDoor.X
