/- Walks: each '.calls' says that the Go function comes to what its Lean function tells. Conditions: as each theorem's head says. -/
import Derived.Test.YtfhokgkpcphmlaaGreatDoorXD
import Derived.Test.YtfhokgkpcphmlaaGreatDoorX0
import Derived.Test.YtfhokgkpcphmlaaGreatDoorX6
namespace Go.Proofs.YtfhokgkpcphmlaaGreatDoor.X
open Go.RowKit Go.Proofs.YtfhokgkpcphmlaaGreatDoorW.PrintWords Go.Proofs.YtfhokgkpcphmlaaGreatDoorW.PrintLast Go.Proofs.YtfhokgkpcphmlaaGreatDoorW.PrintMore
attribute [local go_sem] max2_int min2_int max_two min_two max_three min_three max_four min_four   -- for this text's walks alone
set_option linter.unusedVariables false
set_option maxHeartbeats 8000000
set_option maxRecDepth 100000
set_option linter.unusedSimpArgs false

/-! ### frac_gcd: function 63 -/
theorem frac_gcd.calls (k : Nat) (a0_0 : Int) (a0_1 : Int) (a1_0 : Int) (a1_1 : Int) (r1 : Int) (r2 : Int) (w : World) (h : frac_gcd.f k a0_0 a0_1 a1_0 a1_1 = some (r1, r2)) (hT : TabOK w) :
  Calls Tryz.prog 63 #[.agg #[.int .u64 a0_0, .int .u64 a0_1], .agg #[.int .u64 a1_0, .int .u64 a1_1]] w fun e w' => e = .returned (.agg #[.int .u64 r1, .int .u64 r2]) ∧ Below w.heap.size w w' := by
 have GT := Aside0.mk hT
 clear hT
 have hu88 := Tryz.underlying88
 have HB := Aside0.mk (Below.refl w.heap.size w)
 have H : ((frac_wide_zero.f a0_0 a0_1).bind fun t169 => (if t169 = true then (some (a1_0, a1_1)) else ((frac_wide_zero.f a1_0 a1_1).bind fun t170 => (if t170 = true then (some (a0_0, a0_1)) else ((frac_wide_twos.f a0_0 a0_1).bind fun t171 => ((frac_wide_twos.f a1_0 a1_1).bind fun t172 => ((frac_wide_twos.f a0_0 a0_1).bind fun t173 => ((frac_wide_down.f a0_0 a0_1 t173).bind fun bt174 => (frac_gcd.l0 k (mn t171 t172) bt174.1 bt174.2 a1_0 a1_1))))))))) = some (r1, r2) := h
 clear h
 replace H := bi_ H; obtain ⟨t169, A3, H⟩ := H
 (try dsimp only at H)
 by_cases c4 : t169 = true
 ·subst c4
  have H1 : (some (a1_0, a1_1)) = some (r1, r2) := by rw [if_pos rfl] at H; exact H
  clear H
  have H := H1
  clear H1
  simp only [Option.some.injEq, Prod.mk.injEq] at H
  obtain ⟨rfl, rfl⟩ := H
  go_enter Tryz.func63, Tryz.ntmps63
  go_wp2_with (first | ((with_reducible refine gd 2 rfl ?_); refine bx_ 2 88 #[.int .u64 a0_0, .int .u64 a0_1] rfl rfl ?_; intro gb166 hg w5 BK166 hb; have GE166 := bz HB hg; replace HB := bs HB hb; clear hb hg) | ((with_reducible refine gd 3 rfl ?_); refine bx_ 3 88 #[.int .u64 a1_0, .int .u64 a1_1] rfl rfl ?_; intro gb167 hg w6 BK167 hb; have GE167 := bz HB hg; have ⟨NB166_167, NB167_166⟩ := nb BK166 hg; replace BK166 := bb BK166 hb; replace HB := bs HB hb; clear hb hg) | ((with_reducible refine gd 4 rfl ?_); refine bx_ 4 88 #[.int .u64 0, .int .u64 0] rfl rfl ?_; intro gb168 hg w7 BK168 hb; have GE168 := bz HB hg; have ⟨NB166_168, NB168_166⟩ := nb BK166 hg; have ⟨NB167_168, NB168_167⟩ := nb BK167 hg; replace BK166 := bb BK166 hb; replace BK167 := bb BK167 hb; replace HB := bs HB hb; clear hb hg; have hnb8 := nn NB166_167; have hnb9 := nn NB166_168; have hcz10 := X.k2 BK166) | ((with_reducible refine gc 86 rfl ?_); refine gm_ (some 8) rfl rfl Tryz.func86 (frac_wide_zero.calls _ _ _ _ A3.out) ag ?_; intro w11 hb; replace BK167 := bb BK167 hb; replace BK168 := bb BK168 hb; replace HB := bs HB hb; (try clear hb); have hnb12 := nn NB167_168; have hcz13 := X.k2 BK167; have hcz14 := X.k2 BK168))
  refine bodyPost_ret (results_cell_row rfl _ _ gb168 88 #[.int .u64 a1_0, .int .u64 a1_1] (0, 0) _ rfl (br_ BK168) Tryz.underlying88 rfl (by kernel_rfl)) rfl ?_
  exact ⟨ae, bf HB⟩
 ·replace c4 := Bool.eq_false_iff.mpr c4
  subst c4
  have H1 : ((frac_wide_zero.f a1_0 a1_1).bind fun t170 => (if t170 = true then (some (a0_0, a0_1)) else ((frac_wide_twos.f a0_0 a0_1).bind fun t171 => ((frac_wide_twos.f a1_0 a1_1).bind fun t172 => ((frac_wide_twos.f a0_0 a0_1).bind fun t173 => ((frac_wide_down.f a0_0 a0_1 t173).bind fun bt174 => (frac_gcd.l0 k (mn t171 t172) bt174.1 bt174.2 a1_0 a1_1))))))) = some (r1, r2) := by rw [if_neg (show ¬ (false = true) by decide)] at H; exact H
  clear H
  have H := H1
  clear H1
  replace H := bi_ H; obtain ⟨t170, A15, H⟩ := H
  (try dsimp only at H)
  by_cases c16 : t170 = true
  ·subst c16
   have H1 : (some (a0_0, a0_1)) = some (r1, r2) := by rw [if_pos rfl] at H; exact H
   clear H
   have H := H1
   clear H1
   simp only [Option.some.injEq, Prod.mk.injEq] at H
   obtain ⟨rfl, rfl⟩ := H
   go_enter Tryz.func63, Tryz.ntmps63
   go_wp2_with (first | ((with_reducible refine gd 2 rfl ?_); refine bx_ 2 88 #[.int .u64 a0_0, .int .u64 a0_1] rfl rfl ?_; intro gb166 hg w17 BK166 hb; have GE166 := bz HB hg; replace HB := bs HB hb; clear hb hg) | ((with_reducible refine gd 3 rfl ?_); refine bx_ 3 88 #[.int .u64 a1_0, .int .u64 a1_1] rfl rfl ?_; intro gb167 hg w18 BK167 hb; have GE167 := bz HB hg; have ⟨NB166_167, NB167_166⟩ := nb BK166 hg; replace BK166 := bb BK166 hb; replace HB := bs HB hb; clear hb hg) | ((with_reducible refine gd 4 rfl ?_); refine bx_ 4 88 #[.int .u64 0, .int .u64 0] rfl rfl ?_; intro gb168 hg w19 BK168 hb; have GE168 := bz HB hg; have ⟨NB166_168, NB168_166⟩ := nb BK166 hg; have ⟨NB167_168, NB168_167⟩ := nb BK167 hg; replace BK166 := bb BK166 hb; replace BK167 := bb BK167 hb; replace HB := bs HB hb; clear hb hg; have hnb20 := nn NB166_167; have hnb21 := nn NB166_168; have hcz22 := X.k2 BK166) | ((with_reducible refine gc 86 rfl ?_); refine gm_ (some 8) rfl rfl Tryz.func86 (frac_wide_zero.calls _ _ _ _ A3.out) ag ?_; intro w23 hb; replace BK166 := bb BK166 hb; replace BK167 := bb BK167 hb; replace BK168 := bb BK168 hb; replace HB := bs HB hb; (try clear hb); have hnb24 := nn NB167_168; have hcz25 := X.k2 BK167) | ((with_reducible refine gc 86 rfl ?_); refine gm_ (some 12) rfl rfl Tryz.func86 (frac_wide_zero.calls _ _ _ _ A15.out) ag ?_; intro w26 hb; replace BK166 := bb BK166 hb; replace BK168 := bb BK168 hb; replace HB := bs HB hb; (try clear hb); have hcz27 := X.k2 BK166; have hcz28 := X.k2 BK168))
   refine bodyPost_ret (results_cell_row rfl _ _ gb168 88 #[.int .u64 a0_0, .int .u64 a0_1] (0, 0) _ rfl (br_ BK168) Tryz.underlying88 rfl (by kernel_rfl)) rfl ?_
   exact ⟨ae, bf HB⟩
  ·replace c16 := Bool.eq_false_iff.mpr c16
   subst c16
   have H1 : ((frac_wide_twos.f a0_0 a0_1).bind fun t171 => ((frac_wide_twos.f a1_0 a1_1).bind fun t172 => ((frac_wide_twos.f a0_0 a0_1).bind fun t173 => ((frac_wide_down.f a0_0 a0_1 t173).bind fun bt174 => (frac_gcd.l0 k (mn t171 t172) bt174.1 bt174.2 a1_0 a1_1))))) = some (r1, r2) := by rw [if_neg (show ¬ (false = true) by decide)] at H; exact H
   clear H
   have H := H1
   clear H1
   replace H := bi_ H; obtain ⟨t171, A29, H⟩ := H
   (try dsimp only at H)
   replace H := bi_ H; obtain ⟨t172, A30, H⟩ := H
   (try dsimp only at H)
   obtain ⟨ji31, hji31⟩ : ∃ j_ : Int, (mn t171 t172) = j_ := ⟨_, rfl⟩
   replace H : ((frac_wide_twos.f a0_0 a0_1).bind fun t173 => ((frac_wide_down.f a0_0 a0_1 t173).bind fun bt174 => (frac_gcd.l0 k ji31 bt174.1 bt174.2 a1_0 a1_1))) = some (r1, r2) := by first | (rw [hji31] at H; exact H) | (simp only [hji31] at H ⊢; exact H)
   (try rw [hji31] at A3)
   (try rw [hji31] at A15)
   (try rw [hji31] at A29)
   (try rw [hji31] at A30)
   have hji31_ : (if t172 < t171 then t172 else t171) = ji31 := hji31
   replace H := bi_ H; obtain ⟨t173, A32, H⟩ := H
   (try dsimp only at H)
   replace H := bi_ H; obtain ⟨⟨t174, t175⟩, A33, H⟩ := H
   (try dsimp only at H)
   have H' := Aside0.mk H
   clear H
   go_enter Tryz.func63, Tryz.ntmps63
   try go_wp2_with (first | ((with_reducible refine gd 2 rfl ?_); refine bx_ 2 88 #[.int .u64 a0_0, .int .u64 a0_1] rfl rfl ?_; intro gb166 hg w34 BK166 hb; have GE166 := bz HB hg; replace HB := bs HB hb; clear hb hg) | ((with_reducible refine gd 3 rfl ?_); refine bx_ 3 88 #[.int .u64 a1_0, .int .u64 a1_1] rfl rfl ?_; intro gb167 hg w35 BK167 hb; have GE167 := bz HB hg; have ⟨NB166_167, NB167_166⟩ := nb BK166 hg; replace BK166 := bb BK166 hb; replace HB := bs HB hb; clear hb hg) | ((with_reducible refine gd 4 rfl ?_); refine bx_ 4 88 #[.int .u64 0, .int .u64 0] rfl rfl ?_; intro gb168 hg w36 BK168 hb; have GE168 := bz HB hg; have ⟨NB166_168, NB168_166⟩ := nb BK166 hg; have ⟨NB167_168, NB168_167⟩ := nb BK167 hg; replace BK166 := bb BK166 hb; replace BK167 := bb BK167 hb; replace HB := bs HB hb; clear hb hg; have hnb37 := nn NB166_167; have hnb38 := nn NB166_168; have hcz39 := X.k2 BK166) | ((with_reducible refine gc 86 rfl ?_); refine gm_ (some 8) rfl rfl Tryz.func86 (frac_wide_zero.calls _ _ _ _ A3.out) ag ?_; intro w40 hb; replace BK166 := bb BK166 hb; replace BK167 := bb BK167 hb; replace BK168 := bb BK168 hb; replace HB := bs HB hb; (try clear hb); have hnb41 := nn NB167_168; have hcz42 := X.k2 BK167) | ((with_reducible refine gc 86 rfl ?_); refine gm_ (some 12) rfl rfl Tryz.func86 (frac_wide_zero.calls _ _ _ _ A15.out) ag ?_; intro w43 hb; replace BK166 := bb BK166 hb; replace BK167 := bb BK167 hb; replace BK168 := bb BK168 hb; replace HB := bs HB hb; (try clear hb)))
   replace BK166 := Aside0.mk (blk_drew BK166.out)
   replace BK167 := Aside0.mk (blk_drew BK167.out)
   replace BK168 := Aside0.mk (blk_drew BK168.out)
   replace HB := Aside0.mk (below_drew1 HB.out)
   refine start_ (n := 6) (S := fun w' => c_ w' gb166 0 (.int .u64 a0_0) ∧ c_ w' gb166 1 (.int .u64 a0_1) ∧ c_ w' gb167 0 (.int .u64 a1_0) ∧ c_ w' gb167 1 (.int .u64 a1_1)) (ds := []) (m_ 6 0) (by kernel_rfl) rfl rfl ⟨ct BK166 0, ct BK166 1, ct BK167 0, ct BK167 1⟩ (fun hHeld => ?_)
   generalize w43.drew = w44 at BK166 BK167 BK168 HB hHeld ⊢
   refine tk_ 0 (some 14) (m_ 6 1) rfl rfl (by kernel_rfl) hHeld ?_
   refine tk_ 2 (some 16) (m_ 6 5) rfl rfl (by kernel_rfl) hHeld ?_
   refine o1_ 1 (some 15) (m_ 6 7) rfl rfl (by kernel_rfl) (fun K hK => ?_)
   refine gs_ rfl Tryz.func87 (frac_wide_twos.calls _ _ _ _ A29.out (tt GT)) ag ?_
   intro w45 hb
   replace BK166 := bb BK166 hb
   replace BK167 := bb BK167 hb
   replace BK168 := bb BK168 hb
   replace HB := bs HB hb
   (try clear hb)
   refine hK.out _ _ ⟨ct BK166 0, ct BK166 1, ct BK167 0, ct BK167 1⟩ (fun hHeld => ?_)
   clear hK K
   refine nr_ (some 15) ?_
   refine o1_ 3 (some 17) (m_ 6 15) rfl rfl (by kernel_rfl) (fun K hK => ?_)
   refine gs_ rfl Tryz.func87 (frac_wide_twos.calls _ _ _ _ A30.out (tt GT)) ag ?_
   intro w46 hb
   replace BK166 := bb BK166 hb
   replace BK167 := bb BK167 hb
   replace BK168 := bb BK168 hb
   replace HB := bs HB hb
   (try clear hb)
   refine hK.out _ _ ⟨ct BK166 0, ct BK166 1, ct BK167 0, ct BK167 1⟩ (fun hHeld => ?_)
   clear hK K
   refine nr_ (some 17) ?_
   refine pu_ 4 (some 18) (m_ 6 31) rfl rfl (by kernel_rfl) ?_
   refine pu_ 5 (some 5) (m_ 6 63) rfl rfl (by kernel_rfl) ?_
   refine done_ (by kernel_rfl) ?_
   try go_wp2
   replace BK166 := Aside0.mk (blk_drew BK166.out)
   replace BK167 := Aside0.mk (blk_drew BK167.out)
   replace BK168 := Aside0.mk (blk_drew BK168.out)
   replace HB := Aside0.mk (below_drew1 HB.out)
   refine start_ (n := 5) (S := fun w' => c_ w' gb166 0 (.int .u64 a0_0) ∧ c_ w' gb166 1 (.int .u64 a0_1)) (ds := [4]) (m_ 5 0) (by kernel_rfl) rfl rfl ⟨ct BK166 0, ct BK166 1⟩ (fun hHeld => ?_)
   generalize w46.drew = w47 at BK166 BK167 BK168 HB hHeld ⊢
   refine tk_ 0 (some 19) (m_ 5 1) rfl rfl (by kernel_rfl) hHeld ?_
   refine tk_ 1 (some 20) (m_ 5 3) rfl rfl (by kernel_rfl) hHeld ?_
   refine o1_ 2 (some 21) (m_ 5 7) rfl rfl (by kernel_rfl) (fun K hK => ?_)
   refine gs_ rfl Tryz.func87 (frac_wide_twos.calls _ _ _ _ A32.out (tt GT)) ag ?_
   intro w48 hb
   replace BK166 := bb BK166 hb
   replace BK167 := bb BK167 hb
   replace BK168 := bb BK168 hb
   replace HB := bs HB hb
   (try clear hb)
   refine hK.out _ _ ⟨ct BK166 0, ct BK166 1⟩ (fun hHeld => ?_)
   clear hK K
   refine nr_ (some 21) ?_
   refine o1_ 3 (some 22) (m_ 5 15) rfl rfl (by kernel_rfl) (fun K hK => ?_)
   refine gs_ rfl Tryz.func88 (frac_wide_down.calls _ _ _ _ _ _ A33.out) ag ?_
   intro w49 hb
   replace BK166 := bb BK166 hb
   replace BK167 := bb BK167 hb
   replace BK168 := bb BK168 hb
   replace HB := bs HB hb
   (try clear hb)
   refine hK.out _ _ ⟨ct BK166 0, ct BK166 1⟩ (fun hHeld => ?_)
   clear hK K
   refine nr_ (some 22) ?_
   refine last_ (i := 4) (N := none) (m_ 5 31) rfl rfl (by kernel_rfl) (by decide) (fun K hK => ?_)
   have hs50 : c_ w49 gb166 0 (.int .u64 a0_0) := ct BK166 0
   have hfs50 := blk_frozen BK166.out 0
   have hns50_1 := NB167_166.out
   have hns50_2 := NB168_166.out
   have hms50_1 := NB166_167.out
   have hms50_2 := NB166_168.out
   have hs51 : c_ w49 gb166 1 (.int .u64 a0_1) := ct BK166 1
   have hfs51 := blk_frozen BK166.out 1
   have hns51_1 := NB167_166.out
   have hns51_2 := NB168_166.out
   have hms51_1 := NB166_167.out
   have hms51_2 := NB166_168.out
   refine skip_ (w1 := ?_) (by rfl) rfl ?_ ?_
   rotate_left
   ·go_simp
    rfl
   refine hK.out _ _ ?_
   clear hK K
   refine done_ (by kernel_rfl) ?_
   try go_wp2
   go_loopg [] k (fun kq w' => ∃ (x167000_1 : Int) (x167001_1 : Int) (x168000_1 : Int) (x168001_1 : Int), Aside0 (frac_gcd.l0 kq ji31 x167000_1 x167001_1 x168000_1 x168001_1 = some (r1, r2)) ∧ Aside0 (kq ≤ k) ∧ Aside0 (w'.heap[gb166]? = some (.cells #[.int .u64 x167000_1, .int .u64 x167001_1] 88 (0, 0))) ∧ Aside0 (w'.heap[gb167]? = some (.cells #[.int .u64 x168000_1, .int .u64 x168001_1] 88 (0, 0))) ∧ Aside0 (w'.heap[gb168]? = some (.cells #[.int .u64 0, .int .u64 0] 88 (0, 0))) ∧ Aside0 (Below w.heap.size w w'))
   case atStart => exact ⟨(t174), (t175), (a1_0), (a1_1), H', ⟨Nat.le_refl _⟩, bq_ BK166, bu_ BK167, bu_ BK168, ⟨bf HB⟩⟩
   case round =>
    clear H'
    (try clear c1); (try clear c2); (try clear p2); (try clear c3); (try clear c4); (try clear c6); (try clear c8); (try clear c9); (try clear c12); (try clear c16); (try clear c20); (try clear c21); (try clear c24); (try clear c37); (try clear c38); (try clear c41); (try clear hcz10); (try clear hcz13); (try clear hcz14); (try clear hcz22); (try clear hcz25); (try clear hcz27); (try clear hcz28); (try clear hcz39); (try clear hcz42)
    obtain ⟨x167000_1, x167001_1, x168000_1, x168001_1, HA, HK1, BK166, BK167, BK168, HB⟩ := hrel
    cases gk with
    | zero => exact absurd HA.out (by simp [frac_gcd.l0])
    | succ k1 =>
     have H := HA.out
     clear HA
     simp only [frac_gcd.l0] at H
     replace H := bi_ H; obtain ⟨t176, A52, H⟩ := H
     (try dsimp only at H)
     by_cases c53 : t176 = true
     ·subst c53
      have H1 : ((frac_wide_up.f x167000_1 x167001_1 ji31).bind fun bt177 => (some (bt177.1, bt177.2))) = some (r1, r2) := by rw [if_pos rfl] at H; exact H
      clear H
      have H := H1
      clear H1
      replace H := bi_ H; obtain ⟨⟨t177, t178⟩, A54, H⟩ := H
      (try dsimp only at H)
      simp only [Option.some.injEq, Prod.mk.injEq] at H
      obtain ⟨rfl, rfl⟩ := H
      have hnb55 := nn NB167_166
      have hnb56 := nn NB167_168
      have hcz57 := X.k2 BK167
      go_wp2_with (first | ((with_reducible refine gc 86 rfl ?_); refine gm_ (some 24) rfl rfl Tryz.func86 (frac_wide_zero.calls _ _ _ _ A52.out) ag ?_; intro w58 hb; replace BK166 := bb BK166 hb; replace BK167 := bb BK167 hb; replace BK168 := bb BK168 hb; replace HB := bs HB hb; (try clear hb); have hnb59 := nn NB166_168; have hcz60 := X.k2 BK166) | ((with_reducible refine gate_callee (f := 91) rfl ?_); refine goesL_ (some 41) rfl rfl Tryz.func91 (by kernel_rfl) rfl #[.agg #[.int .u64 x167000_1, .int .u64 x167001_1], .int .i64 ji31] rfl (by (try simp only [List.map_toArray, List.map_cons, List.map_nil]); first | done | (simp only [hji31]; rfl) | rfl | (simp only [List.length_drop, List.length_take]; rfl)) ?_; (with_reducible refine (frac_wide_up.calls _ _ ji31 _ _ _ A54.out).mono ?_); rintro e w61 ⟨rfl, hb⟩; refine ⟨_, rfl, ?_⟩; replace BK166 := bb BK166 hb; replace BK167 := bb BK167 hb; replace BK168 := bb BK168 hb; replace HB := bs HB hb; (try clear hb); have hcz62 := X.k2 BK168))
      refine bodyPost_ret (results_cell_row rfl _ _ gb168 88 #[.int .u64 t177, .int .u64 t178] (0, 0) _ rfl (br_ BK168) Tryz.underlying88 rfl (by kernel_rfl)) rfl ?_
      exact ⟨by first | rfl | (simp [errW_none, errW_some] <;> rfl) | (simp only [← hji31]; first | rfl | (simp [errW_none, errW_some] <;> rfl)) | (simp [*, errW_none, errW_some] <;> rfl), bf HB⟩
     ·replace c53 := Bool.eq_false_iff.mpr c53
      subst c53
      have H1 : ((frac_wide_twos.f x168000_1 x168001_1).bind fun t179 => ((frac_wide_down.f x168000_1 x168001_1 t179).bind fun bt180 => ((frac_wide_cmp.f x167000_1 x167001_1 bt180.1 bt180.2).bind fun t182 => (if t182 > 0 then ((frac_wide_minus.f x167000_1 x167001_1 bt180.1 bt180.2).bind fun bt183 => (frac_gcd.l0 k1 ji31 bt180.1 bt180.2 bt183.1 bt183.2)) else ((frac_wide_minus.f bt180.1 bt180.2 x167000_1 x167001_1).bind fun bt185 => (frac_gcd.l0 k1 ji31 x167000_1 x167001_1 bt185.1 bt185.2)))))) = some (r1, r2) := by rw [if_neg (show ¬ (false = true) by decide)] at H; exact H
      clear H
      have H := H1
      clear H1
      replace H := bi_ H; obtain ⟨t179, A63, H⟩ := H
      (try dsimp only at H)
      replace H := bi_ H; obtain ⟨⟨t180, t181⟩, A64, H⟩ := H
      (try dsimp only at H)
      replace H := bi_ H; obtain ⟨t182, A65, H⟩ := H
      (try dsimp only at H)
      by_cases c66 : t182 > 0
      ·rw [if_pos c66] at H
       have c66b0 : decide (0 < t182) = true := decide_eq_true c66
       clear c66
       replace H := bi_ H; obtain ⟨⟨t183, t184⟩, A67, H⟩ := H
       (try dsimp only at H)
       have H' := Aside0.mk H
       clear H
       have hnb68 := nn NB167_166
       have hnb69 := nn NB167_168
       have hcz70 := X.k2 BK167
       try go_wp2_with (first | ((with_reducible refine gc 86 rfl ?_); refine gm_ (some 24) rfl rfl Tryz.func86 (frac_wide_zero.calls _ _ _ _ A52.out) ag ?_; intro w71 hb; replace BK166 := bb BK166 hb; replace BK167 := bb BK167 hb; replace BK168 := bb BK168 hb; replace HB := bs HB hb; (try clear hb)))
       replace BK166 := Aside0.mk (blk_drew BK166.out)
       replace BK167 := Aside0.mk (blk_drew BK167.out)
       replace BK168 := Aside0.mk (blk_drew BK168.out)
       replace HB := Aside0.mk (below_drew1 HB.out)
       refine start_ (n := 5) (S := fun w' => c_ w' gb167 0 (.int .u64 x168000_1) ∧ c_ w' gb167 1 (.int .u64 x168001_1)) (ds := [4]) (m_ 5 0) (by kernel_rfl) rfl rfl ⟨ct BK167 0, ct BK167 1⟩ (fun hHeld => ?_)
       generalize w71.drew = w72 at BK166 BK167 BK168 HB hHeld ⊢
       refine tk_ 0 (some 26) (m_ 5 1) rfl rfl (by kernel_rfl) hHeld ?_
       refine tk_ 1 (some 27) (m_ 5 3) rfl rfl (by kernel_rfl) hHeld ?_
       refine o1_ 2 (some 28) (m_ 5 7) rfl rfl (by kernel_rfl) (fun K hK => ?_)
       refine gs_ rfl Tryz.func87 (frac_wide_twos.calls _ _ _ _ A63.out (tt GT)) ag ?_
       intro w73 hb
       replace BK166 := bb BK166 hb
       replace BK167 := bb BK167 hb
       replace BK168 := bb BK168 hb
       replace HB := bs HB hb
       (try clear hb)
       refine hK.out _ _ ⟨ct BK167 0, ct BK167 1⟩ (fun hHeld => ?_)
       clear hK K
       refine nr_ (some 28) ?_
       refine o1_ 3 (some 29) (m_ 5 15) rfl rfl (by kernel_rfl) (fun K hK => ?_)
       refine gs_ rfl Tryz.func88 (frac_wide_down.calls _ _ _ _ _ _ A64.out) ag ?_
       intro w74 hb
       replace BK166 := bb BK166 hb
       replace BK167 := bb BK167 hb
       replace BK168 := bb BK168 hb
       replace HB := bs HB hb
       (try clear hb)
       refine hK.out _ _ ⟨ct BK167 0, ct BK167 1⟩ (fun hHeld => ?_)
       clear hK K
       refine nr_ (some 29) ?_
       refine last_ (i := 4) (N := none) (m_ 5 31) rfl rfl (by kernel_rfl) (by decide) (fun K hK => ?_)
       have hs75 : c_ w74 gb167 0 (.int .u64 x168000_1) := ct BK167 0
       have hfs75 := blk_frozen BK167.out 0
       have hns75_0 := NB166_167.out
       have hns75_2 := NB168_167.out
       have hms75_0 := NB167_166.out
       have hms75_2 := NB167_168.out
       have hs76 : c_ w74 gb167 1 (.int .u64 x168001_1) := ct BK167 1
       have hfs76 := blk_frozen BK167.out 1
       have hns76_0 := NB166_167.out
       have hns76_2 := NB168_167.out
       have hms76_0 := NB167_166.out
       have hms76_2 := NB167_168.out
       refine skip_ (w1 := ?_) (by rfl) rfl ?_ ?_
       rotate_left
       ·go_simp
        rfl
       refine hK.out _ _ ?_
       clear hK K
       refine done_ (by kernel_rfl) ?_
       have hnb77 := nn NB166_168
       have hcz78 := X.k2 BK166
       have hcz79 := X.k2 BK167
       try go_wp2_with (first | ((with_reducible refine gc 89 rfl ?_); refine gm_ (some 32) rfl rfl Tryz.func89 (frac_wide_cmp.calls _ _ _ _ _ _ A65.out) ag ?_; intro w80 hb; replace BK166 := bb BK166 hb; replace BK167 := bp_ #[.int .u64 t180, .int .u64 t181] BK167 hb; replace BK168 := bb BK168 hb; replace HB := bs HB hb; (try clear hb); have hcz81 := X.k2 BK167; have hcz82 := X.k2 BK166) | ((with_reducible refine gc 90 rfl ?_); refine gm_ (some 38) rfl rfl Tryz.func90 (frac_wide_minus.calls _ _ _ _ _ _ _ A67.out) ag ?_; intro w83 hb; replace BK166 := bp_ #[.int .u64 t180, .int .u64 t181] BK166 hb; replace BK167 := bp_ #[.int .u64 x167000_1, .int .u64 x167001_1] BK167 hb; replace BK168 := bb BK168 hb; replace HB := bs HB hb; (try clear hb); have hcz84 := X.k2 BK167))
       go_roundg k1
       case measure => have := HK1.out; omega
       case rel => exact ⟨(t180), (t181), (t183), (t184), H', ⟨by have := HK1.out; omega⟩, bu_ BK166, bq_ BK167, bu_ BK168, ⟨bf HB⟩⟩
      ·rw [if_neg c66] at H
       have c66b0 : decide (0 < t182) = false := decide_eq_false c66
       clear c66
       replace H := bi_ H; obtain ⟨⟨t185, t186⟩, A85, H⟩ := H
       (try dsimp only at H)
       have H' := Aside0.mk H
       clear H
       have hnb86 := nn NB167_166
       have hnb87 := nn NB167_168
       have hcz88 := X.k2 BK167
       try go_wp2_with (first | ((with_reducible refine gc 86 rfl ?_); refine gm_ (some 24) rfl rfl Tryz.func86 (frac_wide_zero.calls _ _ _ _ A52.out) ag ?_; intro w89 hb; replace BK166 := bb BK166 hb; replace BK167 := bb BK167 hb; replace BK168 := bb BK168 hb; replace HB := bs HB hb; (try clear hb)))
       replace BK166 := Aside0.mk (blk_drew BK166.out)
       replace BK167 := Aside0.mk (blk_drew BK167.out)
       replace BK168 := Aside0.mk (blk_drew BK168.out)
       replace HB := Aside0.mk (below_drew1 HB.out)
       refine start_ (n := 5) (S := fun w' => c_ w' gb167 0 (.int .u64 x168000_1) ∧ c_ w' gb167 1 (.int .u64 x168001_1)) (ds := [4]) (m_ 5 0) (by kernel_rfl) rfl rfl ⟨ct BK167 0, ct BK167 1⟩ (fun hHeld => ?_)
       generalize w89.drew = w90 at BK166 BK167 BK168 HB hHeld ⊢
       refine tk_ 0 (some 26) (m_ 5 1) rfl rfl (by kernel_rfl) hHeld ?_
       refine tk_ 1 (some 27) (m_ 5 3) rfl rfl (by kernel_rfl) hHeld ?_
       refine o1_ 2 (some 28) (m_ 5 7) rfl rfl (by kernel_rfl) (fun K hK => ?_)
       refine gs_ rfl Tryz.func87 (frac_wide_twos.calls _ _ _ _ A63.out (tt GT)) ag ?_
       intro w91 hb
       replace BK166 := bb BK166 hb
       replace BK167 := bb BK167 hb
       replace BK168 := bb BK168 hb
       replace HB := bs HB hb
       (try clear hb)
       refine hK.out _ _ ⟨ct BK167 0, ct BK167 1⟩ (fun hHeld => ?_)
       clear hK K
       refine nr_ (some 28) ?_
       refine o1_ 3 (some 29) (m_ 5 15) rfl rfl (by kernel_rfl) (fun K hK => ?_)
       refine gs_ rfl Tryz.func88 (frac_wide_down.calls _ _ _ _ _ _ A64.out) ag ?_
       intro w92 hb
       replace BK166 := bb BK166 hb
       replace BK167 := bb BK167 hb
       replace BK168 := bb BK168 hb
       replace HB := bs HB hb
       (try clear hb)
       refine hK.out _ _ ⟨ct BK167 0, ct BK167 1⟩ (fun hHeld => ?_)
       clear hK K
       refine nr_ (some 29) ?_
       refine last_ (i := 4) (N := none) (m_ 5 31) rfl rfl (by kernel_rfl) (by decide) (fun K hK => ?_)
       have hs93 : c_ w92 gb167 0 (.int .u64 x168000_1) := ct BK167 0
       have hfs93 := blk_frozen BK167.out 0
       have hns93_0 := NB166_167.out
       have hns93_2 := NB168_167.out
       have hms93_0 := NB167_166.out
       have hms93_2 := NB167_168.out
       have hs94 : c_ w92 gb167 1 (.int .u64 x168001_1) := ct BK167 1
       have hfs94 := blk_frozen BK167.out 1
       have hns94_0 := NB166_167.out
       have hns94_2 := NB168_167.out
       have hms94_0 := NB167_166.out
       have hms94_2 := NB167_168.out
       refine skip_ (w1 := ?_) (by rfl) rfl ?_ ?_
       rotate_left
       ·go_simp
        rfl
       refine hK.out _ _ ?_
       clear hK K
       refine done_ (by kernel_rfl) ?_
       have hnb95 := nn NB166_168
       have hcz96 := X.k2 BK166
       have hcz97 := X.k2 BK167
       try go_wp2_with (first | ((with_reducible refine gc 89 rfl ?_); refine gm_ (some 32) rfl rfl Tryz.func89 (frac_wide_cmp.calls _ _ _ _ _ _ A65.out) ag ?_; intro w98 hb; replace BK166 := bb BK166 hb; replace BK167 := bp_ #[.int .u64 t180, .int .u64 t181] BK167 hb; replace BK168 := bb BK168 hb; replace HB := bs HB hb; (try clear hb); have hcz99 := X.k2 BK167; have hcz100 := X.k2 BK166) | ((with_reducible refine gc 90 rfl ?_); refine gm_ (some 38) rfl rfl Tryz.func90 (frac_wide_minus.calls _ _ _ _ _ _ _ A85.out) ag ?_; intro w101 hb; replace BK166 := bb BK166 hb; replace BK167 := bb BK167 hb; replace BK168 := bb BK168 hb; replace HB := bs HB hb; (try clear hb); have hcz102 := X.k2 BK167))
       go_roundg k1
       case measure => have := HK1.out; omega
       case rel => exact ⟨(x167000_1), (x167001_1), (t185), (t186), H', ⟨by have := HK1.out; omega⟩, bu_ BK166, bq_ BK167, bu_ BK168, ⟨bf HB⟩⟩


/-! ### bits_Len64: function 97 -/
set_option maxRecDepth 100000 in
theorem len8tab_size : (Lib.len8tab.size : Int) = 256 := by
  have : Lib.len8tab.size = 256 := by decide
  omega
theorem wrap_add (k a b : Nat) (hk : k ≤ 56) (ha : a ≤ 8) (hb : b = k + a) : wrap64 ((k : Int) + wrap64 (a : Int)) = (b : Int) := by
  unfold wrap64
  omega
theorem wrap_wrap (a : Nat) (ha : a ≤ 8) : wrap64 (wrap64 (a : Int)) = (a : Int) := by
  unfold wrap64
  omega
theorem wrap_one (a : Nat) (ha : a ≤ 8) : wrap64 (a : Int) = (a : Int) := by
  unfold wrap64
  omega
theorem len8_get (y : Int) (h : y.toNat < Lib.len8tab.size) : ((Lib.len8tab[y.toNat]'h).toNat : Int) = Lib.len8 y := by
  unfold Lib.len8
  rw [getElem?_pos Lib.len8tab y.toNat h]
  rfl
set_option maxHeartbeats 8000000 in
set_option maxRecDepth 1000000 in
theorem len64_walk (x : Int) (w : World) (h0 : 0 ≤ x) (h1 : x ≤ 18446744073709551615) :
    Calls Tryz.prog 97 #[.int .u64 x] w fun e w' => e = .returned (.int .i64 (Lib.bitLen x.toNat)) ∧ w' = w := by
  go_enter Tryz.func97, Tryz.ntmps97
  go_wp2
  all_goals first
    | (go_ret; refine ⟨congrArg Ending.returned (congrArg (Value.int IntKind.i64) ?_), rfl⟩)
    | (exfalso
       have hs := len8tab_size
       omega)
  all_goals first
    | (rw [len8_get (x / 4294967296 / 65536 / 256) _, Lib.len8_of (x / 4294967296 / 65536 / 256) (by omega) (by omega)]
       have e : (x / 4294967296 / 65536 / 256).toNat = x.toNat / 72057594037927936 := by omega
       have l := Lib.bitLen_le8' (x / 4294967296 / 65536 / 256) (by omega) (by omega)
       have s := Lib.bitLen_shift56 x.toNat (by omega) (by omega)
       rw [e] at l ⊢
       exact wrap_add 56 _ _ (by decide) l s)
    | (rw [len8_get (x / 4294967296 / 65536) _, Lib.len8_of (x / 4294967296 / 65536) (by omega) (by omega)]
       have e : (x / 4294967296 / 65536).toNat = x.toNat / 281474976710656 := by omega
       have l := Lib.bitLen_le8' (x / 4294967296 / 65536) (by omega) (by omega)
       have s := Lib.bitLen_shift48 x.toNat (by omega) (by omega)
       rw [e] at l ⊢
       exact wrap_add 48 _ _ (by decide) l s)
    | (rw [len8_get (x / 4294967296 / 256) _, Lib.len8_of (x / 4294967296 / 256) (by omega) (by omega)]
       have e : (x / 4294967296 / 256).toNat = x.toNat / 1099511627776 := by omega
       have l := Lib.bitLen_le8' (x / 4294967296 / 256) (by omega) (by omega)
       have s := Lib.bitLen_shift40 x.toNat (by omega) (by omega)
       rw [e] at l ⊢
       exact wrap_add 40 _ _ (by decide) l s)
    | (rw [len8_get (x / 4294967296) _, Lib.len8_of (x / 4294967296) (by omega) (by omega)]
       have e : (x / 4294967296).toNat = x.toNat / 4294967296 := by omega
       have l := Lib.bitLen_le8' (x / 4294967296) (by omega) (by omega)
       have s := Lib.bitLen_shift32 x.toNat (by omega) (by omega)
       rw [e] at l ⊢
       exact wrap_add 32 _ _ (by decide) l s)
    | (rw [len8_get (x / 65536 / 256) _, Lib.len8_of (x / 65536 / 256) (by omega) (by omega)]
       have e : (x / 65536 / 256).toNat = x.toNat / 16777216 := by omega
       have l := Lib.bitLen_le8' (x / 65536 / 256) (by omega) (by omega)
       have s := Lib.bitLen_shift24 x.toNat (by omega) (by omega)
       rw [e] at l ⊢
       exact wrap_add 24 _ _ (by decide) l s)
    | (rw [len8_get (x / 65536) _, Lib.len8_of (x / 65536) (by omega) (by omega)]
       have e : (x / 65536).toNat = x.toNat / 65536 := by omega
       have l := Lib.bitLen_le8' (x / 65536) (by omega) (by omega)
       have s := Lib.bitLen_shift16 x.toNat (by omega) (by omega)
       rw [e] at l ⊢
       exact wrap_add 16 _ _ (by decide) l s)
    | (rw [len8_get (x / 256) _, Lib.len8_of (x / 256) (by omega) (by omega)]
       have e : (x / 256).toNat = x.toNat / 256 := by omega
       have l := Lib.bitLen_le8' (x / 256) (by omega) (by omega)
       have s := Lib.bitLen_shift8 x.toNat (by omega) (by omega)
       rw [e] at l ⊢
       exact wrap_add 8 _ _ (by decide) l s)
    | (rw [len8_get (x) _, Lib.len8_of (x) (by omega) (by omega)]
       have e : (x).toNat = x.toNat := by omega
       have l := Lib.bitLen_le8' (x) (by omega) (by omega)
       rw [e] at l ⊢
       first | exact wrap_wrap _ l | exact wrap_add 0 _ _ (by decide) l (by omega) | exact wrap_one _ l)
theorem bits_Len64.calls (a0 r : Int) (w : World) (h : bits_Len64.f a0 = some r) :
  Calls Tryz.prog 97 #[.int .u64 a0] w fun e w' => e = .returned (.int .i64 r) ∧ Drawn0 w w' := by
 unfold bits_Len64.f at h
 by_cases c : 0 ≤ a0 ∧ a0 ≤ 18446744073709551615
 ·rw [if_pos c] at h
  obtain rfl := Option.some.inj h
  exact (len64_walk a0 w c.1 c.2).mono fun e w' ⟨he, hw⟩ => ⟨he, by rw [hw]; exact Drawn0.refl _⟩
 ·rw [if_neg c] at h
  cases h

/-! ### frac_wide_long: function 92 -/
theorem frac_wide_long.calls (a0_0 : Int) (a0_1 : Int) (r : Int) (w : World) (h : frac_wide_long.f a0_0 a0_1 = some r) :
  Calls Tryz.prog 92 #[.agg #[.int .u64 a0_0, .int .u64 a0_1]] w fun e w' => e = .returned (.int .i64 r) ∧ Below w.heap.size w w' := by
 have hu88 := Tryz.underlying88
 have HB := Aside0.mk (Below.refl w.heap.size w)
 have H : (if a0_0 = 0 then ((bits_Len64.f a0_1).bind fun t188 => (some t188)) else ((bits_Len64.f a0_0).bind fun t189 => (some (wrap64 (64 + t189))))) = some r := h
 clear h
 by_cases c2 : a0_0 = 0
 ·rw [if_pos c2] at H
  have c2b0 : (a0_0 == 0) = true := beq_iff_eq.mpr c2
  have c2b1 : (a0_0 != 0) = false := bne_eq_false_iff_eq.mpr c2
  clear c2
  replace H := bi_ H; obtain ⟨t188, A3, H⟩ := H
  (try dsimp only at H)
  obtain rfl := Option.some.inj H
  go_enter Tryz.func92, Tryz.ntmps92
  go_wp2_with (first | ((with_reducible refine gd 1 rfl ?_); refine bx_ 1 88 #[.int .u64 a0_0, .int .u64 a0_1] rfl rfl ?_; intro gb187 hg w4 BK187 hb; have GE187 := bz HB hg; replace HB := bs HB hb; clear hb hg; have hcz5 := X.k2 BK187) | ((with_reducible refine gc 97 rfl ?_); refine gm_ (some 12) rfl rfl Tryz.func97 (bits_Len64.calls _ _ _ A3.out) ag ?_; rintro w' ⟨nd, rfl⟩))
  go_ret
  exact ⟨ae, bf HB⟩
 ·rw [if_neg c2] at H
  have c2b0 : (a0_0 == 0) = false := beq_eq_false_iff_ne.mpr c2
  have c2b1 : (a0_0 != 0) = true := bne_iff_ne.mpr c2
  replace H := bi_ H; obtain ⟨t189, A6, H⟩ := H
  (try dsimp only at H)
  obtain rfl := Option.some.inj H
  go_enter Tryz.func92, Tryz.ntmps92
  go_wp2_with (first | ((with_reducible refine gd 1 rfl ?_); refine bx_ 1 88 #[.int .u64 a0_0, .int .u64 a0_1] rfl rfl ?_; intro gb187 hg w7 BK187 hb; have GE187 := bz HB hg; replace HB := bs HB hb; clear hb hg; have hcz8 := X.k2 BK187) | ((with_reducible refine gc 97 rfl ?_); refine gm_ (some 8) rfl rfl Tryz.func97 (bits_Len64.calls _ _ _ A6.out) ag ?_; rintro w' ⟨nd, rfl⟩))
  go_ret
  exact ⟨ae, bf HB⟩

end Go.Proofs.YtfhokgkpcphmlaaGreatDoor.X
