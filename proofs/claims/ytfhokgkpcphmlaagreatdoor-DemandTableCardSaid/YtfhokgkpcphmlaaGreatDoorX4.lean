/- Walks: each '.calls' says that the Go function comes to what its Lean function tells. Conditions: as each theorem's head says. -/
import Derived.Test.YtfhokgkpcphmlaaGreatDoorXD
import Derived.Test.YtfhokgkpcphmlaaGreatDoorX0
import Derived.Test.YtfhokgkpcphmlaaGreatDoorX3
namespace Go.Proofs.YtfhokgkpcphmlaaGreatDoor.X
open Go.RowKit Go.Proofs.YtfhokgkpcphmlaaGreatDoorW.PrintWords Go.Proofs.YtfhokgkpcphmlaaGreatDoorW.PrintLast Go.Proofs.YtfhokgkpcphmlaaGreatDoorW.PrintMore
attribute [local go_sem] max2_int min2_int max_two min_two max_three min_three max_four min_four   -- for this text's walks alone
set_option linter.unusedVariables false
set_option maxHeartbeats 8000000
set_option maxRecDepth 100000
set_option linter.unusedSimpArgs false

/-! ### carrefourlaw06_node: function 8 -/
def carrefourlaw06_node.T13 : Bool × List (List Nat × List Nat) := (true, [([], []), ([0], [0]), ([], []), ([1, 2], [1, 2]), ([3], [3]), ([4], [4]), ([], []), ([6], [6]), ([], []), ([7, 8], [7, 8]), ([9], [9]), ([10], [10]), ([5, 11], [5, 11]), ([12], [12]), ([13], [13])])
def carrefourlaw06_node.B13 : List Nat := [0, 1, 0, 7, 15, 31, 0, 64, 0, 448, 960, 1984, 4095, 8191, 16383]
theorem carrefourlaw06_node.tab13 : rtab .any (opsOf Tryz.f8 13) = carrefourlaw06_node.T13 := by kernel_rfl
theorem carrefourlaw06_node.bits13 : waitsOk carrefourlaw06_node.T13.2 carrefourlaw06_node.B13 = true := by kernel_rfl
def carrefourlaw06_node.T33 : Bool × List (List Nat × List Nat) := (true, [([], []), ([0], [0]), ([], []), ([1, 2], [1, 2]), ([3], [3]), ([4], [4]), ([], []), ([6], [6]), ([], []), ([7, 8], [7, 8]), ([9], [9]), ([10], [10]), ([5, 11], [5, 11]), ([12], [12]), ([13], [13])])
def carrefourlaw06_node.B33 : List Nat := [0, 1, 0, 7, 15, 31, 0, 64, 0, 448, 960, 1984, 4095, 8191, 16383]
theorem carrefourlaw06_node.tab33 : rtab .any (opsOf Tryz.f8 33) = carrefourlaw06_node.T33 := by kernel_rfl
theorem carrefourlaw06_node.bits33 : waitsOk carrefourlaw06_node.T33.2 carrefourlaw06_node.B33 = true := by kernel_rfl
theorem carrefourlaw06_node.calls (k : Nat) (a0_0 : ByteArray) (A0_1 : Option Addr) (c0_1 : Nat) (l0_1 : List (S48)) (A0_2 : Option Addr) (c0_2 : Nat) (l0_2 : List (S54)) (A0_3 : Option Addr) (c0_3 : Nat) (l0_3 : List (S56)) (A0_4 : Option Addr) (c0_4 : Nat) (l0_4 : List (S59)) (A0_5 : Option Addr) (c0_5 : Nat) (l0_5 : List (S63)) (a0_6 : Int) (r : Bool) (w : World) (hr0_1 : Kd.C k48 w A0_1 l0_1.length l0_1) (hc0_1 : l0_1.length ≤ c0_1) (hr0_2 : Kd.C k54 w A0_2 l0_2.length l0_2) (hc0_2 : l0_2.length ≤ c0_2) (hr0_3 : Kd.C k56 w A0_3 l0_3.length l0_3) (hc0_3 : l0_3.length ≤ c0_3) (hr0_4 : Kd.C k59 w A0_4 l0_4.length l0_4) (hc0_4 : l0_4.length ≤ c0_4) (hr0_5 : Kd.C k63 w A0_5 l0_5.length l0_5) (hc0_5 : l0_5.length ≤ c0_5) (h : carrefourlaw06_node.f k a0_0 l0_1 l0_2 l0_3 l0_4 l0_5 a0_6 = some r) :
  Calls Tryz.prog 8 #[.agg #[.string a0_0, .slice A0_1 l0_1.length c0_1, .slice A0_2 l0_2.length c0_2, .slice A0_3 l0_3.length c0_3, .slice A0_4 l0_4.length c0_4, .slice A0_5 l0_5.length c0_5, .int .i64 a0_6]] w fun e w' => e = .returned (.bool r) ∧ Below w.heap.size w w' := by
 have hu42 := Tryz.underlying42
 have HR0_1 := Aside0.mk hr0_1
 have HC0_1 := Aside0.mk hc0_1
 clear hr0_1 hc0_1
 have HR0_2 := Aside0.mk hr0_2
 have HC0_2 := Aside0.mk hc0_2
 clear hr0_2 hc0_2
 have HR0_3 := Aside0.mk hr0_3
 have HC0_3 := Aside0.mk hc0_3
 clear hr0_3 hc0_3
 have HR0_4 := Aside0.mk hr0_4
 have HC0_4 := Aside0.mk hc0_4
 clear hr0_4 hc0_4
 have HR0_5 := Aside0.mk hr0_5
 have HC0_5 := Aside0.mk hc0_5
 clear hr0_5 hc0_5
 have HB := Aside0.mk (Below.refl w.heap.size w)
 have H : (if (l0_1.length : Int) > 50 then (carrefourlaw06_node.j0 k true a0_0 l0_1 l0_2 l0_3 l0_4 l0_5 a0_6) else (if (l0_2.length : Int) > 50 then (carrefourlaw06_node.j0 k true a0_0 l0_1 l0_2 l0_3 l0_4 l0_5 a0_6) else (if (l0_3.length : Int) > 50 then (carrefourlaw06_node.j0 k true a0_0 l0_1 l0_2 l0_3 l0_4 l0_5 a0_6) else (if (l0_4.length : Int) > 50 then (carrefourlaw06_node.j0 k true a0_0 l0_1 l0_2 l0_3 l0_4 l0_5 a0_6) else (carrefourlaw06_node.j0 k (decide ((l0_5.length : Int) > 80)) a0_0 l0_1 l0_2 l0_3 l0_4 l0_5 a0_6))))) = some r := h
 clear h
 have HC2 := Aside0.mk H
 clear H
 go_enter Tryz.func8, Tryz.ntmps8
 go_upto_region 1 with (first | ((with_reducible refine gate_dst (N := 1) rfl ?_); (try (refine gate_guard (by rfl) ?_; dsimp only)); refine box_event ?hg (N := 1) ?hd (cs := #[.string a0_0, .slice A0_1 l0_1.length c0_1, .slice A0_2 l0_2.length c0_2, .slice A0_3 l0_3.length c0_3, .slice A0_4 l0_4.length c0_4, .slice A0_5 l0_5.length c0_5, .int .i64 a0_6]) (t := 42) ?hr ?_; (case hd => rfl); (case hg => rfl); (case hr => first | (go_simp; done) | (go_simp; rfl)); intro gb102 hg w3 hbox hb; have BK102 := Aside0.mk (hbox); have GE102 := bz HB hg; replace HB := bs HB hb; clear hb hg))
 (try simp only [Act.put, si, s0, s1])
 go_cut [37] (fun v37 wc => ∃ (kq : Nat) (x37_1 : Bool), v37 = .bool x37_1 ∧ Aside0 (carrefourlaw06_node.j0 kq x37_1 a0_0 l0_1 l0_2 l0_3 l0_4 l0_5 a0_6 = some r) ∧ Aside0 (kq ≤ k) ∧ Aside0 (wc.heap[gb102]? = some (.cells #[.string a0_0, (.slice A0_1 l0_1.length c0_1), (.slice A0_2 l0_2.length c0_2), (.slice A0_3 l0_3.length c0_3), (.slice A0_4 l0_4.length c0_4), (.slice A0_5 l0_5.length c0_5), .int .i64 a0_6] 42 (0, 0))) ∧ Aside0 (Below w.heap.size w wc))
 case first =>
  have H := HC2.out
  clear HC2
  by_cases c4 : (l0_1.length : Int) > 50
  ·rw [if_pos c4] at H
   have c4b0 : decide (50 < (l0_1.length : Int)) = true := decide_eq_true c4
   have c4b1 : decide (50 < l0_1.length) = true := decide_eq_true (by omega)
   clear c4
   (first | rw [c4b0] | (simp only [i64_w, i32_w]; rw [c4b0]) | skip)
   have H' := Aside0.mk H
   clear H
   have hcz5 := X.k7 BK102
   go_wp2
   go_meet
   case rel => exact ⟨_, (true), (aq), H', ⟨by first | omega | exact Nat.le_refl _⟩, bu_ BK102, ⟨bf HB⟩⟩
  ·rw [if_neg c4] at H
   have c4b0 : decide (50 < (l0_1.length : Int)) = false := decide_eq_false c4
   have c4b1 : decide (50 < l0_1.length) = false := decide_eq_false (by omega)
   clear c4
   (first | rw [c4b0] | (simp only [i64_w, i32_w]; rw [c4b0]) | skip)
   by_cases c6 : (l0_2.length : Int) > 50
   ·rw [if_pos c6] at H
    have c6b0 : decide (50 < (l0_2.length : Int)) = true := decide_eq_true c6
    have c6b1 : decide (50 < l0_2.length) = true := decide_eq_true (by omega)
    clear c6
    have H' := Aside0.mk H
    clear H
    have hcz7 := X.k7 BK102
    go_wp2
    go_meet
    case rel => exact ⟨_, (true), (aq), H', ⟨by first | omega | exact Nat.le_refl _⟩, bu_ BK102, ⟨bf HB⟩⟩
   ·rw [if_neg c6] at H
    have c6b0 : decide (50 < (l0_2.length : Int)) = false := decide_eq_false c6
    have c6b1 : decide (50 < l0_2.length) = false := decide_eq_false (by omega)
    clear c6
    by_cases c8 : (l0_3.length : Int) > 50
    ·rw [if_pos c8] at H
     have c8b0 : decide (50 < (l0_3.length : Int)) = true := decide_eq_true c8
     have c8b1 : decide (50 < l0_3.length) = true := decide_eq_true (by omega)
     clear c8
     have H' := Aside0.mk H
     clear H
     have hcz9 := X.k7 BK102
     go_wp2
     go_meet
     case rel => exact ⟨_, (true), (aq), H', ⟨by first | omega | exact Nat.le_refl _⟩, bu_ BK102, ⟨bf HB⟩⟩
    ·rw [if_neg c8] at H
     have c8b0 : decide (50 < (l0_3.length : Int)) = false := decide_eq_false c8
     have c8b1 : decide (50 < l0_3.length) = false := decide_eq_false (by omega)
     clear c8
     by_cases c10 : (l0_4.length : Int) > 50
     ·rw [if_pos c10] at H
      have c10b0 : decide (50 < (l0_4.length : Int)) = true := decide_eq_true c10
      have c10b1 : decide (50 < l0_4.length) = true := decide_eq_true (by omega)
      clear c10
      have H' := Aside0.mk H
      clear H
      have hcz11 := X.k7 BK102
      go_wp2
      go_meet
      case rel => exact ⟨_, (true), (aq), H', ⟨by first | omega | exact Nat.le_refl _⟩, bu_ BK102, ⟨bf HB⟩⟩
     ·rw [if_neg c10] at H
      have c10b0 : decide (50 < (l0_4.length : Int)) = false := decide_eq_false c10
      have c10b1 : decide (50 < l0_4.length) = false := decide_eq_false (by omega)
      clear c10
      have H' := Aside0.mk H
      clear H
      have hcz12 := X.k7 BK102
      go_wp2
      go_meet
      case rel => exact ⟨_, (decide ((l0_5.length : Int) > 80)), (aq), H', ⟨by first | omega | exact Nat.le_refl _⟩, bu_ BK102, ⟨bf HB⟩⟩
 case rest =>
  clear HC2
  (try clear c1); (try clear p2); (try clear c4); (try clear c4b0); (try clear c4b1); (try clear c6); (try clear c6b0); (try clear c6b1); (try clear c8); (try clear c8b0); (try clear c8b1); (try clear c10); (try clear c10b0); (try clear c10b1); (try clear hcz11); (try clear hcz12); (try clear hcz5); (try clear hcz7); (try clear hcz9)
  obtain ⟨kq, x37_1, rfl, HA, HJ1, BK102, HB⟩ := hcut
  cases kq with
  | zero => exact absurd HA.out (by simp [carrefourlaw06_node.j0])
  | succ kj1 =>
   have H := HA.out
   clear HA
   simp only [carrefourlaw06_node.j0] at H
   by_cases c13 : x37_1 = true
   ·subst c13
    have H1 : (some false) = some r := by rw [if_pos rfl] at H; exact H
    clear H
    have H := H1
    clear H1
    obtain rfl := Option.some.inj H
    go_wp2
    go_ret
    exact ⟨ae, bf HB⟩
   ·replace c13 := Bool.eq_false_iff.mpr c13
    subst c13
    have H1 : (carrefourlaw06_node.l0 kj1 (([a0_0] : List ByteArray)) 0 a0_0 l0_1 l0_2 l0_3 l0_4 l0_5 a0_6) = some r := by rw [if_neg (show ¬ (false = true) by decide)] at H; exact H
    clear H
    have H := H1
    clear H1
    obtain ⟨y103, hy103⟩ : ∃ y_ : List ByteArray, y_ = (([a0_0] : List ByteArray)) := ⟨_, rfl⟩
    replace H : (carrefourlaw06_node.l0 kj1 y103 0 a0_0 l0_1 l0_2 l0_3 l0_4 l0_5 a0_6) = some r := by first | (rw [hy103]; with_reducible exact H) | (have H2_ := (Option.bind_some _ _).symm.trans H; rw [hy103]; with_reducible exact H2_) | (have H2_ := (Option.bind_some _ _).symm.trans H; with_reducible exact H2_) | with_reducible exact H | (rw [hy103]; exact H) | exact H
    have Ny103 := Aside0.mk hy103
    clear hy103
    have H' := Aside0.mk H
    clear H
    have hcz14 := X.k7 BK102
    go_wp2_with (first | ((with_reducible refine gate_dst (N := 40) rfl ?_); (try (refine gate_guard (by rfl) ?_; dsimp only)); refine Kd.R_lit Kd.string _ 9 ?hg (N := 40) ?hd (xs := ([a0_0] : List ByteArray)) (inner := [.string a0_0]) (ok := fun _ => True) (okp := fun _ => True) ?hr ?hp (fun _ hk => hk) trivial (Below.refl _ _) (Nat.le_refl _) (by simp) ?_; (case hd => rfl); (case hg => rfl); (case hr => first | (go_simp; done) | (go_simp; rfl)); (case hp => exact (Reps.one (show Kd.M Kd.string _ _ _ a0_0 [.string a0_0] from rfl) (Reps.none _ _))); intro v104 w15 ho16 hb hg_ hnew_; clear hg_ hnew_; (first | rw [← Ny103.out] at ho16 | (simp only [Int.reduceToNat] at ho16; rw [← Ny103.out] at ho16)); have HO105 := Aside0.mk (Kd.R_lower ho16 (below_size (bf HB))); replace BK102 := bb BK102 hb; replace HB := bs HB hb; clear hb ho16))
    go_loopg [3, 4] kj1 (fun kq v3 v4 w' => ∃ (x3_2 : List ByteArray) (x4_2 : Int), v4 = .int .i64 x4_2 ∧ Aside0 (carrefourlaw06_node.l0 kq x3_2 x4_2 a0_0 l0_1 l0_2 l0_3 l0_4 l0_5 a0_6 = some r) ∧ Aside0 (kq ≤ kj1) ∧ Aside0 (Kd.R Kd.string 9 w' w.heap.size (fun _ => True) v3 x3_2) ∧ Aside0 (w'.heap[gb102]? = some (.cells #[.string a0_0, (.slice A0_1 l0_1.length c0_1), (.slice A0_2 l0_2.length c0_2), (.slice A0_3 l0_3.length c0_3), (.slice A0_4 l0_4.length c0_4), (.slice A0_5 l0_5.length c0_5), .int .i64 a0_6] 42 (0, 0))) ∧ Aside0 (Below w.heap.size w w'))
    case atStart => exact ⟨(y103), (0), (aq), H', ⟨Nat.le_refl _⟩, ⟨Rt_ HO105.out⟩, bu_ BK102, ⟨bf HB⟩⟩
    case round =>
     clear H'
     (try clear c1); (try clear p2); (try clear c4); (try clear c4b0); (try clear c4b1); (try clear c6); (try clear c6b0); (try clear c6b1); (try clear c8); (try clear c8b0); (try clear c8b1); (try clear c10); (try clear c10b0); (try clear c10b1); (try clear c13); (try clear hcz11); (try clear hcz12); (try clear hcz14); (try clear hcz5); (try clear hcz7); (try clear hcz9); (try clear p2)
     obtain ⟨x3_2, x4_2, rfl, HA, HK2, HO_3, BK102, HB⟩ := hrel
     cases gk with
     | zero => exact absurd HA.out (by simp [carrefourlaw06_node.l0])
     | succ k2 =>
      have H := HA.out
      clear HA
      simp only [carrefourlaw06_node.l0] at H
      by_cases c17 : x4_2 < (l0_1.length : Int)
      ·rw [if_pos c17] at H
       have c17b0 : decide (x4_2 < (l0_1.length : Int)) = true := decide_eq_true c17
       clear c17
       by_cases c18 : 0 ≤ x4_2
       ·rw [if_pos c18] at H
        have c18b0 : decide (0 ≤ x4_2) = true := decide_eq_true c18
        clear c18
        by_cases c19 : x3_2.length < 8796093022208
        ·rw [if_pos c19] at H
         have LMc19 := Aside0.mk c19
         clear c19
         obtain ⟨y107, hy107⟩ : ∃ y_ : List ByteArray, y_ = (x3_2 ++ [(rd_T48 l0_1 x4_2).f0]) := ⟨_, rfl⟩
         replace H : (carrefourlaw06_node.l0 k2 y107 (wrap64 (x4_2 + 1)) a0_0 l0_1 l0_2 l0_3 l0_4 l0_5 a0_6) = some r := by first | (rw [hy107]; with_reducible exact H) | (have H2_ := (Option.bind_some _ _).symm.trans H; rw [hy107]; with_reducible exact H2_) | (have H2_ := (Option.bind_some _ _).symm.trans H; with_reducible exact H2_) | with_reducible exact H | (rw [hy107]; exact H) | exact H
         have Ny107 := Aside0.mk hy107
         clear hy107
         have H' := Aside0.mk H
         clear H
         have hcz20 := X.k7 BK102
         have p106 : 0 ≤ (x4_2 : Int) := od_
         have q106 : x4_2 < (l0_1.length : Int) := od_
         obtain ⟨ad106, e106, hx106_0, hx106_1, hx106_2, hx106_3, hx106_4, hx106_5, hx106_6, hx106_7, hx106_8, hx106_9, hx106_10⟩ := at_T48 HR0_1.out x4_2 p106 q106
         cases e106
         replace hx106_0 := hx_ HB hx106_0
         replace hx106_1 := hx_ HB hx106_1
         replace hx106_2 := hx_ HB hx106_2
         replace hx106_3 := hx_ HB hx106_3
         replace hx106_4 := hx_ HB hx106_4
         replace hx106_5 := hx_ HB hx106_5
         replace hx106_6 := hx_ HB hx106_6
         replace hx106_7 := hx_ HB hx106_7
         replace hx106_8 := hx_ HB hx106_8
         replace hx106_9 := hx_ HB hx106_9
         replace hx106_10 := hx_ HB hx106_10
         replace p106 := eq_true p106
         replace q106 := eq_true q106
         go_wp2_with (first | ((with_reducible refine gate_builtin (b := .append) (xs := #[.tmp 48, .tmp 55]) rfl ?_); (try (refine gate_guard (by rfl) ?_; dsimp only)); at_builtin; refine Kd.R_append Kd.string (w0 := w) w.heap.size rfl (.tmp 48) (.tmp 55) 46 9 (.string ⟨#[]⟩) 16 rfl Tryz.underlying46 info9 rfl (by decide) (by omega) u3 x3_2 ((rd_T48 l0_1 x4_2).f0) [.string ((rd_T48 l0_1 x4_2).f0)] (fun _ => True) (fun _ => False) rfl rfl ?aP (fun _ hk => hk.elim) ?aF ?aO ?aB ?aS ?aL ?_; (case aP => exact rfl); (case aB => exact (bf HB)); (case aF => exact (fun _ _ => trivial)); (case aO => exact (Rt_ HO_3.out)); (case aS => exact (below_size (bf HB))); (case aL => have := LMc19.out; omega); intro v108 w21 ho hb hg hat; rw [← Ny107.out] at ho; have n0_ := Aside0.mk (blk_grown (g := gb102) (o := .cells #[.string a0_0, .slice (some ad106) l0_1.length c0_1, .slice A0_2 l0_2.length c0_2, .slice A0_3 l0_3.length c0_3, .slice A0_4 l0_4.length c0_4, .slice A0_5 l0_5.length c0_5, .int .i64 a0_6] 42 (0, 0)) (bx BK102) hg (Kd.R_ne HO_3.out BK102.out (by decide))); have n1_ := Aside0.mk (hb); have n2_ := Aside0.mk (ho); clear BK102; clear HB; clear HO_3; have BK102 := n0_; have HB := n1_; have HO109 := n2_; clear n0_ n1_ n2_; clear ho hb hg hat))
         go_roundg k2
         case measure => have := HJ1.out; have := HK2.out; omega
         case rel => exact ⟨(y107), (wrap64 (x4_2 + 1)), (aq), H', ⟨by have := HJ1.out; have := HK2.out; omega⟩, ⟨Rt_ HO109.out⟩, bu_ BK102, ⟨bf HB⟩⟩
        ·rw [if_neg c19] at H
         exact absurd H (by simp)
       ·rw [if_neg c18] at H
        exact absurd H (by simp)
      ·rw [if_neg c17] at H
       have c17b0 : decide (x4_2 < (l0_1.length : Int)) = false := decide_eq_false c17
       clear c17
       obtain ⟨ji22, hji22⟩ : ∃ j_ : Int, (mn (x3_2.length : Int) 50) = j_ := ⟨_, rfl⟩
       replace H : (if 0 ≤ (ji22) then (if (ji22) ≤ (x3_2.length : Int) then ((carrefourlaw06_strings.f k2 (x3_2.take ((ji22) : Int).toNat)).bind fun t114 => (if t114 = true then (carrefourlaw06_node.l1 k2 0 a0_0 l0_1 l0_2 l0_3 l0_4 l0_5 a0_6) else (some false))) else (none)) else (none)) = some r := by first | (rw [hji22] at H; exact H) | (simp only [hji22] at H ⊢; exact H)
       have hji22_ : (if 50 < (x3_2.length : Int) then 50 else (x3_2.length : Int)) = ji22 := hji22
       by_cases c23 : 0 ≤ (ji22)
       ·rw [if_pos c23] at H
        have c23b0 := eq_true c23
        have c23b1 : decide (0 ≤ (ji22)) = true := decide_eq_true c23
        clear c23
        by_cases c24 : (ji22) ≤ (x3_2.length : Int)
        ·rw [if_pos c24] at H
         have c24b0 := eq_true c24
         have c24b1 : decide ((ji22) ≤ (x3_2.length : Int)) = true := decide_eq_true c24
         clear c24
         obtain ⟨y110, hy110⟩ : ∃ y_ : List ByteArray, y_ = (x3_2.take ((ji22) : Int).toNat) := ⟨_, rfl⟩
         replace H : ((carrefourlaw06_strings.f k2 y110).bind fun t114 => (if t114 = true then (carrefourlaw06_node.l1 k2 0 a0_0 l0_1 l0_2 l0_3 l0_4 l0_5 a0_6) else (some false))) = some r := by first | (rw [hy110]; with_reducible exact H) | (have H2_ := (Option.bind_some _ _).symm.trans H; rw [hy110]; with_reducible exact H2_) | (have H2_ := (Option.bind_some _ _).symm.trans H; with_reducible exact H2_) | with_reducible exact H | (rw [hy110]; exact H) | exact H
         have Ny110 := Aside0.mk hy110
         clear hy110
         replace H := bi_ H; obtain ⟨t114, A25, H⟩ := H
         (try dsimp only at H)
         by_cases c26 : t114 = true
         ·subst c26
          have H1 : (carrefourlaw06_node.l1 k2 0 a0_0 l0_1 l0_2 l0_3 l0_4 l0_5 a0_6) = some r := by rw [if_pos rfl] at H; exact H
          clear H
          have H := H1
          clear H1
          have H' := Aside0.mk H
          clear H
          have hcz27 := X.k7 BK102
          obtain ⟨Ao28, co28, eo28⟩ := Kd.R_slice HO_3.out
          subst eo28
          have q29 : ((ji22) : Int) ≤ ((x3_2.length : Int) : Int) := od_
          obtain ⟨i029, hi029, _, hsz29, _⟩ := info_parts info9
          have hroom29 : x3_2.length ≤ co28 := (Kd.R_reads' HO_3.out).2.1
          have hC29 : Kd.C Kd.string _ Ao28 x3_2.length x3_2 := (Kd.R_reads' HO_3.out).2.2
          have hcut29 := cut_to (P := Tryz.prog) 46 9 .i64 Tryz.underlying46 hi029 Ao28 x3_2.length co28 (ji22) (od_) q29 hroom29
          have hr29 := Kd.C_take (m := ((ji22) : Int).toNat) hC29 (by omega)
          have hy29 : y110.length = ((ji22) : Int).toNat := (by rw [Ny110.out, List.length_take]; omega)
          rw [← Ny110.out] at hr29
          rw [← hy29] at hcut29
          have HR113 := Aside0.mk hr29
          have HC113 := Aside0.mk (show y110.length ≤ co28 from by omega)
          clear hr29 hC29 hroom29 hi029 hsz29
          have KY29 := Aside0.mk hy29
          clear hy29
          have KL29 := Aside0.mk (show ((ji22) : Int).toNat ≤ x3_2.length from by omega)
          replace q29 := eq_true q29
          go_wp2_with (first | ((with_reducible refine gc 9 rfl ?_); refine gm_ (some 62) rfl rfl Tryz.func9 (carrefourlaw06_strings.calls _ _ _ _ _ _ ?side1 ?side2 A25.out) ag ?_; (case side1 => repeat (first | exact (by repeat (first | (with_reducible exact HR113.out) | (with_reducible refine Kd.C_alloc ?_ _) | (with_reducible refine Kd.C_drewN ?_ _) | (with_reducible refine Kd.C_drew ?_) | exact HR113.out)) | (with_reducible refine Kd.C_alloc ?_ _) | (with_reducible refine Kd.C_drewN ?_ _) | (with_reducible refine Kd.C_drew ?_))); (case side2 => exact HC113.out); rintro w' ⟨nd, rfl⟩))
          go_loopg [5] k2 (fun kq v5 w' => ∃ (x5_3 : Int), v5 = .int .i64 x5_3 ∧ Aside0 (carrefourlaw06_node.l1 kq x5_3 a0_0 l0_1 l0_2 l0_3 l0_4 l0_5 a0_6 = some r) ∧ Aside0 (kq ≤ k2) ∧ Aside0 (w'.heap[gb102]? = some (.cells #[.string a0_0, (.slice A0_1 l0_1.length c0_1), (.slice A0_2 l0_2.length c0_2), (.slice A0_3 l0_3.length c0_3), (.slice A0_4 l0_4.length c0_4), (.slice A0_5 l0_5.length c0_5), .int .i64 a0_6] 42 (0, 0))) ∧ Aside0 (Below w.heap.size w w'))
          case atStart => exact ⟨(0), (aq), H', ⟨Nat.le_refl _⟩, bu_ BK102, ⟨bf HB⟩⟩
          case round =>
           clear H'
           (try clear c1); (try clear p1); (try clear q1); (try clear hx1); (try clear c2); (try clear p2); (try clear q2); (try clear c4); (try clear c4b0); (try clear c4b1); (try clear c6); (try clear c6b0); (try clear c6b1); (try clear p6); (try clear c8); (try clear c8b0); (try clear c8b1); (try clear c9); (try clear c10); (try clear c10b0); (try clear c10b1); (try clear p10); (try clear q10); (try clear hx10); (try clear c13); (try clear c17); (try clear c17b0); (try clear c18); (try clear c18b0); (try clear c19); (try clear c23); (try clear c23b0); (try clear c23b1); (try clear c24); (try clear c24b0); (try clear c24b1); (try clear c26); (try clear q29); (try clear hcz11); (try clear hcz12); (try clear hcz14); (try clear hcz20); (try clear hcz27); (try clear hcz5); (try clear hcz7); (try clear hcz9); (try clear hx106_0); (try clear hx106_1); (try clear hx106_10); (try clear hx106_2); (try clear hx106_3); (try clear hx106_4); (try clear hx106_5); (try clear hx106_6); (try clear hx106_7); (try clear hx106_8); (try clear hx106_9); (try clear p106); (try clear p2); (try clear q106); (try clear q29)
           obtain ⟨x5_3, rfl, HA, HK3, BK102, HB⟩ := hrel
           cases gk with
           | zero => exact absurd HA.out (by simp [carrefourlaw06_node.l1])
           | succ k3 =>
            have H := HA.out
            clear HA
            simp only [carrefourlaw06_node.l1] at H
            by_cases c30 : x5_3 < (l0_2.length : Int)
            ·rw [if_pos c30] at H
             have c30b0 : decide (x5_3 < (l0_2.length : Int)) = true := decide_eq_true c30
             clear c30
             by_cases c31 : 0 ≤ x5_3
             ·rw [if_pos c31] at H
              have c31b0 : decide (0 ≤ x5_3) = true := decide_eq_true c31
              clear c31
              obtain ⟨y117, hy117⟩ : ∃ y_ : List ByteArray, y_ = (([(rd_T54 l0_2 x5_3).f0, (rd_T54 l0_2 x5_3).f1] : List ByteArray)) := ⟨_, rfl⟩
              replace H : ((carrefourlaw06_strings.f k3 y117).bind fun t120 => (if t120 = true then (carrefourlaw06_node.l1 k3 (wrap64 (x5_3 + 1)) a0_0 l0_1 l0_2 l0_3 l0_4 l0_5 a0_6) else (some false))) = some r := by first | (rw [hy117]; with_reducible exact H) | (have H2_ := (Option.bind_some _ _).symm.trans H; rw [hy117]; with_reducible exact H2_) | (have H2_ := (Option.bind_some _ _).symm.trans H; with_reducible exact H2_) | with_reducible exact H | (rw [hy117]; exact H) | exact H
              have Ny117 := Aside0.mk hy117
              clear hy117
              replace H := bi_ H; obtain ⟨t120, A32, H⟩ := H
              (try dsimp only at H)
              by_cases c33 : t120 = true
              ·subst c33
               have H1 : (carrefourlaw06_node.l1 k3 (wrap64 (x5_3 + 1)) a0_0 l0_1 l0_2 l0_3 l0_4 l0_5 a0_6) = some r := by rw [if_pos rfl] at H; exact H
               clear H
               have H := H1
               clear H1
               have H' := Aside0.mk H
               clear H
               have hcz34 := X.k7 BK102
               try go_wp2
               replace BK102 := Aside0.mk (blk_drew BK102.out)
               replace HB := Aside0.mk (below_drew1 HB.out)
               have p115 : 0 ≤ (x5_3 : Int) := od_
               have q115 : x5_3 < (l0_2.length : Int) := od_
               obtain ⟨ad115, e115, hx115_0, hx115_1, hx115_2, hx115_3, hx115_4, hx115_5⟩ := at_T54 HR0_2.out x5_3 p115 q115
               have hw115_5 := hx115_5
               have hw115_4 := hx115_4
               have hw115_3 := hx115_3
               have hw115_2 := hx115_2
               have hw115_1 := hx115_1
               have hw115_0 := hx115_0
               cases e115
               replace hx115_0 := hx_ HB hx115_0
               replace hx115_1 := hx_ HB hx115_1
               replace hx115_2 := hx_ HB hx115_2
               replace hx115_3 := hx_ HB hx115_3
               replace hx115_4 := hx_ HB hx115_4
               replace hx115_5 := hx_ HB hx115_5
               replace p115 := eq_true p115
               replace q115 := eq_true q115
               have p116 : 0 ≤ (x5_3 : Int) := od_
               have q116 : x5_3 < (l0_2.length : Int) := od_
               obtain ⟨ad116, e116, hx116_0, hx116_1, hx116_2, hx116_3, hx116_4, hx116_5⟩ := at_T54 HR0_2.out x5_3 p116 q116
               have hw116_5 := hx116_5
               have hw116_4 := hx116_4
               have hw116_3 := hx116_3
               have hw116_2 := hx116_2
               have hw116_1 := hx116_1
               have hw116_0 := hx116_0
               obtain rfl : ad115 = ad116 := (by injection e116)
               replace hx116_0 := hx_ HB hx116_0
               replace hx116_1 := hx_ HB hx116_1
               replace hx116_2 := hx_ HB hx116_2
               replace hx116_3 := hx_ HB hx116_3
               replace hx116_4 := hx_ HB hx116_4
               replace hx116_5 := hx_ HB hx116_5
               replace p116 := eq_true p116
               replace q116 := eq_true q116
               refine start_ (n := 15) (S := fun w' => c_ w' gb102 0 (.string a0_0) ∧ c_ w' gb102 1 (.slice A0_1 l0_1.length c0_1) ∧ c_ w' gb102 2 (.slice (some ad115) l0_2.length c0_2) ∧ c_ w' gb102 3 (.slice A0_3 l0_3.length c0_3) ∧ c_ w' gb102 4 (.slice A0_4 l0_4.length c0_4) ∧ c_ w' gb102 5 (.slice A0_5 l0_5.length c0_5) ∧ c_ w' gb102 6 (.int .i64 a0_6) ∧ w'.cell? (ad115.add ((x5_3).toNat * 6)) = some (.string ((rd_T54 l0_2 x5_3).f0)) ∧ w'.cell? ⟨(ad115.add ((x5_3).toNat * 6)).block, (ad115.add ((x5_3).toNat * 6)).off + 1, none⟩ = some (.string ((rd_T54 l0_2 x5_3).f1)) ∧ w'.cell? ⟨(ad115.add ((x5_3).toNat * 6)).block, (ad115.add ((x5_3).toNat * 6)).off + 2, none⟩ = some (.int .i64 ((rd_T54 l0_2 x5_3).f2)) ∧ w'.cell? ⟨(ad115.add ((x5_3).toNat * 6)).block, (ad115.add ((x5_3).toNat * 6)).off + 3, none⟩ = some (.int .i64 ((rd_T54 l0_2 x5_3).f3)) ∧ w'.cell? ⟨(ad115.add ((x5_3).toNat * 6)).block, (ad115.add ((x5_3).toNat * 6)).off + 4, none⟩ = some (.int .i64 ((rd_T54 l0_2 x5_3).f4)) ∧ w'.cell? ⟨(ad115.add ((x5_3).toNat * 6)).block, (ad115.add ((x5_3).toNat * 6)).off + 5, none⟩ = some (.int .i64 ((rd_T54 l0_2 x5_3).f5)) ∧ w'.cell? (ad115.add ((x5_3).toNat * 6)) = some (.string ((rd_T54 l0_2 x5_3).f0)) ∧ w'.cell? ⟨(ad115.add ((x5_3).toNat * 6)).block, (ad115.add ((x5_3).toNat * 6)).off + 1, none⟩ = some (.string ((rd_T54 l0_2 x5_3).f1)) ∧ w'.cell? ⟨(ad115.add ((x5_3).toNat * 6)).block, (ad115.add ((x5_3).toNat * 6)).off + 2, none⟩ = some (.int .i64 ((rd_T54 l0_2 x5_3).f2)) ∧ w'.cell? ⟨(ad115.add ((x5_3).toNat * 6)).block, (ad115.add ((x5_3).toNat * 6)).off + 3, none⟩ = some (.int .i64 ((rd_T54 l0_2 x5_3).f3)) ∧ w'.cell? ⟨(ad115.add ((x5_3).toNat * 6)).block, (ad115.add ((x5_3).toNat * 6)).off + 4, none⟩ = some (.int .i64 ((rd_T54 l0_2 x5_3).f4)) ∧ w'.cell? ⟨(ad115.add ((x5_3).toNat * 6)).block, (ad115.add ((x5_3).toNat * 6)).off + 5, none⟩ = some (.int .i64 ((rd_T54 l0_2 x5_3).f5))) (ds := []) (m_ 15 0) (by kernel_rfl) rfl rfl ⟨ct BK102 0, ct BK102 1, ct BK102 2, ct BK102 3, ct BK102 4, ct BK102 5, ct BK102 6, (hx_ HB hw115_0 :), (hx_ HB hw115_1 :), (hx_ HB hw115_2 :), (hx_ HB hw115_3 :), (hx_ HB hw115_4 :), (hx_ HB hw115_5 :), (hx_ HB hw116_0 :), (hx_ HB hw116_1 :), (hx_ HB hw116_2 :), (hx_ HB hw116_3 :), (hx_ HB hw116_4 :), (hx_ HB hw116_5 :)⟩ (fun hHeld => ?_); refine with_tabW carrefourlaw06_node.tab13 carrefourlaw06_node.bits13 (fun HT_ HW_ => ?_)
               generalize wr.drew = w35 at BK102 HB hx115_0 hx115_1 hx115_2 hx115_3 hx115_4 hx115_5 hx116_0 hx116_1 hx116_2 hx116_3 hx116_4 hx116_5 hHeld ⊢
               refine pu_ 0 (some 71) (m_ 15 1) rfl rfl (ao HT_) ?_
               refine pu_ 2 (some 73) (m_ 15 5) rfl rfl (ao HT_) ?_
               refine pu_ 6 (some 77) (m_ 15 69) rfl rfl (ao HT_) ?_
               refine pu_ 8 (some 79) (m_ 15 325) rfl rfl (ao HT_) ?_
               refine tk_ 1 (some 72) (m_ 15 327) rfl rfl (tw HT_ HW_) hHeld ?_
               refine pu_ 3 (some 74) (m_ 15 335) rfl rfl (ao HT_) ?_
               refine pu_ 4 (some 75) (m_ 15 351) rfl rfl (ao HT_) ?_
               refine tk_ 5 (some 76) (m_ 15 383) rfl rfl (tw HT_ HW_) hHeld ?_
               refine tk_ 7 (some 78) (m_ 15 511) rfl rfl (tw HT_ HW_) hHeld ?_
               refine pu_ 9 (some 80) (m_ 15 1023) rfl rfl (ao HT_) ?_
               refine pu_ 10 (some 81) (m_ 15 2047) rfl rfl (ao HT_) ?_
               refine tk_ 11 (some 82) (m_ 15 4095) rfl rfl (tw HT_ HW_) hHeld ?_
               refine o1_ 12 (some 83) (m_ 15 8191) rfl rfl (oo HT_) (fun K hK => ?_)
               refine Kd.R_lit_step Kd.string _ 9 ?hg (N := 83) ?hd (xs := ([(rd_T54 l0_2 x5_3).f0, (rd_T54 l0_2 x5_3).f1] : List ByteArray)) (inner := [.string ((rd_T54 l0_2 x5_3).f0), .string ((rd_T54 l0_2 x5_3).f1)]) (ok := fun _ => True) (okp := fun _ => True) ?hr ?hp (fun _ hk => hk) trivial (Below.refl _ _) (Nat.le_refl _) (by simp) ?_; (case hd => rfl); (case hg => rfl); (case hr => first | (go_simp; done) | (go_simp; rfl)); (case hp => exact (Reps.one (show Kd.M Kd.string _ _ _ ((rd_T54 l0_2 x5_3).f0) [.string ((rd_T54 l0_2 x5_3).f0)] from rfl) (Reps.one (show Kd.M Kd.string _ _ _ ((rd_T54 l0_2 x5_3).f1) [.string ((rd_T54 l0_2 x5_3).f1)] from rfl) (Reps.none _ _))))
               intro v118 w36 ho37 hb hg_ hnew_
               clear hg_ hnew_
               (first | rw [← Ny117.out] at ho37 | (simp only [Int.reduceToNat] at ho37; rw [← Ny117.out] at ho37))
               have HO119 := Aside0.mk (Kd.R_lower ho37 (below_size (bf HB)))
               replace BK102 := bb BK102 hb
               replace HB := bs HB hb
               clear hb ho37
               obtain ⟨Ao38, co38, eo38⟩ := Kd.R_slice HO119.out
               (first | subst eo38 | (injection eo38 with f1_ f2_ f3_; have f4_ := f1_.symm; have f5_ := f3_.symm; clear f1_ f2_ f3_; subst f4_; subst f5_))
               refine hK.out _ _ ⟨ct BK102 0, ct BK102 1, ct BK102 2, ct BK102 3, ct BK102 4, ct BK102 5, ct BK102 6, (hx_ HB hw115_0 :), (hx_ HB hw115_1 :), (hx_ HB hw115_2 :), (hx_ HB hw115_3 :), (hx_ HB hw115_4 :), (hx_ HB hw115_5 :), (hx_ HB hw116_0 :), (hx_ HB hw116_1 :), (hx_ HB hw116_2 :), (hx_ HB hw116_3 :), (hx_ HB hw116_4 :), (hx_ HB hw116_5 :)⟩ (fun hHeld => ?_)
               clear hK K
               refine nr_ (some 83) ?_
               refine o1_ 13 (some 84) (m_ 15 16383) rfl rfl (oo HT_) (fun K hK => ?_)
               refine gs_ rfl Tryz.func9 (carrefourlaw06_strings.calls _ _ _ _ _ _ ?side1 ?side2 A32.out) ag ?_
               (case side1 => exact rc HO119)
               (case side2 => exact (Kd.R_reads' HO119.out).2.1)
               rintro w' ⟨nd, rfl⟩
               refine hK.out _ _ ⟨ct BK102 0, ct BK102 1, ct BK102 2, ct BK102 3, ct BK102 4, ct BK102 5, ct BK102 6, (hx_ HB hw115_0 :), (hx_ HB hw115_1 :), (hx_ HB hw115_2 :), (hx_ HB hw115_3 :), (hx_ HB hw115_4 :), (hx_ HB hw115_5 :), (hx_ HB hw116_0 :), (hx_ HB hw116_1 :), (hx_ HB hw116_2 :), (hx_ HB hw116_3 :), (hx_ HB hw116_4 :), (hx_ HB hw116_5 :)⟩ (fun hHeld => ?_)
               clear hK K
               refine nr_ (some 84) ?_
               refine pu_ 14 (some 85) (m_ 15 32767) rfl rfl (ao HT_) ?_
               refine done_ (done_of HT_.out (by kernel_rfl)) ?_
               try go_wp2
               go_roundg k3
               case measure => have := HJ1.out; have := HK2.out; have := HK3.out; omega
               case rel => exact ⟨(wrap64 (x5_3 + 1)), (aq), H', ⟨by have := HJ1.out; have := HK2.out; have := HK3.out; omega⟩, bu_ BK102, ⟨bf HB⟩⟩
              ·replace c33 := Bool.eq_false_iff.mpr c33
               subst c33
               have H1 : (some false) = some r := by rw [if_neg (show ¬ (false = true) by decide)] at H; exact H
               clear H
               have H := H1
               clear H1
               obtain rfl := Option.some.inj H
               have hcz39 := X.k7 BK102
               try go_wp2
               replace BK102 := Aside0.mk (blk_drew BK102.out)
               replace HB := Aside0.mk (below_drew1 HB.out)
               have p115 : 0 ≤ (x5_3 : Int) := od_
               have q115 : x5_3 < (l0_2.length : Int) := od_
               obtain ⟨ad115, e115, hx115_0, hx115_1, hx115_2, hx115_3, hx115_4, hx115_5⟩ := at_T54 HR0_2.out x5_3 p115 q115
               have hw115_5 := hx115_5
               have hw115_4 := hx115_4
               have hw115_3 := hx115_3
               have hw115_2 := hx115_2
               have hw115_1 := hx115_1
               have hw115_0 := hx115_0
               cases e115
               replace hx115_0 := hx_ HB hx115_0
               replace hx115_1 := hx_ HB hx115_1
               replace hx115_2 := hx_ HB hx115_2
               replace hx115_3 := hx_ HB hx115_3
               replace hx115_4 := hx_ HB hx115_4
               replace hx115_5 := hx_ HB hx115_5
               replace p115 := eq_true p115
               replace q115 := eq_true q115
               have p116 : 0 ≤ (x5_3 : Int) := od_
               have q116 : x5_3 < (l0_2.length : Int) := od_
               obtain ⟨ad116, e116, hx116_0, hx116_1, hx116_2, hx116_3, hx116_4, hx116_5⟩ := at_T54 HR0_2.out x5_3 p116 q116
               have hw116_5 := hx116_5
               have hw116_4 := hx116_4
               have hw116_3 := hx116_3
               have hw116_2 := hx116_2
               have hw116_1 := hx116_1
               have hw116_0 := hx116_0
               obtain rfl : ad115 = ad116 := (by injection e116)
               replace hx116_0 := hx_ HB hx116_0
               replace hx116_1 := hx_ HB hx116_1
               replace hx116_2 := hx_ HB hx116_2
               replace hx116_3 := hx_ HB hx116_3
               replace hx116_4 := hx_ HB hx116_4
               replace hx116_5 := hx_ HB hx116_5
               replace p116 := eq_true p116
               replace q116 := eq_true q116
               refine start_ (n := 15) (S := fun w' => c_ w' gb102 0 (.string a0_0) ∧ c_ w' gb102 1 (.slice A0_1 l0_1.length c0_1) ∧ c_ w' gb102 2 (.slice (some ad115) l0_2.length c0_2) ∧ c_ w' gb102 3 (.slice A0_3 l0_3.length c0_3) ∧ c_ w' gb102 4 (.slice A0_4 l0_4.length c0_4) ∧ c_ w' gb102 5 (.slice A0_5 l0_5.length c0_5) ∧ c_ w' gb102 6 (.int .i64 a0_6) ∧ w'.cell? (ad115.add ((x5_3).toNat * 6)) = some (.string ((rd_T54 l0_2 x5_3).f0)) ∧ w'.cell? ⟨(ad115.add ((x5_3).toNat * 6)).block, (ad115.add ((x5_3).toNat * 6)).off + 1, none⟩ = some (.string ((rd_T54 l0_2 x5_3).f1)) ∧ w'.cell? ⟨(ad115.add ((x5_3).toNat * 6)).block, (ad115.add ((x5_3).toNat * 6)).off + 2, none⟩ = some (.int .i64 ((rd_T54 l0_2 x5_3).f2)) ∧ w'.cell? ⟨(ad115.add ((x5_3).toNat * 6)).block, (ad115.add ((x5_3).toNat * 6)).off + 3, none⟩ = some (.int .i64 ((rd_T54 l0_2 x5_3).f3)) ∧ w'.cell? ⟨(ad115.add ((x5_3).toNat * 6)).block, (ad115.add ((x5_3).toNat * 6)).off + 4, none⟩ = some (.int .i64 ((rd_T54 l0_2 x5_3).f4)) ∧ w'.cell? ⟨(ad115.add ((x5_3).toNat * 6)).block, (ad115.add ((x5_3).toNat * 6)).off + 5, none⟩ = some (.int .i64 ((rd_T54 l0_2 x5_3).f5)) ∧ w'.cell? (ad115.add ((x5_3).toNat * 6)) = some (.string ((rd_T54 l0_2 x5_3).f0)) ∧ w'.cell? ⟨(ad115.add ((x5_3).toNat * 6)).block, (ad115.add ((x5_3).toNat * 6)).off + 1, none⟩ = some (.string ((rd_T54 l0_2 x5_3).f1)) ∧ w'.cell? ⟨(ad115.add ((x5_3).toNat * 6)).block, (ad115.add ((x5_3).toNat * 6)).off + 2, none⟩ = some (.int .i64 ((rd_T54 l0_2 x5_3).f2)) ∧ w'.cell? ⟨(ad115.add ((x5_3).toNat * 6)).block, (ad115.add ((x5_3).toNat * 6)).off + 3, none⟩ = some (.int .i64 ((rd_T54 l0_2 x5_3).f3)) ∧ w'.cell? ⟨(ad115.add ((x5_3).toNat * 6)).block, (ad115.add ((x5_3).toNat * 6)).off + 4, none⟩ = some (.int .i64 ((rd_T54 l0_2 x5_3).f4)) ∧ w'.cell? ⟨(ad115.add ((x5_3).toNat * 6)).block, (ad115.add ((x5_3).toNat * 6)).off + 5, none⟩ = some (.int .i64 ((rd_T54 l0_2 x5_3).f5))) (ds := []) (m_ 15 0) (by kernel_rfl) rfl rfl ⟨ct BK102 0, ct BK102 1, ct BK102 2, ct BK102 3, ct BK102 4, ct BK102 5, ct BK102 6, (hx_ HB hw115_0 :), (hx_ HB hw115_1 :), (hx_ HB hw115_2 :), (hx_ HB hw115_3 :), (hx_ HB hw115_4 :), (hx_ HB hw115_5 :), (hx_ HB hw116_0 :), (hx_ HB hw116_1 :), (hx_ HB hw116_2 :), (hx_ HB hw116_3 :), (hx_ HB hw116_4 :), (hx_ HB hw116_5 :)⟩ (fun hHeld => ?_); refine with_tabW carrefourlaw06_node.tab13 carrefourlaw06_node.bits13 (fun HT_ HW_ => ?_)
               generalize wr.drew = w40 at BK102 HB hx115_0 hx115_1 hx115_2 hx115_3 hx115_4 hx115_5 hx116_0 hx116_1 hx116_2 hx116_3 hx116_4 hx116_5 hHeld ⊢
               refine pu_ 0 (some 71) (m_ 15 1) rfl rfl (ao HT_) ?_
               refine pu_ 2 (some 73) (m_ 15 5) rfl rfl (ao HT_) ?_
               refine pu_ 6 (some 77) (m_ 15 69) rfl rfl (ao HT_) ?_
               refine pu_ 8 (some 79) (m_ 15 325) rfl rfl (ao HT_) ?_
               refine tk_ 1 (some 72) (m_ 15 327) rfl rfl (tw HT_ HW_) hHeld ?_
               refine pu_ 3 (some 74) (m_ 15 335) rfl rfl (ao HT_) ?_
               refine pu_ 4 (some 75) (m_ 15 351) rfl rfl (ao HT_) ?_
               refine tk_ 5 (some 76) (m_ 15 383) rfl rfl (tw HT_ HW_) hHeld ?_
               refine tk_ 7 (some 78) (m_ 15 511) rfl rfl (tw HT_ HW_) hHeld ?_
               refine pu_ 9 (some 80) (m_ 15 1023) rfl rfl (ao HT_) ?_
               refine pu_ 10 (some 81) (m_ 15 2047) rfl rfl (ao HT_) ?_
               refine tk_ 11 (some 82) (m_ 15 4095) rfl rfl (tw HT_ HW_) hHeld ?_
               refine o1_ 12 (some 83) (m_ 15 8191) rfl rfl (oo HT_) (fun K hK => ?_)
               refine Kd.R_lit_step Kd.string _ 9 ?hg (N := 83) ?hd (xs := ([(rd_T54 l0_2 x5_3).f0, (rd_T54 l0_2 x5_3).f1] : List ByteArray)) (inner := [.string ((rd_T54 l0_2 x5_3).f0), .string ((rd_T54 l0_2 x5_3).f1)]) (ok := fun _ => True) (okp := fun _ => True) ?hr ?hp (fun _ hk => hk) trivial (Below.refl _ _) (Nat.le_refl _) (by simp) ?_; (case hd => rfl); (case hg => rfl); (case hr => first | (go_simp; done) | (go_simp; rfl)); (case hp => exact (Reps.one (show Kd.M Kd.string _ _ _ ((rd_T54 l0_2 x5_3).f0) [.string ((rd_T54 l0_2 x5_3).f0)] from rfl) (Reps.one (show Kd.M Kd.string _ _ _ ((rd_T54 l0_2 x5_3).f1) [.string ((rd_T54 l0_2 x5_3).f1)] from rfl) (Reps.none _ _))))
               intro v118 w41 ho42 hb hg_ hnew_
               clear hg_ hnew_
               (first | rw [← Ny117.out] at ho42 | (simp only [Int.reduceToNat] at ho42; rw [← Ny117.out] at ho42))
               have HO119 := Aside0.mk (Kd.R_lower ho42 (below_size (bf HB)))
               replace BK102 := bb BK102 hb
               replace HB := bs HB hb
               clear hb ho42
               obtain ⟨Ao43, co43, eo43⟩ := Kd.R_slice HO119.out
               (first | subst eo43 | (injection eo43 with f1_ f2_ f3_; have f4_ := f1_.symm; have f5_ := f3_.symm; clear f1_ f2_ f3_; subst f4_; subst f5_))
               refine hK.out _ _ ⟨ct BK102 0, ct BK102 1, ct BK102 2, ct BK102 3, ct BK102 4, ct BK102 5, ct BK102 6, (hx_ HB hw115_0 :), (hx_ HB hw115_1 :), (hx_ HB hw115_2 :), (hx_ HB hw115_3 :), (hx_ HB hw115_4 :), (hx_ HB hw115_5 :), (hx_ HB hw116_0 :), (hx_ HB hw116_1 :), (hx_ HB hw116_2 :), (hx_ HB hw116_3 :), (hx_ HB hw116_4 :), (hx_ HB hw116_5 :)⟩ (fun hHeld => ?_)
               clear hK K
               refine nr_ (some 83) ?_
               refine o1_ 13 (some 84) (m_ 15 16383) rfl rfl (oo HT_) (fun K hK => ?_)
               refine gs_ rfl Tryz.func9 (carrefourlaw06_strings.calls _ _ _ _ _ _ ?side1 ?side2 A32.out) ag ?_
               (case side1 => exact rc HO119)
               (case side2 => exact (Kd.R_reads' HO119.out).2.1)
               rintro w' ⟨nd, rfl⟩
               refine hK.out _ _ ⟨ct BK102 0, ct BK102 1, ct BK102 2, ct BK102 3, ct BK102 4, ct BK102 5, ct BK102 6, (hx_ HB hw115_0 :), (hx_ HB hw115_1 :), (hx_ HB hw115_2 :), (hx_ HB hw115_3 :), (hx_ HB hw115_4 :), (hx_ HB hw115_5 :), (hx_ HB hw116_0 :), (hx_ HB hw116_1 :), (hx_ HB hw116_2 :), (hx_ HB hw116_3 :), (hx_ HB hw116_4 :), (hx_ HB hw116_5 :)⟩ (fun hHeld => ?_)
               clear hK K
               refine nr_ (some 84) ?_
               refine pu_ 14 (some 85) (m_ 15 32767) rfl rfl (ao HT_) ?_
               refine done_ (done_of HT_.out (by kernel_rfl)) ?_
               try go_wp2
               go_ret
               exact ⟨by first | rfl | (simp [errW_none, errW_some] <;> rfl) | (simp only [← hji22]; first | rfl | (simp [errW_none, errW_some] <;> rfl)) | (simp [*, errW_none, errW_some] <;> rfl), bf HB⟩
             ·rw [if_neg c31] at H
              exact absurd H (by simp)
            ·rw [if_neg c30] at H
             have c30b0 : decide (x5_3 < (l0_2.length : Int)) = false := decide_eq_false c30
             clear c30
             have H' := Aside0.mk H
             clear H
             have hcz44 := X.k7 BK102
             go_wp2
             go_loopg [6] k3 (fun kq v6 w' => ∃ (x6_4 : Int), v6 = .int .i64 x6_4 ∧ Aside0 (carrefourlaw06_node.l2 kq x6_4 a0_0 l0_1 l0_2 l0_3 l0_4 l0_5 a0_6 = some r) ∧ Aside0 (kq ≤ k3) ∧ Aside0 (w'.heap[gb102]? = some (.cells #[.string a0_0, (.slice A0_1 l0_1.length c0_1), (.slice A0_2 l0_2.length c0_2), (.slice A0_3 l0_3.length c0_3), (.slice A0_4 l0_4.length c0_4), (.slice A0_5 l0_5.length c0_5), .int .i64 a0_6] 42 (0, 0))) ∧ Aside0 (Below w.heap.size w w'))
             case atStart => exact ⟨(0), (aq), H', ⟨Nat.le_refl _⟩, bu_ BK102, ⟨bf HB⟩⟩
             case round =>
              clear H'
              (try clear p1); (try clear q1); (try clear hx1); (try clear p2); (try clear q2); (try clear c3); (try clear p6); (try clear c9); (try clear p10); (try clear q10); (try clear hx10); (try clear p11); (try clear q11); (try clear hx11); (try clear q29); (try clear c30); (try clear c30b0); (try clear c31); (try clear c31b0); (try clear c33); (try clear hcz20); (try clear hcz27); (try clear hcz34); (try clear hcz39); (try clear hcz44); (try clear hcz5); (try clear hcz7); (try clear hcz9); (try clear hx106_0); (try clear hx106_1); (try clear hx106_10); (try clear hx106_2); (try clear hx106_3); (try clear hx106_4); (try clear hx106_5); (try clear hx106_6); (try clear hx106_7); (try clear hx106_8); (try clear hx106_9); (try clear hx115_0); (try clear hx115_1); (try clear hx115_2); (try clear hx115_3); (try clear hx115_4); (try clear hx115_5); (try clear hx116_0); (try clear hx116_1); (try clear hx116_2); (try clear hx116_3); (try clear hx116_4); (try clear hx116_5); (try clear p106); (try clear p115); (try clear p116); (try clear p2); (try clear q106); (try clear q115); (try clear q116); (try clear q29)
              obtain ⟨x6_4, rfl, HA, HK4, BK102, HB⟩ := hrel
              cases gk with
              | zero => exact absurd HA.out (by simp [carrefourlaw06_node.l2])
              | succ k4 =>
               have H := HA.out
               clear HA
               simp only [carrefourlaw06_node.l2] at H
               by_cases c45 : x6_4 < (l0_3.length : Int)
               ·rw [if_pos c45] at H
                have c45b0 : decide (x6_4 < (l0_3.length : Int)) = true := decide_eq_true c45
                clear c45
                by_cases c46 : 0 ≤ x6_4
                ·rw [if_pos c46] at H
                 have c46b0 : decide (0 ≤ x6_4) = true := decide_eq_true c46
                 clear c46
                 obtain ⟨y122, hy122⟩ : ∃ y_ : List ByteArray, y_ = (([(rd_T56 l0_3 x6_4).f0] : List ByteArray)) := ⟨_, rfl⟩
                 replace H : ((carrefourlaw06_strings.f k4 y122).bind fun t125 => (if t125 = true then ((carrefourlaw06_strings.f k4 ((rd_T56 l0_3 x6_4).f1)).bind fun t127 => (if t127 = true then (carrefourlaw06_node.l2 k4 (wrap64 (x6_4 + 1)) a0_0 l0_1 l0_2 l0_3 l0_4 l0_5 a0_6) else (some false))) else (some false))) = some r := by first | (rw [hy122]; with_reducible exact H) | (have H2_ := (Option.bind_some _ _).symm.trans H; rw [hy122]; with_reducible exact H2_) | (have H2_ := (Option.bind_some _ _).symm.trans H; with_reducible exact H2_) | with_reducible exact H | (rw [hy122]; exact H) | exact H
                 have Ny122 := Aside0.mk hy122
                 clear hy122
                 replace H := bi_ H; obtain ⟨t125, A47, H⟩ := H
                 (try dsimp only at H)
                 by_cases c48 : t125 = true
                 ·subst c48
                  have H1 : ((carrefourlaw06_strings.f k4 ((rd_T56 l0_3 x6_4).f1)).bind fun t127 => (if t127 = true then (carrefourlaw06_node.l2 k4 (wrap64 (x6_4 + 1)) a0_0 l0_1 l0_2 l0_3 l0_4 l0_5 a0_6) else (some false))) = some r := by rw [if_pos rfl] at H; exact H
                  clear H
                  have H := H1
                  clear H1
                  replace H := bi_ H; obtain ⟨t127, A49, H⟩ := H
                  (try dsimp only at H)
                  by_cases c50 : t127 = true
                  ·subst c50
                   have H1 : (carrefourlaw06_node.l2 k4 (wrap64 (x6_4 + 1)) a0_0 l0_1 l0_2 l0_3 l0_4 l0_5 a0_6) = some r := by rw [if_pos rfl] at H; exact H
                   clear H
                   have H := H1
                   clear H1
                   have H' := Aside0.mk H
                   clear H
                   have hcz51 := X.k7 BK102
                   have p121 : 0 ≤ (x6_4 : Int) := od_
                   have q121 : x6_4 < (l0_3.length : Int) := od_
                   obtain ⟨ad121, A121_1, c121_1, e121, hx121_0, hx121_1, hx121_2, hl121_1, hi121_1⟩ := at_T56 HR0_3.out x6_4 p121 q121
                   cases e121
                   replace hx121_0 := hx_ HB hx121_0
                   replace hx121_1 := hx_ HB hx121_1
                   replace hx121_2 := hx_ HB hx121_2
                   have HR121_1 := Aside0.mk hi121_1
                   have HC121_1 := Aside0.mk hl121_1
                   clear hi121_1 hl121_1
                   replace p121 := eq_true p121
                   replace q121 := eq_true q121
                   go_wp2_with (first | ((with_reducible refine gate_dst (N := 99) rfl ?_); (try (refine gate_guard (by rfl) ?_; dsimp only)); refine Kd.R_lit Kd.string _ 9 ?hg (N := 99) ?hd (xs := ([(rd_T56 l0_3 x6_4).f0] : List ByteArray)) (inner := [.string ((rd_T56 l0_3 x6_4).f0)]) (ok := fun _ => True) (okp := fun _ => True) ?hr ?hp (fun _ hk => hk) trivial (Below.refl _ _) (Nat.le_refl _) (by simp) ?_; (case hd => rfl); (case hg => rfl); (case hr => first | (go_simp; done) | (go_simp; rfl)); (case hp => exact (Reps.one (show Kd.M Kd.string _ _ _ ((rd_T56 l0_3 x6_4).f0) [.string ((rd_T56 l0_3 x6_4).f0)] from rfl) (Reps.none _ _))); intro v123 w52 ho53 hb hg_ hnew_; clear hg_ hnew_; (first | rw [← Ny122.out] at ho53 | (simp only [Int.reduceToNat] at ho53; rw [← Ny122.out] at ho53)); have HO124 := Aside0.mk (Kd.R_lower ho53 (below_size (bf HB))); replace BK102 := bb BK102 hb; replace HB := bs HB hb; clear hb ho53; obtain ⟨Ao54, co54, eo54⟩ := Kd.R_slice HO124.out; subst eo54) | ((with_reducible refine gc 9 rfl ?_); refine gm_ (some 100) rfl rfl Tryz.func9 (carrefourlaw06_strings.calls _ _ _ _ _ _ ?side1 ?side2 A47.out) ag ?_; (case side1 => exact rc HO124); (case side2 => exact (Kd.R_reads' HO124.out).2.1); rintro w' ⟨nd, rfl⟩; have hcz55 := X.k7 BK102; have p126 : 0 ≤ (x6_4 : Int) := od_; have q126 : x6_4 < (l0_3.length : Int) := od_; obtain ⟨ad126, A126_1, c126_1, e126, hx126_0, hx126_1, hx126_2, hl126_1, hi126_1⟩ := at_T56 HR0_3.out x6_4 p126 q126; obtain rfl : ad121 = ad126 := (by injection e126); replace hx126_0 := hx_ HB hx126_0; replace hx126_1 := hx_ HB hx126_1; replace hx126_2 := hx_ HB hx126_2; have HR126_1 := Aside0.mk hi126_1; have HC126_1 := Aside0.mk hl126_1; clear hi126_1 hl126_1; replace p126 := eq_true p126; replace q126 := eq_true q126) | (go_at_call 9; (with_reducible refine (carrefourlaw06_strings.calls _ _ _ ((rd_T56 l0_3 x6_4).f1) _ _ ?side1 ?side2 A49.out).mono ?_); (case side1 => repeat (first | exact (Kd.C_below HR126_1.out (bf HB)) | (with_reducible refine Kd.C_alloc ?_ _) | (with_reducible refine Kd.C_drewN ?_ _) | (with_reducible refine Kd.C_drew ?_))); (case side2 => exact HC126_1.out); rintro e w' ⟨rfl, ⟨nd, rfl⟩⟩))
                   go_roundg k4
                   case measure => have := HJ1.out; have := HK2.out; have := HK3.out; have := HK4.out; omega
                   case rel => exact ⟨(wrap64 (x6_4 + 1)), (aq), H', ⟨by have := HJ1.out; have := HK2.out; have := HK3.out; have := HK4.out; omega⟩, bu_ BK102, ⟨bf HB⟩⟩
                  ·replace c50 := Bool.eq_false_iff.mpr c50
                   subst c50
                   have H1 : (some false) = some r := by rw [if_neg (show ¬ (false = true) by decide)] at H; exact H
                   clear H
                   have H := H1
                   clear H1
                   obtain rfl := Option.some.inj H
                   have hcz56 := X.k7 BK102
                   have p121 : 0 ≤ (x6_4 : Int) := od_
                   have q121 : x6_4 < (l0_3.length : Int) := od_
                   obtain ⟨ad121, A121_1, c121_1, e121, hx121_0, hx121_1, hx121_2, hl121_1, hi121_1⟩ := at_T56 HR0_3.out x6_4 p121 q121
                   cases e121
                   replace hx121_0 := hx_ HB hx121_0
                   replace hx121_1 := hx_ HB hx121_1
                   replace hx121_2 := hx_ HB hx121_2
                   have HR121_1 := Aside0.mk hi121_1
                   have HC121_1 := Aside0.mk hl121_1
                   clear hi121_1 hl121_1
                   replace p121 := eq_true p121
                   replace q121 := eq_true q121
                   go_wp2_with (first | ((with_reducible refine gate_dst (N := 99) rfl ?_); (try (refine gate_guard (by rfl) ?_; dsimp only)); refine Kd.R_lit Kd.string _ 9 ?hg (N := 99) ?hd (xs := ([(rd_T56 l0_3 x6_4).f0] : List ByteArray)) (inner := [.string ((rd_T56 l0_3 x6_4).f0)]) (ok := fun _ => True) (okp := fun _ => True) ?hr ?hp (fun _ hk => hk) trivial (Below.refl _ _) (Nat.le_refl _) (by simp) ?_; (case hd => rfl); (case hg => rfl); (case hr => first | (go_simp; done) | (go_simp; rfl)); (case hp => exact (Reps.one (show Kd.M Kd.string _ _ _ ((rd_T56 l0_3 x6_4).f0) [.string ((rd_T56 l0_3 x6_4).f0)] from rfl) (Reps.none _ _))); intro v123 w57 ho58 hb hg_ hnew_; clear hg_ hnew_; (first | rw [← Ny122.out] at ho58 | (simp only [Int.reduceToNat] at ho58; rw [← Ny122.out] at ho58)); have HO124 := Aside0.mk (Kd.R_lower ho58 (below_size (bf HB))); replace BK102 := bb BK102 hb; replace HB := bs HB hb; clear hb ho58; obtain ⟨Ao59, co59, eo59⟩ := Kd.R_slice HO124.out; subst eo59) | ((with_reducible refine gc 9 rfl ?_); refine gm_ (some 100) rfl rfl Tryz.func9 (carrefourlaw06_strings.calls _ _ _ _ _ _ ?side1 ?side2 A47.out) ag ?_; (case side1 => exact rc HO124); (case side2 => exact (Kd.R_reads' HO124.out).2.1); rintro w' ⟨nd, rfl⟩; have hcz60 := X.k7 BK102; have p126 : 0 ≤ (x6_4 : Int) := od_; have q126 : x6_4 < (l0_3.length : Int) := od_; obtain ⟨ad126, A126_1, c126_1, e126, hx126_0, hx126_1, hx126_2, hl126_1, hi126_1⟩ := at_T56 HR0_3.out x6_4 p126 q126; obtain rfl : ad121 = ad126 := (by injection e126); replace hx126_0 := hx_ HB hx126_0; replace hx126_1 := hx_ HB hx126_1; replace hx126_2 := hx_ HB hx126_2; have HR126_1 := Aside0.mk hi126_1; have HC126_1 := Aside0.mk hl126_1; clear hi126_1 hl126_1; replace p126 := eq_true p126; replace q126 := eq_true q126) | (go_at_call 9; (with_reducible refine (carrefourlaw06_strings.calls _ _ _ ((rd_T56 l0_3 x6_4).f1) _ _ ?side1 ?side2 A49.out).mono ?_); (case side1 => repeat (first | exact (Kd.C_below HR126_1.out (bf HB)) | (with_reducible refine Kd.C_alloc ?_ _) | (with_reducible refine Kd.C_drewN ?_ _) | (with_reducible refine Kd.C_drew ?_))); (case side2 => exact HC126_1.out); rintro e w' ⟨rfl, ⟨nd, rfl⟩⟩))
                   go_ret
                   exact ⟨by first | rfl | (simp [errW_none, errW_some] <;> rfl) | (simp only [← hji22]; first | rfl | (simp [errW_none, errW_some] <;> rfl)) | (simp [*, errW_none, errW_some] <;> rfl), bf HB⟩
                 ·replace c48 := Bool.eq_false_iff.mpr c48
                  subst c48
                  have H1 : (some false) = some r := by rw [if_neg (show ¬ (false = true) by decide)] at H; exact H
                  clear H
                  have H := H1
                  clear H1
                  obtain rfl := Option.some.inj H
                  have hcz61 := X.k7 BK102
                  have p121 : 0 ≤ (x6_4 : Int) := od_
                  have q121 : x6_4 < (l0_3.length : Int) := od_
                  obtain ⟨ad121, A121_1, c121_1, e121, hx121_0, hx121_1, hx121_2, hl121_1, hi121_1⟩ := at_T56 HR0_3.out x6_4 p121 q121
                  cases e121
                  replace hx121_0 := hx_ HB hx121_0
                  replace hx121_1 := hx_ HB hx121_1
                  replace hx121_2 := hx_ HB hx121_2
                  have HR121_1 := Aside0.mk hi121_1
                  have HC121_1 := Aside0.mk hl121_1
                  clear hi121_1 hl121_1
                  replace p121 := eq_true p121
                  replace q121 := eq_true q121
                  go_wp2_with (first | ((with_reducible refine gate_dst (N := 99) rfl ?_); (try (refine gate_guard (by rfl) ?_; dsimp only)); refine Kd.R_lit Kd.string _ 9 ?hg (N := 99) ?hd (xs := ([(rd_T56 l0_3 x6_4).f0] : List ByteArray)) (inner := [.string ((rd_T56 l0_3 x6_4).f0)]) (ok := fun _ => True) (okp := fun _ => True) ?hr ?hp (fun _ hk => hk) trivial (Below.refl _ _) (Nat.le_refl _) (by simp) ?_; (case hd => rfl); (case hg => rfl); (case hr => first | (go_simp; done) | (go_simp; rfl)); (case hp => exact (Reps.one (show Kd.M Kd.string _ _ _ ((rd_T56 l0_3 x6_4).f0) [.string ((rd_T56 l0_3 x6_4).f0)] from rfl) (Reps.none _ _))); intro v123 w62 ho63 hb hg_ hnew_; clear hg_ hnew_; (first | rw [← Ny122.out] at ho63 | (simp only [Int.reduceToNat] at ho63; rw [← Ny122.out] at ho63)); have HO124 := Aside0.mk (Kd.R_lower ho63 (below_size (bf HB))); replace BK102 := bb BK102 hb; replace HB := bs HB hb; clear hb ho63; obtain ⟨Ao64, co64, eo64⟩ := Kd.R_slice HO124.out; subst eo64) | ((with_reducible refine gc 9 rfl ?_); refine gm_ (some 100) rfl rfl Tryz.func9 (carrefourlaw06_strings.calls _ _ _ _ _ _ ?side1 ?side2 A47.out) ag ?_; (case side1 => exact rc HO124); (case side2 => exact (Kd.R_reads' HO124.out).2.1); rintro w' ⟨nd, rfl⟩))
                  go_ret
                  exact ⟨by first | rfl | (simp [errW_none, errW_some] <;> rfl) | (simp only [← hji22]; first | rfl | (simp [errW_none, errW_some] <;> rfl)) | (simp [*, errW_none, errW_some] <;> rfl), bf HB⟩
                ·rw [if_neg c46] at H
                 exact absurd H (by simp)
               ·rw [if_neg c45] at H
                have c45b0 : decide (x6_4 < (l0_3.length : Int)) = false := decide_eq_false c45
                clear c45
                have H' := Aside0.mk H
                clear H
                have hcz65 := X.k7 BK102
                go_wp2
                go_loopg [7] k4 (fun kq v7 w' => ∃ (x7_5 : Int), v7 = .int .i64 x7_5 ∧ Aside0 (carrefourlaw06_node.l3 kq x7_5 a0_0 l0_1 l0_2 l0_3 l0_4 l0_5 a0_6 = some r) ∧ Aside0 (kq ≤ k4) ∧ Aside0 (w'.heap[gb102]? = some (.cells #[.string a0_0, (.slice A0_1 l0_1.length c0_1), (.slice A0_2 l0_2.length c0_2), (.slice A0_3 l0_3.length c0_3), (.slice A0_4 l0_4.length c0_4), (.slice A0_5 l0_5.length c0_5), .int .i64 a0_6] 42 (0, 0))) ∧ Aside0 (Below w.heap.size w w'))
                case atStart => exact ⟨(0), (aq), H', ⟨Nat.le_refl _⟩, bu_ BK102, ⟨bf HB⟩⟩
                case round =>
                 clear H'
                 (try clear c1); (try clear p1); (try clear q1); (try clear hx1); (try clear p2); (try clear q2); (try clear c3); (try clear c4); (try clear c5); (try clear p6); (try clear c9); (try clear p10); (try clear q10); (try clear hx10); (try clear p11); (try clear q11); (try clear hx11); (try clear c12); (try clear p12); (try clear q12); (try clear hx12); (try clear q29); (try clear c30); (try clear c30b0); (try clear c31); (try clear c31b0); (try clear c33); (try clear c45); (try clear c45b0); (try clear c46); (try clear c46b0); (try clear c48); (try clear c50); (try clear p64); (try clear hcz20); (try clear hcz27); (try clear hcz34); (try clear hcz39); (try clear hcz44); (try clear hcz51); (try clear hcz55); (try clear hcz56); (try clear hcz5); (try clear hcz60); (try clear hcz61); (try clear hcz65); (try clear hcz7); (try clear hcz9); (try clear hx106_0); (try clear hx106_1); (try clear hx106_10); (try clear hx106_2); (try clear hx106_3); (try clear hx106_4); (try clear hx106_5); (try clear hx106_6); (try clear hx106_7); (try clear hx106_8); (try clear hx106_9); (try clear hx115_0); (try clear hx115_1); (try clear hx115_2); (try clear hx115_3); (try clear hx115_4); (try clear hx115_5); (try clear hx116_0); (try clear hx116_1); (try clear hx116_2); (try clear hx116_3); (try clear hx116_4); (try clear hx116_5); (try clear hx121_0); (try clear hx121_1); (try clear hx121_2); (try clear hx126_0); (try clear hx126_1); (try clear hx126_2); (try clear p1); (try clear p10); (try clear p106); (try clear p11); (try clear p115); (try clear p116); (try clear p121); (try clear p126); (try clear p2); (try clear p6); (try clear q1); (try clear q10); (try clear q106); (try clear q11); (try clear q115); (try clear q116); (try clear q121); (try clear q126); (try clear q2); (try clear q29)
                 obtain ⟨x7_5, rfl, HA, HK5, BK102, HB⟩ := hrel
                 cases gk with
                 | zero => exact absurd HA.out (by simp [carrefourlaw06_node.l3])
                 | succ k5 =>
                  have H := HA.out
                  clear HA
                  simp only [carrefourlaw06_node.l3] at H
                  by_cases c66 : x7_5 < (l0_4.length : Int)
                  ·rw [if_pos c66] at H
                   have c66b0 : decide (x7_5 < (l0_4.length : Int)) = true := decide_eq_true c66
                   clear c66
                   by_cases c67 : 0 ≤ x7_5
                   ·rw [if_pos c67] at H
                    have c67b0 : decide (0 ≤ x7_5) = true := decide_eq_true c67
                    clear c67
                    by_cases c68 : (((rd_T59 l0_4 x7_5).f0).length : Int) > 5
                    ·rw [if_pos c68] at H
                     have c68b0 : decide (5 < (((rd_T59 l0_4 x7_5).f0).length : Int)) = true := decide_eq_true c68
                     have c68b1 : decide (5 < ((rd_T59 l0_4 x7_5).f0).length) = true := decide_eq_true (by omega)
                     clear c68
                     obtain rfl := Option.some.inj H
                     have hcz69 := X.k7 BK102
                     have p128 : 0 ≤ (x7_5 : Int) := od_
                     have q128 : x7_5 < (l0_4.length : Int) := od_
                     obtain ⟨ad128, A128_0, c128_0, e128, hx128_0, hl128_0, hi128_0⟩ := at_T59 HR0_4.out x7_5 p128 q128
                     cases e128
                     replace hx128_0 := hx_ HB hx128_0
                     have HR128_0 := Aside0.mk hi128_0
                     have HC128_0 := Aside0.mk hl128_0
                     clear hi128_0 hl128_0
                     replace p128 := eq_true p128
                     replace q128 := eq_true q128
                     go_wp2
                     go_ret
                     exact ⟨by first | rfl | (simp [errW_none, errW_some] <;> rfl) | (simp only [← hji22]; first | rfl | (simp [errW_none, errW_some] <;> rfl)) | (simp [*, errW_none, errW_some] <;> rfl), bf HB⟩
                    ·rw [if_neg c68] at H
                     have c68b0 : decide (5 < (((rd_T59 l0_4 x7_5).f0).length : Int)) = false := decide_eq_false c68
                     have c68b1 : decide (5 < ((rd_T59 l0_4 x7_5).f0).length) = false := decide_eq_false (by omega)
                     clear c68
                     have H' := Aside0.mk H
                     clear H
                     have hcz70 := X.k7 BK102
                     have p128 : 0 ≤ (x7_5 : Int) := od_
                     have q128 : x7_5 < (l0_4.length : Int) := od_
                     obtain ⟨ad128, A128_0, c128_0, e128, hx128_0, hl128_0, hi128_0⟩ := at_T59 HR0_4.out x7_5 p128 q128
                     cases e128
                     replace hx128_0 := hx_ HB hx128_0
                     have HR128_0 := Aside0.mk hi128_0
                     have HC128_0 := Aside0.mk hl128_0
                     clear hi128_0 hl128_0
                     replace p128 := eq_true p128
                     replace q128 := eq_true q128
                     go_wp2
                     go_loopg [8] k5 (fun kq v8 w' => ∃ (x8_6 : Int), v8 = .int .i64 x8_6 ∧ Aside0 (carrefourlaw06_node.l4 kq x7_5 x8_6 a0_0 l0_1 l0_2 l0_3 l0_4 l0_5 a0_6 = some r) ∧ Aside0 (kq ≤ k5) ∧ Aside0 (w'.heap[gb102]? = some (.cells #[.string a0_0, (.slice A0_1 l0_1.length c0_1), (.slice A0_2 l0_2.length c0_2), (.slice A0_3 l0_3.length c0_3), (.slice (some ad128) l0_4.length c0_4), (.slice A0_5 l0_5.length c0_5), .int .i64 a0_6] 42 (0, 0))) ∧ Aside0 (Below w.heap.size w w'))
                     case atStart => exact ⟨(0), (aq), H', ⟨Nat.le_refl _⟩, bu_ BK102, ⟨bf HB⟩⟩
                     case round =>
                      clear H'
                      (try clear c1); (try clear p1); (try clear q1); (try clear hx1); (try clear p2); (try clear q2); (try clear c3); (try clear c4); (try clear c5); (try clear c6); (try clear p6); (try clear c9); (try clear p10); (try clear q10); (try clear hx10); (try clear p11); (try clear q11); (try clear hx11); (try clear c12); (try clear p12); (try clear q12); (try clear hx12); (try clear q29); (try clear c30); (try clear c30b0); (try clear c31); (try clear c31b0); (try clear c33); (try clear c45); (try clear c45b0); (try clear c46); (try clear c46b0); (try clear c48); (try clear c50); (try clear p64); (try clear c66); (try clear c66b0); (try clear c67); (try clear c67b0); (try clear c68); (try clear c68b0); (try clear c68b1); (try clear hcz20); (try clear hcz27); (try clear hcz34); (try clear hcz39); (try clear hcz44); (try clear hcz51); (try clear hcz55); (try clear hcz56); (try clear hcz5); (try clear hcz60); (try clear hcz61); (try clear hcz65); (try clear hcz69); (try clear hcz70); (try clear hcz7); (try clear hcz9); (try clear hx106_0); (try clear hx106_1); (try clear hx106_10); (try clear hx106_2); (try clear hx106_3); (try clear hx106_4); (try clear hx106_5); (try clear hx106_6); (try clear hx106_7); (try clear hx106_8); (try clear hx106_9); (try clear hx115_0); (try clear hx115_1); (try clear hx115_2); (try clear hx115_3); (try clear hx115_4); (try clear hx115_5); (try clear hx116_0); (try clear hx116_1); (try clear hx116_2); (try clear hx116_3); (try clear hx116_4); (try clear hx116_5); (try clear hx121_0); (try clear hx121_1); (try clear hx121_2); (try clear hx126_0); (try clear hx126_1); (try clear hx126_2); (try clear hx128_0); (try clear p1); (try clear p10); (try clear p106); (try clear p11); (try clear p115); (try clear p116); (try clear p12); (try clear p121); (try clear p126); (try clear p128); (try clear p2); (try clear p6); (try clear p64); (try clear q1); (try clear q10); (try clear q106); (try clear q11); (try clear q115); (try clear q116); (try clear q12); (try clear q121); (try clear q126); (try clear q128); (try clear q2); (try clear q29)
                      obtain ⟨x8_6, rfl, HA, HK6, BK102, HB⟩ := hrel
                      cases gk with
                      | zero => exact absurd HA.out (by simp [carrefourlaw06_node.l4])
                      | succ k6 =>
                       have H := HA.out
                       clear HA
                       simp only [carrefourlaw06_node.l4] at H
                       by_cases c71 : 0 ≤ x7_5
                       ·rw [if_pos c71] at H
                        have c71b0 : decide (0 ≤ x7_5) = true := decide_eq_true c71
                        clear c71
                        by_cases c72 : x7_5 < (l0_4.length : Int)
                        ·rw [if_pos c72] at H
                         have c72b0 : decide (x7_5 < (l0_4.length : Int)) = true := decide_eq_true c72
                         clear c72
                         by_cases c73 : x8_6 < (((rd_T59 l0_4 x7_5).f0).length : Int)
                         ·rw [if_pos c73] at H
                          have c73b0 : decide (x8_6 < (((rd_T59 l0_4 x7_5).f0).length : Int)) = true := decide_eq_true c73
                          clear c73
                          by_cases c74 : 0 ≤ x8_6
                          ·rw [if_pos c74] at H
                           have c74b0 : decide (0 ≤ x8_6) = true := decide_eq_true c74
                           clear c74
                           replace H := bi_ H; obtain ⟨t132, A75, H⟩ := H
                           (try dsimp only at H)
                           by_cases c76 : t132 = true
                           ·subst c76
                            have H1 : (carrefourlaw06_node.l4 k6 x7_5 (wrap64 (x8_6 + 1)) a0_0 l0_1 l0_2 l0_3 l0_4 l0_5 a0_6) = some r := by rw [if_pos rfl] at H; exact H
                            clear H
                            have H := H1
                            clear H1
                            have H' := Aside0.mk H
                            clear H
                            have hcz77 := X.k7 BK102
                            have p129 : 0 ≤ (x7_5 : Int) := od_
                            have q129 : x7_5 < (l0_4.length : Int) := od_
                            obtain ⟨ad129, A129_0, c129_0, e129, hx129_0, hl129_0, hi129_0⟩ := at_T59 HR0_4.out x7_5 p129 q129
                            obtain rfl : ad128 = ad129 := (by injection e129)
                            replace hx129_0 := hx_ HB hx129_0
                            have HR129_0 := Aside0.mk hi129_0
                            have HC129_0 := Aside0.mk hl129_0
                            clear hi129_0 hl129_0
                            replace p129 := eq_true p129
                            replace q129 := eq_true q129
                            have p130 : 0 ≤ (x7_5 : Int) := od_
                            have q130 : x7_5 < (l0_4.length : Int) := od_
                            obtain ⟨ad130, A130_0, c130_0, e130, hx130_0, hl130_0, hi130_0⟩ := at_T59 HR0_4.out x7_5 p130 q130
                            obtain rfl : ad128 = ad130 := (by injection e130)
                            replace hx130_0 := hx_ HB hx130_0
                            have HR130_0 := Aside0.mk hi130_0
                            have HC130_0 := Aside0.mk hl130_0
                            clear hi130_0 hl130_0
                            replace p130 := eq_true p130
                            replace q130 := eq_true q130
                            have ea_ := Option.some.inj (hx129_0.symm.trans hx130_0)
                            injection ea_ with ea_ en_ ec_
                            subst ea_
                            subst ec_
                            clear en_
                            have p131 : 0 ≤ (x8_6 : Int) := od_
                            have q131 : x8_6 < (((rd_T59 l0_4 x7_5).f0).length : Int) := od_
                            obtain ⟨ad131, A131_1, c131_1, e131, hx131_0, hx131_1, hl131_1, hi131_1⟩ := at_T61 HR130_0.out x8_6 p131 q131
                            cases e131
                            replace hx131_0 := hx_ HB hx131_0
                            replace hx131_1 := hx_ HB hx131_1
                            have HR131_1 := Aside0.mk hi131_1
                            have HC131_1 := Aside0.mk hl131_1
                            clear hi131_1 hl131_1
                            replace p131 := eq_true p131
                            replace q131 := eq_true q131
                            go_wp2_with (first | ((with_reducible refine gc 9 rfl ?_); refine gm_ (some 148) rfl rfl Tryz.func9 (carrefourlaw06_strings.calls _ _ _ ((rd_T61 ((rd_T59 l0_4 x7_5).f0) x8_6).f1) _ _ ?side1 ?side2 A75.out) ag ?_; (case side1 => repeat (first | exact (Kd.C_below HR131_1.out HB.out) | (with_reducible refine Kd.C_alloc ?_ _) | (with_reducible refine Kd.C_drewN ?_ _) | (with_reducible refine Kd.C_drew ?_))); (case side2 => exact HC131_1.out); rintro w' ⟨nd, rfl⟩))
                            go_roundg k6
                            case measure => have := HJ1.out; have := HK2.out; have := HK3.out; have := HK4.out; have := HK5.out; have := HK6.out; omega
                            case rel => exact ⟨(wrap64 (x8_6 + 1)), (aq), H', ⟨by have := HJ1.out; have := HK2.out; have := HK3.out; have := HK4.out; have := HK5.out; have := HK6.out; omega⟩, bu_ BK102, ⟨bf HB⟩⟩
                           ·replace c76 := Bool.eq_false_iff.mpr c76
                            subst c76
                            have H1 : (some false) = some r := by rw [if_neg (show ¬ (false = true) by decide)] at H; exact H
                            clear H
                            have H := H1
                            clear H1
                            obtain rfl := Option.some.inj H
                            have hcz78 := X.k7 BK102
                            have p129 : 0 ≤ (x7_5 : Int) := od_
                            have q129 : x7_5 < (l0_4.length : Int) := od_
                            obtain ⟨ad129, A129_0, c129_0, e129, hx129_0, hl129_0, hi129_0⟩ := at_T59 HR0_4.out x7_5 p129 q129
                            obtain rfl : ad128 = ad129 := (by injection e129)
                            replace hx129_0 := hx_ HB hx129_0
                            have HR129_0 := Aside0.mk hi129_0
                            have HC129_0 := Aside0.mk hl129_0
                            clear hi129_0 hl129_0
                            replace p129 := eq_true p129
                            replace q129 := eq_true q129
                            have p130 : 0 ≤ (x7_5 : Int) := od_
                            have q130 : x7_5 < (l0_4.length : Int) := od_
                            obtain ⟨ad130, A130_0, c130_0, e130, hx130_0, hl130_0, hi130_0⟩ := at_T59 HR0_4.out x7_5 p130 q130
                            obtain rfl : ad128 = ad130 := (by injection e130)
                            replace hx130_0 := hx_ HB hx130_0
                            have HR130_0 := Aside0.mk hi130_0
                            have HC130_0 := Aside0.mk hl130_0
                            clear hi130_0 hl130_0
                            replace p130 := eq_true p130
                            replace q130 := eq_true q130
                            have ea_ := Option.some.inj (hx129_0.symm.trans hx130_0)
                            injection ea_ with ea_ en_ ec_
                            subst ea_
                            subst ec_
                            clear en_
                            have p131 : 0 ≤ (x8_6 : Int) := od_
                            have q131 : x8_6 < (((rd_T59 l0_4 x7_5).f0).length : Int) := od_
                            obtain ⟨ad131, A131_1, c131_1, e131, hx131_0, hx131_1, hl131_1, hi131_1⟩ := at_T61 HR130_0.out x8_6 p131 q131
                            cases e131
                            replace hx131_0 := hx_ HB hx131_0
                            replace hx131_1 := hx_ HB hx131_1
                            have HR131_1 := Aside0.mk hi131_1
                            have HC131_1 := Aside0.mk hl131_1
                            clear hi131_1 hl131_1
                            replace p131 := eq_true p131
                            replace q131 := eq_true q131
                            go_wp2_with (first | ((with_reducible refine gc 9 rfl ?_); refine gm_ (some 148) rfl rfl Tryz.func9 (carrefourlaw06_strings.calls _ _ _ ((rd_T61 ((rd_T59 l0_4 x7_5).f0) x8_6).f1) _ _ ?side1 ?side2 A75.out) ag ?_; (case side1 => repeat (first | exact (Kd.C_below HR131_1.out HB.out) | (with_reducible refine Kd.C_alloc ?_ _) | (with_reducible refine Kd.C_drewN ?_ _) | (with_reducible refine Kd.C_drew ?_))); (case side2 => exact HC131_1.out); rintro w' ⟨nd, rfl⟩))
                            go_ret
                            exact ⟨by first | rfl | (simp [errW_none, errW_some] <;> rfl) | (simp only [← hji22]; first | rfl | (simp [errW_none, errW_some] <;> rfl)) | (simp [*, errW_none, errW_some] <;> rfl), bf HB⟩
                          ·rw [if_neg c74] at H
                           exact absurd H (by simp)
                         ·rw [if_neg c73] at H
                          have c73b0 : decide (x8_6 < (((rd_T59 l0_4 x7_5).f0).length : Int)) = false := decide_eq_false c73
                          clear c73
                          have H' := Aside0.mk H
                          clear H
                          have hcz79 := X.k7 BK102
                          have p129 : 0 ≤ (x7_5 : Int) := od_
                          have q129 : x7_5 < (l0_4.length : Int) := od_
                          obtain ⟨ad129, A129_0, c129_0, e129, hx129_0, hl129_0, hi129_0⟩ := at_T59 HR0_4.out x7_5 p129 q129
                          obtain rfl : ad128 = ad129 := (by injection e129)
                          replace hx129_0 := hx_ HB hx129_0
                          have HR129_0 := Aside0.mk hi129_0
                          have HC129_0 := Aside0.mk hl129_0
                          clear hi129_0 hl129_0
                          replace p129 := eq_true p129
                          replace q129 := eq_true q129
                          go_wp2
                          go_roundg k6
                          case measure => have := HJ1.out; have := HK2.out; have := HK3.out; have := HK4.out; have := HK5.out; have := HK6.out; omega
                          case rel => exact ⟨(wrap64 (x7_5 + 1)), (aq), H', ⟨by have := HJ1.out; have := HK2.out; have := HK3.out; have := HK4.out; have := HK5.out; have := HK6.out; omega⟩, bu_ BK102, ⟨bf HB⟩⟩
                        ·rw [if_neg c72] at H
                         exact absurd H (by simp)
                       ·rw [if_neg c71] at H
                        exact absurd H (by simp)
                   ·rw [if_neg c67] at H
                    exact absurd H (by simp)
                  ·rw [if_neg c66] at H
                   have c66b0 : decide (x7_5 < (l0_4.length : Int)) = false := decide_eq_false c66
                   clear c66
                   have H' := Aside0.mk H
                   clear H
                   have hcz80 := X.k7 BK102
                   go_wp2
                   go_loopg [9] k5 (fun kq v9 w' => ∃ (x9_6 : Int), v9 = .int .i64 x9_6 ∧ Aside0 (carrefourlaw06_node.l5 kq x9_6 a0_0 l0_1 l0_2 l0_3 l0_4 l0_5 a0_6 = some r) ∧ Aside0 (kq ≤ k5) ∧ Aside0 (w'.heap[gb102]? = some (.cells #[.string a0_0, (.slice A0_1 l0_1.length c0_1), (.slice A0_2 l0_2.length c0_2), (.slice A0_3 l0_3.length c0_3), (.slice A0_4 l0_4.length c0_4), (.slice A0_5 l0_5.length c0_5), .int .i64 a0_6] 42 (0, 0))) ∧ Aside0 (Below w.heap.size w w'))
                   case atStart => exact ⟨(0), (aq), H', ⟨Nat.le_refl _⟩, bu_ BK102, ⟨bf HB⟩⟩
                   case round =>
                    clear H'
                    (try clear c1); (try clear p1); (try clear q1); (try clear hx1); (try clear p2); (try clear q2); (try clear c3); (try clear c4); (try clear c5); (try clear c6); (try clear p6); (try clear c7); (try clear c9); (try clear p10); (try clear q10); (try clear hx10); (try clear p11); (try clear q11); (try clear hx11); (try clear c12); (try clear p12); (try clear q12); (try clear hx12); (try clear c13); (try clear p13); (try clear q13); (try clear hx13); (try clear q29); (try clear c30); (try clear c30b0); (try clear c31); (try clear c31b0); (try clear c33); (try clear c45); (try clear c45b0); (try clear c46); (try clear c46b0); (try clear c48); (try clear c50); (try clear p64); (try clear c66); (try clear c66b0); (try clear c67); (try clear c67b0); (try clear c68); (try clear c68b0); (try clear c68b1); (try clear c71); (try clear c71b0); (try clear c72); (try clear c72b0); (try clear c73); (try clear c73b0); (try clear c74); (try clear c74b0); (try clear c76); (try clear hcz20); (try clear hcz27); (try clear hcz34); (try clear hcz39); (try clear hcz44); (try clear hcz51); (try clear hcz55); (try clear hcz56); (try clear hcz5); (try clear hcz60); (try clear hcz61); (try clear hcz65); (try clear hcz69); (try clear hcz70); (try clear hcz77); (try clear hcz78); (try clear hcz79); (try clear hcz7); (try clear hcz80); (try clear hcz9); (try clear hx106_0); (try clear hx106_1); (try clear hx106_10); (try clear hx106_2); (try clear hx106_3); (try clear hx106_4); (try clear hx106_5); (try clear hx106_6); (try clear hx106_7); (try clear hx106_8); (try clear hx106_9); (try clear hx115_0); (try clear hx115_1); (try clear hx115_2); (try clear hx115_3); (try clear hx115_4); (try clear hx115_5); (try clear hx116_0); (try clear hx116_1); (try clear hx116_2); (try clear hx116_3); (try clear hx116_4); (try clear hx116_5); (try clear hx121_0); (try clear hx121_1); (try clear hx121_2); (try clear hx126_0); (try clear hx126_1); (try clear hx126_2); (try clear hx128_0); (try clear hx129_0); (try clear hx130_0); (try clear hx131_0); (try clear hx131_1); (try clear p1); (try clear p10); (try clear p106); (try clear p11); (try clear p115); (try clear p116); (try clear p12); (try clear p121); (try clear p126); (try clear p128); (try clear p129); (try clear p130); (try clear p131); (try clear p2); (try clear p6); (try clear p64); (try clear q1); (try clear q10); (try clear q106); (try clear q11); (try clear q115); (try clear q116); (try clear q12); (try clear q121); (try clear q126); (try clear q128); (try clear q129); (try clear q130); (try clear q131); (try clear q2); (try clear q29)
                    obtain ⟨x9_6, rfl, HA, HK6, BK102, HB⟩ := hrel
                    cases gk with
                    | zero => exact absurd HA.out (by simp [carrefourlaw06_node.l5])
                    | succ k6 =>
                     have H := HA.out
                     clear HA
                     simp only [carrefourlaw06_node.l5] at H
                     by_cases c81 : x9_6 < (l0_5.length : Int)
                     ·rw [if_pos c81] at H
                      have c81b0 : decide (x9_6 < (l0_5.length : Int)) = true := decide_eq_true c81
                      clear c81
                      by_cases c82 : 0 ≤ x9_6
                      ·rw [if_pos c82] at H
                       have c82b0 : decide (0 ≤ x9_6) = true := decide_eq_true c82
                       clear c82
                       obtain ⟨y135, hy135⟩ : ∃ y_ : List ByteArray, y_ = (([(rd_T63 l0_5 x9_6).f0, (rd_T63 l0_5 x9_6).f1] : List ByteArray)) := ⟨_, rfl⟩
                       replace H : ((carrefourlaw06_strings.f k6 y135).bind fun t138 => (if t138 = true then (carrefourlaw06_node.l5 k6 (wrap64 (x9_6 + 1)) a0_0 l0_1 l0_2 l0_3 l0_4 l0_5 a0_6) else (some false))) = some r := by first | (rw [hy135]; with_reducible exact H) | (have H2_ := (Option.bind_some _ _).symm.trans H; rw [hy135]; with_reducible exact H2_) | (have H2_ := (Option.bind_some _ _).symm.trans H; with_reducible exact H2_) | with_reducible exact H | (rw [hy135]; exact H) | exact H
                       have Ny135 := Aside0.mk hy135
                       clear hy135
                       replace H := bi_ H; obtain ⟨t138, A83, H⟩ := H
                       (try dsimp only at H)
                       by_cases c84 : t138 = true
                       ·subst c84
                        have H1 : (carrefourlaw06_node.l5 k6 (wrap64 (x9_6 + 1)) a0_0 l0_1 l0_2 l0_3 l0_4 l0_5 a0_6) = some r := by rw [if_pos rfl] at H; exact H
                        clear H
                        have H := H1
                        clear H1
                        have H' := Aside0.mk H
                        clear H
                        have hcz85 := X.k7 BK102
                        try go_wp2
                        replace BK102 := Aside0.mk (blk_drew BK102.out)
                        replace HB := Aside0.mk (below_drew1 HB.out)
                        have p133 : 0 ≤ (x9_6 : Int) := od_
                        have q133 : x9_6 < (l0_5.length : Int) := od_
                        obtain ⟨ad133, e133, hx133_0, hx133_1, hx133_2⟩ := at_T63 HR0_5.out x9_6 p133 q133
                        have hw133_2 := hx133_2
                        have hw133_1 := hx133_1
                        have hw133_0 := hx133_0
                        cases e133
                        replace hx133_0 := hx_ HB hx133_0
                        replace hx133_1 := hx_ HB hx133_1
                        replace hx133_2 := hx_ HB hx133_2
                        replace p133 := eq_true p133
                        replace q133 := eq_true q133
                        have p134 : 0 ≤ (x9_6 : Int) := od_
                        have q134 : x9_6 < (l0_5.length : Int) := od_
                        obtain ⟨ad134, e134, hx134_0, hx134_1, hx134_2⟩ := at_T63 HR0_5.out x9_6 p134 q134
                        have hw134_2 := hx134_2
                        have hw134_1 := hx134_1
                        have hw134_0 := hx134_0
                        obtain rfl : ad133 = ad134 := (by injection e134)
                        replace hx134_0 := hx_ HB hx134_0
                        replace hx134_1 := hx_ HB hx134_1
                        replace hx134_2 := hx_ HB hx134_2
                        replace p134 := eq_true p134
                        replace q134 := eq_true q134
                        refine start_ (n := 15) (S := fun w' => c_ w' gb102 0 (.string a0_0) ∧ c_ w' gb102 1 (.slice A0_1 l0_1.length c0_1) ∧ c_ w' gb102 2 (.slice A0_2 l0_2.length c0_2) ∧ c_ w' gb102 3 (.slice A0_3 l0_3.length c0_3) ∧ c_ w' gb102 4 (.slice A0_4 l0_4.length c0_4) ∧ c_ w' gb102 5 (.slice (some ad133) l0_5.length c0_5) ∧ c_ w' gb102 6 (.int .i64 a0_6) ∧ w'.cell? (ad133.add ((x9_6).toNat * 3)) = some (.string ((rd_T63 l0_5 x9_6).f0)) ∧ w'.cell? ⟨(ad133.add ((x9_6).toNat * 3)).block, (ad133.add ((x9_6).toNat * 3)).off + 1, none⟩ = some (.string ((rd_T63 l0_5 x9_6).f1)) ∧ w'.cell? ⟨(ad133.add ((x9_6).toNat * 3)).block, (ad133.add ((x9_6).toNat * 3)).off + 2, none⟩ = some (.int .i64 ((rd_T63 l0_5 x9_6).f2)) ∧ w'.cell? (ad133.add ((x9_6).toNat * 3)) = some (.string ((rd_T63 l0_5 x9_6).f0)) ∧ w'.cell? ⟨(ad133.add ((x9_6).toNat * 3)).block, (ad133.add ((x9_6).toNat * 3)).off + 1, none⟩ = some (.string ((rd_T63 l0_5 x9_6).f1)) ∧ w'.cell? ⟨(ad133.add ((x9_6).toNat * 3)).block, (ad133.add ((x9_6).toNat * 3)).off + 2, none⟩ = some (.int .i64 ((rd_T63 l0_5 x9_6).f2))) (ds := []) (m_ 15 0) (by kernel_rfl) rfl rfl ⟨ct BK102 0, ct BK102 1, ct BK102 2, ct BK102 3, ct BK102 4, ct BK102 5, ct BK102 6, (hx_ HB hw133_0 :), (hx_ HB hw133_1 :), (hx_ HB hw133_2 :), (hx_ HB hw134_0 :), (hx_ HB hw134_1 :), (hx_ HB hw134_2 :)⟩ (fun hHeld => ?_); refine with_tabW carrefourlaw06_node.tab33 carrefourlaw06_node.bits33 (fun HT_ HW_ => ?_)
                        generalize wr.drew = w86 at BK102 HB hx133_0 hx133_1 hx133_2 hx134_0 hx134_1 hx134_2 hHeld ⊢
                        refine pu_ 0 (some 157) (m_ 15 1) rfl rfl (ao HT_) ?_
                        refine pu_ 2 (some 159) (m_ 15 5) rfl rfl (ao HT_) ?_
                        refine pu_ 6 (some 163) (m_ 15 69) rfl rfl (ao HT_) ?_
                        refine pu_ 8 (some 165) (m_ 15 325) rfl rfl (ao HT_) ?_
                        refine tk_ 1 (some 158) (m_ 15 327) rfl rfl (tw HT_ HW_) hHeld ?_
                        refine pu_ 3 (some 160) (m_ 15 335) rfl rfl (ao HT_) ?_
                        refine pu_ 4 (some 161) (m_ 15 351) rfl rfl (ao HT_) ?_
                        refine tk_ 5 (some 162) (m_ 15 383) rfl rfl (tw HT_ HW_) hHeld ?_
                        refine tk_ 7 (some 164) (m_ 15 511) rfl rfl (tw HT_ HW_) hHeld ?_
                        refine pu_ 9 (some 166) (m_ 15 1023) rfl rfl (ao HT_) ?_
                        refine pu_ 10 (some 167) (m_ 15 2047) rfl rfl (ao HT_) ?_
                        refine tk_ 11 (some 168) (m_ 15 4095) rfl rfl (tw HT_ HW_) hHeld ?_
                        refine o1_ 12 (some 169) (m_ 15 8191) rfl rfl (oo HT_) (fun K hK => ?_)
                        refine Kd.R_lit_step Kd.string _ 9 ?hg (N := 169) ?hd (xs := ([(rd_T63 l0_5 x9_6).f0, (rd_T63 l0_5 x9_6).f1] : List ByteArray)) (inner := [.string ((rd_T63 l0_5 x9_6).f0), .string ((rd_T63 l0_5 x9_6).f1)]) (ok := fun _ => True) (okp := fun _ => True) ?hr ?hp (fun _ hk => hk) trivial (Below.refl _ _) (Nat.le_refl _) (by simp) ?_; (case hd => rfl); (case hg => rfl); (case hr => first | (go_simp; done) | (go_simp; rfl)); (case hp => exact (Reps.one (show Kd.M Kd.string _ _ _ ((rd_T63 l0_5 x9_6).f0) [.string ((rd_T63 l0_5 x9_6).f0)] from rfl) (Reps.one (show Kd.M Kd.string _ _ _ ((rd_T63 l0_5 x9_6).f1) [.string ((rd_T63 l0_5 x9_6).f1)] from rfl) (Reps.none _ _))))
                        intro v136 w87 ho88 hb hg_ hnew_
                        clear hg_ hnew_
                        (first | rw [← Ny135.out] at ho88 | (simp only [Int.reduceToNat] at ho88; rw [← Ny135.out] at ho88))
                        have HO137 := Aside0.mk (Kd.R_lower ho88 (below_size (bf HB)))
                        replace BK102 := bb BK102 hb
                        replace HB := bs HB hb
                        clear hb ho88
                        obtain ⟨Ao89, co89, eo89⟩ := Kd.R_slice HO137.out
                        (first | subst eo89 | (injection eo89 with f1_ f2_ f3_; have f4_ := f1_.symm; have f5_ := f3_.symm; clear f1_ f2_ f3_; subst f4_; subst f5_))
                        refine hK.out _ _ ⟨ct BK102 0, ct BK102 1, ct BK102 2, ct BK102 3, ct BK102 4, ct BK102 5, ct BK102 6, (hx_ HB hw133_0 :), (hx_ HB hw133_1 :), (hx_ HB hw133_2 :), (hx_ HB hw134_0 :), (hx_ HB hw134_1 :), (hx_ HB hw134_2 :)⟩ (fun hHeld => ?_)
                        clear hK K
                        refine nr_ (some 169) ?_
                        refine o1_ 13 (some 170) (m_ 15 16383) rfl rfl (oo HT_) (fun K hK => ?_)
                        refine gs_ rfl Tryz.func9 (carrefourlaw06_strings.calls _ _ _ _ _ _ ?side1 ?side2 A83.out) ag ?_
                        (case side1 => exact rc HO137)
                        (case side2 => exact (Kd.R_reads' HO137.out).2.1)
                        rintro w' ⟨nd, rfl⟩
                        refine hK.out _ _ ⟨ct BK102 0, ct BK102 1, ct BK102 2, ct BK102 3, ct BK102 4, ct BK102 5, ct BK102 6, (hx_ HB hw133_0 :), (hx_ HB hw133_1 :), (hx_ HB hw133_2 :), (hx_ HB hw134_0 :), (hx_ HB hw134_1 :), (hx_ HB hw134_2 :)⟩ (fun hHeld => ?_)
                        clear hK K
                        refine nr_ (some 170) ?_
                        refine pu_ 14 (some 171) (m_ 15 32767) rfl rfl (ao HT_) ?_
                        refine done_ (done_of HT_.out (by kernel_rfl)) ?_
                        try go_wp2
                        go_roundg k6
                        case measure => have := HJ1.out; have := HK2.out; have := HK3.out; have := HK4.out; have := HK5.out; have := HK6.out; omega
                        case rel => exact ⟨(wrap64 (x9_6 + 1)), (aq), H', ⟨by have := HJ1.out; have := HK2.out; have := HK3.out; have := HK4.out; have := HK5.out; have := HK6.out; omega⟩, bu_ BK102, ⟨bf HB⟩⟩
                       ·replace c84 := Bool.eq_false_iff.mpr c84
                        subst c84
                        have H1 : (some false) = some r := by rw [if_neg (show ¬ (false = true) by decide)] at H; exact H
                        clear H
                        have H := H1
                        clear H1
                        obtain rfl := Option.some.inj H
                        have hcz90 := X.k7 BK102
                        try go_wp2
                        replace BK102 := Aside0.mk (blk_drew BK102.out)
                        replace HB := Aside0.mk (below_drew1 HB.out)
                        have p133 : 0 ≤ (x9_6 : Int) := od_
                        have q133 : x9_6 < (l0_5.length : Int) := od_
                        obtain ⟨ad133, e133, hx133_0, hx133_1, hx133_2⟩ := at_T63 HR0_5.out x9_6 p133 q133
                        have hw133_2 := hx133_2
                        have hw133_1 := hx133_1
                        have hw133_0 := hx133_0
                        cases e133
                        replace hx133_0 := hx_ HB hx133_0
                        replace hx133_1 := hx_ HB hx133_1
                        replace hx133_2 := hx_ HB hx133_2
                        replace p133 := eq_true p133
                        replace q133 := eq_true q133
                        have p134 : 0 ≤ (x9_6 : Int) := od_
                        have q134 : x9_6 < (l0_5.length : Int) := od_
                        obtain ⟨ad134, e134, hx134_0, hx134_1, hx134_2⟩ := at_T63 HR0_5.out x9_6 p134 q134
                        have hw134_2 := hx134_2
                        have hw134_1 := hx134_1
                        have hw134_0 := hx134_0
                        obtain rfl : ad133 = ad134 := (by injection e134)
                        replace hx134_0 := hx_ HB hx134_0
                        replace hx134_1 := hx_ HB hx134_1
                        replace hx134_2 := hx_ HB hx134_2
                        replace p134 := eq_true p134
                        replace q134 := eq_true q134
                        refine start_ (n := 15) (S := fun w' => c_ w' gb102 0 (.string a0_0) ∧ c_ w' gb102 1 (.slice A0_1 l0_1.length c0_1) ∧ c_ w' gb102 2 (.slice A0_2 l0_2.length c0_2) ∧ c_ w' gb102 3 (.slice A0_3 l0_3.length c0_3) ∧ c_ w' gb102 4 (.slice A0_4 l0_4.length c0_4) ∧ c_ w' gb102 5 (.slice (some ad133) l0_5.length c0_5) ∧ c_ w' gb102 6 (.int .i64 a0_6) ∧ w'.cell? (ad133.add ((x9_6).toNat * 3)) = some (.string ((rd_T63 l0_5 x9_6).f0)) ∧ w'.cell? ⟨(ad133.add ((x9_6).toNat * 3)).block, (ad133.add ((x9_6).toNat * 3)).off + 1, none⟩ = some (.string ((rd_T63 l0_5 x9_6).f1)) ∧ w'.cell? ⟨(ad133.add ((x9_6).toNat * 3)).block, (ad133.add ((x9_6).toNat * 3)).off + 2, none⟩ = some (.int .i64 ((rd_T63 l0_5 x9_6).f2)) ∧ w'.cell? (ad133.add ((x9_6).toNat * 3)) = some (.string ((rd_T63 l0_5 x9_6).f0)) ∧ w'.cell? ⟨(ad133.add ((x9_6).toNat * 3)).block, (ad133.add ((x9_6).toNat * 3)).off + 1, none⟩ = some (.string ((rd_T63 l0_5 x9_6).f1)) ∧ w'.cell? ⟨(ad133.add ((x9_6).toNat * 3)).block, (ad133.add ((x9_6).toNat * 3)).off + 2, none⟩ = some (.int .i64 ((rd_T63 l0_5 x9_6).f2))) (ds := []) (m_ 15 0) (by kernel_rfl) rfl rfl ⟨ct BK102 0, ct BK102 1, ct BK102 2, ct BK102 3, ct BK102 4, ct BK102 5, ct BK102 6, (hx_ HB hw133_0 :), (hx_ HB hw133_1 :), (hx_ HB hw133_2 :), (hx_ HB hw134_0 :), (hx_ HB hw134_1 :), (hx_ HB hw134_2 :)⟩ (fun hHeld => ?_); refine with_tabW carrefourlaw06_node.tab33 carrefourlaw06_node.bits33 (fun HT_ HW_ => ?_)
                        generalize wr.drew = w91 at BK102 HB hx133_0 hx133_1 hx133_2 hx134_0 hx134_1 hx134_2 hHeld ⊢
                        refine pu_ 0 (some 157) (m_ 15 1) rfl rfl (ao HT_) ?_
                        refine pu_ 2 (some 159) (m_ 15 5) rfl rfl (ao HT_) ?_
                        refine pu_ 6 (some 163) (m_ 15 69) rfl rfl (ao HT_) ?_
                        refine pu_ 8 (some 165) (m_ 15 325) rfl rfl (ao HT_) ?_
                        refine tk_ 1 (some 158) (m_ 15 327) rfl rfl (tw HT_ HW_) hHeld ?_
                        refine pu_ 3 (some 160) (m_ 15 335) rfl rfl (ao HT_) ?_
                        refine pu_ 4 (some 161) (m_ 15 351) rfl rfl (ao HT_) ?_
                        refine tk_ 5 (some 162) (m_ 15 383) rfl rfl (tw HT_ HW_) hHeld ?_
                        refine tk_ 7 (some 164) (m_ 15 511) rfl rfl (tw HT_ HW_) hHeld ?_
                        refine pu_ 9 (some 166) (m_ 15 1023) rfl rfl (ao HT_) ?_
                        refine pu_ 10 (some 167) (m_ 15 2047) rfl rfl (ao HT_) ?_
                        refine tk_ 11 (some 168) (m_ 15 4095) rfl rfl (tw HT_ HW_) hHeld ?_
                        refine o1_ 12 (some 169) (m_ 15 8191) rfl rfl (oo HT_) (fun K hK => ?_)
                        refine Kd.R_lit_step Kd.string _ 9 ?hg (N := 169) ?hd (xs := ([(rd_T63 l0_5 x9_6).f0, (rd_T63 l0_5 x9_6).f1] : List ByteArray)) (inner := [.string ((rd_T63 l0_5 x9_6).f0), .string ((rd_T63 l0_5 x9_6).f1)]) (ok := fun _ => True) (okp := fun _ => True) ?hr ?hp (fun _ hk => hk) trivial (Below.refl _ _) (Nat.le_refl _) (by simp) ?_; (case hd => rfl); (case hg => rfl); (case hr => first | (go_simp; done) | (go_simp; rfl)); (case hp => exact (Reps.one (show Kd.M Kd.string _ _ _ ((rd_T63 l0_5 x9_6).f0) [.string ((rd_T63 l0_5 x9_6).f0)] from rfl) (Reps.one (show Kd.M Kd.string _ _ _ ((rd_T63 l0_5 x9_6).f1) [.string ((rd_T63 l0_5 x9_6).f1)] from rfl) (Reps.none _ _))))
                        intro v136 w92 ho93 hb hg_ hnew_
                        clear hg_ hnew_
                        (first | rw [← Ny135.out] at ho93 | (simp only [Int.reduceToNat] at ho93; rw [← Ny135.out] at ho93))
                        have HO137 := Aside0.mk (Kd.R_lower ho93 (below_size (bf HB)))
                        replace BK102 := bb BK102 hb
                        replace HB := bs HB hb
                        clear hb ho93
                        obtain ⟨Ao94, co94, eo94⟩ := Kd.R_slice HO137.out
                        (first | subst eo94 | (injection eo94 with f1_ f2_ f3_; have f4_ := f1_.symm; have f5_ := f3_.symm; clear f1_ f2_ f3_; subst f4_; subst f5_))
                        refine hK.out _ _ ⟨ct BK102 0, ct BK102 1, ct BK102 2, ct BK102 3, ct BK102 4, ct BK102 5, ct BK102 6, (hx_ HB hw133_0 :), (hx_ HB hw133_1 :), (hx_ HB hw133_2 :), (hx_ HB hw134_0 :), (hx_ HB hw134_1 :), (hx_ HB hw134_2 :)⟩ (fun hHeld => ?_)
                        clear hK K
                        refine nr_ (some 169) ?_
                        refine o1_ 13 (some 170) (m_ 15 16383) rfl rfl (oo HT_) (fun K hK => ?_)
                        refine gs_ rfl Tryz.func9 (carrefourlaw06_strings.calls _ _ _ _ _ _ ?side1 ?side2 A83.out) ag ?_
                        (case side1 => exact rc HO137)
                        (case side2 => exact (Kd.R_reads' HO137.out).2.1)
                        rintro w' ⟨nd, rfl⟩
                        refine hK.out _ _ ⟨ct BK102 0, ct BK102 1, ct BK102 2, ct BK102 3, ct BK102 4, ct BK102 5, ct BK102 6, (hx_ HB hw133_0 :), (hx_ HB hw133_1 :), (hx_ HB hw133_2 :), (hx_ HB hw134_0 :), (hx_ HB hw134_1 :), (hx_ HB hw134_2 :)⟩ (fun hHeld => ?_)
                        clear hK K
                        refine nr_ (some 170) ?_
                        refine pu_ 14 (some 171) (m_ 15 32767) rfl rfl (ao HT_) ?_
                        refine done_ (done_of HT_.out (by kernel_rfl)) ?_
                        try go_wp2
                        go_ret
                        exact ⟨by first | rfl | (simp [errW_none, errW_some] <;> rfl) | (simp only [← hji22]; first | rfl | (simp [errW_none, errW_some] <;> rfl)) | (simp [*, errW_none, errW_some] <;> rfl), bf HB⟩
                      ·rw [if_neg c82] at H
                       exact absurd H (by simp)
                     ·rw [if_neg c81] at H
                      have c81b0 : decide (x9_6 < (l0_5.length : Int)) = false := decide_eq_false c81
                      clear c81
                      obtain rfl := Option.some.inj H
                      have hcz95 := X.k7 BK102
                      go_wp2
                      go_ret
                      exact ⟨by first | rfl | (simp [errW_none, errW_some] <;> rfl) | (simp only [← hji22]; first | rfl | (simp [errW_none, errW_some] <;> rfl)) | (simp [*, errW_none, errW_some] <;> rfl), bf HB⟩
         ·replace c26 := Bool.eq_false_iff.mpr c26
          subst c26
          have H1 : (some false) = some r := by rw [if_neg (show ¬ (false = true) by decide)] at H; exact H
          clear H
          have H := H1
          clear H1
          obtain rfl := Option.some.inj H
          have hcz96 := X.k7 BK102
          obtain ⟨Ao97, co97, eo97⟩ := Kd.R_slice HO_3.out
          subst eo97
          have q98 : ((ji22) : Int) ≤ ((x3_2.length : Int) : Int) := od_
          obtain ⟨i098, hi098, _, hsz98, _⟩ := info_parts info9
          have hroom98 : x3_2.length ≤ co97 := (Kd.R_reads' HO_3.out).2.1
          have hC98 : Kd.C Kd.string _ Ao97 x3_2.length x3_2 := (Kd.R_reads' HO_3.out).2.2
          have hcut98 := cut_to (P := Tryz.prog) 46 9 .i64 Tryz.underlying46 hi098 Ao97 x3_2.length co97 (ji22) (od_) q98 hroom98
          have hr98 := Kd.C_take (m := ((ji22) : Int).toNat) hC98 (by omega)
          have hy98 : y110.length = ((ji22) : Int).toNat := (by rw [Ny110.out, List.length_take]; omega)
          rw [← Ny110.out] at hr98
          rw [← hy98] at hcut98
          have HR113 := Aside0.mk hr98
          have HC113 := Aside0.mk (show y110.length ≤ co97 from by omega)
          clear hr98 hC98 hroom98 hi098 hsz98
          have KY98 := Aside0.mk hy98
          clear hy98
          have KL98 := Aside0.mk (show ((ji22) : Int).toNat ≤ x3_2.length from by omega)
          replace q98 := eq_true q98
          go_wp2_with (first | ((with_reducible refine gc 9 rfl ?_); refine gm_ (some 62) rfl rfl Tryz.func9 (carrefourlaw06_strings.calls _ _ _ _ _ _ ?side1 ?side2 A25.out) ag ?_; (case side1 => repeat (first | exact (by repeat (first | (with_reducible exact HR113.out) | (with_reducible refine Kd.C_alloc ?_ _) | (with_reducible refine Kd.C_drewN ?_ _) | (with_reducible refine Kd.C_drew ?_) | exact HR113.out)) | (with_reducible refine Kd.C_alloc ?_ _) | (with_reducible refine Kd.C_drewN ?_ _) | (with_reducible refine Kd.C_drew ?_))); (case side2 => exact HC113.out); rintro w' ⟨nd, rfl⟩))
          go_ret
          exact ⟨by first | rfl | (simp [errW_none, errW_some] <;> rfl) | (simp only [← hji22]; first | rfl | (simp [errW_none, errW_some] <;> rfl)) | (simp [*, errW_none, errW_some] <;> rfl), bf HB⟩
        ·rw [if_neg c24] at H
         exact absurd H (by simp)
       ·rw [if_neg c23] at H
        exact absurd H (by simp)

end Go.Proofs.YtfhokgkpcphmlaaGreatDoor.X
