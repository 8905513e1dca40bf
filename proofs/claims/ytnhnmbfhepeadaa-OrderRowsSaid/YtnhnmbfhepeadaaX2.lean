/- Walks: each '.calls' says that the Go function comes to what its Lean function tells. Conditions: as each theorem's head says. -/
import Derived.Test.YtnhnmbfhepeadaaXD
import Derived.Test.YtnhnmbfhepeadaaX0
import Derived.Test.YtnhnmbfhepeadaaX1
namespace Go.Proofs.Ytnhnmbfhepeadaa.X
open Go.RowKit Go.Proofs.YtnhnmbfhepeadaaW.PrintWords Go.Proofs.YtnhnmbfhepeadaaW.PrintLast Go.Proofs.YtnhnmbfhepeadaaW.PrintMore
attribute [local go_sem] max2_int min2_int max_two min_two max_three min_three max_four min_four   -- for this text's walks alone
attribute [-simp] List.length_drop
set_option linter.unusedVariables false
set_option maxHeartbeats 8000000
set_option maxRecDepth 100000
set_option linter.unusedSimpArgs false


/-! ### slices_Reverse_int_int: function 28 -/
theorem add_at (b off i : Nat) : (⟨b, off, none⟩ : Addr).add i = ⟨b, off + i, none⟩ := by
  unfold Addr.add
  split <;> simp_all
def Lies (W : World) (g : Nat) (pre : List Value) (xs : List Int) (post : List Value) : Prop := W.heap[g]? = some (.cells (pre ++ (xs.map (Value.int .i64) ++ post)).toArray 3 (0, 0))
theorem Lies.cell {W : World} {g : Nat} {pre post : List Value} {xs : List Int} (h : Lies W g pre xs post) (i : Int) (h0 : 0 ≤ i) (h1 : i < xs.length) : W.cell? ⟨g, pre.length + i.toNat, none⟩ = some (.int .i64 (rd xs i)) ∧ W.frozen? ⟨g, pre.length + i.toNat, none⟩ = false := by
  have hi : i.toNat < xs.length := by omega
  refine ⟨?_, blk_frozen h _⟩
  rw [blk_cell h]
  simp [List.getElem?_append_right, List.getElem?_append_left, hi, rd, List.getD_eq_getElem?_getD]
theorem Lies.set {W : World} {g : Nat} {pre post : List Value} {xs : List Int} (h : Lies W g pre xs post) (i : Int) (h0 : 0 ≤ i) (h1 : i < xs.length) (x : Int) : Lies (W.setCell ⟨g, pre.length + i.toNat, none⟩ (.int .i64 x)) g pre (xs.set i.toNat x) post := by
  have hi : i.toNat < xs.length := by omega
  unfold Lies
  rw [blk_set h]
  simp [List.set_append, List.map_set, hi]
def slices_Reverse_int_int.T3 : Bool × List (List Nat × List Nat) := (true, [([], []), ([], []), ([], []), ([], []), ([], []), ([], []), ([4, 5], [4, 5]), ([6], [6]), ([], []), ([], []), ([8, 9], [8, 9]), ([10], [10]), ([0, 1, 0, 1, 4, 5, 6, 7, 11], [0, 1]), ([12, 7, 0, 1, 4, 5, 6, 7, 11], [7, 12]), ([2, 3, 0, 1, 2, 3, 4, 5, 6, 7, 8, 9, 10, 11, 12, 13], [2, 3]), ([14, 11, 13, 0, 1, 2, 3, 4, 5, 6, 7, 8, 9, 10, 11, 12, 13], [11, 14])])
def slices_Reverse_int_int.B3 : List Nat := [0, 0, 0, 0, 0, 0, 48, 112, 0, 0, 768, 1792, 4083, 8179, 16383, 32767]
theorem slices_Reverse_int_int.tab3 : rtab .any (opsOf Try.f28 3) = slices_Reverse_int_int.T3 := by kernel_rfl
theorem slices_Reverse_int_int.bits3 : waitsOk slices_Reverse_int_int.T3.2 slices_Reverse_int_int.B3 = true := by kernel_rfl
theorem slices_Reverse_int_int.calls (k : Nat) (g cap : Nat) (pre post : List Value) (l0 : List Int) (r : List Int) (w0 w : World) (hB : Below w0.heap.size w0 w) (hg : w0.heap.size ≤ g) (hl : Lies w g pre l0 post) (h : slices_Reverse_int_int.f k l0 = some r) :
    Calls Try.prog 28 #[.slice (some ⟨g, pre.length, none⟩) l0.length cap] w fun e w' => e = .returned (.tuple #[]) ∧ (Lies w' g pre r post ∧ r.length = l0.length) ∧ Below w0.heap.size w0 w' := by
  have HL := Aside0.mk hl
  have HB := Aside0.mk hB
  have HG := Aside0.mk hg
  clear hl hB hg
  have H : (slices_Reverse_int_int.l0 k l0 0 (wrap64 ((l0.length : Int) - 1))) = some r := h
  clear h
  have H' := Aside0.mk H
  clear H
  obtain ⟨n, hn⟩ : ∃ n, n = l0.length := ⟨_, rfl⟩
  obtain ⟨ad, had⟩ : ∃ ad : Addr, ad = ⟨g, pre.length, none⟩ := ⟨_, rfl⟩
  have HAD := Aside0.mk had
  have HN := Aside0.mk hn
  rw [← had, ← hn]
  rw [← hn] at H'
  clear had hn
  go_enter Try.func28, Try.ntmps28
  go_wp2
  go_loopg [2, 3] k (fun kq v2 v3 w' => ∃ (x0_1 : List Int) (x2_1 : Int) (x3_1 : Int), v2 = .int .i64 x2_1 ∧ v3 = .int .i64 x3_1 ∧ Aside0 (slices_Reverse_int_int.l0 kq x0_1 x2_1 x3_1 = some r) ∧ Aside0 (kq ≤ k) ∧ Aside0 (x0_1.length = n) ∧ Aside0 (Lies w' g pre x0_1 post) ∧ Aside0 (Below w0.heap.size w0 w'))
  case atStart => exact ⟨(l0), (0), (wrap64 ((n : Int) - 1)), (aq), (aq), H', ⟨Nat.le_refl _⟩, ⟨HN.out.symm⟩, ⟨HL.out⟩, ⟨bf HB⟩⟩
  case round =>
    clear H' HL
    obtain ⟨x0_1, x2_1, x3_1, rfl, rfl, HA, HK1, HLN, HL, HB⟩ := hrel
    cases gk with
    | zero => exact absurd HA.out (by simp [slices_Reverse_int_int.l0])
    | succ k1 =>
      have H := HA.out
      clear HA
      simp only [slices_Reverse_int_int.l0, HLN.out] at H
      by_cases c3 : x2_1 < x3_1
      · rw [if_pos c3] at H
        have c3b0 : decide (x2_1 < x3_1) = true := decide_eq_true c3
        clear c3
        by_cases c4 : 0 ≤ x3_1
        · rw [if_pos c4] at H
          by_cases c5 : x3_1 < (n : Int)
          · rw [if_pos c5] at H
            by_cases c6 : 0 ≤ x2_1
            · rw [if_pos c6] at H
              by_cases c7 : x2_1 < (n : Int)
              · rw [if_pos c7] at H
                have H' := Aside0.mk H
                clear H
                try go_wp2
                have hln := HLN.out
                have hl1 : Lies wr.drew g pre x0_1 post := HL.out
                have hl2 := hl1.set x2_1 c6 (by omega) (rd x0_1 x3_1)
                have hl3 := hl2.set x3_1 c4 (by rw [List.length_set]; omega) (rd x0_1 x2_1)
                obtain ⟨hx3, hf3⟩ := hl1.cell x3_1 c4 (by omega)
                obtain ⟨hx2, hf2⟩ := hl1.cell x2_1 c6 (by omega)
                obtain ⟨hy3, hg3⟩ := hl2.cell x3_1 c4 (by rw [List.length_set]; omega)
                have e2 : ad.add x2_1.toNat = ⟨g, pre.length + x2_1.toNat, none⟩ := by rw [HAD.out, add_at]
                have e3 : ad.add x3_1.toNat = ⟨g, pre.length + x3_1.toNat, none⟩ := by rw [HAD.out, add_at]
                rw [← e2] at hl2 hl3 hx2 hf2 hy3 hg3
                rw [← e3] at hl3 hx3 hf3 hy3 hg3
                have HL3 := Aside0.mk hl3
                have E2 := Aside0.mk e2
                have E3 := Aside0.mk e3
                replace HB := Aside0.mk (below_drew1 HB.out)
                have p4 := eq_true c4
                have p5 := eq_true c5
                have p6 := eq_true c6
                have p7 := eq_true c7
                clear HL hl1 hl2 hl3 c4 c5 c6 c7 e2 e3 hln
                refine start_ (n := 16) (S := fun w' => w'.cell? (ad.add (x3_1).toNat) = some (.int .i64 (rd x0_1 x3_1)) ∧ w'.cell? (ad.add (x2_1).toNat) = some (.int .i64 (rd x0_1 x2_1))) (ds := [13, 15]) (m_ 16 0) (by kernel_rfl) rfl rfl ⟨hx3, hx2⟩ (fun hHeld => ?_); refine with_tabW slices_Reverse_int_int.tab3 slices_Reverse_int_int.bits3 (fun HT_ HW_ => ?_)
                generalize wr.drew = w10 at *
                refine pu_ 0 (some 14) (m_ 16 1) rfl rfl (ao HT_) ?_
                refine pu_ 1 (some 15) (m_ 16 3) rfl rfl (ao HT_) ?_
                refine pu_ 2 (some 16) (m_ 16 7) rfl rfl (ao HT_) ?_
                refine pu_ 3 (some 17) (m_ 16 15) rfl rfl (ao HT_) ?_
                refine pu_ 4 (some 18) (m_ 16 31) rfl rfl (ao HT_) ?_
                refine pu_ 5 (some 19) (m_ 16 63) rfl rfl (ao HT_) ?_
                refine pu_ 6 (some 20) (m_ 16 127) rfl rfl (ao HT_) ?_
                refine pu_ 8 (some 22) (m_ 16 383) rfl rfl (ao HT_) ?_
                refine pu_ 9 (some 23) (m_ 16 895) rfl rfl (ao HT_) ?_
                refine pu_ 10 (some 24) (m_ 16 1919) rfl rfl (ao HT_) ?_
                refine tk_ 7 (some 21) (m_ 16 2047) rfl rfl (tw HT_ HW_) hHeld ?_
                refine tk_ 11 (some 25) (m_ 16 4095) rfl rfl (tw HT_ HW_) hHeld ?_
                refine pu_ 12 (some 26) (m_ 16 8191) rfl rfl (ao HT_) ?_
                refine last_ (i := 13) (N := none) (m_ 16 16383) rfl rfl (one_of HT_.out (by kernel_rfl)) (by decide) (fun K hK => ?_)
                refine skip_ (w1 := ?_) (by rfl) rfl ?_ ?_
                rotate_left
                · go_simp
                  rfl
                refine hK.out _ _ ?_
                clear hK K
                refine pu_ 14 (some 27) (m_ 16 32767) rfl rfl (ao HT_) ?_
                refine last_ (i := 15) (N := none) (m_ 16 65535) rfl rfl (one_of HT_.out (by kernel_rfl)) (by decide) (fun K hK => ?_)
                refine skip_ (w1 := ?_) (by rfl) rfl ?_ ?_
                rotate_left
                · go_simp
                  rfl
                refine hK.out _ _ ?_
                clear hK K
                refine done_ (done_of HT_.out (by kernel_rfl)) ?_
                try go_wp2
                go_roundg k1
                case measure => have := HK1.out; omega
                case rel => exact ⟨_, (wrap64 (x2_1 + 1)), (wrap64 (x3_1 - 1)), (aq), (aq), H', ⟨by have := HK1.out; omega⟩, ⟨by simp only [List.length_set]; exact HLN.out⟩, ⟨HL3.out⟩, ⟨by rw [E2.out, E3.out]; exact below_set (below_set HB.out HG.out) HG.out⟩⟩
              · rw [if_neg c7] at H
                exact absurd H (by simp)
            · rw [if_neg c6] at H
              exact absurd H (by simp)
          · rw [if_neg c5] at H
            exact absurd H (by simp)
        · rw [if_neg c4] at H
          exact absurd H (by simp)
      · rw [if_neg c3] at H
        have c3b0 : decide (x2_1 < x3_1) = false := decide_eq_false c3
        clear c3
        obtain rfl := Option.some.inj H
        go_wp2
        first | go_end0 | ((try simp only [Exit.inBlock, Exit.then]); refine bodyPost_ret (results_none rfl _ _ _) rfl ?_)
        exact ⟨ae, ⟨HL.out, HLN.out⟩, bf HB⟩


/-! ### order_Next: function 14 -/
theorem cut_from2 {P : Program} {t e : TypeId} {i0 : TypeInfo} (ht : P.underlying t = some (.slice e)) (hi : P.info? e = some i0) (hsz : i0.size = 1) (g n c : Nat) (j : Int) (h0 : 0 ≤ j) (hj : j ≤ n) (hc : n ≤ c) :
    ∃ A : Option Addr, (j < n → A = some ⟨g, j.toNat, none⟩) ∧ ∀ W : World, (Instr.slice t (.slice (some ⟨g, 0, none⟩) n c) (some (.int .i64 j)) none none).run P W = .ok (.slice A (n - j.toNat) (c - j.toNat)) W := by
  obtain ⟨m, rfl⟩ := Int.eq_ofNat_of_zero_le h0
  have hel : P.elem t = e := by simp [Program.elem, ht]
  have hu : P.underlying t = some (.slice (P.elem t)) := by rw [hel]; exact ht
  refine ⟨if c = m then some ⟨g, 0, none⟩ else some ⟨g, m, none⟩, fun hm => ?_, fun W => ?_⟩
  · rw [if_neg (by omega)]; rfl
  · rw [run_slice_l W t (some ⟨g, 0, none⟩) n c hu .i64 (m : Int) (Int.natCast_nonneg _) (by omega), hel]
    simp [sizeOf, typeInfo, hi, hsz, sliced, Result.andThen, Addr.add]
    split
    · rfl
    · split <;> simp_all
theorem lies_of_R {W : World} {g cap base : Nat} {ok : Nat → Prop} {xs : List Int} (h : Kd.R (Kd.int .i64) 3 W base ok (.slice (some ⟨g, 0, none⟩) xs.length cap) xs) : ∃ post : List Value, Lies W g [] xs post ∧ xs.length + post.length = cap ∧ cap ≤ maxLen := by
  obtain ⟨hn, hr⟩ := Kd.own_of_R (enc := Value.int .i64) (h1 := fun _ => rfl) h
  rcases hr with ⟨hr, _⟩ | ⟨g', cap', cur, hv, hb, hg', h1, h2, h3, h4⟩
  · cases hr
  · have hv1 : g = g' ∧ cap = cap' := by injection hv with a b c; injection a with a; injection a with a; exact ⟨a, c⟩
    obtain ⟨rfl, rfl⟩ := hv1
    have h4' : cur.toList.take xs.length = xs.map (Value.int .i64) := by simpa [encs] using h4
    refine ⟨cur.toList.drop xs.length, ?_, ?_, h2⟩
    · unfold Lies
      rw [hg', ← h4', List.nil_append, List.take_append_drop]
    · rw [List.length_drop]; have h5 : cur.toList.length = cur.size := Array.length_toList; omega
theorem R_of_lies {W : World} {g cap base : Nat} {a b : List Int} {post : List Value} (h : Lies W g (a.map (Value.int .i64)) b post) (hb : base ≤ g) (hc : a.length + b.length + post.length = cap) (hm : cap ≤ maxLen) : Kd.R (Kd.int .i64) 3 W base (fun _ => True) (.slice (some ⟨g, 0, none⟩) (a.length + b.length) cap) (a ++ b) := by
  refine Kd.R_of_own (enc := Value.int .i64) (h1 := fun _ => rfl) ?_ (fun _ _ => trivial)
  rw [List.length_append]
  refine ⟨by simp [encs], .inr ⟨g, cap, _, rfl, hb, h, by omega, hm, by simp only [List.size_toArray, List.length_append, List.length_map]; omega, ?_⟩⟩
  show ((a.map (Value.int .i64)) ++ (b.map (Value.int .i64) ++ post)).take ((a.length + b.length) * 1) = (a ++ b).map (Value.int .i64)
  rw [Nat.mul_one, ← List.append_assoc, ← List.map_append, List.take_append_of_le_length (by simp), List.take_of_length_le (by simp)]
theorem Lies.cut {W : World} {g : Nat} {xs : List Int} {post : List Value} (h : Lies W g [] xs post) (j : Nat) : Lies W g ((xs.take j).map (Value.int .i64)) (xs.drop j) post := by
  unfold Lies at h ⊢
  rw [h, List.nil_append, ← List.append_assoc, ← List.map_append, List.take_append_drop]
theorem order_Next.tab12 : rtab .any (opsOf Try.f14 12) = slices_Reverse_int_int.T3 := by kernel_rfl
theorem order_Next.calls (k : Nat) (A0 : Option Addr) (c0 : Nat) (l0 : List Int) (r1 : List Int) (r2 : Bool) (w : World) (hr0 : Kd.C (Kd.int .i64) w A0 l0.length l0) (hc0 : l0.length ≤ c0) (h : order_Next.f k l0 = some (r1, r2)) :
    Calls Try.prog 14 #[.slice A0 l0.length c0] w fun e w' => ∃ v0_ : Value, e = .returned (.tuple #[v0_, .bool r2]) ∧ Kd.R (Kd.int .i64) 3 w' w.heap.size (fun _ => True) v0_ r1 ∧ Below w.heap.size w w' := by
  have HR0 := Aside0.mk hr0
  have HC0 := Aside0.mk hc0
  clear hr0 hc0
  have HB := Aside0.mk (Below.refl w.heap.size w)
  have H : ((order_right.f k l0).bind fun t => if t = true then order_Next.l0 k l0 (wrap64 ((l0.length : Int) - 2)) else some (([] : List Int), false)) = some (r1, r2) := h
  clear h
  replace H := bi_ H; obtain ⟨t1, A1, H⟩ := H
  (try dsimp only at H)
  by_cases c1 : t1 = true
  · subst c1
    rw [if_pos rfl] at H
    have H' := Aside0.mk H
    clear H
    go_enter Try.func14, Try.ntmps14
    go_wp2_with (first | ((with_reducible refine gc 26 rfl ?_); refine gm_ (some 8) rfl rfl Try.func26 (order_right.calls _ _ _ _ _ _ ?side1 ?side2 A1.out) ag ?_; (case side1 => repeat (first | exact HR0.out | (with_reducible refine Kd.C_alloc ?_ _) | (with_reducible refine Kd.C_drewN ?_ _) | (with_reducible refine Kd.C_drew ?_))); (case side2 => exact HC0.out); intro w4 hb; replace HB := bs HB hb; (try clear hb)))
    go_loopg [4] k (fun kq v4 w' => ∃ (x4 : Int), v4 = .int .i64 x4 ∧ Aside0 (order_Next.l0 kq l0 x4 = some (r1, r2)) ∧ Aside0 (kq ≤ k) ∧ Aside0 (Below w.heap.size w w'))
    case atStart => exact ⟨(wrap64 ((l0.length : Int) - 2)), (aq), H', ⟨Nat.le_refl _⟩, ⟨bf HB⟩⟩
    case round =>
      clear H' HB
      obtain ⟨x4, rfl, HA, HK1, HB⟩ := hrel
      cases gk with
      | zero => exact absurd HA.out (by simp [order_Next.l0])
      | succ k1 =>
        have H := HA.out
        clear HA
        simp only [order_Next.l0] at H
        by_cases c2 : 0 ≤ x4
        · rw [if_pos c2] at H
          have c2b0 : decide (0 ≤ x4) = true := decide_eq_true c2
          by_cases c3 : x4 < (l0.length : Int)
          · rw [if_pos c3] at H
            obtain ⟨j, hj⟩ : ∃ j, wrap64 (x4 + 1) = j := ⟨_, rfl⟩
            rw [hj] at H
            have hj2 : IntKind.i64.wrap (x4 + 1) = j := (i64_w _).trans hj
            by_cases c4 : 0 ≤ j
            · rw [if_pos c4] at H
              by_cases c5 : j < (l0.length : Int)
              · rw [if_pos c5] at H
                have HRw := Kd.C_below HR0.out HB.out
                obtain ⟨ad, ead, hx4⟩ := Kd.at_int HRw x4 c2 c3
                cases ead
                obtain ⟨ad', ead, hx5⟩ := Kd.at_int HRw j c4 c5
                cases ead
                have HRW := Aside0.mk HRw
                clear HRw
                have p2 := eq_true c2
                have p3 := eq_true c3
                have p4 := eq_true c4
                have p5 := eq_true c5
                have C2 := Aside0.mk c2
                have C4 := Aside0.mk c4
                clear c2 c3 c4 c5
                by_cases c6 : rd l0 x4 > rd l0 j
                · rw [if_pos c6] at H
                  have c6b0 : decide (rd l0 j < rd l0 x4) = true := decide_eq_true c6
                  clear c6
                  have H' := Aside0.mk H
                  clear H
                  try go_wp2
                  repeat (go_quiet (fail); try go_wp2)
                  go_roundg k1
                  case measure => have := HK1.out; omega
                  case rel => exact ⟨(wrap64 (x4 - 1)), (aq), H', ⟨by have := HK1.out; omega⟩, ⟨bf HB⟩⟩
                · rw [if_neg c6] at H
                  have c6b0 : decide (rd l0 j < rd l0 x4) = false := decide_eq_false c6
                  clear c6
                  have c2b1 : decide (x4 < 0) = false := decide_eq_false (by have := C2.out; omega)
                  replace H := bi_ H; obtain ⟨cl, A2, H⟩ := H
                  (try dsimp only at H)
                  have H' := Aside0.mk H
                  clear H
                  try go_wp2
                  go_quiet (fail)
                  go_wp2_with (first | ((with_reducible refine gc 27 rfl ?_); refine gl_ (some 32) rfl rfl Try.func27 ((slices_Clone_int_int.calls ad c0 _ _ _ ?side1 HC0.out A2.out).mono ?_) ag; (case side1 => repeat (first | exact HRW.out | (with_reducible refine Kd.C_alloc ?_ _) | (with_reducible refine Kd.C_drewN ?_ _) | (with_reducible refine Kd.C_drew ?_))); rintro e w5 ⟨v5, rfl, ho0, hb⟩; refine ⟨_, rfl, ?_⟩; have HO5 := Aside0.mk (Kd.R_lower ho0 (below_size (bf HB))); replace HB := bs HB hb; (try clear hb); (try clear ho0); obtain ⟨A5, n5, e5⟩ := Kd.R_slice HO5.out; subst e5))
                  clear hx4 hx5 c6b0 HRW p3 p5
                  go_loopg [6] k1 (fun kq v6 w' => ∃ (x6 : Int), v6 = .int .i64 x6 ∧ Aside0 (order_Next.l1 kq x4 cl x6 = some (r1, r2)) ∧ Aside0 (kq ≤ k1) ∧ Aside0 (Kd.R (Kd.int .i64) 3 w' w.heap.size (fun _ => True) (.slice A5 cl.length n5) cl) ∧ Aside0 (Below w.heap.size w w'))
                  case atStart => exact ⟨(wrap64 ((cl.length : Int) - 1)), (aq), H', ⟨Nat.le_refl _⟩, ⟨by (with_reducible repeat (first | apply Kd.R_alloc | apply Kd.R_drewN | apply Kd.R_drew)); exact HO5.out⟩, ⟨bf HB⟩⟩
                  case round =>
                    clear H' HO5 HB
                    obtain ⟨x6, rfl, HA, HK2, HO5, HB⟩ := hrel
                    cases gk with
                    | zero => exact absurd HA.out (by simp [order_Next.l1])
                    | succ k2 =>
                      have H := HA.out
                      clear HA
                      simp only [order_Next.l1] at H
                      by_cases c7 : 0 ≤ x6
                      · rw [if_pos c7] at H
                        by_cases c8 : x6 < (cl.length : Int)
                        · rw [if_pos c8, if_pos C2.out] at H
                          by_cases c10 : x4 < (cl.length : Int)
                          · rw [if_pos c10, hj] at H
                            obtain ⟨g5, co5, e5, gb5, gl5, cl5, HG5⟩ := Kd.R_form HO5.out (by omega)
                            injection e5 with ea_ en_ ec_
                            subst ea_
                            subst ec_
                            clear en_ HG5 cl5
                            have GB5 := Aside0.mk gb5
                            obtain ⟨ad', ead, hy6⟩ := Kd.at_int (Kd.R_reads' HO5.out).2.2 x6 c7 c8
                            cases ead
                            obtain ⟨ad', ead, hy4⟩ := Kd.at_int (Kd.R_reads' HO5.out).2.2 x4 C2.out c10
                            cases ead
                            have C7 := Aside0.mk c7
                            have C8 := Aside0.mk c8
                            have C10 := Aside0.mk c10
                            have HC5 := Aside0.mk (Kd.R_reads' HO5.out).2.1
                            obtain ⟨ad5, had5⟩ : ∃ ad5 : Addr, ad5 = ⟨g5, 0, none⟩ := ⟨_, rfl⟩
                            rw [← had5] at hy6 hy4 ⊢
                            have p7 := eq_true c7
                            have p8 := eq_true c8
                            have p10 := eq_true c10
                            have HAD := Aside0.mk had5
                            clear c7 c8 c10 had5 gb5 gl5
                            by_cases c11 : rd cl x6 < rd cl x4
                            · rw [if_pos c11] at H
                              have c11b0 : decide (rd cl x6 < rd cl x4) = true := decide_eq_true c11
                              clear c11
                              have H' := Aside0.mk H
                              clear H
                              try go_wp2
                              repeat (go_quiet (fail); try go_wp2)
                              rw [HAD.out]
                              go_roundg k2
                              case measure => have := HK2.out; omega
                              case rel => exact ⟨(wrap64 (x6 - 1)), (aq), H', ⟨by have := HK2.out; omega⟩, ⟨by (with_reducible repeat (first | apply Kd.R_alloc | apply Kd.R_drewN | apply Kd.R_drew)); exact HO5.out⟩, ⟨bf HB⟩⟩
                            · rw [if_neg c11, if_pos C4.out] at H
                              have c11b0 : decide (rd cl x6 < rd cl x4) = false := decide_eq_false c11
                              clear c11
                              by_cases c12 : j < (cl.length : Int)
                              · rw [if_pos c12] at H
                                replace H := bi_ H; obtain ⟨rv, A3, H⟩ := H
                                (try dsimp only at H)
                                obtain ⟨y, hy⟩ : ∃ y : List Int, y = (cl.set x4.toNat (rd cl x6)).set x6.toNat (rd cl x4) := ⟨_, rfl⟩
                                rw [← hy] at H A3
                                simp only [Option.some.injEq, Prod.mk.injEq] at H
                                have p12 := eq_true c12
                                have C12 := Aside0.mk c12
                                clear c12
                                obtain ⟨rfl, rfl⟩ := H
                                try go_wp2
                                go_quiet (fail)
                                try go_wp2
                                generalize hW : wr.drewN _ = W1
                                obtain ⟨post, hl0, hpl, hcm⟩ := lies_of_R HO5.out
                                have hl1 : Lies W1.drew g5 [] cl post := by rw [← hW]; exact hl0
                                have hb1 : Below w.heap.size w W1.drew := by rw [← hW]; exact below_drew1 (pw_below_drewN HB.out _)
                                have hl2 := hl1.set x4 C2.out C10.out (rd cl x6)
                                have hl3 := hl2.set x6 C7.out (by rw [List.length_set]; exact C8.out) (rd cl x4)
                                rw [← hy] at hl3
                                obtain ⟨hx6, hf6⟩ := hl1.cell x6 C7.out C8.out
                                obtain ⟨hx4, hf4⟩ := hl1.cell x4 C2.out C10.out
                                obtain ⟨hy6', hg6⟩ := hl2.cell x6 C7.out (by rw [List.length_set]; exact C8.out)
                                have e4 : ad5.add x4.toNat = ⟨g5, ([] : List Value).length + x4.toNat, none⟩ := by rw [HAD.out, add_at]; rfl
                                have e6 : ad5.add x6.toNat = ⟨g5, ([] : List Value).length + x6.toNat, none⟩ := by rw [HAD.out, add_at]; rfl
                                have hb3 : Below w.heap.size w ((W1.drew.setCell (ad5.add x4.toNat) (.int .i64 (rd cl x6))).setCell (ad5.add x6.toNat) (.int .i64 (rd cl x4))) := by rw [e4, e6]; exact below_set (below_set hb1 GB5.out) GB5.out
                                rw [← e4] at hl2 hl3 hx4 hf4 hy6' hg6
                                rw [← e6] at hl3 hx6 hf6 hy6' hg6
                                have hyl : y.length = cl.length := by rw [hy]; simp
                                have hl4 := hl3.cut j.toNat
                                obtain ⟨pre, hpre⟩ : ∃ p : List Value, p = (y.take j.toNat).map (Value.int .i64) := ⟨_, rfl⟩
                                have hprl : pre.length = j.toNat := by rw [hpre]; simp; have := C12.out; have := C4.out; omega
                                obtain ⟨i0, hi0, _, hsz0, _⟩ := info_parts info3
                                obtain ⟨AD, hAD, hcut⟩ := cut_from2 (P := Try.prog) Try.underlying25 hi0 hsz0 g5 cl.length n5 j C4.out (by have := C12.out; omega) HC5.out
                                have hAD' := hAD C12.out
                                rw [← hprl] at hAD'
                                subst hAD'
                                obtain ⟨d, hd⟩ : ∃ d : List Int, d = y.drop j.toNat := ⟨_, rfl⟩
                                have hdl : cl.length - j.toNat = d.length := by rw [hd, List.length_drop, hyl]
                                rw [← hd] at A3 hl4
                                have HD := Aside0.mk hd
                                rw [← HAD.out, hdl] at hcut
                                rw [← hpre] at hl4
                                have HL4 := Aside0.mk hl4
                                have HB3 := Aside0.mk hb3
                                have HYL := Aside0.mk hyl
                                have HPRE := Aside0.mk hpre
                                have HPL := Aside0.mk hpl
                                have HCM := Aside0.mk hcm
                                have hnn : (y.take j.toNat).length = j.toNat := by rw [List.length_take]; have := C12.out; have := C4.out; omega
                                have HNN := Aside0.mk hnn
                                clear hAD hsz0 hl0 hl1 hl2 hl3 hl4 hb1 hb3 hyl hpre hprl hpl hcm hnn hy6 hy4 HO5 HB hy hdl hd c11b0 e4 e6
                                refine start_ (n := 16) (S := fun w' => w'.cell? (ad5.add (x6).toNat) = some (.int .i64 (rd cl x6)) ∧ w'.cell? (ad5.add (x4).toNat) = some (.int .i64 (rd cl x4))) (ds := [13, 15]) (m_ 16 0) (by kernel_rfl) rfl rfl ⟨hx6, hx4⟩ (fun hHeld => ?_); refine with_tabW order_Next.tab12 slices_Reverse_int_int.bits3 (fun HT_ HW_ => ?_)
                                generalize W1.drew = w10 at *
                                refine pu_ 0 (some 47) (m_ 16 1) rfl rfl (ao HT_) ?_
                                refine pu_ 1 (some 48) (m_ 16 3) rfl rfl (ao HT_) ?_
                                refine pu_ 2 (some 49) (m_ 16 7) rfl rfl (ao HT_) ?_
                                refine pu_ 3 (some 50) (m_ 16 15) rfl rfl (ao HT_) ?_
                                refine pu_ 4 (some 51) (m_ 16 31) rfl rfl (ao HT_) ?_
                                refine pu_ 5 (some 52) (m_ 16 63) rfl rfl (ao HT_) ?_
                                refine pu_ 6 (some 53) (m_ 16 127) rfl rfl (ao HT_) ?_
                                refine pu_ 8 (some 55) (m_ 16 383) rfl rfl (ao HT_) ?_
                                refine pu_ 9 (some 56) (m_ 16 895) rfl rfl (ao HT_) ?_
                                refine pu_ 10 (some 57) (m_ 16 1919) rfl rfl (ao HT_) ?_
                                refine tk_ 7 (some 54) (m_ 16 2047) rfl rfl (tw HT_ HW_) hHeld ?_
                                refine tk_ 11 (some 58) (m_ 16 4095) rfl rfl (tw HT_ HW_) hHeld ?_
                                refine pu_ 12 (some 59) (m_ 16 8191) rfl rfl (ao HT_) ?_
                                refine last_ (i := 13) (N := none) (m_ 16 16383) rfl rfl (one_of HT_.out (by kernel_rfl)) (by decide) (fun K hK => ?_)
                                refine skip_ (w1 := ?_) (by rfl) rfl ?_ ?_
                                rotate_left
                                · go_simp
                                  rfl
                                refine hK.out _ _ ?_
                                clear hK K
                                refine pu_ 14 (some 60) (m_ 16 32767) rfl rfl (ao HT_) ?_
                                refine last_ (i := 15) (N := none) (m_ 16 65535) rfl rfl (one_of HT_.out (by kernel_rfl)) (by decide) (fun K hK => ?_)
                                refine skip_ (w1 := ?_) (by rfl) rfl ?_ ?_
                                rotate_left
                                · go_simp
                                  rfl
                                refine hK.out _ _ ?_
                                clear hK K
                                refine done_ (done_of HT_.out (by kernel_rfl)) ?_
                                clear hx4 hx6 hf4 hf6 hy6' hg6 hHeld HT_ HW_
                                generalize ((w10.setCell (ad5.add x4.toNat) (.int .i64 (rd cl x6))).setCell (ad5.add x6.toNat) (.int .i64 (rd cl x4))) = w11 at HL4 HB3 ⊢
                                go_wp2_with (first | (go_at_call 28; (with_reducible refine (slices_Reverse_int_int.calls _ g5 _ pre post d rv w _ (bf HB3) GB5.out HL4.out A3.out).mono ?_); rintro e w12 ⟨rfl, ⟨hl12, hn12⟩, hb12⟩; have HB := Aside0.mk hb12; have HL12 := Aside0.mk hl12; have HN12 := Aside0.mk hn12; clear hl12 hn12 hb12))
                                go_ret2
                                have hlr := HL12.out
                                rw [HPRE.out] at hlr
                                have hln : (y.take j.toNat).length + rv.length = cl.length := by have h1 := HN12.out; have h2 := HYL.out; have h3 := HNN.out; have h4 := C12.out; have h5 := C4.out; rw [HD.out, List.length_drop] at h1; omega
                                have hRR := R_of_lies hlr GB5.out (by have := HPL.out; omega : (y.take j.toNat).length + rv.length + post.length = n5) HCM.out
                                rw [hln, ← HAD.out] at hRR
                                exact ⟨_, ae, hRR, bf HB⟩
                              · rw [if_neg c12] at H
                                exact absurd H (by simp)
                          · rw [if_neg c10] at H
                            exact absurd H (by simp)
                        · rw [if_neg c8] at H
                          exact absurd H (by simp)
                      · rw [if_neg c7] at H
                        exact absurd H (by simp)
              · rw [if_neg c5] at H
                exact absurd H (by simp)
            · rw [if_neg c4] at H
              exact absurd H (by simp)
          · rw [if_neg c3] at H
            exact absurd H (by simp)
        · rw [if_neg c2] at H
          have c2b0 : decide (0 ≤ x4) = false := decide_eq_false c2
          have c2b1 : decide (x4 < 0) = true := decide_eq_true (by omega)
          clear c2
          simp only [Option.some.injEq, Prod.mk.injEq] at H
          obtain ⟨rfl, rfl⟩ := H
          try go_wp2
          repeat (go_quiet (fail); try go_wp2)
          go_ret2
          exact ⟨_, ae, Kd.R_nil _ _ _ _ _, bf HB⟩
  · replace c1 := Bool.eq_false_iff.mpr c1
    subst c1
    rw [if_neg (by decide)] at H
    simp only [Option.some.injEq, Prod.mk.injEq] at H
    obtain ⟨rfl, rfl⟩ := H
    go_enter Try.func14, Try.ntmps14
    go_wp2_with (first | ((with_reducible refine gc 26 rfl ?_); refine gm_ (some 8) rfl rfl Try.func26 (order_right.calls _ _ _ _ _ _ ?side1 ?side2 A1.out) ag ?_; (case side1 => repeat (first | exact HR0.out | (with_reducible refine Kd.C_alloc ?_ _) | (with_reducible refine Kd.C_drewN ?_ _) | (with_reducible refine Kd.C_drew ?_))); (case side2 => exact HC0.out); intro w4 hb; replace HB := bs HB hb; (try clear hb)))
    go_ret2
    exact ⟨_, ae, Kd.R_nil _ _ _ _ _, bf HB⟩

/-! ### order_Rank: function 16 -/
theorem order_Rank.calls (k : Nat) (A0 : Option Addr) (c0 : Nat) (l0 : List Int) (r : Int) (w : World) (hr0 : Kd.C (Kd.int .i64) w A0 l0.length l0) (hc0 : l0.length ≤ c0) (h : order_Rank.f k l0 = some r) :
    Calls Try.prog 16 #[.slice A0 l0.length c0] w fun e w' => e = .returned (.int .i64 r) ∧ Below w.heap.size w w' := by
  have HR0 := Aside0.mk hr0
  have HC0 := Aside0.mk hc0
  clear hr0 hc0
  have HB := Aside0.mk (Below.refl w.heap.size w)
  have H : ((order_right.f k l0).bind fun t108 => (if t108 = true then (order_Rank.l0 k l0 0 l0 (l0.length : Int) 0) else (some (-1)))) = some r := h
  clear h
  replace H := bi_ H; obtain ⟨t108, A2, H⟩ := H
  (try dsimp only at H)
  by_cases c3 : t108 = true
  · subst c3
    have H1 : (order_Rank.l0 k l0 0 l0 (l0.length : Int) 0) = some r := by rw [if_pos rfl] at H; exact H
    clear H
    have H := H1
    clear H1
    have H' := Aside0.mk H
    clear H
    go_enter Try.func16, Try.ntmps16
    go_wp2_with (first | ((with_reducible refine gc 26 rfl ?_); refine gm_ (some 10) rfl rfl Try.func26 (order_right.calls _ _ _ _ _ _ ?side1 ?side2 A2.out) ag ?_; (case side1 => repeat (first | exact HR0.out | (with_reducible refine Kd.C_alloc ?_ _) | (with_reducible refine Kd.C_drewN ?_ _) | (with_reducible refine Kd.C_drew ?_))); (case side2 => exact HC0.out); intro w4 hb; replace HB := bs HB hb; (try clear hb)))
    go_loopg [3, 14] k (fun kq v3 v14 w' => ∃ (x3_1 : Int) (x14_1 : Int), v3 = .int .i64 x3_1 ∧ v14 = .int .i64 x14_1 ∧ Aside0 (order_Rank.l0 kq l0 x3_1 l0 (l0.length : Int) x14_1 = some r) ∧ Aside0 (kq ≤ k) ∧ Aside0 (Below w.heap.size w w'))
    case atStart => exact ⟨(0), (0), (aq), (aq), H', ⟨Nat.le_refl _⟩, ⟨bf HB⟩⟩
    case round =>
      clear H'
      try clear c1
      try clear c2
      try clear p2
      try clear c3
      obtain ⟨x3_1, x14_1, rfl, rfl, HA, HK1, HB⟩ := hrel
      cases gk with
      | zero => exact absurd HA.out (by simp [order_Rank.l0])
      | succ k1 =>
        have H := HA.out
        clear HA
        simp only [order_Rank.l0] at H
        by_cases c5 : x14_1 < (l0.length : Int)
        · rw [if_pos c5] at H
          have c5b0 : decide (x14_1 < (l0.length : Int)) = true := decide_eq_true c5
          clear c5
          by_cases c6 : 0 ≤ x14_1
          · rw [if_pos c6] at H
            have c6b0 : decide (0 ≤ x14_1) = true := decide_eq_true c6
            clear c6
            by_cases c7 : x14_1 < (l0.length : Int)
            · rw [if_pos c7] at H
              have c7b0 : decide (x14_1 < (l0.length : Int)) = true := decide_eq_true c7
              clear c7
              obtain ⟨ji8, hji8⟩ : ∃ j_ : Int, (wrap64 (x14_1 + 1)) = j_ := ⟨_, rfl⟩
              replace H : (if 0 ≤ (ji8) then (if (ji8) ≤ (l0.length : Int) then (order_Rank.l1 k1 l0 x3_1 x14_1 (rd l0 x14_1) 0 l0 (l0.length : Int) x14_1 (l0.drop ((ji8) : Int).toNat) ((l0.drop ((ji8) : Int).toNat).length : Int) 0) else (none)) else (none)) = some r := by first | (rw [hji8] at H; exact H) | (simp only [hji8] at H ⊢; exact H)
              have hji8w : (IntKind.i64.wrap (x14_1 + 1)) = ji8 := (i64_w _).trans hji8
              by_cases c9 : 0 ≤ (ji8)
              · rw [if_pos c9] at H
                have c9b0 := eq_true c9
                have c9b1 : decide (0 ≤ (ji8)) = true := decide_eq_true c9
                clear c9
                by_cases c10 : (ji8) ≤ (l0.length : Int)
                · rw [if_pos c10] at H
                  have c10b0 := eq_true c10
                  have c10b1 : decide ((ji8) ≤ (l0.length : Int)) = true := decide_eq_true c10
                  clear c10
                  have H' := Aside0.mk H
                  clear H
                  have p109 : 0 ≤ (x14_1 : Int) := of_decide_eq_true (by first | (with_reducible assumption) | assumption)
                  have q109 : x14_1 < (l0.length : Int) := of_decide_eq_true (by first | (with_reducible assumption) | assumption)
                  obtain ⟨ad109, e109, hx109_0⟩ := Kd.at_int HR0.out x14_1 p109 q109
                  cases e109
                  replace hx109_0 := (HB.out.cell (World.block_lt_of_cell? w _ hx109_0)).trans hx109_0
                  replace p109 := eq_true p109
                  replace q109 := eq_true q109
                  obtain ⟨i011, hi011, _, hsz11, _⟩ := info_parts info3
                  obtain ⟨A11, hcut11, hA11, hC11⟩ := print_drop_of (P := Try.prog) (Value.int .i64) 0 25 3 .i64 Try.underlying25 hi011 hsz11 (some ad109) c0 l0 (ji8) (of_decide_eq_true (by first | (with_reducible assumption) | assumption)) (of_decide_eq_true (by first | (with_reducible assumption) | assumption)) HC0.out
                  have HR110 := Aside0.mk (Kd.C_of_reads (h1 := fun _ => rfl) (hA11 _ (Kd.reads_of_C HR0.out)))
                  have HC110 := Aside0.mk hC11
                  clear hA11 hC11 hi011 hsz11
                  go_wp2
                  go_loopg [6, 24] k1 (fun kq v6 v24 w' => ∃ (x6_2 : Int) (x24_2 : Int), v6 = .int .i64 x6_2 ∧ v24 = .int .i64 x24_2 ∧ Aside0 (order_Rank.l1 kq l0 x3_1 x14_1 (rd l0 x14_1) x6_2 l0 (l0.length : Int) x14_1 (l0.drop ((ji8) : Int).toNat) ((l0.drop ((ji8) : Int).toNat).length : Int) x24_2 = some r) ∧ Aside0 (kq ≤ k1) ∧ Aside0 (Below w.heap.size w w'))
                  case atStart => exact ⟨(0), (0), (aq), (aq), H', ⟨Nat.le_refl _⟩, ⟨bf HB⟩⟩
                  case round =>
                    clear H'
                    try clear c1
                    try clear p1
                    try clear q1
                    try clear hx1
                    try clear c2
                    try clear p2
                    try clear c3
                    try clear c5
                    try clear c5b0
                    try clear c6
                    try clear c6b0
                    try clear p6
                    try clear c7
                    try clear c7b0
                    try clear c9
                    try clear c9b0
                    try clear c9b1
                    try clear c10
                    try clear c10b0
                    try clear c10b1
                    try clear p10
                    try clear q10
                    try clear hx10
                    try clear hx109_0
                    try clear p109
                    try clear p2
                    try clear q109
                    obtain ⟨x6_2, x24_2, rfl, rfl, HA, HK2, HB⟩ := hrel
                    cases gk with
                    | zero => exact absurd HA.out (by simp [order_Rank.l1])
                    | succ k2 =>
                      have H := HA.out
                      clear HA
                      simp only [order_Rank.l1] at H
                      by_cases c12 : x24_2 < ((l0.drop ((ji8) : Int).toNat).length : Int)
                      · rw [if_pos c12] at H
                        have c12b0 : decide (x24_2 < ((l0.drop ((ji8) : Int).toNat).length : Int)) = true := decide_eq_true c12
                        clear c12
                        by_cases c13 : 0 ≤ x24_2
                        · rw [if_pos c13] at H
                          have c13b0 : decide (0 ≤ x24_2) = true := decide_eq_true c13
                          clear c13
                          by_cases c14 : x24_2 < ((l0.drop ((ji8) : Int).toNat).length : Int)
                          · rw [if_pos c14] at H
                            have c14b0 : decide (x24_2 < ((l0.drop ((ji8) : Int).toNat).length : Int)) = true := decide_eq_true c14
                            clear c14
                            by_cases c15 : (rd (l0.drop ((ji8) : Int).toNat) x24_2) < (rd l0 x14_1)
                            · rw [if_pos c15] at H
                              have c15b0 : decide ((rd (l0.drop ((ji8) : Int).toNat) x24_2) < (rd l0 x14_1)) = true := decide_eq_true c15
                              clear c15
                              have H' := Aside0.mk H
                              clear H
                              have p111 : 0 ≤ (x24_2 : Int) := of_decide_eq_true (by first | (with_reducible assumption) | assumption)
                              have q111 : x24_2 < ((l0.drop ((ji8) : Int).toNat).length : Int) := of_decide_eq_true (by first | (with_reducible assumption) | assumption)
                              obtain ⟨ad111, e111, hx111_0⟩ := Kd.at_int HR110.out x24_2 p111 q111
                              cases e111
                              replace hx111_0 := (HB.out.cell (World.block_lt_of_cell? w _ hx111_0)).trans hx111_0
                              replace p111 := eq_true p111
                              replace q111 := eq_true q111
                              go_wp2
                              go_roundg k2
                              case measure => have := HK1.out; have := HK2.out; omega
                              case rel => exact ⟨(wrap64 (x6_2 + 1)), (wrap64 (x24_2 + 1)), (aq), (aq), H', ⟨by have := HK1.out; have := HK2.out; omega⟩, ⟨bf HB⟩⟩
                            · rw [if_neg c15] at H
                              have c15b0 : decide ((rd (l0.drop ((ji8) : Int).toNat) x24_2) < (rd l0 x14_1)) = false := decide_eq_false c15
                              clear c15
                              have H' := Aside0.mk H
                              clear H
                              have p111 : 0 ≤ (x24_2 : Int) := of_decide_eq_true (by first | (with_reducible assumption) | assumption)
                              have q111 : x24_2 < ((l0.drop ((ji8) : Int).toNat).length : Int) := of_decide_eq_true (by first | (with_reducible assumption) | assumption)
                              obtain ⟨ad111, e111, hx111_0⟩ := Kd.at_int HR110.out x24_2 p111 q111
                              cases e111
                              replace hx111_0 := (HB.out.cell (World.block_lt_of_cell? w _ hx111_0)).trans hx111_0
                              replace p111 := eq_true p111
                              replace q111 := eq_true q111
                              go_wp2
                              go_roundg k2
                              case measure => have := HK1.out; have := HK2.out; omega
                              case rel => exact ⟨(x6_2), (wrap64 (x24_2 + 1)), (aq), (aq), H', ⟨by have := HK1.out; have := HK2.out; omega⟩, ⟨bf HB⟩⟩
                          · rw [if_neg c14] at H
                            exact absurd H (by simp)
                        · rw [if_neg c13] at H
                          exact absurd H (by simp)
                      · rw [if_neg c12] at H
                        have c12b0 : decide (x24_2 < ((l0.drop ((ji8) : Int).toNat).length : Int)) = false := decide_eq_false c12
                        clear c12
                        replace H := bi_ H; obtain ⟨t112, A16, H⟩ := H
                        (try dsimp only at H)
                        have H' := Aside0.mk H
                        clear H
                        go_wp2_with (first | ((with_reducible refine gc 8 rfl ?_); refine gm_ (some 41) rfl rfl Try.func8 (order_Count.calls _ (wrap64 ((wrap64 ((l0.length : Int) - x14_1)) - 1)) _ _ A16.out) ag ?_; rintro w' ⟨nd, rfl⟩))
                        go_roundg k2
                        case measure => have := HK1.out; have := HK2.out; omega
                        case rel => exact ⟨(wrap64 (x3_1 + (wrap64 (x6_2 * t112)))), (wrap64 (x14_1 + 1)), (aq), (aq), H', ⟨by have := HK1.out; have := HK2.out; omega⟩, ⟨bf HB⟩⟩
                · rw [if_neg c10] at H
                  exact absurd H (by simp)
              · rw [if_neg c9] at H
                exact absurd H (by simp)
            · rw [if_neg c7] at H
              exact absurd H (by simp)
          · rw [if_neg c6] at H
            exact absurd H (by simp)
        · rw [if_neg c5] at H
          have c5b0 : decide (x14_1 < (l0.length : Int)) = false := decide_eq_false c5
          clear c5
          obtain rfl := Option.some.inj H
          go_wp2
          go_ret
          exact ⟨ae, bf HB⟩
  · replace c3 := Bool.eq_false_iff.mpr c3
    subst c3
    have H1 : (some (-1)) = some r := by rw [if_neg (show ¬ (false = true) by decide)] at H; exact H
    clear H
    have H := H1
    clear H1
    obtain rfl := Option.some.inj H
    go_enter Try.func16, Try.ntmps16
    go_wp2_with (first | ((with_reducible refine gc 26 rfl ?_); refine gm_ (some 10) rfl rfl Try.func26 (order_right.calls _ _ _ _ _ _ ?side1 ?side2 A2.out) ag ?_; (case side1 => repeat (first | exact HR0.out | (with_reducible refine Kd.C_alloc ?_ _) | (with_reducible refine Kd.C_drewN ?_ _) | (with_reducible refine Kd.C_drew ?_))); (case side2 => exact HC0.out); intro w17 hb; replace HB := bs HB hb; (try clear hb)))
    go_ret
    exact ⟨ae, bf HB⟩

/-! ### carrefourlaw13_awake: function 10 -/
theorem carrefourlaw13_awake.calls (k : Nat)  (r : Bool) (w : World) (h : carrefourlaw13_awake.f k  = some r) :
    Calls Try.prog 10 #[] w fun e w' => e = .returned (.bool r) ∧ Below w.heap.size w w' := by
  have HB := Aside0.mk (Below.refl w.heap.size w)
  have H : ((order_Next.f k (([0, 2, 1] : List Int))).bind fun bt116 => ((order_Nth.f k 3 3).bind fun t120 => ((carrefourref13_Same.f k t120 (([1, 2, 0] : List Int))).bind fun t126 => (if t126 = true then ((order_Rank.f k (([2, 1, 0] : List Int))).bind fun t130 => (if t130 = 5 then (if bt116.2 = true then ((carrefourref13_Same.f k bt116.1 (([1, 0, 2] : List Int))).bind fun t134 => (if t134 = true then ((order_Count.f k 4).bind fun t135 => (some (t135 == 24))) else (some false))) else (some false)) else (some false))) else (some false))))) = some r := h
  clear h
  obtain ⟨y113, hy113⟩ : ∃ y_ : List Int, y_ = (([0, 2, 1] : List Int)) := ⟨_, rfl⟩
  replace H : ((order_Next.f k y113).bind fun bt116 => ((order_Nth.f k 3 3).bind fun t120 => ((carrefourref13_Same.f k t120 (([1, 2, 0] : List Int))).bind fun t126 => (if t126 = true then ((order_Rank.f k (([2, 1, 0] : List Int))).bind fun t130 => (if t130 = 5 then (if bt116.2 = true then ((carrefourref13_Same.f k bt116.1 (([1, 0, 2] : List Int))).bind fun t134 => (if t134 = true then ((order_Count.f k 4).bind fun t135 => (some (t135 == 24))) else (some false))) else (some false)) else (some false))) else (some false))))) = some r := by first | (rw [hy113]; with_reducible exact H) | (have H2_ := (Option.bind_some _ _).symm.trans H; rw [hy113]; with_reducible exact H2_) | (have H2_ := (Option.bind_some _ _).symm.trans H; with_reducible exact H2_) | with_reducible exact H | (rw [hy113]; exact H) | exact H
  have Ny113 := Aside0.mk hy113
  clear hy113
  replace H := bi_ H; obtain ⟨⟨t116, t117⟩, A1, H⟩ := H
  (try dsimp only at H)
  replace H := bi_ H; obtain ⟨t120, A2, H⟩ := H
  (try dsimp only at H)
  obtain ⟨y123, hy123⟩ : ∃ y_ : List Int, y_ = (([1, 2, 0] : List Int)) := ⟨_, rfl⟩
  replace H : ((carrefourref13_Same.f k t120 y123).bind fun t126 => (if t126 = true then ((order_Rank.f k (([2, 1, 0] : List Int))).bind fun t130 => (if t130 = 5 then (if t117 = true then ((carrefourref13_Same.f k t116 (([1, 0, 2] : List Int))).bind fun t134 => (if t134 = true then ((order_Count.f k 4).bind fun t135 => (some (t135 == 24))) else (some false))) else (some false)) else (some false))) else (some false))) = some r := by first | (rw [hy123]; with_reducible exact H) | (have H2_ := (Option.bind_some _ _).symm.trans H; rw [hy123]; with_reducible exact H2_) | (have H2_ := (Option.bind_some _ _).symm.trans H; with_reducible exact H2_) | with_reducible exact H | (rw [hy123]; exact H) | exact H
  have Ny123 := Aside0.mk hy123
  clear hy123
  replace H := bi_ H; obtain ⟨t126, A3, H⟩ := H
  (try dsimp only at H)
  by_cases c4 : t126 = true
  · subst c4
    have H1 : ((order_Rank.f k (([2, 1, 0] : List Int))).bind fun t130 => (if t130 = 5 then (if t117 = true then ((carrefourref13_Same.f k t116 (([1, 0, 2] : List Int))).bind fun t134 => (if t134 = true then ((order_Count.f k 4).bind fun t135 => (some (t135 == 24))) else (some false))) else (some false)) else (some false))) = some r := by rw [if_pos rfl] at H; exact H
    clear H
    have H := H1
    clear H1
    obtain ⟨y127, hy127⟩ : ∃ y_ : List Int, y_ = (([2, 1, 0] : List Int)) := ⟨_, rfl⟩
    replace H : ((order_Rank.f k y127).bind fun t130 => (if t130 = 5 then (if t117 = true then ((carrefourref13_Same.f k t116 (([1, 0, 2] : List Int))).bind fun t134 => (if t134 = true then ((order_Count.f k 4).bind fun t135 => (some (t135 == 24))) else (some false))) else (some false)) else (some false))) = some r := by first | (rw [hy127]; with_reducible exact H) | (have H2_ := (Option.bind_some _ _).symm.trans H; rw [hy127]; with_reducible exact H2_) | (have H2_ := (Option.bind_some _ _).symm.trans H; with_reducible exact H2_) | with_reducible exact H | (rw [hy127]; exact H) | exact H
    have Ny127 := Aside0.mk hy127
    clear hy127
    replace H := bi_ H; obtain ⟨t130, A5, H⟩ := H
    (try dsimp only at H)
    by_cases c6 : t130 = 5
    · rw [if_pos c6] at H
      have c6b0 : (t130 == 5) = true := beq_iff_eq.mpr c6
      have c6b1 : (t130 != 5) = false := bne_eq_false_iff_eq.mpr c6
      clear c6
      by_cases c7 : t117 = true
      · subst c7
        have H1 : ((carrefourref13_Same.f k t116 (([1, 0, 2] : List Int))).bind fun t134 => (if t134 = true then ((order_Count.f k 4).bind fun t135 => (some (t135 == 24))) else (some false))) = some r := by rw [if_pos rfl] at H; exact H
        clear H
        have H := H1
        clear H1
        obtain ⟨y131, hy131⟩ : ∃ y_ : List Int, y_ = (([1, 0, 2] : List Int)) := ⟨_, rfl⟩
        replace H : ((carrefourref13_Same.f k t116 y131).bind fun t134 => (if t134 = true then ((order_Count.f k 4).bind fun t135 => (some (t135 == 24))) else (some false))) = some r := by first | (rw [hy131]; with_reducible exact H) | (have H2_ := (Option.bind_some _ _).symm.trans H; rw [hy131]; with_reducible exact H2_) | (have H2_ := (Option.bind_some _ _).symm.trans H; with_reducible exact H2_) | with_reducible exact H | (rw [hy131]; exact H) | exact H
        have Ny131 := Aside0.mk hy131
        clear hy131
        replace H := bi_ H; obtain ⟨t134, A8, H⟩ := H
        (try dsimp only at H)
        by_cases c9 : t134 = true
        · subst c9
          have H1 : ((order_Count.f k 4).bind fun t135 => (some (t135 == 24))) = some r := by rw [if_pos rfl] at H; exact H
          clear H
          have H := H1
          clear H1
          replace H := bi_ H; obtain ⟨t135, A10, H⟩ := H
          (try dsimp only at H)
          obtain rfl := Option.some.inj H
          go_enter Try.func10, Try.ntmps10
          go_wp2_with (first | ((with_reducible refine gate_dst (N := 4) rfl ?_); (try (refine gate_guard (by rfl) ?_; dsimp only)); refine Kd.R_lit (Kd.int .i64) _ 3 ?hg (N := 4) ?hd (xs := ([0, 2, 1] : List Int)) (inner := [.int .i64 0, .int .i64 2, .int .i64 1]) (ok := fun _ => True) (okp := fun _ => True) ?hr ?hp (fun _ hk => hk) trivial (Below.refl _ _) (Nat.le_refl _) (by simp) ?_; (case hd => rfl); (case hg => rfl); (case hr => first | (go_simp; done) | (go_simp; rfl)); (case hp => exact (Reps.one (show Kd.M (Kd.int .i64) _ _ _ 0 [.int .i64 0] from rfl) (Reps.one (show Kd.M (Kd.int .i64) _ _ _ 2 [.int .i64 2] from rfl) (Reps.one (show Kd.M (Kd.int .i64) _ _ _ 1 [.int .i64 1] from rfl) (Reps.none _ _))))); intro v114 w11 ho12 hb hg_ hnew_; clear hg_ hnew_; (first | rw [← Ny113.out] at ho12 | (simp only [Int.reduceToNat] at ho12; rw [← Ny113.out] at ho12)); have HO115 := Aside0.mk (Kd.R_lower ho12 (below_size (bf HB))); replace HB := bs HB hb; clear hb ho12; obtain ⟨Ao13, co13, eo13⟩ := Kd.R_slice HO115.out; subst eo13) | ((with_reducible refine gc 14 rfl ?_); refine gl_ (some 5) rfl rfl Try.func14 ((order_Next.calls _ _ _ _ _ _ _ ?side1 ?side2 A1.out).mono ?_) ag; (case side1 => exact rc HO115); (case side2 => exact (Kd.R_reads' HO115.out).2.1); rintro e w14 ⟨v118, rfl, ho0, hb⟩; refine ⟨_, rfl, ?_⟩; have HO119 := Aside0.mk (Kd.R_lower (Kd.R_new' ho0 (rl HO115)) (below_size (bf HB))); replace HO115 := re_ HO115 (Kd.R_base ho0) hb; replace HB := bs HB hb; (try clear hb); (try clear ho0)) | ((with_reducible refine gc 12 rfl ?_); refine gl_ (some 8) rfl rfl Try.func12 ((order_Nth.calls _ _ _ _ _ A2.out).mono ?_) ag; rintro e w15 ⟨v121, rfl, ho0, hb⟩; refine ⟨_, rfl, ?_⟩; have HO122 := Aside0.mk (Kd.R_lower (Kd.R_new' (Kd.R_new' ho0 (rl HO115)) (rl HO119)) (below_size (bf HB))); replace HO115 := re_ HO115 (Kd.R_base ho0) hb; replace HO119 := re_ HO119 (Kd.R_base ho0) hb; replace HB := bs HB hb; (try clear hb); (try clear ho0)) | ((with_reducible refine gate_dst (N := 9) rfl ?_); (try (refine gate_guard (by rfl) ?_; dsimp only)); refine Kd.R_lit (Kd.int .i64) _ 3 ?hg (N := 9) ?hd (xs := ([1, 2, 0] : List Int)) (inner := [.int .i64 1, .int .i64 2, .int .i64 0]) (ok := fun _ => True) (okp := fun _ => True) ?hr ?hp (fun _ hk => hk) trivial (Below.refl _ _) (Nat.le_refl _) (by simp) ?_; (case hd => rfl); (case hg => rfl); (case hr => first | (go_simp; done) | (go_simp; rfl)); (case hp => exact (Reps.one (show Kd.M (Kd.int .i64) _ _ _ 1 [.int .i64 1] from rfl) (Reps.one (show Kd.M (Kd.int .i64) _ _ _ 2 [.int .i64 2] from rfl) (Reps.one (show Kd.M (Kd.int .i64) _ _ _ 0 [.int .i64 0] from rfl) (Reps.none _ _))))); intro v124 w16 ho17 hb hg_ hnew_; clear hg_ hnew_; (first | rw [← Ny123.out] at ho17 | (simp only [Int.reduceToNat] at ho17; rw [← Ny123.out] at ho17)); have HO125 := Aside0.mk (Kd.R_lower (Kd.R_new' (Kd.R_new' (Kd.R_new' ho17 (rl HO115)) (rl HO119)) (rl HO122)) (below_size (bf HB))); replace HO115 := re_ HO115 (Kd.R_base ho17) hb; replace HO119 := re_ HO119 (Kd.R_base ho17) hb; replace HO122 := re_ HO122 (Kd.R_base ho17) hb; replace HB := bs HB hb; clear hb ho17; obtain ⟨Ao18, co18, eo18⟩ := Kd.R_slice HO122.out; subst eo18; obtain ⟨Ao19, co19, eo19⟩ := Kd.R_slice HO125.out; subst eo19) | ((with_reducible refine gc 11 rfl ?_); refine gm_ (some 10) rfl rfl Try.func11 (carrefourref13_Same.calls _ _ _ _ _ _ _ _ _ ?side1 ?side2 ?side3 ?side4 A3.out) ag ?_; (case side1 => exact rc HO122); (case side2 => exact (Kd.R_reads' HO122.out).2.1); (case side3 => exact rc HO125); (case side4 => exact (Kd.R_reads' HO125.out).2.1); rintro w' ⟨nd, rfl⟩) | ((with_reducible refine gate_dst (N := 12) rfl ?_); (try (refine gate_guard (by rfl) ?_; dsimp only)); refine Kd.R_lit (Kd.int .i64) _ 3 ?hg (N := 12) ?hd (xs := ([2, 1, 0] : List Int)) (inner := [.int .i64 2, .int .i64 1, .int .i64 0]) (ok := fun _ => True) (okp := fun _ => True) ?hr ?hp (fun _ hk => hk) trivial (Below.refl _ _) (Nat.le_refl _) (by simp) ?_; (case hd => rfl); (case hg => rfl); (case hr => first | (go_simp; done) | (go_simp; rfl)); (case hp => exact (Reps.one (show Kd.M (Kd.int .i64) _ _ _ 2 [.int .i64 2] from rfl) (Reps.one (show Kd.M (Kd.int .i64) _ _ _ 1 [.int .i64 1] from rfl) (Reps.one (show Kd.M (Kd.int .i64) _ _ _ 0 [.int .i64 0] from rfl) (Reps.none _ _))))); intro v128 w20 ho21 hb hg_ hnew_; clear hg_ hnew_; (first | rw [← Ny127.out] at ho21 | (simp only [Int.reduceToNat] at ho21; rw [← Ny127.out] at ho21)); have HO129 := Aside0.mk (Kd.R_lower (Kd.R_new' (Kd.R_new' (Kd.R_new' (Kd.R_new' ho21 (rl HO115)) (rl HO119)) (rl HO122)) (rl HO125)) (below_size (bf HB))); replace HO115 := re_ HO115 (Kd.R_base ho21) hb; replace HO119 := re_ HO119 (Kd.R_base ho21) hb; replace HO122 := re_ HO122 (Kd.R_base ho21) hb; replace HO125 := re_ HO125 (Kd.R_base ho21) hb; replace HB := bs HB hb; clear hb ho21; obtain ⟨Ao22, co22, eo22⟩ := Kd.R_slice HO129.out; subst eo22) | (go_at_call 16; (with_reducible refine (order_Rank.calls _ _ _ _ _ _ ?side1 ?side2 A5.out).mono ?_); (case side1 => exact rc HO129); (case side2 => exact (Kd.R_reads' HO129.out).2.1); rintro e w23 ⟨rfl, hb⟩; replace HO115 := rb HO115 hb; replace HO119 := rb HO119 hb; replace HO122 := rb HO122 hb; replace HO125 := rb HO125 hb; replace HO129 := rb HO129 hb; replace HB := bs HB hb; (try clear hb)) | ((with_reducible refine gate_dst (N := 21) rfl ?_); (try (refine gate_guard (by rfl) ?_; dsimp only)); refine Kd.R_lit (Kd.int .i64) _ 3 ?hg (N := 21) ?hd (xs := ([1, 0, 2] : List Int)) (inner := [.int .i64 1, .int .i64 0, .int .i64 2]) (ok := fun _ => True) (okp := fun _ => True) ?hr ?hp (fun _ hk => hk) trivial (Below.refl _ _) (Nat.le_refl _) (by simp) ?_; (case hd => rfl); (case hg => rfl); (case hr => first | (go_simp; done) | (go_simp; rfl)); (case hp => exact (Reps.one (show Kd.M (Kd.int .i64) _ _ _ 1 [.int .i64 1] from rfl) (Reps.one (show Kd.M (Kd.int .i64) _ _ _ 0 [.int .i64 0] from rfl) (Reps.one (show Kd.M (Kd.int .i64) _ _ _ 2 [.int .i64 2] from rfl) (Reps.none _ _))))); intro v132 w24 ho25 hb hg_ hnew_; clear hg_ hnew_; (first | rw [← Ny131.out] at ho25 | (simp only [Int.reduceToNat] at ho25; rw [← Ny131.out] at ho25)); have HO133 := Aside0.mk (Kd.R_lower (Kd.R_new' (Kd.R_new' (Kd.R_new' (Kd.R_new' (Kd.R_new' ho25 (rl HO115)) (rl HO119)) (rl HO122)) (rl HO125)) (rl HO129)) (below_size (bf HB))); replace HO115 := re_ HO115 (Kd.R_base ho25) hb; replace HO119 := re_ HO119 (Kd.R_base ho25) hb; replace HO122 := re_ HO122 (Kd.R_base ho25) hb; replace HO125 := re_ HO125 (Kd.R_base ho25) hb; replace HO129 := re_ HO129 (Kd.R_base ho25) hb; replace HB := bs HB hb; clear hb ho25; obtain ⟨Ao26, co26, eo26⟩ := Kd.R_slice HO119.out; subst eo26; obtain ⟨Ao27, co27, eo27⟩ := Kd.R_slice HO133.out; subst eo27) | (go_at_call 11; (with_reducible refine (carrefourref13_Same.calls _ _ _ _ _ _ _ _ _ ?side1 ?side2 ?side3 ?side4 A8.out).mono ?_); (case side1 => exact rc HO119); (case side2 => exact (Kd.R_reads' HO119.out).2.1); (case side3 => exact rc HO133); (case side4 => exact (Kd.R_reads' HO133.out).2.1); rintro e w' ⟨rfl, ⟨nd, rfl⟩⟩) | (go_at_call 8; (with_reducible refine (order_Count.calls _ _ _ _ A10.out).mono ?_); rintro e w' ⟨rfl, ⟨nd, rfl⟩⟩))
          go_ret
          exact ⟨ae, bf HB⟩
        · replace c9 := Bool.eq_false_iff.mpr c9
          subst c9
          have H1 : (some false) = some r := by rw [if_neg (show ¬ (false = true) by decide)] at H; exact H
          clear H
          have H := H1
          clear H1
          obtain rfl := Option.some.inj H
          go_enter Try.func10, Try.ntmps10
          go_wp2_with (first | ((with_reducible refine gate_dst (N := 4) rfl ?_); (try (refine gate_guard (by rfl) ?_; dsimp only)); refine Kd.R_lit (Kd.int .i64) _ 3 ?hg (N := 4) ?hd (xs := ([0, 2, 1] : List Int)) (inner := [.int .i64 0, .int .i64 2, .int .i64 1]) (ok := fun _ => True) (okp := fun _ => True) ?hr ?hp (fun _ hk => hk) trivial (Below.refl _ _) (Nat.le_refl _) (by simp) ?_; (case hd => rfl); (case hg => rfl); (case hr => first | (go_simp; done) | (go_simp; rfl)); (case hp => exact (Reps.one (show Kd.M (Kd.int .i64) _ _ _ 0 [.int .i64 0] from rfl) (Reps.one (show Kd.M (Kd.int .i64) _ _ _ 2 [.int .i64 2] from rfl) (Reps.one (show Kd.M (Kd.int .i64) _ _ _ 1 [.int .i64 1] from rfl) (Reps.none _ _))))); intro v114 w28 ho29 hb hg_ hnew_; clear hg_ hnew_; (first | rw [← Ny113.out] at ho29 | (simp only [Int.reduceToNat] at ho29; rw [← Ny113.out] at ho29)); have HO115 := Aside0.mk (Kd.R_lower ho29 (below_size (bf HB))); replace HB := bs HB hb; clear hb ho29; obtain ⟨Ao30, co30, eo30⟩ := Kd.R_slice HO115.out; subst eo30) | ((with_reducible refine gc 14 rfl ?_); refine gl_ (some 5) rfl rfl Try.func14 ((order_Next.calls _ _ _ _ _ _ _ ?side1 ?side2 A1.out).mono ?_) ag; (case side1 => exact rc HO115); (case side2 => exact (Kd.R_reads' HO115.out).2.1); rintro e w31 ⟨v118, rfl, ho0, hb⟩; refine ⟨_, rfl, ?_⟩; have HO119 := Aside0.mk (Kd.R_lower (Kd.R_new' ho0 (rl HO115)) (below_size (bf HB))); replace HO115 := re_ HO115 (Kd.R_base ho0) hb; replace HB := bs HB hb; (try clear hb); (try clear ho0)) | ((with_reducible refine gc 12 rfl ?_); refine gl_ (some 8) rfl rfl Try.func12 ((order_Nth.calls _ _ _ _ _ A2.out).mono ?_) ag; rintro e w32 ⟨v121, rfl, ho0, hb⟩; refine ⟨_, rfl, ?_⟩; have HO122 := Aside0.mk (Kd.R_lower (Kd.R_new' (Kd.R_new' ho0 (rl HO115)) (rl HO119)) (below_size (bf HB))); replace HO115 := re_ HO115 (Kd.R_base ho0) hb; replace HO119 := re_ HO119 (Kd.R_base ho0) hb; replace HB := bs HB hb; (try clear hb); (try clear ho0)) | ((with_reducible refine gate_dst (N := 9) rfl ?_); (try (refine gate_guard (by rfl) ?_; dsimp only)); refine Kd.R_lit (Kd.int .i64) _ 3 ?hg (N := 9) ?hd (xs := ([1, 2, 0] : List Int)) (inner := [.int .i64 1, .int .i64 2, .int .i64 0]) (ok := fun _ => True) (okp := fun _ => True) ?hr ?hp (fun _ hk => hk) trivial (Below.refl _ _) (Nat.le_refl _) (by simp) ?_; (case hd => rfl); (case hg => rfl); (case hr => first | (go_simp; done) | (go_simp; rfl)); (case hp => exact (Reps.one (show Kd.M (Kd.int .i64) _ _ _ 1 [.int .i64 1] from rfl) (Reps.one (show Kd.M (Kd.int .i64) _ _ _ 2 [.int .i64 2] from rfl) (Reps.one (show Kd.M (Kd.int .i64) _ _ _ 0 [.int .i64 0] from rfl) (Reps.none _ _))))); intro v124 w33 ho34 hb hg_ hnew_; clear hg_ hnew_; (first | rw [← Ny123.out] at ho34 | (simp only [Int.reduceToNat] at ho34; rw [← Ny123.out] at ho34)); have HO125 := Aside0.mk (Kd.R_lower (Kd.R_new' (Kd.R_new' (Kd.R_new' ho34 (rl HO115)) (rl HO119)) (rl HO122)) (below_size (bf HB))); replace HO115 := re_ HO115 (Kd.R_base ho34) hb; replace HO119 := re_ HO119 (Kd.R_base ho34) hb; replace HO122 := re_ HO122 (Kd.R_base ho34) hb; replace HB := bs HB hb; clear hb ho34; obtain ⟨Ao35, co35, eo35⟩ := Kd.R_slice HO122.out; subst eo35; obtain ⟨Ao36, co36, eo36⟩ := Kd.R_slice HO125.out; subst eo36) | ((with_reducible refine gc 11 rfl ?_); refine gm_ (some 10) rfl rfl Try.func11 (carrefourref13_Same.calls _ _ _ _ _ _ _ _ _ ?side1 ?side2 ?side3 ?side4 A3.out) ag ?_; (case side1 => exact rc HO122); (case side2 => exact (Kd.R_reads' HO122.out).2.1); (case side3 => exact rc HO125); (case side4 => exact (Kd.R_reads' HO125.out).2.1); rintro w' ⟨nd, rfl⟩) | ((with_reducible refine gate_dst (N := 12) rfl ?_); (try (refine gate_guard (by rfl) ?_; dsimp only)); refine Kd.R_lit (Kd.int .i64) _ 3 ?hg (N := 12) ?hd (xs := ([2, 1, 0] : List Int)) (inner := [.int .i64 2, .int .i64 1, .int .i64 0]) (ok := fun _ => True) (okp := fun _ => True) ?hr ?hp (fun _ hk => hk) trivial (Below.refl _ _) (Nat.le_refl _) (by simp) ?_; (case hd => rfl); (case hg => rfl); (case hr => first | (go_simp; done) | (go_simp; rfl)); (case hp => exact (Reps.one (show Kd.M (Kd.int .i64) _ _ _ 2 [.int .i64 2] from rfl) (Reps.one (show Kd.M (Kd.int .i64) _ _ _ 1 [.int .i64 1] from rfl) (Reps.one (show Kd.M (Kd.int .i64) _ _ _ 0 [.int .i64 0] from rfl) (Reps.none _ _))))); intro v128 w37 ho38 hb hg_ hnew_; clear hg_ hnew_; (first | rw [← Ny127.out] at ho38 | (simp only [Int.reduceToNat] at ho38; rw [← Ny127.out] at ho38)); have HO129 := Aside0.mk (Kd.R_lower (Kd.R_new' (Kd.R_new' (Kd.R_new' (Kd.R_new' ho38 (rl HO115)) (rl HO119)) (rl HO122)) (rl HO125)) (below_size (bf HB))); replace HO115 := re_ HO115 (Kd.R_base ho38) hb; replace HO119 := re_ HO119 (Kd.R_base ho38) hb; replace HO122 := re_ HO122 (Kd.R_base ho38) hb; replace HO125 := re_ HO125 (Kd.R_base ho38) hb; replace HB := bs HB hb; clear hb ho38; obtain ⟨Ao39, co39, eo39⟩ := Kd.R_slice HO129.out; subst eo39) | (go_at_call 16; (with_reducible refine (order_Rank.calls _ _ _ _ _ _ ?side1 ?side2 A5.out).mono ?_); (case side1 => exact rc HO129); (case side2 => exact (Kd.R_reads' HO129.out).2.1); rintro e w40 ⟨rfl, hb⟩; replace HO115 := rb HO115 hb; replace HO119 := rb HO119 hb; replace HO122 := rb HO122 hb; replace HO125 := rb HO125 hb; replace HO129 := rb HO129 hb; replace HB := bs HB hb; (try clear hb)) | ((with_reducible refine gate_dst (N := 21) rfl ?_); (try (refine gate_guard (by rfl) ?_; dsimp only)); refine Kd.R_lit (Kd.int .i64) _ 3 ?hg (N := 21) ?hd (xs := ([1, 0, 2] : List Int)) (inner := [.int .i64 1, .int .i64 0, .int .i64 2]) (ok := fun _ => True) (okp := fun _ => True) ?hr ?hp (fun _ hk => hk) trivial (Below.refl _ _) (Nat.le_refl _) (by simp) ?_; (case hd => rfl); (case hg => rfl); (case hr => first | (go_simp; done) | (go_simp; rfl)); (case hp => exact (Reps.one (show Kd.M (Kd.int .i64) _ _ _ 1 [.int .i64 1] from rfl) (Reps.one (show Kd.M (Kd.int .i64) _ _ _ 0 [.int .i64 0] from rfl) (Reps.one (show Kd.M (Kd.int .i64) _ _ _ 2 [.int .i64 2] from rfl) (Reps.none _ _))))); intro v132 w41 ho42 hb hg_ hnew_; clear hg_ hnew_; (first | rw [← Ny131.out] at ho42 | (simp only [Int.reduceToNat] at ho42; rw [← Ny131.out] at ho42)); have HO133 := Aside0.mk (Kd.R_lower (Kd.R_new' (Kd.R_new' (Kd.R_new' (Kd.R_new' (Kd.R_new' ho42 (rl HO115)) (rl HO119)) (rl HO122)) (rl HO125)) (rl HO129)) (below_size (bf HB))); replace HO115 := re_ HO115 (Kd.R_base ho42) hb; replace HO119 := re_ HO119 (Kd.R_base ho42) hb; replace HO122 := re_ HO122 (Kd.R_base ho42) hb; replace HO125 := re_ HO125 (Kd.R_base ho42) hb; replace HO129 := re_ HO129 (Kd.R_base ho42) hb; replace HB := bs HB hb; clear hb ho42; obtain ⟨Ao43, co43, eo43⟩ := Kd.R_slice HO119.out; subst eo43; obtain ⟨Ao44, co44, eo44⟩ := Kd.R_slice HO133.out; subst eo44) | (go_at_call 11; (with_reducible refine (carrefourref13_Same.calls _ _ _ _ _ _ _ _ _ ?side1 ?side2 ?side3 ?side4 A8.out).mono ?_); (case side1 => exact rc HO119); (case side2 => exact (Kd.R_reads' HO119.out).2.1); (case side3 => exact rc HO133); (case side4 => exact (Kd.R_reads' HO133.out).2.1); rintro e w' ⟨rfl, ⟨nd, rfl⟩⟩))
          go_ret
          exact ⟨ae, bf HB⟩
      · replace c7 := Bool.eq_false_iff.mpr c7
        subst c7
        have H1 : (some false) = some r := by rw [if_neg (show ¬ (false = true) by decide)] at H; exact H
        clear H
        have H := H1
        clear H1
        obtain rfl := Option.some.inj H
        go_enter Try.func10, Try.ntmps10
        go_wp2_with (first | ((with_reducible refine gate_dst (N := 4) rfl ?_); (try (refine gate_guard (by rfl) ?_; dsimp only)); refine Kd.R_lit (Kd.int .i64) _ 3 ?hg (N := 4) ?hd (xs := ([0, 2, 1] : List Int)) (inner := [.int .i64 0, .int .i64 2, .int .i64 1]) (ok := fun _ => True) (okp := fun _ => True) ?hr ?hp (fun _ hk => hk) trivial (Below.refl _ _) (Nat.le_refl _) (by simp) ?_; (case hd => rfl); (case hg => rfl); (case hr => first | (go_simp; done) | (go_simp; rfl)); (case hp => exact (Reps.one (show Kd.M (Kd.int .i64) _ _ _ 0 [.int .i64 0] from rfl) (Reps.one (show Kd.M (Kd.int .i64) _ _ _ 2 [.int .i64 2] from rfl) (Reps.one (show Kd.M (Kd.int .i64) _ _ _ 1 [.int .i64 1] from rfl) (Reps.none _ _))))); intro v114 w45 ho46 hb hg_ hnew_; clear hg_ hnew_; (first | rw [← Ny113.out] at ho46 | (simp only [Int.reduceToNat] at ho46; rw [← Ny113.out] at ho46)); have HO115 := Aside0.mk (Kd.R_lower ho46 (below_size (bf HB))); replace HB := bs HB hb; clear hb ho46; obtain ⟨Ao47, co47, eo47⟩ := Kd.R_slice HO115.out; subst eo47) | ((with_reducible refine gc 14 rfl ?_); refine gl_ (some 5) rfl rfl Try.func14 ((order_Next.calls _ _ _ _ _ _ _ ?side1 ?side2 A1.out).mono ?_) ag; (case side1 => exact rc HO115); (case side2 => exact (Kd.R_reads' HO115.out).2.1); rintro e w48 ⟨v118, rfl, ho0, hb⟩; refine ⟨_, rfl, ?_⟩; have HO119 := Aside0.mk (Kd.R_lower (Kd.R_new' ho0 (rl HO115)) (below_size (bf HB))); replace HO115 := re_ HO115 (Kd.R_base ho0) hb; replace HB := bs HB hb; (try clear hb); (try clear ho0)) | ((with_reducible refine gc 12 rfl ?_); refine gl_ (some 8) rfl rfl Try.func12 ((order_Nth.calls _ _ _ _ _ A2.out).mono ?_) ag; rintro e w49 ⟨v121, rfl, ho0, hb⟩; refine ⟨_, rfl, ?_⟩; have HO122 := Aside0.mk (Kd.R_lower (Kd.R_new' (Kd.R_new' ho0 (rl HO115)) (rl HO119)) (below_size (bf HB))); replace HO115 := re_ HO115 (Kd.R_base ho0) hb; replace HO119 := re_ HO119 (Kd.R_base ho0) hb; replace HB := bs HB hb; (try clear hb); (try clear ho0)) | ((with_reducible refine gate_dst (N := 9) rfl ?_); (try (refine gate_guard (by rfl) ?_; dsimp only)); refine Kd.R_lit (Kd.int .i64) _ 3 ?hg (N := 9) ?hd (xs := ([1, 2, 0] : List Int)) (inner := [.int .i64 1, .int .i64 2, .int .i64 0]) (ok := fun _ => True) (okp := fun _ => True) ?hr ?hp (fun _ hk => hk) trivial (Below.refl _ _) (Nat.le_refl _) (by simp) ?_; (case hd => rfl); (case hg => rfl); (case hr => first | (go_simp; done) | (go_simp; rfl)); (case hp => exact (Reps.one (show Kd.M (Kd.int .i64) _ _ _ 1 [.int .i64 1] from rfl) (Reps.one (show Kd.M (Kd.int .i64) _ _ _ 2 [.int .i64 2] from rfl) (Reps.one (show Kd.M (Kd.int .i64) _ _ _ 0 [.int .i64 0] from rfl) (Reps.none _ _))))); intro v124 w50 ho51 hb hg_ hnew_; clear hg_ hnew_; (first | rw [← Ny123.out] at ho51 | (simp only [Int.reduceToNat] at ho51; rw [← Ny123.out] at ho51)); have HO125 := Aside0.mk (Kd.R_lower (Kd.R_new' (Kd.R_new' (Kd.R_new' ho51 (rl HO115)) (rl HO119)) (rl HO122)) (below_size (bf HB))); replace HO115 := re_ HO115 (Kd.R_base ho51) hb; replace HO119 := re_ HO119 (Kd.R_base ho51) hb; replace HO122 := re_ HO122 (Kd.R_base ho51) hb; replace HB := bs HB hb; clear hb ho51; obtain ⟨Ao52, co52, eo52⟩ := Kd.R_slice HO122.out; subst eo52; obtain ⟨Ao53, co53, eo53⟩ := Kd.R_slice HO125.out; subst eo53) | ((with_reducible refine gc 11 rfl ?_); refine gm_ (some 10) rfl rfl Try.func11 (carrefourref13_Same.calls _ _ _ _ _ _ _ _ _ ?side1 ?side2 ?side3 ?side4 A3.out) ag ?_; (case side1 => exact rc HO122); (case side2 => exact (Kd.R_reads' HO122.out).2.1); (case side3 => exact rc HO125); (case side4 => exact (Kd.R_reads' HO125.out).2.1); rintro w' ⟨nd, rfl⟩) | ((with_reducible refine gate_dst (N := 12) rfl ?_); (try (refine gate_guard (by rfl) ?_; dsimp only)); refine Kd.R_lit (Kd.int .i64) _ 3 ?hg (N := 12) ?hd (xs := ([2, 1, 0] : List Int)) (inner := [.int .i64 2, .int .i64 1, .int .i64 0]) (ok := fun _ => True) (okp := fun _ => True) ?hr ?hp (fun _ hk => hk) trivial (Below.refl _ _) (Nat.le_refl _) (by simp) ?_; (case hd => rfl); (case hg => rfl); (case hr => first | (go_simp; done) | (go_simp; rfl)); (case hp => exact (Reps.one (show Kd.M (Kd.int .i64) _ _ _ 2 [.int .i64 2] from rfl) (Reps.one (show Kd.M (Kd.int .i64) _ _ _ 1 [.int .i64 1] from rfl) (Reps.one (show Kd.M (Kd.int .i64) _ _ _ 0 [.int .i64 0] from rfl) (Reps.none _ _))))); intro v128 w54 ho55 hb hg_ hnew_; clear hg_ hnew_; (first | rw [← Ny127.out] at ho55 | (simp only [Int.reduceToNat] at ho55; rw [← Ny127.out] at ho55)); have HO129 := Aside0.mk (Kd.R_lower (Kd.R_new' (Kd.R_new' (Kd.R_new' (Kd.R_new' ho55 (rl HO115)) (rl HO119)) (rl HO122)) (rl HO125)) (below_size (bf HB))); replace HO115 := re_ HO115 (Kd.R_base ho55) hb; replace HO119 := re_ HO119 (Kd.R_base ho55) hb; replace HO122 := re_ HO122 (Kd.R_base ho55) hb; replace HO125 := re_ HO125 (Kd.R_base ho55) hb; replace HB := bs HB hb; clear hb ho55; obtain ⟨Ao56, co56, eo56⟩ := Kd.R_slice HO129.out; subst eo56) | (go_at_call 16; (with_reducible refine (order_Rank.calls _ _ _ _ _ _ ?side1 ?side2 A5.out).mono ?_); (case side1 => exact rc HO129); (case side2 => exact (Kd.R_reads' HO129.out).2.1); rintro e w57 ⟨rfl, hb⟩; replace HO115 := rb HO115 hb; replace HO119 := rb HO119 hb; replace HO122 := rb HO122 hb; replace HO125 := rb HO125 hb; replace HO129 := rb HO129 hb; replace HB := bs HB hb; (try clear hb)))
        go_ret
        exact ⟨ae, bf HB⟩
    · rw [if_neg c6] at H
      have c6b0 : (t130 == 5) = false := beq_eq_false_iff_ne.mpr c6
      have c6b1 : (t130 != 5) = true := bne_iff_ne.mpr c6
      obtain rfl := Option.some.inj H
      go_enter Try.func10, Try.ntmps10
      go_wp2_with (first | ((with_reducible refine gate_dst (N := 4) rfl ?_); (try (refine gate_guard (by rfl) ?_; dsimp only)); refine Kd.R_lit (Kd.int .i64) _ 3 ?hg (N := 4) ?hd (xs := ([0, 2, 1] : List Int)) (inner := [.int .i64 0, .int .i64 2, .int .i64 1]) (ok := fun _ => True) (okp := fun _ => True) ?hr ?hp (fun _ hk => hk) trivial (Below.refl _ _) (Nat.le_refl _) (by simp) ?_; (case hd => rfl); (case hg => rfl); (case hr => first | (go_simp; done) | (go_simp; rfl)); (case hp => exact (Reps.one (show Kd.M (Kd.int .i64) _ _ _ 0 [.int .i64 0] from rfl) (Reps.one (show Kd.M (Kd.int .i64) _ _ _ 2 [.int .i64 2] from rfl) (Reps.one (show Kd.M (Kd.int .i64) _ _ _ 1 [.int .i64 1] from rfl) (Reps.none _ _))))); intro v114 w58 ho59 hb hg_ hnew_; clear hg_ hnew_; (first | rw [← Ny113.out] at ho59 | (simp only [Int.reduceToNat] at ho59; rw [← Ny113.out] at ho59)); have HO115 := Aside0.mk (Kd.R_lower ho59 (below_size (bf HB))); replace HB := bs HB hb; clear hb ho59; obtain ⟨Ao60, co60, eo60⟩ := Kd.R_slice HO115.out; subst eo60) | ((with_reducible refine gc 14 rfl ?_); refine gl_ (some 5) rfl rfl Try.func14 ((order_Next.calls _ _ _ _ _ _ _ ?side1 ?side2 A1.out).mono ?_) ag; (case side1 => exact rc HO115); (case side2 => exact (Kd.R_reads' HO115.out).2.1); rintro e w61 ⟨v118, rfl, ho0, hb⟩; refine ⟨_, rfl, ?_⟩; have HO119 := Aside0.mk (Kd.R_lower (Kd.R_new' ho0 (rl HO115)) (below_size (bf HB))); replace HO115 := re_ HO115 (Kd.R_base ho0) hb; replace HB := bs HB hb; (try clear hb); (try clear ho0)) | ((with_reducible refine gc 12 rfl ?_); refine gl_ (some 8) rfl rfl Try.func12 ((order_Nth.calls _ _ _ _ _ A2.out).mono ?_) ag; rintro e w62 ⟨v121, rfl, ho0, hb⟩; refine ⟨_, rfl, ?_⟩; have HO122 := Aside0.mk (Kd.R_lower (Kd.R_new' (Kd.R_new' ho0 (rl HO115)) (rl HO119)) (below_size (bf HB))); replace HO115 := re_ HO115 (Kd.R_base ho0) hb; replace HO119 := re_ HO119 (Kd.R_base ho0) hb; replace HB := bs HB hb; (try clear hb); (try clear ho0)) | ((with_reducible refine gate_dst (N := 9) rfl ?_); (try (refine gate_guard (by rfl) ?_; dsimp only)); refine Kd.R_lit (Kd.int .i64) _ 3 ?hg (N := 9) ?hd (xs := ([1, 2, 0] : List Int)) (inner := [.int .i64 1, .int .i64 2, .int .i64 0]) (ok := fun _ => True) (okp := fun _ => True) ?hr ?hp (fun _ hk => hk) trivial (Below.refl _ _) (Nat.le_refl _) (by simp) ?_; (case hd => rfl); (case hg => rfl); (case hr => first | (go_simp; done) | (go_simp; rfl)); (case hp => exact (Reps.one (show Kd.M (Kd.int .i64) _ _ _ 1 [.int .i64 1] from rfl) (Reps.one (show Kd.M (Kd.int .i64) _ _ _ 2 [.int .i64 2] from rfl) (Reps.one (show Kd.M (Kd.int .i64) _ _ _ 0 [.int .i64 0] from rfl) (Reps.none _ _))))); intro v124 w63 ho64 hb hg_ hnew_; clear hg_ hnew_; (first | rw [← Ny123.out] at ho64 | (simp only [Int.reduceToNat] at ho64; rw [← Ny123.out] at ho64)); have HO125 := Aside0.mk (Kd.R_lower (Kd.R_new' (Kd.R_new' (Kd.R_new' ho64 (rl HO115)) (rl HO119)) (rl HO122)) (below_size (bf HB))); replace HO115 := re_ HO115 (Kd.R_base ho64) hb; replace HO119 := re_ HO119 (Kd.R_base ho64) hb; replace HO122 := re_ HO122 (Kd.R_base ho64) hb; replace HB := bs HB hb; clear hb ho64; obtain ⟨Ao65, co65, eo65⟩ := Kd.R_slice HO122.out; subst eo65; obtain ⟨Ao66, co66, eo66⟩ := Kd.R_slice HO125.out; subst eo66) | ((with_reducible refine gc 11 rfl ?_); refine gm_ (some 10) rfl rfl Try.func11 (carrefourref13_Same.calls _ _ _ _ _ _ _ _ _ ?side1 ?side2 ?side3 ?side4 A3.out) ag ?_; (case side1 => exact rc HO122); (case side2 => exact (Kd.R_reads' HO122.out).2.1); (case side3 => exact rc HO125); (case side4 => exact (Kd.R_reads' HO125.out).2.1); rintro w' ⟨nd, rfl⟩) | ((with_reducible refine gate_dst (N := 12) rfl ?_); (try (refine gate_guard (by rfl) ?_; dsimp only)); refine Kd.R_lit (Kd.int .i64) _ 3 ?hg (N := 12) ?hd (xs := ([2, 1, 0] : List Int)) (inner := [.int .i64 2, .int .i64 1, .int .i64 0]) (ok := fun _ => True) (okp := fun _ => True) ?hr ?hp (fun _ hk => hk) trivial (Below.refl _ _) (Nat.le_refl _) (by simp) ?_; (case hd => rfl); (case hg => rfl); (case hr => first | (go_simp; done) | (go_simp; rfl)); (case hp => exact (Reps.one (show Kd.M (Kd.int .i64) _ _ _ 2 [.int .i64 2] from rfl) (Reps.one (show Kd.M (Kd.int .i64) _ _ _ 1 [.int .i64 1] from rfl) (Reps.one (show Kd.M (Kd.int .i64) _ _ _ 0 [.int .i64 0] from rfl) (Reps.none _ _))))); intro v128 w67 ho68 hb hg_ hnew_; clear hg_ hnew_; (first | rw [← Ny127.out] at ho68 | (simp only [Int.reduceToNat] at ho68; rw [← Ny127.out] at ho68)); have HO129 := Aside0.mk (Kd.R_lower (Kd.R_new' (Kd.R_new' (Kd.R_new' (Kd.R_new' ho68 (rl HO115)) (rl HO119)) (rl HO122)) (rl HO125)) (below_size (bf HB))); replace HO115 := re_ HO115 (Kd.R_base ho68) hb; replace HO119 := re_ HO119 (Kd.R_base ho68) hb; replace HO122 := re_ HO122 (Kd.R_base ho68) hb; replace HO125 := re_ HO125 (Kd.R_base ho68) hb; replace HB := bs HB hb; clear hb ho68; obtain ⟨Ao69, co69, eo69⟩ := Kd.R_slice HO129.out; subst eo69) | (go_at_call 16; (with_reducible refine (order_Rank.calls _ _ _ _ _ _ ?side1 ?side2 A5.out).mono ?_); (case side1 => exact rc HO129); (case side2 => exact (Kd.R_reads' HO129.out).2.1); rintro e w70 ⟨rfl, hb⟩; replace HO115 := rb HO115 hb; replace HO119 := rb HO119 hb; replace HO122 := rb HO122 hb; replace HO125 := rb HO125 hb; replace HO129 := rb HO129 hb; replace HB := bs HB hb; (try clear hb)))
      go_ret
      exact ⟨ae, bf HB⟩
  · replace c4 := Bool.eq_false_iff.mpr c4
    subst c4
    have H1 : (some false) = some r := by rw [if_neg (show ¬ (false = true) by decide)] at H; exact H
    clear H
    have H := H1
    clear H1
    obtain rfl := Option.some.inj H
    go_enter Try.func10, Try.ntmps10
    go_wp2_with (first | ((with_reducible refine gate_dst (N := 4) rfl ?_); (try (refine gate_guard (by rfl) ?_; dsimp only)); refine Kd.R_lit (Kd.int .i64) _ 3 ?hg (N := 4) ?hd (xs := ([0, 2, 1] : List Int)) (inner := [.int .i64 0, .int .i64 2, .int .i64 1]) (ok := fun _ => True) (okp := fun _ => True) ?hr ?hp (fun _ hk => hk) trivial (Below.refl _ _) (Nat.le_refl _) (by simp) ?_; (case hd => rfl); (case hg => rfl); (case hr => first | (go_simp; done) | (go_simp; rfl)); (case hp => exact (Reps.one (show Kd.M (Kd.int .i64) _ _ _ 0 [.int .i64 0] from rfl) (Reps.one (show Kd.M (Kd.int .i64) _ _ _ 2 [.int .i64 2] from rfl) (Reps.one (show Kd.M (Kd.int .i64) _ _ _ 1 [.int .i64 1] from rfl) (Reps.none _ _))))); intro v114 w71 ho72 hb hg_ hnew_; clear hg_ hnew_; (first | rw [← Ny113.out] at ho72 | (simp only [Int.reduceToNat] at ho72; rw [← Ny113.out] at ho72)); have HO115 := Aside0.mk (Kd.R_lower ho72 (below_size (bf HB))); replace HB := bs HB hb; clear hb ho72; obtain ⟨Ao73, co73, eo73⟩ := Kd.R_slice HO115.out; subst eo73) | ((with_reducible refine gc 14 rfl ?_); refine gl_ (some 5) rfl rfl Try.func14 ((order_Next.calls _ _ _ _ _ _ _ ?side1 ?side2 A1.out).mono ?_) ag; (case side1 => exact rc HO115); (case side2 => exact (Kd.R_reads' HO115.out).2.1); rintro e w74 ⟨v118, rfl, ho0, hb⟩; refine ⟨_, rfl, ?_⟩; have HO119 := Aside0.mk (Kd.R_lower (Kd.R_new' ho0 (rl HO115)) (below_size (bf HB))); replace HO115 := re_ HO115 (Kd.R_base ho0) hb; replace HB := bs HB hb; (try clear hb); (try clear ho0)) | ((with_reducible refine gc 12 rfl ?_); refine gl_ (some 8) rfl rfl Try.func12 ((order_Nth.calls _ _ _ _ _ A2.out).mono ?_) ag; rintro e w75 ⟨v121, rfl, ho0, hb⟩; refine ⟨_, rfl, ?_⟩; have HO122 := Aside0.mk (Kd.R_lower (Kd.R_new' (Kd.R_new' ho0 (rl HO115)) (rl HO119)) (below_size (bf HB))); replace HO115 := re_ HO115 (Kd.R_base ho0) hb; replace HO119 := re_ HO119 (Kd.R_base ho0) hb; replace HB := bs HB hb; (try clear hb); (try clear ho0)) | ((with_reducible refine gate_dst (N := 9) rfl ?_); (try (refine gate_guard (by rfl) ?_; dsimp only)); refine Kd.R_lit (Kd.int .i64) _ 3 ?hg (N := 9) ?hd (xs := ([1, 2, 0] : List Int)) (inner := [.int .i64 1, .int .i64 2, .int .i64 0]) (ok := fun _ => True) (okp := fun _ => True) ?hr ?hp (fun _ hk => hk) trivial (Below.refl _ _) (Nat.le_refl _) (by simp) ?_; (case hd => rfl); (case hg => rfl); (case hr => first | (go_simp; done) | (go_simp; rfl)); (case hp => exact (Reps.one (show Kd.M (Kd.int .i64) _ _ _ 1 [.int .i64 1] from rfl) (Reps.one (show Kd.M (Kd.int .i64) _ _ _ 2 [.int .i64 2] from rfl) (Reps.one (show Kd.M (Kd.int .i64) _ _ _ 0 [.int .i64 0] from rfl) (Reps.none _ _))))); intro v124 w76 ho77 hb hg_ hnew_; clear hg_ hnew_; (first | rw [← Ny123.out] at ho77 | (simp only [Int.reduceToNat] at ho77; rw [← Ny123.out] at ho77)); have HO125 := Aside0.mk (Kd.R_lower (Kd.R_new' (Kd.R_new' (Kd.R_new' ho77 (rl HO115)) (rl HO119)) (rl HO122)) (below_size (bf HB))); replace HO115 := re_ HO115 (Kd.R_base ho77) hb; replace HO119 := re_ HO119 (Kd.R_base ho77) hb; replace HO122 := re_ HO122 (Kd.R_base ho77) hb; replace HB := bs HB hb; clear hb ho77; obtain ⟨Ao78, co78, eo78⟩ := Kd.R_slice HO122.out; subst eo78; obtain ⟨Ao79, co79, eo79⟩ := Kd.R_slice HO125.out; subst eo79) | ((with_reducible refine gc 11 rfl ?_); refine gm_ (some 10) rfl rfl Try.func11 (carrefourref13_Same.calls _ _ _ _ _ _ _ _ _ ?side1 ?side2 ?side3 ?side4 A3.out) ag ?_; (case side1 => exact rc HO122); (case side2 => exact (Kd.R_reads' HO122.out).2.1); (case side3 => exact rc HO125); (case side4 => exact (Kd.R_reads' HO125.out).2.1); rintro w' ⟨nd, rfl⟩))
    go_ret
    exact ⟨ae, bf HB⟩

end Go.Proofs.Ytnhnmbfhepeadaa.X
