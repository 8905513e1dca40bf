/- (*table).row, walked. Conditions: as each theorem's head says. -/
import Derived.Test.YtkbffpadkdgbmaaGreatDoorH1
namespace Go.Proofs.YtkbffpadkdgbmaaGreatDoor.X
open Go.RowKit Go.Proofs.YtkbffpadkdgbmaaGreatDoorW.PrintWords Go.Proofs.YtkbffpadkdgbmaaGreatDoorW.PrintLast Go.Proofs.YtkbffpadkdgbmaaGreatDoorW.PrintMore
set_option linter.unusedVariables false
set_option linter.unusedSimpArgs false
set_option maxHeartbeats 1000000
set_option maxRecDepth 100000
attribute [local go_sem] max2_int min2_int max_two min_two max_three min_three max_four min_four
theorem hinfo28 : (Tryz.prog.info? 28).map (fun i => (i.zero, i.size, i.bytes)) = some (some (.slice none 0 0), 1, 24) := by kernel_rfl
theorem hinfo3 : (Tryz.prog.info? 3).map (fun i => (i.zero, i.size, i.bytes)) = some (some (.int .i64 0), 1, 8) := by kernel_rfl
theorem take_rdB {l : List ByteArray} {x : Int} (h0 : 0 ≤ x) (h1 : x < l.length) : l.take (x + 1).toNat = l.take x.toNat ++ [rdOf ByteArray.empty l x] := by
  obtain ⟨i, rfl⟩ := Int.eq_ofNat_of_zero_le h0
  have e : ((i : Int) + 1).toNat = i + 1 := by omega
  have hi : i < l.length := by omega
  rw [e, Int.toNat_natCast, List.take_succ_eq_append_getElem hi]
  simp [rdOf, hi]
theorem wid_step {l : List ByteArray} {ws zs : List Int} {x : Int} (h0 : 0 ≤ x) (h1 : x < l.length) (h : wid ws (l.take x.toNat) = zs) : wid ws (l.take (x + 1).toNat) = (grow1 zs x.toNat).set x.toNat (if rdOf 0 (grow1 zs x.toNat) x < ((rdOf ByteArray.empty l x).size : Int) then ((rdOf ByteArray.empty l x).size : Int) else rdOf 0 (grow1 zs x.toNat) x) := by
  have hp : (l.take x.toNat).length = x.toNat := by rw [List.length_take]; omega
  rw [take_rdB h0 h1, wid_snoc, h, hp]
  congr 1
  unfold rdOf
  omega
theorem own_form0 {α : Type} {d : Kd α} {e base : Nat} {ok : Nat → Prop} {w : World} {v : Value} {xs : List α} (h : d.R e w base ok v xs) (hn : 0 < xs.length) : ∃ (g c : Nat), v = .slice (some ⟨g, 0, none⟩) xs.length c := by
  obtain ⟨_, inner, ho, _⟩ := h
  rcases ho.2 with ⟨_, hx⟩ | ⟨g, cap, cur, rfl, _⟩
  · omega
  · exact ⟨g, cap, rfl⟩
theorem table_row.calls (w0 : World) (gt : Nat) (A : Option Addr) (c : Nat) (l : List ByteArray) (rows : List (List ByteArray)) (ws : List Int) (vR vW : Value) (w : World)
    (hl : l.length ≤ 20) (hs : ∀ x ∈ l, x.size ≤ 100) (hn : rows.length ≤ 40) (hw : ws.length ≤ 20) (hc : l.length ≤ c) (hr : Kd.C Kd.string w0 A l.length l) (hT : Tb w0 w gt vR vW rows ws) (hB : Below w0.heap.size w0 w) :
    Calls Tryz.prog 12 #[.pointer (some ⟨gt, 0, none⟩), .slice A l.length c] w fun e w' => e = .returned (.tuple #[]) ∧ Below w0.heap.size w0 w' ∧ ∃ vR vW, Tb w0 w' gt vR vW (rows ++ [l]) (wid ws l) := by
  have HL := Aside0.mk (And.intro hl hs)
  have HN := Aside0.mk (And.intro hn hw)
  have HC := Aside0.mk hc
  have HR := Aside0.mk hr
  have HT := Aside0.mk hT
  have HB := Aside0.mk hB
  clear hl hs hn hw hc hr hT hB
  have BT := Aside0.mk HT.out.ht
  have hyt := X.k2 BT
  go_enter Tryz.func12, Tryz.ntmps12
  go_wp2_with (first | ((with_reducible refine gate_builtin (b := .append) (xs := #[.tmp 10, .tmp 12]) rfl ?_); at_builtin; refine Kd.R_append (kRd w0) (w0 := w0) w0.heap.size rfl (.tmp 10) (.tmp 12) 22 28 (.slice none 0 0) 24 rfl Tryz.underlying22 hinfo28 rfl Nat.zero_lt_one (by decide) vR rows l [.slice A l.length c] (fun _ => True) (fun _ => False) rfl rfl ⟨A, c, rfl, HC.out, HR.out⟩ (fun _ h => h.elim) (fun _ _ => trivial) HT.out.rR HB.out HB.out.size (by have := HN.out.1; omega) ?_; intro v1 w9 hR9 hB9 hg9 hat9; obtain ⟨A9, c9, ev9⟩ := Kd.R_slice hR9; generalize (rows ++ [l]).length = n9 at ev9; subst ev9; clear hyt; have hyt := X.k2 (Aside0.mk (blk_grown HT.out.ht hg9 (Kd.R_ne HT.out.rR HT.out.ht (by decide)))); replace HT := Aside0.mk (HT.out.pushR hR9 hg9); replace HB := Aside0.mk (below_set hB9 HT.out.bt (j := 0) (v := .slice A9 n9 c9)); clear hR9 hg9 hat9 BT hB9))
  clear hyt
  generalize hgw : (w9.setCell ⟨gt, 0, none⟩ (.slice A9 n9 c9)) = w10 at HT HB ⊢
  clear hgw
  go_loopg [18] (l.length + 1) (fun kq v18 w' => ∃ x : Int, v18 = .int .i64 x ∧ Aside0 (0 ≤ x ∧ x + kq = l.length + 1 ∧ x ≤ l.length) ∧ Aside0 (∃ vR vW, Tb w0 w' gt vR vW (rows ++ [l]) (wid ws (l.take x.toNat))) ∧ Aside0 (Below w0.heap.size w0 w'))
  case atStart => exact ⟨0, (aq), ⟨⟨by omega, by omega, by omega⟩⟩, ⟨⟨_, _, HT.out⟩⟩, ⟨bf HB⟩⟩
  case round =>
    clear HB HT
    obtain ⟨x, rfl, HX, HV, HB⟩ := hrel
    obtain ⟨uR, uW, hsr⟩ := HV.out
    clear HV
    obtain ⟨AW, cW, rfl⟩ := Kd.R_slice hsr.rW
    have HT := Aside0.mk hsr
    clear hsr
    cases gk with
    | zero => exact absurd HX.out (by rintro ⟨_, _, _⟩; omega)
    | succ k1 =>
      have HZ := Aside0.mk (wid_len ws (l.take x.toNat))
      obtain ⟨zs, hzs⟩ : ∃ zs, wid ws (l.take x.toNat) = zs := ⟨_, rfl⟩
      rw [hzs] at HT HZ
      obtain ⟨m, hm⟩ : ∃ m, zs.length = m := ⟨_, rfl⟩
      have HM := Aside0.mk hm
      rw [hm] at HT
      have hyt := X.k2 (Aside0.mk HT.out.ht)
      by_cases c : x < (l.length : Int)
      · have c1 : decide (x < (l.length : Int)) = true := decide_eq_true c
        have p0 := HX.out.1
        obtain ⟨ad, ea_, hx0⟩ := Kd.at_string (Kd.C_below HR.out HB.out) x p0 c
        cases ea_
        have HW := Aside0.mk (⟨by have := HL.out; unfold wrap64; omega, by omega⟩ : wrap64 (x + 1) = x + 1 ∧ x + 1 ≤ l.length)
        have HS := Aside0.mk (wid_step p0 c hzs)
        replace p0 := eq_true p0
        replace c := eq_true c
        by_cases e : x = (m : Int)
        · have e1 : (x == (m : Int)) = true := beq_iff_eq.mpr e
          have HE := Aside0.mk e
          clear e
          go_upto_region 6 with (first | ((with_reducible refine gate_builtin (b := .append) (xs := #[.tmp 34, .tmp 35]) rfl ?_); at_builtin; refine Kd.R_append (Kd.int .i64) (w0 := w0) w0.heap.size rfl (.tmp 34) (.tmp 35) 30 3 (.int .i64 0) 8 rfl Tryz.underlying30 hinfo3 rfl (by decide) (by decide) (.slice AW m cW) zs 0 [.int .i64 0] (fun _ => True) (fun _ => False) rfl rfl rfl (fun _ h => h.elim) (fun _ _ => trivial) HT.out.rW HB.out HB.out.size (by have := HM.out; have := HL.out; have := HX.out; have := HE.out; omega) ?_; intro v1 w9 hR9 hB9 hg9 hat9; obtain ⟨g9, c9, ev9⟩ := own_form0 hR9 (by simp); obtain ⟨n9, hn9⟩ : ∃ n, (zs ++ [(0 : Int)]).length = n := ⟨_, rfl⟩; rw [hn9] at ev9; have HN9 := Aside0.mk hn9; clear hn9; subst ev9; clear hyt; have hyt := X.k2 (Aside0.mk (blk_grown HT.out.ht hg9 (Kd.R_ne HT.out.rW HT.out.ht (by decide)))); replace HT := Aside0.mk (HT.out.pushW hR9 hg9); replace HB := Aside0.mk (below_set hB9 HT.out.bt (j := 1) (v := .slice (some ⟨g9, 0, none⟩) n9 c9)); clear hR9 hg9 hat9 hB9))
          clear hyt hx0
          generalize hgw : (w9.setCell ⟨gt, 1, none⟩ (.slice (some ⟨g9, 0, none⟩) n9 c9)) = w11 at HT HB ⊢
          clear hgw
          have hyt := X.k2 (Aside0.mk HT.out.ht)
          have hyw := Kd.R_celln 0 HT.out.rW x HX.out.1 (by have := HN9.out; have := HM.out; have := HE.out; simp at *; omega)
          have q0 : (x < (n9 : Int)) = True := eq_true (by have := HN9.out; have := HM.out; have := HE.out; simp at *; omega)
          have HG := Aside0.mk (HS.out.trans (by rw [grow1, if_pos (by have := HM.out; have := HE.out; omega)]) : wid ws (l.take (x + 1).toNat) = (zs ++ [0]).set x.toNat (if rdOf 0 (zs ++ [0]) x < ((rdOf ByteArray.empty l x).size : Int) then ((rdOf ByteArray.empty l x).size : Int) else rdOf 0 (zs ++ [0]) x))
          have hd : ((rdOf 0 (zs ++ [0]) x < ((rdOf ByteArray.empty l x).size : Int)) = True ∧ wid ws (l.take (x + 1).toNat) = (zs ++ [0]).set x.toNat ((rdOf ByteArray.empty l x).size : Int)) ∨ ((rdOf 0 (zs ++ [0]) x < ((rdOf ByteArray.empty l x).size : Int)) = False ∧ wid ws (l.take (x + 1).toNat) = (zs ++ [0]).set x.toNat (rdOf 0 (zs ++ [0]) x)) := by
            have H := HG.out
            by_cases h : rdOf 0 (zs ++ [0]) x < ((rdOf ByteArray.empty l x).size : Int)
            · rw [if_pos h] at H
              exact .inl ⟨eq_true h, H⟩
            · rw [if_neg h] at H
              exact .inr ⟨eq_false h, H⟩
          rcases hd with ⟨hcmp, hk⟩ | ⟨hcmp, hk⟩
          all_goals
            have HK := Aside0.mk hk
            clear hk
            go_region
            go_wp2
            go_roundg k1
            case measure => omega
            case rel =>
              exact ⟨wrap64 (x + 1), (aq), ⟨by rw [HW.out.1]; have := HX.out; have := HW.out; exact ⟨by omega, by omega, by omega⟩⟩, ⟨⟨_, _, by
                rw [HW.out.1, HK.out]
                exact (HT.out.putW x _).1.drew⟩⟩, ⟨below_drew (below_set HB.out (HT.out.putW x 0).2)⟩⟩
        · have e1 : (x == (m : Int)) = false := beq_eq_false_iff_ne.mpr e
          have HE := Aside0.mk (by have h := HZ.out; rw [List.length_take] at h; have := HM.out; have := HX.out; omega : x < (m : Int))
          have HG := Aside0.mk (HS.out.trans (by rw [grow1, if_neg (by have := HM.out; have := HE.out; have := HX.out; omega)]) : wid ws (l.take (x + 1).toNat) = zs.set x.toNat (if rdOf 0 zs x < ((rdOf ByteArray.empty l x).size : Int) then ((rdOf ByteArray.empty l x).size : Int) else rdOf 0 zs x))
          clear e
          obtain ⟨g9, rfl⟩ : ∃ g, AW = some ⟨g, 0, none⟩ := by
            obtain ⟨g9, c9, ev9⟩ := own_form0 HT.out.rW (by have := HM.out; have := HE.out; have := HX.out; omega)
            injection ev9 with ea9 _ _
            exact ⟨g9, ea9⟩
          have hyw := Kd.R_celln 0 HT.out.rW x HX.out.1 HE.out
          have q0 : (x < (m : Int)) = True := eq_true HE.out
          go_upto_region 6 with (fail)
          have hd : ((rdOf 0 zs x < ((rdOf ByteArray.empty l x).size : Int)) = True ∧ wid ws (l.take (x + 1).toNat) = zs.set x.toNat ((rdOf ByteArray.empty l x).size : Int)) ∨ ((rdOf 0 zs x < ((rdOf ByteArray.empty l x).size : Int)) = False ∧ wid ws (l.take (x + 1).toNat) = zs.set x.toNat (rdOf 0 zs x)) := by
            have H := HG.out
            by_cases h : rdOf 0 zs x < ((rdOf ByteArray.empty l x).size : Int)
            · rw [if_pos h] at H
              exact .inl ⟨eq_true h, H⟩
            · rw [if_neg h] at H
              exact .inr ⟨eq_false h, H⟩
          rcases hd with ⟨hcmp, hk⟩ | ⟨hcmp, hk⟩
          all_goals
            have HK := Aside0.mk hk
            clear hk
            go_region
            go_wp2
            go_roundg k1
            case measure => omega
            case rel =>
              exact ⟨wrap64 (x + 1), (aq), ⟨by rw [HW.out.1]; have := HX.out; have := HW.out; exact ⟨by omega, by omega, by omega⟩⟩, ⟨⟨_, _, by
                rw [HW.out.1, HK.out]
                exact (HT.out.putW x _).1.drew⟩⟩, ⟨below_drew (below_set HB.out (HT.out.putW x 0).2)⟩⟩
      · have c1 : decide (x < (l.length : Int)) = false := decide_eq_false c
        have hE : l.take x.toNat = l := List.take_of_length_le (by have := HX.out; omega)
        rw [hE] at hzs
        clear c hE
        go_wp2
        go_end0
        exact ⟨rfl, bf HB, _, _, by rw [hzs]; exact HT.out⟩
end Go.Proofs.YtkbffpadkdgbmaaGreatDoor.X
