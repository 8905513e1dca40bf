/- (*table).String, walked. Conditions: as each theorem's head says. -/
import Derived.Test.YtkbffpadkdgbmaaGreatDoorH3
namespace Go.Proofs.YtkbffpadkdgbmaaGreatDoor.X
open Go.Shelf Go.RowKit Go.Proofs.YtkbffpadkdgbmaaGreatDoorW.PrintWords Go.Proofs.YtkbffpadkdgbmaaGreatDoorW.PrintLast Go.Proofs.YtkbffpadkdgbmaaGreatDoorW.PrintMore
set_option linter.unusedVariables false
set_option linter.unusedSimpArgs false
set_option maxHeartbeats 1000000
set_option maxRecDepth 100000
theorem rows_at {w0 w : World} {base : Nat} {ok : Nat → Prop} {A : Option Addr} {n c : Nat} {rows : List (List ByteArray)} (h : Kd.R (kRd w0) 28 w base ok (.slice A n c) rows) (x : Int) (h0 : 0 ≤ x) (h1 : x < n) :
    ∃ ad A' c', A = some ad ∧ w.cell? (ad.add x.toNat) = some (.slice A' (rdOf [] rows x).length c') ∧ (rdOf [] rows x).length ≤ c' ∧ Kd.C Kd.string w0 A' (rdOf [] rows x).length (rdOf [] rows x) := by
  obtain ⟨A2, c2, e2, hl, hC⟩ := Kd.R_reads h
  injection e2 with ea en ec
  subst ea en ec
  obtain ⟨ad, cs, rfl, hcl, ⟨A', c', rfl, hc', hC'⟩, hcell⟩ := Kd.C_get hC [] x h0 h1
  refine ⟨ad, A', c', rfl, ?_, hc', hC'⟩
  have := hcell 0 _ rfl
  rwa [show x.toNat * (kRd w0).sz + 0 = x.toNat from by simp [kRd]] at this
theorem Tb.belowB {w0 w w1 : World} {b gt : Nat} {vR vW : Value} {rows : List (List ByteArray)} {ws : List Int} (h : Tb w0 w gt vR vW rows ws) (hb : b = w.heap.size) (h2 : Below b w w1) : Tb w0 w1 gt vR vW rows ws := h.below (hb ▸ h2)
theorem isB_below {b : Nat} {bs : List Value} {w w1 : World} (h : Lib.IsBuilder 54 5 b b bs w) (hb : Below w.heap.size w w1) : Lib.IsBuilder 54 5 b b bs w1 := by
  rcases h with ⟨h1, v, h2, h3, h4⟩ | ⟨h1, v, h2, h3, h4⟩
  · exact .inl ⟨h1, v, blk_below h2 hb, pw_own_below h3 hb, h4⟩
  · exact .inr ⟨h1, v, blk_below h2 hb, pw_own_below h3 hb, h4⟩
theorem isB_lt {b : Nat} {bs : List Value} {w : World} (h : Lib.IsBuilder 54 5 b b bs w) : b ≤ w.heap.size := by
  rcases h with h | h
  · exact Nat.le_of_lt h.lt
  · exact Nat.le_of_lt h.lt
theorem wstr2 {b : Nat} {w0 : World} (l : List UInt8) (s : ByteArray) (w : World) (h : Aside0 (Lib.IsBuilder 54 5 b b (Lib.byteCells l) w)) (ha : Aside0 (Below b w0 w)) (hlen : l.length + s.size ≤ 1000000) :
    Calls Tryz.prog 17 #[.pointer (some ⟨b, 0, none⟩), .string s] w fun e w' => e = .returned (.tuple #[.int .i64 s.size, .nilIface]) ∧ Aside0 (Lib.IsBuilder 54 5 b b (Lib.byteCells (l ++ s.data.toList)) w') ∧ Aside0 (Below b w0 w') := by
  refine (wstr b l s w h.out hlen (isB_lt h.out)).mono ?_
  rintro e w' ⟨rfl, h1, h2⟩
  exact ⟨rfl, ⟨h1⟩, ⟨ha.out.trans h2⟩⟩
theorem wbyte2 {b : Nat} {w0 : World} (l : List UInt8) (w : World) (h : Aside0 (Lib.IsBuilder 54 5 b b (Lib.byteCells l) w)) (ha : Aside0 (Below b w0 w)) (hlen : l.length ≤ 1000000) :
    Calls Tryz.prog 19 #[.pointer (some ⟨b, 0, none⟩), .int .u8 10] w fun e w' => e = .returned .nilIface ∧ Aside0 (Lib.IsBuilder 54 5 b b (Lib.byteCells (l ++ [10])) w') ∧ Aside0 (Below b w0 w') := by
  refine (wbyte b l w h.out hlen (isB_lt h.out)).mono ?_
  rintro e w' ⟨rfl, h1, h2⟩
  exact ⟨rfl, ⟨h1⟩, ⟨ha.out.trans h2⟩⟩
theorem blanks2 {b : Nat} {w0 : World} {bs : List Value} (c c' : Int) (w : World) (h : Aside0 (Lib.IsBuilder 54 5 b b bs w)) (ha : Aside0 (Below b w0 w)) (hc : c = c') (h0 : 0 ≤ c') (h1 : c' ≤ 1000) :
    Calls Tryz.prog 18 #[.string ⟨#[32]⟩, .int .i64 c] w fun e w' => e = .returned (.string ⟨(List.replicate c'.toNat 32).toArray⟩) ∧ Aside0 (Lib.IsBuilder 54 5 b b bs w') ∧ Aside0 (Below b w0 w') := by
  subst hc
  refine (blanks c w h0 h1).mono ?_
  rintro e w' ⟨rfl, h2⟩
  exact ⟨rfl, ⟨isB_below h.out h2⟩, ⟨ha.out.trans (h2.mono (isB_lt h.out))⟩⟩
theorem builtS (b : Nat) (l : List UInt8) (w0 w : World) (h : Aside0 (Lib.IsBuilder 54 5 b b (Lib.byteCells l) w)) (ha : Aside0 (Below b w0 w)) :
    Calls Tryz.prog 20 #[.pointer (some ⟨b, 0, none⟩)] w fun e w' => e = .returned (.string ⟨l.toArray⟩) ∧ Aside0 (Below b w0 w') := by
  refine (Tryz.Builder_String_any b b l w h.out (isB_lt h.out)).mono ?_
  rintro e w' ⟨rfl, h2⟩
  exact ⟨rfl, ⟨ha.out.trans h2⟩⟩
theorem rowB {w0 w w1 : World} {b : Nat} (hB : Below w0.heap.size w0 w) (hb : b = w.heap.size) (h2 : Below b w w1) : Below w0.heap.size w0 w1 := by
  subst hb
  exact hB.trans (h2.mono hB.size)
theorem table_String.calls (w0 : World) (gt : Nat) (rows : List (List ByteArray)) (ws : List Int) (vR vW : Value) (w : World) (hF : Fits ws rows) (hT : Tb w0 w gt vR vW rows ws) (hB : Below w0.heap.size w0 w) :
    Calls Tryz.prog 13 #[.pointer (some ⟨gt, 0, none⟩)] w fun e w' => e = .returned (.string ⟨(linesF ws rows rows.length).toArray⟩) ∧ Below w0.heap.size w0 w' := by
  obtain ⟨AR, cR, rfl⟩ := Kd.R_slice hT.rR
  obtain ⟨AW, cW, rfl⟩ := Kd.R_slice hT.rW
  have HF := Aside0.mk hF
  have HT := Aside0.mk hT
  have HB := Aside0.mk hB
  obtain ⟨b, hb⟩ : ∃ b, b = w.heap.size := ⟨_, rfl⟩
  have HBB := Aside0.mk hb
  clear hF hT hB
  have HI := Aside0.mk (hb ▸ Lib.fresh_isBuilder 54 5 w : Lib.IsBuilder 54 5 b b [] (w.alloc (.cells #[.pointer none, .slice none 0 0] 54)))
  have HA := Aside0.mk (below_alloc (Below.refl w.heap.size w) (.cells #[.pointer none, .slice none 0 0] 54))
  have hyt := X.k2 (Aside0.mk (HT.out.below HA.out).ht)
  obtain ⟨m, hm⟩ : ∃ m, rows.length = m := ⟨_, rfl⟩
  obtain ⟨n, hn⟩ : ∃ n, ws.length = n := ⟨_, rfl⟩
  rw [hm] at HT hyt ⊢
  rw [hn] at HT hyt
  have HM := Aside0.mk hm
  have HN := Aside0.mk hn
  clear hm hn hb
  go_enter Tryz.func13, Tryz.ntmps13
  go_wp2
  rw [← HBB.out]
  replace HA := Aside0.mk (HBB.out ▸ HA.out : Below b w (w.alloc (.cells #[.pointer none, .slice none 0 0] 54)))
  generalize (w.alloc (.cells #[.pointer none, .slice none 0 0] 54)) = w2 at HI HA ⊢
  clear hyt
  have HI := Aside0.mk (show Lib.IsBuilder 54 5 b b (Lib.byteCells (linesF ws rows (0 : Int).toNat)) w2 from HI.out)
  go_loopg [13] (m + 1) (fun kq v13 w' => ∃ x : Int, v13 = .int .i64 x ∧ Aside0 (0 ≤ x ∧ x + kq = m + 1 ∧ x ≤ m) ∧ Aside0 (Lib.IsBuilder 54 5 b b (Lib.byteCells (linesF ws rows x.toNat)) w') ∧ Aside0 (Below b w w'))
  case atStart => exact ⟨0, (aq), ⟨⟨by omega, by omega, by omega⟩⟩, HI, HA⟩
  case round =>
    clear HI HA
    obtain ⟨x, rfl, HX, HI, HA⟩ := hrel
    cases gk with
    | zero => exact absurd HX.out (by rintro ⟨_, _, _⟩; omega)
    | succ k1 =>
      have HLN := Aside0.mk (lines_len HF.out x.toNat (by have := HX.out; have := HM.out; omega))
      by_cases c : x < (m : Int)
      · have c1 : decide (x < (m : Int)) = true := decide_eq_true c
        have p0 := HX.out.1
        obtain ⟨ad, A2, c2, ea_, hx0, hl2, hC2⟩ := rows_at (HT.out.belowB HBB.out HA.out).rR x p0 c
        cases ea_
        have HMem := Aside0.mk (rd_memR (rows := rows) p0 (by have := HM.out; omega))
        have HW := Aside0.mk (⟨by have := HF.out.n; have := HM.out; unfold wrap64; omega, by omega⟩ : wrap64 (x + 1) = x + 1 ∧ x + 1 ≤ m)
        have HS := Aside0.mk (show linesF ws rows (x + 1).toNat = linesF ws rows x.toNat ++ lineF ws (rdOf [] rows x) from by
          rw [show (x + 1).toNat = x.toNat + 1 by omega, linesF, Int.toNat_of_nonneg p0])
        obtain ⟨r, hr⟩ : ∃ r, rdOf [] rows x = r := ⟨_, rfl⟩
        rw [hr] at hx0 hl2 hC2 HMem HS
        clear hr
        have HFr := Aside0.mk (HF.out.r r HMem.out)
        have HFc := Aside0.mk (HF.out.c r HMem.out)
        obtain ⟨nr, hnr⟩ : ∃ n, r.length = n := ⟨_, rfl⟩
        rw [hnr] at hx0 hl2 hC2 HFr HFc
        have HNR := Aside0.mk hnr
        have HR2 := Aside0.mk hC2
        have HC2 := Aside0.mk hl2
        clear hnr hC2 hl2
        replace p0 := eq_true p0
        replace c := eq_true c
        go_wp2
        clear hx0
        have HI2 := Aside0.mk (show Lib.IsBuilder 54 5 b b (Lib.byteCells (linesF ws rows x.toNat ++ preF ws r (0 : Int).toNat)) wr from by show Lib.IsBuilder 54 5 b b (Lib.byteCells (linesF ws rows x.toNat ++ [])) wr; rw [List.append_nil]; exact HI.out)
        clear HI
        go_loopg [19] (nr + 1) (fun kq v19 w' => ∃ y : Int, v19 = .int .i64 y ∧ Aside0 (0 ≤ y ∧ y + kq = nr + 1 ∧ y ≤ nr) ∧ Aside0 (Lib.IsBuilder 54 5 b b (Lib.byteCells (linesF ws rows x.toNat ++ preF ws r y.toNat)) w') ∧ Aside0 (Below b w w'))
        case atStart => exact ⟨0, (aq), ⟨⟨by omega, by omega, by omega⟩⟩, HI2, HA⟩
        case round =>
          clear HI2 HA
          obtain ⟨y, rfl, HY, HI, HA⟩ := hrel
          cases gk with
          | zero => exact absurd HY.out (by rintro ⟨_, _, _⟩; omega)
          | succ k2 =>
            have HPN := Aside0.mk (pre_len (HNR.out ▸ HFc.out) y.toNat (by have := HY.out; have := HNR.out; omega))
            by_cases d : y < (nr : Int)
            · have d1 : decide (y < (nr : Int)) = true := decide_eq_true d
              have q0 := HY.out.1
              obtain ⟨ad2, ea_, hx1⟩ := Kd.at_string (Kd.C_below HR2.out (rowB HB.out HBB.out HA.out)) y q0 d
              cases ea_
              have HV := Aside0.mk (⟨by have := HFr.out; unfold wrap64; omega, by omega⟩ : wrap64 (y + 1) = y + 1 ∧ y + 1 ≤ nr)
              have HU := Aside0.mk (show wrap64 ((nr : Int) - 1) = nr - 1 from by have := HFr.out; unfold wrap64; omega)
              have HG := Aside0.mk (HFc.out y q0 d)
              have HP := Aside0.mk (show preF ws r (y + 1).toNat = preF ws r y.toNat ++ cellF ws r y from by
                rw [show (y + 1).toNat = y.toNat + 1 by omega, preF, Int.toNat_of_nonneg q0])
              obtain ⟨s, hs⟩ : ∃ s, rdOf ByteArray.empty r y = s := ⟨_, rfl⟩
              have HSs := Aside0.mk hs
              rw [hs] at hx1
              have HG := Aside0.mk (show (s.size : Int) ≤ rdOf 0 ws y ∧ rdOf 0 ws y ≤ 100 from hs ▸ HG.out)
              clear hs
              have hyt := X.k2 (Aside0.mk (HT.out.belowB HBB.out HA.out).ht)
              replace q0 := eq_true q0
              replace d := eq_true d
              have HL1 := Aside0.mk (show (linesF ws rows x.toNat ++ preF ws r y.toNat).length + s.size ≤ 1000000 from by
                clear q0 d
                have := HLN.out
                have := HPN.out
                have := HX.out
                have := HY.out
                have := HF.out.n
                have := HM.out
                have := HFr.out
                have := HG.out
                rw [List.length_append]
                omega)
              by_cases e : y < (nr : Int) - 1
              · have E1 := Aside0.mk (show decide (y < wrap64 ((nr : Int) - 1)) = true from by rw [HU.out]; exact decide_eq_true e)
                have HGap := Aside0.mk (show wrap64 (wrap64 (rdOf 0 ws y - (s.size : Int)) + 2) = gapF ws r y ∧ 0 ≤ gapF ws r y ∧ gapF ws r y ≤ 102 from by
                  have := HG.out
                  unfold gapF cellOf
                  rw [HSs.out]
                  unfold wrap64
                  omega)
                have HCell := Aside0.mk (show preF ws r (y + 1).toNat = preF ws r y.toNat ++ s.data.toList ++ List.replicate (gapF ws r y).toNat 32 from by
                  rw [HP.out, cellF, if_pos (by rw [HNR.out]; exact e)]
                  unfold cellOf
                  rw [HSs.out, List.append_assoc])
                clear e
                have HL2 := Aside0.mk (show (linesF ws rows x.toNat ++ preF ws r y.toNat ++ s.data.toList).length + (ByteArray.mk (List.replicate (gapF ws r y).toNat (32 : UInt8)).toArray).size ≤ 1000000 from by
                  have h0 := HL1.out
                  have h3 := HGap.out.2
                  have h4 := HG.out
                  have h1 : s.data.toList.length = s.size := Array.length_toList
                  have h2 : (ByteArray.mk (List.replicate (gapF ws r y).toNat (32 : UInt8)).toArray).size = (gapF ws r y).toNat := by
                    show (List.replicate (gapF ws r y).toNat (32 : UInt8)).toArray.size = _
                    simp
                  have h5 := HLN.out
                  have h6 := HPN.out
                  have h7 := HX.out
                  have h8 := HY.out
                  have h9 := HF.out.n
                  have h10 := HM.out
                  have h11 := HFr.out
                  rw [List.length_append, h1, h2]
                  rw [List.length_append] at h0 ⊢
                  clear q0 d
                  omega)
                obtain ⟨g9, rfl⟩ : ∃ g, AW = some ⟨g, 0, none⟩ := by
                  obtain ⟨g9, c9, ev9⟩ := own_form0 HT.out.rW (by have := HN.out; have := HFr.out; have := HY.out; have := of_eq_true d; omega)
                  injection ev9 with ea9 _ _
                  exact ⟨g9, ea9⟩
                have q1 : (y < (n : Int)) = True := eq_true (by have := HN.out; have := HFr.out; have := of_eq_true d; omega)
                have e1 := E1.out
                go_wp2_with (first | (go_at_call 17; refine (wstr2 (linesF ws rows x.toNat ++ preF ws r y.toNat ++ s.data.toList) _ _ HI6 HA6 HL2.out).mono ?_; rintro e w7 ⟨rfl, HI7, HA7⟩) | (go_at_call 18; refine (blanks2 _ (gapF ws r y) _ HI5 HA5 HGap.out.1 HGap.out.2.1 (Int.le_trans HGap.out.2.2 (by decide))).mono ?_; rintro e w6 ⟨rfl, HI6, HA6⟩) | (go_at_call 17; refine (wstr2 (linesF ws rows x.toNat ++ preF ws r y.toNat) s _ HI HA HL1.out).mono ?_; rintro e w5 ⟨rfl, HI5, HA5⟩; clear hyt hx1; have hyt := X.k2 (Aside0.mk (HT.out.belowB HBB.out HA5.out).ht); have hyw := Kd.R_celln 0 (HT.out.belowB HBB.out HA5.out).rW y HY.out.1 (of_eq_true q1)))
                go_roundg k2
                case measure => omega
                case rel => exact ⟨wrap64 (y + 1), (aq), ⟨by rw [HV.out.1]; have := HY.out; have := HV.out; exact ⟨by omega, by omega, by omega⟩⟩, ⟨by rw [HV.out.1, HCell.out]; simpa [List.append_assoc] using HI7.out⟩, HA7⟩
              · have e1 : decide (y < wrap64 ((nr : Int) - 1)) = false := by rw [HU.out]; exact decide_eq_false e
                have HCell := Aside0.mk (show preF ws r (y + 1).toNat = preF ws r y.toNat ++ s.data.toList from by
                  rw [HP.out, cellF, if_neg (by rw [HNR.out]; exact e), List.append_nil]
                  unfold cellOf
                  rw [HSs.out])
                clear e
                go_wp2_with (first | (go_at_call 17; refine (wstr2 (linesF ws rows x.toNat ++ preF ws r y.toNat) s _ HI HA HL1.out).mono ?_; rintro e w5 ⟨rfl, HI5, HA5⟩))
                go_roundg k2
                case measure => omega
                case rel => exact ⟨wrap64 (y + 1), (aq), ⟨by rw [HV.out.1]; have := HY.out; have := HV.out; exact ⟨by omega, by omega, by omega⟩⟩, ⟨by rw [HV.out.1, HCell.out, ← List.append_assoc]; exact HI5.out⟩, HA5⟩
            · have d1 : decide (y < (nr : Int)) = false := decide_eq_false d
              have HE := Aside0.mk (show lineF ws r = preF ws r y.toNat ++ [10] from by
                rw [lineF, HNR.out, show y.toNat = nr by have := HY.out; omega])
              clear d
              go_wp2_with (first | (go_at_call 19; refine (wbyte2 (linesF ws rows x.toNat ++ preF ws r y.toNat) _ HI HA (by have := HLN.out; have := HPN.out; have := HX.out; have := HY.out; have := HF.out.n; have := HM.out; have := HFr.out; rw [List.length_append]; omega)).mono ?_; rintro e w5 ⟨rfl, HI5, HA5⟩))
              go_roundg k1
              case measure => omega
              case rel => exact ⟨wrap64 (x + 1), (aq), ⟨by rw [HW.out.1]; have := HX.out; have := HW.out; exact ⟨by omega, by omega, by omega⟩⟩, ⟨by rw [HW.out.1, HS.out, HE.out, ← List.append_assoc]; exact HI5.out⟩, HA5⟩
      · have c1 : decide (x < (m : Int)) = false := decide_eq_false c
        have HE := Aside0.mk (show x.toNat = m by have := HX.out; omega)
        rw [HE.out] at HI
        clear c
        go_wp2_with (first | (go_at_call 20; refine (builtS b (linesF ws rows m) _ _ HI HA).mono ?_; rintro e w5 ⟨rfl, HA5⟩))
        go_ret
        exact ⟨rfl, rowB HB.out HBB.out HA5.out⟩
end Go.Proofs.YtkbffpadkdgbmaaGreatDoor.X
