/- The pure law ReportPlaces: the loops. Conditions: as each theorem's head says. -/
import Derived.Test.YtkbffpadkdgbmaaGreatDoorPP1
namespace Go.Proofs.YtkbffpadkdgbmaaGreatDoor.Pure
set_option linter.unusedVariables false
set_option linter.unusedSimpArgs false
open Go.RowKit Go.Proofs.YtkbffpadkdgbmaaGreatDoor.X Go.Proofs.YtkbffpadkdgbmaaGreatDoorW.PrintWords Go.Proofs.YtkbffpadkdgbmaaGreatDoorW.PrintLast Go.Proofs.YtkbffpadkdgbmaaGreatDoorW.PrintMore
/-- A row's text up to the end of its cell before j. -/
def qF (ws : List Int) (r : List ByteArray) : Nat → List UInt8
  | 0 => []
  | j + 1 => preF ws r j ++ (cellOf r j).data.toList
theorem pre_q {ws : List Int} {r : List ByteArray} : ∀ j : Nat, j < r.length → ∃ g : Nat, preF ws r j = qF ws r j ++ List.replicate g 32
  | 0, _ => ⟨0, rfl⟩
  | j + 1, hj => ⟨_, by rw [preF, cellF, if_pos (by omega), qF, List.append_assoc]⟩
theorem pre_end {ws : List Int} {r : List ByteArray} : preF ws r r.length = qF ws r r.length := by
  cases h : r.length with
  | zero => rfl
  | succ j => rw [preF, cellF, if_neg (by omega), qF, List.append_nil]
section
variable {l : List (List ByteArray)} {r : List ByteArray} {i j : Nat}
theorem text_end (hl : smallF l = true) (h : RowOk l r i) : ∃ B, tx l l.length = tx l i ++ preF (widths l) r r.length ++ 10 :: B := by
  have h1 := h.li
  obtain ⟨B, hB⟩ := tx_pre hl (l.length - (i + 1)) (i + 1) (by omega)
  exact ⟨B, by rw [hB, tx_succ h.rd]; simp⟩
theorem text_cell (hl : smallF l = true) (h : RowOk l r i) (hj : j < r.length) : ∃ B, tx l l.length = tx l i ++ preF (widths l) r j ++ (cellOf r (j : Int)).data.toList ++ B := by
  obtain ⟨B, hB⟩ := text_end hl h
  obtain ⟨C, hC⟩ := pre_pre (r := r) (ws := widths l) (r.length - (j + 1)) (j + 1) (by omega)
  exact ⟨(if (j : Int) < (r.length : Int) - 1 then List.replicate (gapF (widths l) r j).toNat 32 else []) ++ C ++ 10 :: B, by rw [hB, hC, preF, cellF]; simp⟩
theorem pre_succ_len (h : RowOk l r i) (hj : j + 1 < r.length) : ((preF (widths l) r (j + 1)).length : Int) = (preF (widths l) r j).length + (rdOf 0 (widths l) j + 2) := by
  have hc := h.cw j (by omega)
  have hd : (cellOf r (j : Int)).data.toList.length = (cellOf r (j : Int)).size := Array.length_toList
  rw [preF, cellF, if_pos (by omega), List.length_append, List.length_append, List.length_replicate, hd, gapF]
  omega
theorem wid_ev2 (hl : smallF l = true) (x : Int) (hx : 0 ≤ x) : Ev (fun k => report_Width.f k l x) (rdOf 0 (widths l) x) :=
  ⟨0, fun k _ => by show report_Width.f k l x = _; rw [report_Width.f, if_pos hl, if_neg (by omega)]⟩
theorem pl2 (hl : smallF l = true) (h : RowOk l r i) (hj : j < r.length) {g : Nat} (hg : preF (widths l) r j = qF (widths l) r j ++ List.replicate g 32)
    (H : Ev (fun k => carrefourlaw29_ReportPlaces.l1 k l (bsL (tx l l.length)) (tx l i).length i ((preF (widths l) r j).length + (rdOf 0 (widths l) j + 2)) ((tx l i).length + (qF (widths l) r (j + 1)).length : Nat) ((j + 1 : Nat) : Int)) true) :
    ∀ c t : Nat, t + c = g → Ev (fun k => carrefourlaw29_ReportPlaces.l2 k l (bsL (tx l l.length)) (tx l i).length i (preF (widths l) r j).length ((tx l i).length + (qF (widths l) r j).length + t : Nat) j) true
  | 0, t, ht => by
    obtain rfl : t = g := by omega
    obtain ⟨B, hB⟩ := text_cell hl h hj
    have hp : (preF (widths l) r j).length = (qF (widths l) r j).length + t := by rw [hg, List.length_append, List.length_replicate]
    have hq : (qF (widths l) r (j + 1)).length = (preF (widths l) r j).length + (cellOf r (j : Int)).size := by
      rw [qF, List.length_append]
      exact congrArg _ Array.length_toList
    have h1 := h.li
    have h2 := h.tl
    have h3 := h.pl j (by omega)
    have h4 := h.l4
    have h5 := h.rn
    obtain ⟨h6, h7, h8⟩ := h.cw j hj
    have hs := congrArg List.length hB
    have hd : (cellOf r (j : Int)).data.toList.length = (cellOf r (j : Int)).size := Array.length_toList
    rw [List.length_append, List.length_append, List.length_append, hd] at hs
    have hlen : (tx l l.length).length ≤ 280000 := by
      have := lines_len (small_fits hl) l.length (Nat.le_refl _)
      show (linesF (widths l) l l.length).length ≤ 280000
      omega
    have hS : (bsL (tx l l.length)).size = (tx l l.length).length := bsL_size _
    have hcut : (bsL (tx l l.length)).extract ((tx l i).length + (preF (widths l) r j).length) ((tx l i).length + (preF (widths l) r j).length + (cellOf r (j : Int)).size) = cellOf r (j : Int) := by
      rw [hB]
      exact cut_bsL (by rw [List.length_append]) (by rw [List.length_append])
    obtain ⟨S, hSS⟩ : ∃ S, bsL (tx l l.length) = S := ⟨_, rfl⟩
    rw [hSS] at H hS hcut ⊢
    obtain ⟨a, ha⟩ : ∃ a, (tx l i).length = a := ⟨_, rfl⟩
    obtain ⟨p, hp'⟩ : ∃ p, (preF (widths l) r j).length = p := ⟨_, rfl⟩
    obtain ⟨q, hq'⟩ : ∃ q, (qF (widths l) r j).length = q := ⟨_, rfl⟩
    obtain ⟨s, hs'⟩ : ∃ s, rdOf ByteArray.empty r (j : Int) = s := ⟨_, rfl⟩
    have hcs : cellOf r (j : Int) = s := hs'
    rw [hcs] at h6 h7 hd hs hq hcut
    rw [hq] at H
    rw [ha, hp'] at H hcut
    rw [ha, hp', hq']
    have e6 := Aside0.mk (w64s (i := j) (by omega))
    have e1 := Aside0.mk (show wrap64 ((a : Int) + (p : Int)) = a + p from w64 (by omega) (by omega))
    have e2 := Aside0.mk (show wrap64 ((S.size : Int) - (s.size : Int)) = S.size - s.size from w64 (by omega) (by omega))
    have e3 := Aside0.mk (show wrap64 (((a + q + t : Nat) : Int) + (s.size : Int)) = ((a + (p + s.size) : Nat) : Int) from by rw [w64 (by omega) (by omega)]; omega)
    refine Ev.step (fun k => by rw [carrefourlaw29_ReportPlaces.l2, h.rd, hs', e1.out, e2.out, e3.out, e6.out]) ?_
    clear e1 e2 e3 e6
    refine (Ev.iten (by omega) (Ev.itep (by omega) (Ev.itep (by omega) (Ev.itep (by omega) (Ev.itep (by omega) (Ev.iten (by omega) (Ev.itep (by omega) (Ev.itep (by omega) (Ev.itep (by omega) (Ev.itep ?_ (Ev.bind (wid_ev2 hl j (by omega)) ?_)))))))))))
    · rw [Int.toNat_natCast, Int.toNat_natCast, show a + q + t = a + p by omega, show a + (p + s.size) = a + p + s.size by omega, hcut]
    · rw [w64 (x := rdOf 0 (widths l) (j : Int) + 2) (by omega) (by omega), w64 (x := (p : Int) + (rdOf 0 (widths l) (j : Int) + 2)) (by omega) (by omega)]
      exact H
  | c + 1, t, ht => by
    have ih := pl2 hl h hj hg H c (t + 1) (by omega)
    obtain ⟨B, hB⟩ := text_cell hl h hj
    have hp : (preF (widths l) r j).length = (qF (widths l) r j).length + (t + (c + 1)) := by rw [hg, List.length_append, List.length_replicate, ht]
    have h2 := h.tl
    have h3 := h.pl j (by omega)
    have hs := congrArg List.length hB
    rw [List.length_append, List.length_append, List.length_append] at hs
    have hb : bt (bsL (tx l l.length)) (((tx l i).length + (qF (widths l) r j).length + t : Nat) : Int) = 32 := by
      rw [hB, hg, show g = t + (c + 1) from ht.symm, ← List.replicate_append_replicate, List.replicate_succ]
      have := bt_bsL (A := tx l i ++ qF (widths l) r j ++ List.replicate t 32) (B := List.replicate c 32 ++ (cellOf r (j : Int)).data.toList ++ B) (c := 32) (x := (((tx l i).length + (qF (widths l) r j).length + t : Nat) : Int)) (by rw [List.length_append, List.length_append, List.length_replicate])
      simpa [List.append_assoc] using this
    have hS : (bsL (tx l l.length)).size = (tx l l.length).length := bsL_size _
    refine Ev.step (fun k => by rw [carrefourlaw29_ReportPlaces.l2, w64 (x := ((tx l i).length : Int) + ((preF (widths l) r j).length : Int)) (by omega) (by omega), w64s (i := (tx l i).length + (qF (widths l) r j).length + t) (by omega)]) (Ev.itep (by omega) (Ev.iten (by omega) (Ev.itep (by omega) (Ev.itep (by omega) (Ev.itep hb ?_)))))
    exact ih
theorem pl1 (hl : smallF l = true) (h : RowOk l r i) (H : Ev (fun k => carrefourlaw29_ReportPlaces.l0 k l (bsL (tx l l.length)) (tx l (i + 1)).length ((i + 1 : Nat) : Int)) true) :
    ∀ (c j : Nat) (b : Int), j + c = r.length → (j < r.length → b = (preF (widths l) r j).length) → Ev (fun k => carrefourlaw29_ReportPlaces.l1 k l (bsL (tx l l.length)) (tx l i).length i b ((tx l i).length + (qF (widths l) r j).length : Nat) j) true
  | 0, j, b, hj, hb => by
    obtain rfl : j = r.length := by omega
    obtain ⟨B, hB⟩ := text_end hl h
    have h1 := h.li
    have h2 := h.tl
    have h3 := h.pl r.length (Nat.le_refl _)
    have h4 := h.l4
    have hp := congrArg List.length (pre_end (ws := widths l) (r := r))
    have hs := congrArg List.length hB
    rw [List.length_append, List.length_append, List.length_cons] at hs
    have hS : (bsL (tx l l.length)).size = (tx l l.length).length := bsL_size _
    have hn : (tx l (i + 1)).length = (tx l i).length + (qF (widths l) r r.length).length + 1 := by
      rw [tx_succ h.rd, List.length_append, List.length_append, List.length_singleton, hp]
      omega
    have hb : bt (bsL (tx l l.length)) (((tx l i).length + (qF (widths l) r r.length).length : Nat) : Int) = 10 := by
      rw [hB, pre_end]
      exact bt_bsL (by rw [List.length_append])
    rw [hn] at H
    refine Ev.step (fun k => by rw [carrefourlaw29_ReportPlaces.l1, h.rd, w64s (i := i) (by omega), w64s (i := (tx l i).length + (qF (widths l) r r.length).length) (by omega)]) (Ev.itep (by omega) (Ev.itep (by omega) (Ev.iten (by omega) (Ev.iten (by omega) (Ev.itep (by omega) (Ev.itep (by omega) (Ev.itep hb H)))))))
  | c + 1, j, b, hj, hb => by
    obtain rfl := hb (by omega)
    obtain ⟨g, hg⟩ := pre_q (ws := widths l) (r := r) j (by omega)
    have ih := pl1 hl h H c (j + 1) ((preF (widths l) r j).length + (rdOf 0 (widths l) j + 2)) (by omega) (fun hj1 => (pre_succ_len h hj1).symm)
    have h1 := h.li
    have := pl2 hl h (j := j) (by omega) hg ih g 0 (by omega)
    rw [Nat.add_zero] at this
    exact Ev.step (fun k => by rw [carrefourlaw29_ReportPlaces.l1, h.rd]) (Ev.itep (by omega) (Ev.itep (by omega) (Ev.itep (by omega) this)))
theorem pl0 (hl : smallF l = true) : ∀ c i : Nat, i + c = l.length → Ev (fun k => carrefourlaw29_ReportPlaces.l0 k l (bsL (tx l l.length)) (tx l i).length i) true
  | 0, i, hi => by
    obtain rfl : i = l.length := by omega
    exact Ev.step (fun k => by rw [carrefourlaw29_ReportPlaces.l0]) (Ev.iten (by omega) (Ev.itep (by rw [bsL_size]) (Ev.bind (awake_ev rfl) (Ev.eq rfl))))
  | c + 1, i, hi => by
    have : Ev (fun k => carrefourlaw29_ReportPlaces.l1 k l (bsL (tx l l.length)) (tx l i).length i 0 (tx l i).length 0) true := pl1 hl (rowOk_of hl (i := i) (by omega)) (pl0 hl c (i + 1) (by omega)) (rd_L1 l i).length 0 0 (by omega) (fun _ => rfl)
    exact Ev.step (fun k => by rw [carrefourlaw29_ReportPlaces.l0]) (Ev.itep (by omega) this)
end
end Go.Proofs.YtkbffpadkdgbmaaGreatDoor.Pure
