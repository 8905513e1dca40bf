/- The pure law ReportPlaces. Conditions: as each theorem's head says. -/
import Derived.Test.YtkbffpadkdgbmaaGreatDoorPR0
namespace Go.Proofs.YtkbffpadkdgbmaaGreatDoor.Pure
set_option linter.unusedVariables false
set_option linter.unusedSimpArgs false
open Go.RowKit Go.Proofs.YtkbffpadkdgbmaaGreatDoor.X Go.Proofs.YtkbffpadkdgbmaaGreatDoorW.PrintWords Go.Proofs.YtkbffpadkdgbmaaGreatDoorW.PrintLast Go.Proofs.YtkbffpadkdgbmaaGreatDoorW.PrintMore
/-! ### plain comes to an end -/
abbrev Ends {α : Type} (F : Nat → Option α) : Prop := ∃ b, Ev F b
theorem Ends.of {α : Type} {F : Nat → Option α} {b : α} (h : Ev F b) : Ends F := ⟨b, h⟩
section
variable {l : List (List ByteArray)} {r : List ByteArray} {i j : Nat}
theorem plain_l2 (h : RowOk l r i) (hj : j < r.length) (H : Ends fun k => carrefourlaw29_plain.l1 k l i ((j + 1 : Nat) : Int)) : ∀ c m : Nat, m + c = (cellOf r (j : Int)).size → Ends fun k => carrefourlaw29_plain.l2 k l i j m
  | 0, m, hm => by
    obtain ⟨b, H⟩ := H
    have h1 := h.li
    have h2 := h.rn
    exact .of (Ev.step (fun k => by rw [carrefourlaw29_plain.l2, h.rd, w64s (i := j) (by omega)]) (Ev.itep (by omega) (Ev.itep (by omega) (Ev.itep (by omega) (Ev.itep (by omega) (Ev.iten (by unfold cellOf at hm; omega) H))))))
  | c + 1, m, hm => by
    obtain ⟨b, H⟩ := plain_l2 h hj H c (m + 1) (by omega)
    have h1 := h.li
    have h2 := h.rn
    have h3 := h.cw j hj
    by_cases c1 : bt (rdOf ByteArray.empty r (j : Int)) (m : Int) = 10
    · exact .of (Ev.step (fun k => by rw [carrefourlaw29_plain.l2, h.rd]) (Ev.itep (by omega) (Ev.itep (by omega) (Ev.itep (by omega) (Ev.itep (by omega) (Ev.itep (by unfold cellOf at hm; omega) (Ev.itep (by omega) (Ev.itep c1 (Ev.eq rfl)))))))))
    · by_cases c2 : bt (rdOf ByteArray.empty r (j : Int)) (m : Int) = 32
      · exact .of (Ev.step (fun k => by rw [carrefourlaw29_plain.l2, h.rd]) (Ev.itep (by omega) (Ev.itep (by omega) (Ev.itep (by omega) (Ev.itep (by omega) (Ev.itep (by unfold cellOf at hm; omega) (Ev.itep (by omega) (Ev.iten c1 (Ev.itep c2 (Ev.eq rfl))))))))))
      · exact .of (Ev.step (fun k => by rw [carrefourlaw29_plain.l2, h.rd, w64s (i := m) (by omega)]) (Ev.itep (by omega) (Ev.itep (by omega) (Ev.itep (by omega) (Ev.itep (by omega) (Ev.itep (by unfold cellOf at hm; omega) (Ev.itep (by omega) (Ev.iten c1 (Ev.iten c2 H)))))))))
theorem plain_l1 (h : RowOk l r i) (H : Ends fun k => carrefourlaw29_plain.l0 k l ((i + 1 : Nat) : Int)) : ∀ c j : Nat, j + c = r.length → Ends fun k => carrefourlaw29_plain.l1 k l i j
  | 0, j, hj => by
    obtain ⟨b, H⟩ := H
    have h1 := h.li
    have h4 := h.l4
    exact .of (Ev.step (fun k => by rw [carrefourlaw29_plain.l1, h.rd, w64s (i := i) (by omega)]) (Ev.itep (by omega) (Ev.itep (by omega) (Ev.iten (by omega) H))))
  | c + 1, j, hj => by
    obtain ⟨b, H⟩ := plain_l2 h (by omega) (plain_l1 h H c (j + 1) (by omega)) (cellOf r (j : Int)).size 0 (by omega)
    have H : Ev (fun k => carrefourlaw29_plain.l2 k l i j 0) b := H
    have h1 := h.li
    by_cases c1 : (rdOf ByteArray.empty r (j : Int)).toList = ([] : List UInt8)
    · exact .of (Ev.step (fun k => by rw [carrefourlaw29_plain.l1, h.rd]) (Ev.itep (by omega) (Ev.itep (by omega) (Ev.itep (by omega) (Ev.itep (by omega) (Ev.itep c1 (Ev.eq rfl)))))))
    · exact .of (Ev.step (fun k => by rw [carrefourlaw29_plain.l1, h.rd]) (Ev.itep (by omega) (Ev.itep (by omega) (Ev.itep (by omega) (Ev.itep (by omega) (Ev.iten c1 H))))))
theorem plain_l0 (h : smallF l = true) : ∀ c i : Nat, i + c = l.length → Ends fun k => carrefourlaw29_plain.l0 k l i
  | 0, i, hi => .of (Ev.step (fun k => by rw [carrefourlaw29_plain.l0]) (Ev.iten (by omega) (Ev.eq rfl)))
  | c + 1, i, hi => by
    obtain ⟨b, H⟩ := plain_l1 (rowOk_of h (i := i) (by omega)) (plain_l0 h c (i + 1) (by omega)) (rd_L1 l i).length 0 (by omega)
    have H : Ev (fun k => carrefourlaw29_plain.l1 k l i 0) b := H
    exact .of (Ev.step (fun k => by rw [carrefourlaw29_plain.l0]) (Ev.itep (by omega) H))
theorem plain_ends (h : smallF l = true) : Ends fun k => carrefourlaw29_plain.f k l := plain_l0 h l.length 0 (by omega)
/-! ### what stands where -/
theorem bt_bsL {A B : List UInt8} {c : UInt8} {x : Int} (h : x = (A.length : Int)) : bt (bsL (A ++ c :: B)) x = (c.toNat : Int) := by
  subst h
  have hs : (A.length : Int).toNat < (bsL (A ++ c :: B)).size := by rw [bsL_size, List.length_append, List.length_cons]; omega
  rw [bt, dif_pos hs]
  simp [bsL, ByteArray.getElem_eq_getElem_data]
theorem cut_bsL {A B : List UInt8} {s : ByteArray} {x y : Nat} (hx : x = A.length) (hy : y = A.length + s.size) : (bsL (A ++ s.data.toList ++ B)).extract x y = s := by
  subst hx hy
  apply ByteArray.ext
  rw [ByteArray.data_extract]
  have hd : s.size = s.data.size := rfl
  rw [hd]
  simp [bsL]
theorem tx_pre (hl : smallF l = true) : ∀ (c i : Nat), i + c = l.length → ∃ B, tx l l.length = tx l i ++ B
  | 0, i, hi => by
    obtain rfl : i = l.length := by omega
    exact ⟨[], by rw [List.append_nil]⟩
  | c + 1, i, hi => by
    obtain ⟨B, hB⟩ := tx_pre hl c (i + 1) (by omega)
    exact ⟨_, by rw [hB, tx_succ rfl, List.append_assoc]⟩
theorem pre_pre {ws : List Int} : ∀ (c j : Nat), j + c = r.length → ∃ B, preF ws r r.length = preF ws r j ++ B
  | 0, j, hj => by
    obtain rfl : j = r.length := by omega
    exact ⟨[], by rw [List.append_nil]⟩
  | c + 1, j, hj => by
    obtain ⟨B, hB⟩ := pre_pre (ws := ws) c (j + 1) (by omega)
    exact ⟨_, by rw [hB, preF, List.append_assoc]⟩
end
end Go.Proofs.YtkbffpadkdgbmaaGreatDoor.Pure
