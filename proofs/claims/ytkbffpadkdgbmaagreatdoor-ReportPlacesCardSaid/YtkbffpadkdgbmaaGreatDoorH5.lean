/- report.Table and report.Width. Conditions: as each theorem's head says. -/
import Derived.Test.YtkbffpadkdgbmaaGreatDoorX0
import Derived.Test.YtkbffpadkdgbmaaGreatDoorH4
namespace Go.Proofs.YtkbffpadkdgbmaaGreatDoor.X
open Go.Shelf Go.RowKit Go.Proofs.YtkbffpadkdgbmaaGreatDoorW.PrintWords Go.Proofs.YtkbffpadkdgbmaaGreatDoorW.PrintLast Go.Proofs.YtkbffpadkdgbmaaGreatDoorW.PrintMore
set_option linter.unusedVariables false
set_option linter.unusedSimpArgs false
set_option maxHeartbeats 1000000
set_option maxRecDepth 100000
/-! ### how wide the columns are -/
def widths (rows : List (List ByteArray)) : List Int := rows.foldl wid []
/-- How wide column x is, by its cells. -/
def wAt (rows : List (List ByteArray)) (x : Int) : Int := rows.foldl (fun m r => if x < (r.length : Int) then max m ((cellOf r x).size : Int) else m) 0
theorem wid_at : ∀ (ws : List Int) (l : List ByteArray) (j : Nat), (wid ws l).getD j 0 = if j < l.length then max (ws.getD j 0) ((l.getD j ByteArray.empty).size : Int) else ws.getD j 0
  | ws, [], j => by simp [wid]
  | [], c :: cs, 0 => by simp [wid]
  | [], c :: cs, j + 1 => by
    have h := wid_at [] cs j
    simp [wid] at h ⊢
    rw [h]
  | w :: ws, c :: cs, 0 => by simp [wid]
  | w :: ws, c :: cs, j + 1 => by
    have h := wid_at ws cs j
    simp [wid] at h ⊢
    rw [h]
theorem wid_rd (ws : List Int) (l : List ByteArray) {x : Int} (h0 : 0 ≤ x) : rdOf 0 (wid ws l) x = if x < (l.length : Int) then max (rdOf 0 ws x) ((cellOf l x).size : Int) else rdOf 0 ws x := by
  obtain ⟨j, rfl⟩ := Int.eq_ofNat_of_zero_le h0
  have h := wid_at ws l j
  simp only [rdOf, cellOf, Int.toNat_natCast]
  rw [h]
  by_cases c : j < l.length
  · rw [if_pos c, if_pos (by omega)]
  · rw [if_neg c, if_neg (by omega)]
theorem widths_from {x : Int} (h0 : 0 ≤ x) : ∀ (rows : List (List ByteArray)) (ws : List Int), rdOf 0 (rows.foldl wid ws) x = rows.foldl (fun m r => if x < (r.length : Int) then max m ((cellOf r x).size : Int) else m) (rdOf 0 ws x)
  | [], ws => rfl
  | r :: rows, ws => by
    rw [List.foldl_cons, List.foldl_cons, widths_from h0 rows, wid_rd ws r h0]
theorem widths_at (rows : List (List ByteArray)) {x : Int} (h0 : 0 ≤ x) : rdOf 0 (widths rows) x = wAt rows x := by
  unfold widths wAt
  rw [widths_from h0]
  simp [rdOf]
theorem wAt_ge {x : Int} : ∀ (rows : List (List ByteArray)) (m : Int), m ≤ rows.foldl (fun m r => if x < (r.length : Int) then max m ((cellOf r x).size : Int) else m) m
  | [], m => Int.le_refl _
  | r :: rows, m => by
    rw [List.foldl_cons]
    refine Int.le_trans ?_ (wAt_ge rows _)
    split <;> omega
theorem wAt_mem {x : Int} : ∀ (rows : List (List ByteArray)) (m : Int) (r : List ByteArray), r ∈ rows → x < (r.length : Int) → ((cellOf r x).size : Int) ≤ rows.foldl (fun m r => if x < (r.length : Int) then max m ((cellOf r x).size : Int) else m) m
  | r0 :: rows, m, r, hr, hx => by
    rw [List.foldl_cons]
    rcases List.mem_cons.1 hr with rfl | hr
    · refine Int.le_trans ?_ (wAt_ge rows _)
      rw [if_pos hx]
      omega
    · exact wAt_mem rows _ r hr hx
theorem wAt_le {x b : Int} (h0 : 0 ≤ x) : ∀ (rows : List (List ByteArray)) (m : Int), (∀ r ∈ rows, ∀ c ∈ r, (c.size : Int) ≤ b) → m ≤ b → rows.foldl (fun m r => if x < (r.length : Int) then max m ((cellOf r x).size : Int) else m) m ≤ b
  | [], m, _, hm => hm
  | r :: rows, m, hr, hm => by
    rw [List.foldl_cons]
    refine wAt_le h0 rows _ (fun r' hr' => hr r' (List.mem_cons_of_mem _ hr')) ?_
    split
    · rename_i hx
      obtain ⟨i, rfl⟩ := Int.eq_ofNat_of_zero_le h0
      have hi : i < r.length := by omega
      have := hr r List.mem_cons_self (cellOf r i) (by simp [cellOf, rdOf, hi])
      omega
    · exact hm
theorem widths_len : ∀ (rows : List (List ByteArray)) (ws : List Int), (∀ r ∈ rows, r.length ≤ 20) → ws.length ≤ 20 → (rows.foldl wid ws).length ≤ 20
  | [], ws, _, h => h
  | r :: rows, ws, hr, h => by
    rw [List.foldl_cons]
    refine widths_len rows _ (fun r' hr' => hr r' (List.mem_cons_of_mem _ hr')) ?_
    rw [wid_len]
    have := hr r List.mem_cons_self
    omega
theorem widths_has : ∀ (rows : List (List ByteArray)) (ws : List Int) (r : List ByteArray), r ∈ rows → r.length ≤ (rows.foldl wid ws).length
  | r0 :: rows, ws, r, hr => by
    rw [List.foldl_cons]
    have step : ∀ (rows : List (List ByteArray)) (ws : List Int), ws.length ≤ (rows.foldl wid ws).length := by
      intro rows
      induction rows with
      | nil => intro ws; exact Nat.le_refl _
      | cons a rows ih =>
        intro ws
        rw [List.foldl_cons]
        refine Nat.le_trans ?_ (ih _)
        rw [wid_len]
        omega
    rcases List.mem_cons.1 hr with rfl | hr
    · refine Nat.le_trans ?_ (step rows _)
      rw [wid_len]
      omega
    · exact widths_has rows _ r hr
/-- All is small: the bounds that the statements let in. -/
def smallF (l : List (List ByteArray)) : Bool := decide (l.length ≤ 40) && l.all fun r => decide (r.length ≤ 20) && r.all fun c => decide (c.size ≤ 100)
theorem small_says {l : List (List ByteArray)} (h : smallF l = true) : l.length ≤ 40 ∧ ∀ r ∈ l, r.length ≤ 20 ∧ ∀ c ∈ r, c.size ≤ 100 := by
  simpa [smallF] using h
theorem small_fits {l : List (List ByteArray)} (h : smallF l = true) : Fits (widths l) l := by
  obtain ⟨h1, h2⟩ := small_says h
  refine ⟨h1, fun r hr => ⟨(h2 r hr).1, widths_has l [] r hr⟩, fun r hr x h0 hx => ?_⟩
  rw [widths_at l h0]
  refine ⟨wAt_mem l 0 r hr hx, wAt_le h0 l 0 (fun r' hr' c hc => ?_) (by decide)⟩
  have := (h2 r' hr').2 c hc
  omega
def report_Table.f (k : Nat) (l : List (List ByteArray)) : Option ByteArray := if smallF l = true then some ⟨(linesF (widths l) l l.length).toArray⟩ else none
theorem report_Table.mono : ∀ a0 k, LeO (report_Table.f k a0) (report_Table.f (k + 1) a0) := fun _ _ => LeO.refl _
def report_Width.f (k : Nat) (l : List (List ByteArray)) (a1 : Int) : Option Int := if smallF l = true then some (if a1 < 0 then 0 else rdOf 0 (widths l) a1) else none
theorem report_Width.mono : ∀ a0 a1 k, LeO (report_Width.f k a0 a1) (report_Width.f (k + 1) a0 a1) := fun _ _ _ => LeO.refl _
theorem take_rdL {l : List (List ByteArray)} {x : Int} (h0 : 0 ≤ x) (h1 : x < l.length) : l.take (x + 1).toNat = l.take x.toNat ++ [rd_L1 l x] := by
  obtain ⟨i, rfl⟩ := Int.eq_ofNat_of_zero_le h0
  have e : ((i : Int) + 1).toNat = i + 1 := by omega
  have hi : i < l.length := by omega
  rw [e, Int.toNat_natCast, List.take_succ_eq_append_getElem hi]
  simp [rd_L1, hi]
theorem rd_memL {rows : List (List ByteArray)} {x : Int} (h0 : 0 ≤ x) (h1 : x < rows.length) : rd_L1 rows x ∈ rows := rd_memR h0 h1
theorem Tb.new {w W : World} {gt : Nat} (h : W.heap[gt]? = some (.cells #[.slice none 0 0, .slice none 0 0] 32 (0, 0))) (hb : w.heap.size ≤ gt) : Tb w W gt (.slice none 0 0) (.slice none 0 0) [] (widths []) := ⟨h, hb, Kd.R_nil _ _ _ _ _, Kd.R_nil _ _ _ _ _⟩
theorem report_Table.calls (k : Nat) (A0 : Option Addr) (c0 : Nat) (l0 : List (List ByteArray)) (r : ByteArray) (w : World) (hr0 : Kd.C (Kd.slice 9 Kd.string) w A0 l0.length l0) (hc0 : l0.length ≤ c0) (h : report_Table.f k l0 = some r) :
    Calls Tryz.prog 6 #[.slice A0 l0.length c0] w fun e w' => e = .returned (.string r) ∧ Below w.heap.size w w' := by
  have hsm : smallF l0 = true := by
    unfold report_Table.f at h
    split at h
    · assumption
    · cases h
  have hres : (⟨(linesF (widths l0) l0 l0.length).toArray⟩ : ByteArray) = r := by
    unfold report_Table.f at h
    rw [if_pos hsm] at h
    exact Option.some.inj h
  subst hres
  clear h
  have HS := Aside0.mk hsm
  have HM := Aside0.mk (small_says hsm)
  clear hsm
  have HR := Aside0.mk hr0
  have HC := Aside0.mk hc0
  clear hr0 hc0
  have HB := Aside0.mk (Below.refl w.heap.size w)
  have hu32 := Tryz.underlying32
  obtain ⟨m, hm⟩ : ∃ m, l0.length = m := ⟨_, rfl⟩
  have HN := Aside0.mk hm
  rw [hm] at HR HC ⊢
  clear hm
  go_enter Tryz.func6, Tryz.ntmps6
  go_wp2_with (first | ((with_reducible refine gd 7 rfl ?_); refine bx_ 7 32 #[.slice none 0 0, .slice none 0 0] rfl rfl ?_; intro g7 hg w1 BK7 hb; have GE7 := bz HB hg; replace HB := bs HB hb; clear hb hg))
  have HT := Aside0.mk (Tb.new BK7.out GE7.out)
  clear BK7 GE7
  go_loopg [10] (m + 1) (fun kq v10 w' => ∃ x : Int, v10 = .int .i64 x ∧ Aside0 (0 ≤ x ∧ x + kq = m + 1 ∧ x ≤ m) ∧ Aside0 (∃ vR vW, Tb w w' g7 vR vW (l0.take x.toNat) (widths (l0.take x.toNat))) ∧ Aside0 (Below w.heap.size w w'))
  case atStart => exact ⟨0, (aq), ⟨⟨by omega, by omega, by omega⟩⟩, ⟨⟨_, _, HT.out⟩⟩, ⟨bf HB⟩⟩
  case round =>
    clear HB HT
    obtain ⟨x, rfl, HX, HV, HB⟩ := hrel
    obtain ⟨vR, vW, hsr⟩ := HV.out
    clear HV
    have HT := Aside0.mk hsr
    clear hsr
    cases gk with
    | zero => exact absurd HX.out (by rintro ⟨_, _, _⟩; omega)
    | succ k1 =>
      by_cases c : x < (m : Int)
      · have c1 : decide (x < (m : Int)) = true := decide_eq_true c
        have p0 := HX.out.1
        obtain ⟨ad, A2, c2, ea_, hx0, hl2, hC2⟩ := at_L1 HR.out x p0 c
        cases ea_
        replace hx0 := (HB.out.cell (World.block_lt_of_cell? w _ hx0)).trans hx0
        have HMem := Aside0.mk (HM.out.2 _ (rd_memL p0 (by have := HN.out; omega)))
        have HW := Aside0.mk (⟨by have := HM.out.1; have := HN.out; unfold wrap64; omega, by omega⟩ : wrap64 (x + 1) = x + 1 ∧ x + 1 ≤ m)
        have HTk := Aside0.mk (take_rdL (l := l0) p0 (by have := HN.out; omega))
        obtain ⟨r, hr⟩ : ∃ r, rd_L1 l0 x = r := ⟨_, rfl⟩
        rw [hr] at hx0 hl2 hC2 HMem HTk
        clear hr
        have HR2 := Aside0.mk hC2
        have HC2 := Aside0.mk hl2
        clear hC2 hl2
        have HLs := Aside0.mk (⟨by rw [List.length_take]; have := HM.out.1; have := HN.out; omega, widths_len _ _ (fun r' hr' => (HM.out.2 r' (List.mem_of_mem_take hr')).1) (by decide)⟩ : (l0.take x.toNat).length ≤ 40 ∧ (widths (l0.take x.toNat)).length ≤ 20)
        replace p0 := eq_true p0
        replace c := eq_true c
        go_wp2_with (first | (go_at_call 12; refine (table_row.calls w g7 A2 c2 r (l0.take x.toNat) (widths (l0.take x.toNat)) vR vW _ HMem.out.1 HMem.out.2 HLs.out.1 HLs.out.2 HC2.out HR2.out HT.out HB.out).mono ?_; rintro e w5 ⟨rfl, hB5, vR5, vW5, hT5⟩; have HB5 := Aside0.mk hB5; have HT5 := Aside0.mk hT5; clear hB5 hT5))
        go_roundg k1
        case measure => omega
        case rel => exact ⟨wrap64 (x + 1), (aq), ⟨by rw [HW.out.1]; have := HX.out; have := HW.out; exact ⟨by omega, by omega, by omega⟩⟩, ⟨⟨vR5, vW5, by rw [HW.out.1, HTk.out, widths, List.foldl_append]; exact HT5.out⟩⟩, HB5⟩
      · have c1 : decide (x < (m : Int)) = false := decide_eq_false c
        have HE := Aside0.mk (show l0.take x.toNat = l0 from List.take_of_length_le (by have := HX.out; have := HN.out; omega))
        rw [HE.out] at HT
        clear c
        go_wp2_with (first | (go_at_call 13; refine (table_String.calls w g7 l0 (widths l0) vR vW _ (small_fits HS.out) HT.out HB.out).mono ?_; rintro e w5 ⟨rfl, hB5⟩))
        go_ret
        rw [HN.out]
        exact ⟨rfl, hB5⟩
end Go.Proofs.YtkbffpadkdgbmaaGreatDoor.X
