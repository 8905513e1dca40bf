/- (*table).String: what it tells. Conditions: as each theorem's head says. -/
import Derived.Test.YtkbffpadkdgbmaaGreatDoorH2
import Derived.Test.YtkbffpadkdgbmaaGreatDoorShelf
namespace Go.Proofs.YtkbffpadkdgbmaaGreatDoor.X
open Go.Shelf Go.RowKit Go.Proofs.YtkbffpadkdgbmaaGreatDoorW.PrintWords Go.Proofs.YtkbffpadkdgbmaaGreatDoorW.PrintLast Go.Proofs.YtkbffpadkdgbmaaGreatDoorW.PrintMore
set_option linter.unusedVariables false
set_option linter.unusedSimpArgs false
set_option maxHeartbeats 1000000
set_option maxRecDepth 100000
/-! ### the table's text -/
abbrev cellOf (r : List ByteArray) (x : Int) : ByteArray := rdOf ByteArray.empty r x
/-- How many blanks stand behind a cell. -/
def gapF (ws : List Int) (r : List ByteArray) (x : Int) : Int := rdOf 0 ws x - ((cellOf r x).size : Int) + 2
def cellF (ws : List Int) (r : List ByteArray) (x : Int) : List UInt8 := (cellOf r x).data.toList ++ (if x < (r.length : Int) - 1 then List.replicate (gapF ws r x).toNat 32 else [])
def preF (ws : List Int) (r : List ByteArray) : Nat → List UInt8
  | 0 => []
  | j + 1 => preF ws r j ++ cellF ws r j
def lineF (ws : List Int) (r : List ByteArray) : List UInt8 := preF ws r r.length ++ [10]
def linesF (ws : List Int) (rows : List (List ByteArray)) : Nat → List UInt8
  | 0 => []
  | i + 1 => linesF ws rows i ++ lineF ws (rdOf [] rows i)
/-- The rows' cells fit the columns: all is small. -/
structure Fits (ws : List Int) (rows : List (List ByteArray)) : Prop where
  n : rows.length ≤ 40
  r : ∀ r ∈ rows, r.length ≤ 20 ∧ r.length ≤ ws.length
  c : ∀ r ∈ rows, ∀ x : Int, 0 ≤ x → x < r.length → ((cellOf r x).size : Int) ≤ rdOf 0 ws x ∧ rdOf 0 ws x ≤ 100
theorem pre_len {ws : List Int} {r : List ByteArray} (h : ∀ x : Int, 0 ≤ x → x < r.length → ((cellOf r x).size : Int) ≤ rdOf 0 ws x ∧ rdOf 0 ws x ≤ 100) : ∀ j : Nat, j ≤ r.length → (preF ws r j).length ≤ 300 * j
  | 0, _ => by simp [preF]
  | j + 1, hj => by
    have ih := pre_len h j (by omega)
    have h1 := h j (by omega) (by omega)
    have h2 : (cellF ws r j).length ≤ 300 := by
      unfold cellF gapF
      rw [List.length_append, Array.length_toList]
      have : (cellOf r j).data.size = (cellOf r j).size := rfl
      split
      · rw [List.length_replicate]; omega
      · rw [List.length_nil]; omega
    rw [preF, List.length_append]
    omega
theorem rd_memR {rows : List (List ByteArray)} {x : Int} (h0 : 0 ≤ x) (h1 : x < rows.length) : rdOf [] rows x ∈ rows := by
  obtain ⟨i, rfl⟩ := Int.eq_ofNat_of_zero_le h0
  have hi : i < rows.length := by omega
  simp [rdOf, hi]
theorem lines_len {ws : List Int} {rows : List (List ByteArray)} (h : Fits ws rows) : ∀ i : Nat, i ≤ rows.length → (linesF ws rows i).length ≤ 7000 * i
  | 0, _ => by simp [linesF]
  | i + 1, hi => by
    have ih := lines_len h i (by omega)
    have hm := rd_memR (rows := rows) (x := (i : Int)) (by omega) (by omega)
    have h1 := pre_len (h.c _ hm) _ (Nat.le_refl _)
    have h2 := (h.r _ hm).1
    rw [linesF, List.length_append, lineF, List.length_append, List.length_singleton]
    omega
theorem repeat_one (c : UInt8) : ∀ n : Nat, Lib.repeatL [c] n = List.replicate n c
  | 0 => rfl
  | n + 1 => by rw [Lib.repeatL, repeat_one c n]; rfl
/-! ### the builder's calls, at this translation -/
theorem wstr (b : Nat) (l : List UInt8) (s : ByteArray) (w : World) (h : Lib.IsBuilder 54 5 b b (Lib.byteCells l) w) (hlen : l.length + s.size ≤ 1000000) (hb : b ≤ w.heap.size) :
    Calls Tryz.prog 17 #[.pointer (some ⟨b, 0, none⟩), .string s] w fun e w' => e = .returned (.tuple #[.int .i64 s.size, .nilIface]) ∧ Lib.IsBuilder 54 5 b b (Lib.byteCells (l ++ s.data.toList)) w' ∧ Below b w w' := by
  refine (Any.Builder_WriteString Tryz.lays166 Tryz.Builder_Extra_105 b b (Lib.byteCells l) s w h (by rw [Lib.byteCells_length]; omega) hb).mono ?_
  rintro e w' ⟨rfl, h1, h2⟩
  exact ⟨rfl, .inr (by rw [Lib.byteCells_append, ← Lib.strCells_eq]; exact h1), h2⟩
theorem wbyte (b : Nat) (l : List UInt8) (w : World) (h : Lib.IsBuilder 54 5 b b (Lib.byteCells l) w) (hlen : l.length ≤ 1000000) (hb : b ≤ w.heap.size) :
    Calls Tryz.prog 19 #[.pointer (some ⟨b, 0, none⟩), .int .u8 10] w fun e w' => e = .returned .nilIface ∧ Lib.IsBuilder 54 5 b b (Lib.byteCells (l ++ [10])) w' ∧ Below b w w' := by
  refine (Any.Builder_WriteByte Tryz.lays167 Tryz.Builder_Extra_167 b b (Lib.byteCells l) 10 w h (by rw [Lib.byteCells_length]; omega) hb).mono ?_
  rintro e w' ⟨rfl, h1, h2⟩
  exact ⟨rfl, .inr (by rw [Lib.byteCells_append]; exact h1), h2⟩
theorem blanks (c : Int) (w : World) (h0 : 0 ≤ c) (h1 : c ≤ 1000) :
    Calls Tryz.prog 18 #[.string ⟨#[32]⟩, .int .i64 c] w fun e w' => e = .returned (.string ⟨(List.replicate c.toNat 32).toArray⟩) ∧ Below w.heap.size w w' := by
  obtain ⟨n, rfl⟩ := Int.eq_ofNat_of_zero_le h0
  refine (Tryz.strings_Repeat ⟨#[32]⟩ n w (by omega) (by show 1 * n ≤ _; omega)).mono ?_
  rintro e w' ⟨rfl, h2⟩
  exact ⟨by rw [show (⟨#[32]⟩ : ByteArray).data.toList = [32] from rfl, repeat_one]; rfl, h2⟩
end Go.Proofs.YtkbffpadkdgbmaaGreatDoor.X
