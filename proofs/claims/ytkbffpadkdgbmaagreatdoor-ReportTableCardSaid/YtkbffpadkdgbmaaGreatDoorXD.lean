/- Walks: each '.calls' says that the Go function comes to what its Lean function tells. Conditions: as each theorem's head says. -/
import Derived.Test.YtkbffpadkdgbmaaGreatDoorX0
import Derived.Test.YtkbffpadkdgbmaaGreatDoorH6
import Derived.Test.YtkbffpadkdgbmaaGreatDoorH7
namespace Go.Proofs.YtkbffpadkdgbmaaGreatDoor.X
open Go.RowKit Go.Proofs.YtkbffpadkdgbmaaGreatDoorW.PrintWords Go.Proofs.YtkbffpadkdgbmaaGreatDoorW.PrintLast Go.Proofs.YtkbffpadkdgbmaaGreatDoorW.PrintMore
attribute [local go_sem] max2_int min2_int max_two min_two max_three min_three max_four min_four   -- for this text's walks alone
set_option linter.unusedVariables false
set_option maxHeartbeats 8000000
set_option maxRecDepth 100000
set_option linter.unusedSimpArgs false

/-! ### carrefourlaw29_few: function 5 -/
mutual
def carrefourlaw29_few.l0 : Nat → List (List ByteArray) → Int → Option (Bool)
  | 0, _, _ => none
  | k + 1, x0, x3 => if x3 < (x0.length : Int) then (if 0 ≤ x3 then (if ((rd_L1 x0 x3).length : Int) > 20 then (some false) else (carrefourlaw29_few.l1 k x0 x3 0)) else (none)) else (some true)
def carrefourlaw29_few.l1 : Nat → List (List ByteArray) → Int → Int → Option (Bool)
  | 0, _, _, _ => none
  | k + 1, x0, x3, x4 => if 0 ≤ x3 then (if x3 < (x0.length : Int) then (if x4 < ((rd_L1 x0 x3).length : Int) then (if 0 ≤ x4 then (if ((rdOf ByteArray.empty (rd_L1 x0 x3) x4).size : Int) > 100 then (some false) else (carrefourlaw29_few.l1 k x0 x3 (wrap64 (x4 + 1)))) else (none)) else (carrefourlaw29_few.l0 k x0 (wrap64 (x3 + 1)))) else (none)) else (none)
end
def carrefourlaw29_few.f (k : Nat) (l0 : List (List ByteArray)) : Option (Bool) := if (l0.length : Int) > 40 then (some false) else (carrefourlaw29_few.l0 k l0 0)
/-! ### report_Table: function 6 -/
-- (told where it is handed on)

/-! ### carrefourref29_Width: function 9 -/
mutual
def carrefourref29_Width.l0 : Nat → List (List ByteArray) → Int → Int → Int → Option (Int)
  | 0, _, _, _, _ => none
  | k + 1, x0, x1, x5, x6 => if x6 < (x0.length : Int) then (carrefourref29_Width.j1 k x0 x1 x5 x6 (decide (x1 ≥ 0))) else (carrefourref29_Width.j1 k x0 x1 x5 x6 false)
def carrefourref29_Width.j1 : Nat → List (List ByteArray) → Int → Int → Int → Bool → Option (Int)
  | 0, _, _, _, _, _ => none
  | k + 1, x0, x1, x5, x6, x14 => if x14 = true then (if 0 ≤ x6 then (if x6 < (x0.length : Int) then (if x1 < ((rd_L1 x0 x6).length : Int) then (if 0 ≤ x1 then (carrefourref29_Width.l0 k x0 x1 (mx x5 ((rdOf ByteArray.empty (rd_L1 x0 x6) x1).size : Int)) (wrap64 (x6 + 1))) else (none)) else (carrefourref29_Width.l0 k x0 x1 x5 (wrap64 (x6 + 1)))) else (none)) else (none)) else (some x5)
end
def carrefourref29_Width.f (k : Nat) (l0 : List (List ByteArray)) (a1 : Int) : Option (Int) := carrefourref29_Width.l0 k l0 a1 0 0
/-! ### carrefourref29_Table: function 7 -/
mutual
def carrefourref29_Table.l0 : Nat → List (List ByteArray) → ByteArray → Int → Option (ByteArray)
  | 0, _, _, _ => none
  | k + 1, x0, x3, x4 => if x4 < (x0.length : Int) then (carrefourref29_Table.l1 k x0 x3 x4 0) else (some x3)
def carrefourref29_Table.l1 : Nat → List (List ByteArray) → ByteArray → Int → Int → Option (ByteArray)
  | 0, _, _, _, _ => none
  | k + 1, x0, x3, x4, x5 => if 0 ≤ x4 then (if x4 < (x0.length : Int) then (if x5 < ((rd_L1 x0 x4).length : Int) then (if 0 ≤ x5 then (if x3.size + (rdOf ByteArray.empty (rd_L1 x0 x4) x5).size ≤ 9223372036854775807 then (if x5 < (wrap64 (((rd_L1 x0 x4).length : Int) - 1)) then ((carrefourref29_Width.f k x0 x5).bind fun t112 => (carrefourref29_Table.l2 k x0 (x3 ++ (rdOf ByteArray.empty (rd_L1 x0 x4) x5)) x4 x5 (wrap64 ((wrap64 (t112 + 2)) - ((rdOf ByteArray.empty (rd_L1 x0 x4) x5).size : Int))))) else (carrefourref29_Table.l1 k x0 (x3 ++ (rdOf ByteArray.empty (rd_L1 x0 x4) x5)) x4 (wrap64 (x5 + 1)))) else (none)) else (none)) else (if x3.size + 1 ≤ 9223372036854775807 then (carrefourref29_Table.l0 k x0 (x3 ++ (⟨#[10]⟩ : ByteArray)) (wrap64 (x4 + 1))) else (none))) else (none)) else (none)
def carrefourref29_Table.l2 : Nat → List (List ByteArray) → ByteArray → Int → Int → Int → Option (ByteArray)
  | 0, _, _, _, _, _ => none
  | k + 1, x0, x3, x4, x5, x6 => if x6 > 0 then (if x3.size + 1 ≤ 9223372036854775807 then (carrefourref29_Table.l2 k x0 (x3 ++ (⟨#[32]⟩ : ByteArray)) x4 x5 (wrap64 (x6 - 1))) else (none)) else (carrefourref29_Table.l1 k x0 x3 x4 (wrap64 (x5 + 1)))
end
def carrefourref29_Table.f (k : Nat) (l0 : List (List ByteArray)) : Option (ByteArray) := carrefourref29_Table.l0 k l0 (⟨#[]⟩ : ByteArray) 0
/-! ### report_Width: function 8 -/
-- (told where it is handed on)


/-! ### carrefourlaw29_awake: function 10 -/
-- (told where it is handed on)

/-! ### carrefourlaw29_ReportTable: function 3 -/
def carrefourlaw29_ReportTable.f (k : Nat) (l0 : List (List ByteArray)) (a1 : Int) : Option (Bool) := (carrefourlaw29_few.f k l0).bind fun t115 => (if t115 = true then ((report_Table.f k l0).bind fun t116 => ((carrefourref29_Table.f k l0).bind fun t117 => (if t116.toList = t117.toList then ((report_Width.f k l0 a1).bind fun t118 => ((carrefourref29_Width.f k l0 a1).bind fun t119 => (if t118 = t119 then ((carrefourlaw29_awake.f).bind fun t120 => (some t120)) else (some false)))) else (some false)))) else (some true))
end Go.Proofs.YtkbffpadkdgbmaaGreatDoor.X
