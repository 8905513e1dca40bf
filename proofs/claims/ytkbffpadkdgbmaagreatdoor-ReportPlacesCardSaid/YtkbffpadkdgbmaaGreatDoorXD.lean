/- Walks: each '.calls' says that the Go function comes to what its Lean function tells. Conditions: as each theorem's head says. -/
import Derived.Test.YtkbffpadkdgbmaaGreatDoorX0
import Derived.Test.YtkbffpadkdgbmaaGreatDoorH6
import Derived.Test.YtkbffpadkdgbmaaGreatDoorH7
namespace Go.Proofs.YtkbffpadkdgbmaaGreatDoor.X
open Go.RowKit Go.Proofs.YtkbffpadkdgbmaaGreatDoorW.PrintWords Go.Proofs.YtkbffpadkdgbmaaGreatDoorW.PrintLast Go.Proofs.YtkbffpadkdgbmaaGreatDoorW.PrintMore
attribute [local go_sem] max2_int min2_int max_two min_two max_three min_three max_four min_four   -- for this text's walks alone
set_option linter.unusedVariables false
set_option maxHeartbeats 8000000
set_option maxRecDepth 100000
set_option linter.unusedSimpArgs false

/-! ### carrefourlaw29_few: function 5 -/
mutual
def carrefourlaw29_few.l0 : Nat → List (List ByteArray) → Int → Option (Bool)
  | 0, _, _ => none
  | k + 1, x0, x3 => if x3 < (x0.length : Int) then (if 0 ≤ x3 then (if ((rd_L1 x0 x3).length : Int) > 20 then (some false) else (carrefourlaw29_few.l1 k x0 x3 0)) else (none)) else (some true)
def carrefourlaw29_few.l1 : Nat → List (List ByteArray) → Int → Int → Option (Bool)
  | 0, _, _, _ => none
  | k + 1, x0, x3, x4 => if 0 ≤ x3 then (if x3 < (x0.length : Int) then (if x4 < ((rd_L1 x0 x3).length : Int) then (if 0 ≤ x4 then (if ((rdOf ByteArray.empty (rd_L1 x0 x3) x4).size : Int) > 100 then (some false) else (carrefourlaw29_few.l1 k x0 x3 (wrap64 (x4 + 1)))) else (none)) else (carrefourlaw29_few.l0 k x0 (wrap64 (x3 + 1)))) else (none)) else (none)
end
def carrefourlaw29_few.f (k : Nat) (l0 : List (List ByteArray)) : Option (Bool) := if (l0.length : Int) > 40 then (some false) else (carrefourlaw29_few.l0 k l0 0)
/-! ### report_Table: function 6 -/
-- (told where it is handed on)


/-! ### report_Width: function 8 -/
-- (told where it is handed on)


/-! ### carrefourlaw29_awake: function 10 -/
-- (told where it is handed on)

/-! ### carrefourlaw29_plain: function 11 -/
mutual
def carrefourlaw29_plain.l0 : Nat → List (List ByteArray) → Int → Option (Bool)
  | 0, _, _ => none
  | k + 1, x0, x3 => if x3 < (x0.length : Int) then (carrefourlaw29_plain.l1 k x0 x3 0) else (some true)
def carrefourlaw29_plain.l1 : Nat → List (List ByteArray) → Int → Int → Option (Bool)
  | 0, _, _, _ => none
  | k + 1, x0, x3, x4 => if 0 ≤ x3 then (if x3 < (x0.length : Int) then (if x4 < ((rd_L1 x0 x3).length : Int) then (if 0 ≤ x4 then (if (rdOf ByteArray.empty (rd_L1 x0 x3) x4).toList = ([] : List UInt8) then (some false) else (carrefourlaw29_plain.l2 k x0 x3 x4 0)) else (none)) else (carrefourlaw29_plain.l0 k x0 (wrap64 (x3 + 1)))) else (none)) else (none)
def carrefourlaw29_plain.l2 : Nat → List (List ByteArray) → Int → Int → Int → Option (Bool)
  | 0, _, _, _, _ => none
  | k + 1, x0, x3, x4, x5 => if 0 ≤ x3 then (if x3 < (x0.length : Int) then (if 0 ≤ x4 then (if x4 < ((rd_L1 x0 x3).length : Int) then (if x5 < ((rdOf ByteArray.empty (rd_L1 x0 x3) x4).size : Int) then (if 0 ≤ x5 then (if (bt (rdOf ByteArray.empty (rd_L1 x0 x3) x4) x5) = 10 then (some false) else (if (bt (rdOf ByteArray.empty (rd_L1 x0 x3) x4) x5) = 32 then (some false) else (carrefourlaw29_plain.l2 k x0 x3 x4 (wrap64 (x5 + 1))))) else (none)) else (carrefourlaw29_plain.l1 k x0 x3 (wrap64 (x4 + 1)))) else (none)) else (none)) else (none)) else (none)
end
def carrefourlaw29_plain.f (k : Nat) (l0 : List (List ByteArray)) : Option (Bool) := carrefourlaw29_plain.l0 k l0 0
/-! ### carrefourlaw29_ReportPlaces: function 4 -/
mutual
def carrefourlaw29_ReportPlaces.j0 : Nat → List (List ByteArray) → Bool → Option (Bool)
  | 0, _, _ => none
  | k + 1, x0, x17 => if x17 = true then ((carrefourlaw29_awake.f).bind fun t116 => (some t116)) else ((report_Table.f k x0).bind fun t117 => (carrefourlaw29_ReportPlaces.l0 k x0 t117 0 0))
def carrefourlaw29_ReportPlaces.l0 : Nat → List (List ByteArray) → ByteArray → Int → Int → Option (Bool)
  | 0, _, _, _, _ => none
  | k + 1, x0, x3, x4, x5 => if x5 < (x0.length : Int) then (carrefourlaw29_ReportPlaces.l1 k x0 x3 x4 x5 0 x4 0) else (if x4 = (x3.size : Int) then ((carrefourlaw29_awake.f).bind fun t118 => (some t118)) else (some false))
def carrefourlaw29_ReportPlaces.l1 : Nat → List (List ByteArray) → ByteArray → Int → Int → Int → Int → Int → Option (Bool)
  | 0, _, _, _, _, _, _, _ => none
  | k + 1, x0, x3, x4, x5, x6, x7, x8 => if 0 ≤ x5 then (if x5 < (x0.length : Int) then (if x8 < ((rd_L1 x0 x5).length : Int) then (carrefourlaw29_ReportPlaces.l2 k x0 x3 x4 x5 x6 x7 x8) else (if x7 ≥ (x3.size : Int) then (some false) else (if 0 ≤ x7 then (if x7 < (x3.size : Int) then (if (bt x3 x7) = 10 then (carrefourlaw29_ReportPlaces.l0 k x0 x3 (wrap64 (x7 + 1)) (wrap64 (x5 + 1))) else (some false)) else (none)) else (none)))) else (none)) else (none)
def carrefourlaw29_ReportPlaces.l2 : Nat → List (List ByteArray) → ByteArray → Int → Int → Int → Int → Int → Option (Bool)
  | 0, _, _, _, _, _, _, _ => none
  | k + 1, x0, x3, x4, x5, x6, x7, x8 => if x7 < (wrap64 (x4 + x6)) then (if x7 ≥ (x3.size : Int) then (some false) else (if 0 ≤ x7 then (if x7 < (x3.size : Int) then (if (bt x3 x7) = 32 then (carrefourlaw29_ReportPlaces.l2 k x0 x3 x4 x5 x6 (wrap64 (x7 + 1)) x8) else (some false)) else (none)) else (none))) else (if 0 ≤ x5 then (if x5 < (x0.length : Int) then (if 0 ≤ x8 then (if x8 < ((rd_L1 x0 x5).length : Int) then (if x7 > (wrap64 ((x3.size : Int) - ((rdOf ByteArray.empty (rd_L1 x0 x5) x8).size : Int))) then (some false) else (if 0 ≤ x7 then (if x7 ≤ (wrap64 (x7 + ((rdOf ByteArray.empty (rd_L1 x0 x5) x8).size : Int))) then (if (wrap64 (x7 + ((rdOf ByteArray.empty (rd_L1 x0 x5) x8).size : Int))) ≤ (x3.size : Int) then (if (x3.extract (x7 : Int).toNat ((wrap64 (x7 + ((rdOf ByteArray.empty (rd_L1 x0 x5) x8).size : Int))) : Int).toNat).toList = (rdOf ByteArray.empty (rd_L1 x0 x5) x8).toList then ((report_Width.f k x0 x8).bind fun t122 => (carrefourlaw29_ReportPlaces.l1 k x0 x3 x4 x5 (wrap64 (x6 + (wrap64 (t122 + 2)))) (wrap64 (x7 + ((rdOf ByteArray.empty (rd_L1 x0 x5) x8).size : Int))) (wrap64 (x8 + 1)))) else (some false)) else (none)) else (none)) else (none))) else (none)) else (none)) else (none)) else (none))
end
def carrefourlaw29_ReportPlaces.f (k : Nat) (l0 : List (List ByteArray)) : Option (Bool) := (carrefourlaw29_few.f k l0).bind fun t114 => (if t114 = true then ((carrefourlaw29_plain.f k l0).bind fun t115 => (carrefourlaw29_ReportPlaces.j0 k l0 (!t115))) else (carrefourlaw29_ReportPlaces.j0 k l0 true))
end Go.Proofs.YtkbffpadkdgbmaaGreatDoor.X
