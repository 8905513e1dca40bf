/- Walks: each '.calls' says that the Go function comes to what its Lean function tells. Conditions: as each theorem's head says. -/
import Derived.Test.YtcdddmaibchjjaaDoorX0
import Derived.Test.YtcdddmaibchjjaaDoorH12
namespace Go.Proofs.YtcdddmaibchjjaaDoor.X
open Go.RowKit Go.Proofs.YtcdddmaibchjjaaDoorW.PrintWords Go.Proofs.YtcdddmaibchjjaaDoorW.PrintLast Go.Proofs.YtcdddmaibchjjaaDoorW.PrintMore
attribute [local go_sem] max2_int min2_int max_two min_two max_three min_three max_four min_four   -- for this text's walks alone
set_option linter.unusedVariables false
set_option maxHeartbeats 8000000
set_option maxRecDepth 100000
set_option linter.unusedSimpArgs false

/-! ### carrefourlaw14_few: function 7 -/
def carrefourlaw14_few.f (a0 : Int) (l1 : List (S34)) : Option (Bool) := if a0 ≤ 12 then (some (decide ((l1.length : Int) ≤ 60))) else (if a0 > 64 then (some (decide ((l1.length : Int) ≤ 60))) else (some false))
/-! ### paths_Longest: function 8 -/
-- (told where it is handed on)


/-! ### paths_Way: function 12 -/
-- (told where it is handed on)

/-! ### carrefourlaw14_awake: function 10 -/
def carrefourlaw14_awake.f (k : Nat)  : Option (Bool) := (some (([(⟨0, 1, 3⟩ : S34), (⟨1, 2, 4⟩ : S34), (⟨0, 2, 5⟩ : S34)] : List (S34)) : List (S34))).bind fun y101 => ((paths_Longest.f k 3 y101).bind fun bt104 => (if y101.length < 5864062014805 then ((paths_Longest.f k 3 (y101 ++ [(⟨2, 1, 0⟩ : S34)])).bind fun bt111 => ((paths_Way.f k 3 y101 2).bind fun t115 => (if bt104.2 = 0 then (if (bt104.1.length : Int) = 3 then (if 1 < (bt104.1.length : Int) then (if (rd bt104.1 1) = 3 then (if 2 < (bt104.1.length : Int) then (if (rd bt104.1 2) = 7 then (if bt111.2 = 140 then (if (t115.length : Int) = 3 then (if 1 < (t115.length : Int) then (some ((rd t115 1) == 1)) else (none)) else (some false)) else (some false)) else (some false)) else (none)) else (some false)) else (none)) else (some false)) else (some false)))) else (none)))
/-! ### carrefourlaw14_length: function 14 -/
mutual
def carrefourlaw14_length.l0 : Nat → List (S34) → List Int → Int → Int → Option (Int)
  | 0, _, _, _, _ => none
  | k + 1, x0, x1, x5, x6 => if x6 < (x1.length : Int) then (carrefourlaw14_length.l1 k x0 x1 x5 x6 (-1) 0) else (some x5)
def carrefourlaw14_length.l1 : Nat → List (S34) → List Int → Int → Int → Int → Int → Option (Int)
  | 0, _, _, _, _, _, _ => none
  | k + 1, x0, x1, x5, x6, x7, x8 => if x8 < (x0.length : Int) then (if 0 ≤ x8 then (if 0 ≤ (wrap64 (x6 - 1)) then (if (wrap64 (x6 - 1)) < (x1.length : Int) then (if ((rd_T34 x0 x8).f0) = (rd x1 (wrap64 (x6 - 1))) then (if 0 ≤ x6 then (if x6 < (x1.length : Int) then (if ((rd_T34 x0 x8).f1) = (rd x1 x6) then (carrefourlaw14_length.l1 k x0 x1 x5 x6 (mx x7 ((rd_T34 x0 x8).f2)) (wrap64 (x8 + 1))) else (carrefourlaw14_length.l1 k x0 x1 x5 x6 x7 (wrap64 (x8 + 1)))) else (none)) else (none)) else (carrefourlaw14_length.l1 k x0 x1 x5 x6 x7 (wrap64 (x8 + 1)))) else (none)) else (none)) else (none)) else (carrefourlaw14_length.l2 k x0 x1 x5 x6 x7 0)
def carrefourlaw14_length.l2 : Nat → List (S34) → List Int → Int → Int → Int → Int → Option (Int)
  | 0, _, _, _, _, _, _ => none
  | k + 1, x0, x1, x5, x6, x7, x9 => if x9 < x6 then (if 0 ≤ x9 then (if x9 < (x1.length : Int) then (if 0 ≤ x6 then (if x6 < (x1.length : Int) then (if (rd x1 x9) = (rd x1 x6) then (some (-1)) else (carrefourlaw14_length.l2 k x0 x1 x5 x6 x7 (wrap64 (x9 + 1)))) else (none)) else (none)) else (none)) else (none)) else (if x7 < 0 then (some (-1)) else (carrefourlaw14_length.l0 k x0 x1 (wrap64 (x5 + x7)) (wrap64 (x6 + 1))))
end
def carrefourlaw14_length.f (k : Nat) (l0 : List (S34)) (l1 : List Int) : Option (Int) := carrefourlaw14_length.l0 k l0 l1 0 1
/-! ### carrefourlaw14_PathsFits: function 5 -/
mutual
def carrefourlaw14_PathsFits.j0 : Nat → Int → List (S34) → List Int → Bool → Option (Bool)
  | 0, _, _, _, _ => none
  | k + 1, x0, x1, x5, x37 => if x37 = true then (some false) else (carrefourlaw14_PathsFits.l0 k x0 x1 x5 0)
def carrefourlaw14_PathsFits.l0 : Nat → Int → List (S34) → List Int → Int → Option (Bool)
  | 0, _, _, _, _ => none
  | k + 1, x0, x1, x5, x7 => if x7 < (x1.length : Int) then (if 0 ≤ x7 then (if 0 ≤ ((rd_T34 x1 x7).f0) then (if ((rd_T34 x1 x7).f0) < (x5.length : Int) then (if (rd x5 ((rd_T34 x1 x7).f0)) ≥ 0 then (if 0 ≤ ((rd_T34 x1 x7).f1) then (if ((rd_T34 x1 x7).f1) < (x5.length : Int) then (if (rd x5 ((rd_T34 x1 x7).f1)) < (wrap64 ((rd x5 ((rd_T34 x1 x7).f0)) + ((rd_T34 x1 x7).f2))) then (some false) else (carrefourlaw14_PathsFits.l0 k x0 x1 x5 (wrap64 (x7 + 1)))) else (none)) else (none)) else (carrefourlaw14_PathsFits.l0 k x0 x1 x5 (wrap64 (x7 + 1)))) else (none)) else (none)) else (none)) else (carrefourlaw14_PathsFits.l1 k x0 x1 x5 0)
def carrefourlaw14_PathsFits.l1 : Nat → Int → List (S34) → List Int → Int → Option (Bool)
  | 0, _, _, _, _ => none
  | k + 1, x0, x1, x5, x8 => if x8 < x0 then ((paths_Way.f k x0 x1 x8).bind fun t143 => (if 0 ≤ x8 then (if x8 < (x5.length : Int) then (if (rd x5 x8) < 0 then (if (t143.length : Int) = 0 then (carrefourlaw14_PathsFits.l1 k x0 x1 x5 (wrap64 (x8 + 1))) else (some false)) else (if (t143.length : Int) = 0 then (some false) else (if 0 < (t143.length : Int) then (if (rd t143 0) = 0 then (if 0 ≤ (wrap64 ((t143.length : Int) - 1)) then (if (wrap64 ((t143.length : Int) - 1)) < (t143.length : Int) then (if (rd t143 (wrap64 ((t143.length : Int) - 1))) = x8 then ((carrefourlaw14_length.f k x1 t143).bind fun t149 => (if t149 = (rd x5 x8) then (carrefourlaw14_PathsFits.l1 k x0 x1 x5 (wrap64 (x8 + 1))) else (some false))) else (some false)) else (none)) else (none)) else (some false)) else (none)))) else (none)) else (none))) else ((carrefourlaw14_awake.f k).bind fun t142 => (some t142))
end
def carrefourlaw14_PathsFits.f (k : Nat) (a0 : Int) (l1 : List (S34)) : Option (Bool) := (carrefourlaw14_few.f a0 l1).bind fun t128 => (if t128 = true then ((paths_Longest.f k a0 l1).bind fun bt129 => (if bt129.2 = 0 then (if (bt129.1.length : Int) = a0 then (if 0 < (bt129.1.length : Int) then (carrefourlaw14_PathsFits.j0 k a0 l1 bt129.1 ((rd bt129.1 0) != 0)) else (none)) else (carrefourlaw14_PathsFits.j0 k a0 l1 bt129.1 true)) else (if (bt129.1.length : Int) = 0 then ((carrefourlaw14_awake.f k).bind fun t133 => (some t133)) else (some false)))) else (some true))
end Go.Proofs.YtcdddmaibchjjaaDoor.X
