/- Walks: each '.calls' says that the Go function comes to what its Lean function tells. Conditions: as each theorem's head says. -/
import Derived.Test.YtcdddmaibchjjaaDoorX0
import Derived.Test.YtcdddmaibchjjaaDoorH12
namespace Go.Proofs.YtcdddmaibchjjaaDoor.X
open Go.RowKit Go.Proofs.YtcdddmaibchjjaaDoorW.PrintWords Go.Proofs.YtcdddmaibchjjaaDoorW.PrintLast Go.Proofs.YtcdddmaibchjjaaDoorW.PrintMore
attribute [local go_sem] max2_int min2_int max_two min_two max_three min_three max_four min_four   -- for this text's walks alone
set_option linter.unusedVariables false
set_option maxHeartbeats 8000000
set_option maxRecDepth 100000
set_option linter.unusedSimpArgs false

/-! ### carrefourlaw14_few: function 7 -/
def carrefourlaw14_few.f (a0 : Int) (l1 : List (S34)) : Option (Bool) := if a0 ≤ 12 then (some (decide ((l1.length : Int) ≤ 60))) else (if a0 > 64 then (some (decide ((l1.length : Int) ≤ 60))) else (some false))
/-! ### paths_Longest: function 8 -/
-- (told where it is handed on)

/-! ### carrefourref14_Right: function 16 -/
mutual
def carrefourref14_Right.j0 : Nat → Int → List (S34) → Bool → Option (Bool)
  | 0, _, _, _ => none
  | k + 1, x0, x1, x16 => if x16 = true then (some false) else (carrefourref14_Right.l0 k x0 x1 0)
def carrefourref14_Right.l0 : Nat → Int → List (S34) → Int → Option (Bool)
  | 0, _, _, _ => none
  | k + 1, x0, x1, x5 => if x5 < (x1.length : Int) then (if 0 ≤ x5 then (if ((rd_T34 x1 x5).f0) < 0 then (some false) else (if ((rd_T34 x1 x5).f0) ≥ x0 then (some false) else (if ((rd_T34 x1 x5).f1) < 0 then (some false) else (if ((rd_T34 x1 x5).f1) ≥ x0 then (some false) else (if ((rd_T34 x1 x5).f2) < 0 then (some false) else (if ((rd_T34 x1 x5).f2) > 6000 then (some false) else (carrefourref14_Right.l0 k x0 x1 (wrap64 (x5 + 1))))))))) else (none)) else (some true)
end
def carrefourref14_Right.f (k : Nat) (a0 : Int) (l1 : List (S34)) : Option (Bool) := if a0 < 1 then (carrefourref14_Right.j0 k a0 l1 true) else (if a0 > 64 then (carrefourref14_Right.j0 k a0 l1 true) else (carrefourref14_Right.j0 k a0 l1 (decide ((l1.length : Int) > 1000))))
/-! ### carrefourref14_round: function 17 -/
def carrefourref14_round.l0 : Nat → List Int → List (S34) → List Int → Bool → Int → Option (List Int × Bool)
  | 0, _, _, _, _, _ => none
  | k + 1, x0, x1, x6, x7, x8 => if x8 < (x1.length : Int) then (if 0 ≤ x8 then (if 0 ≤ ((rd_T34 x1 x8).f0) then (if ((rd_T34 x1 x8).f0) < (x0.length : Int) then (if (rd x0 ((rd_T34 x1 x8).f0)) ≥ 0 then (if 0 ≤ ((rd_T34 x1 x8).f1) then (if ((rd_T34 x1 x8).f1) < (x6.length : Int) then (if (wrap64 ((rd x0 ((rd_T34 x1 x8).f0)) + ((rd_T34 x1 x8).f2))) > (rd x6 ((rd_T34 x1 x8).f1)) then (carrefourref14_round.l0 k x0 x1 (x6.set (((rd_T34 x1 x8).f1) : Int).toNat (wrap64 ((rd x0 ((rd_T34 x1 x8).f0)) + ((rd_T34 x1 x8).f2)))) true (wrap64 (x8 + 1))) else (carrefourref14_round.l0 k x0 x1 x6 x7 (wrap64 (x8 + 1)))) else (none)) else (none)) else (carrefourref14_round.l0 k x0 x1 x6 x7 (wrap64 (x8 + 1)))) else (none)) else (none)) else (none)) else (some (x6, x7))
def carrefourref14_round.f (k : Nat) (l0 : List Int) (l1 : List (S34)) : Option (List Int × Bool) := (some (([] : List Int) : List Int)).bind fun y107 => (if y107.length + l0.length < 17592186044416 then (carrefourref14_round.l0 k l0 l1 (y107 ++ l0) false 0) else (none))
/-! ### carrefourref14_Longest: function 9 -/
mutual
def carrefourref14_Longest.l0 : Nat → Int → List (S34) → List Int → Int → Option (List Int × Int)
  | 0, _, _, _, _ => none
  | k + 1, x0, x1, x6, x7 => if x7 < x0 then (if 0 ≤ x7 then (if x7 < (x6.length : Int) then (carrefourref14_Longest.l0 k x0 x1 (x6.set (x7 : Int).toNat (-1)) (wrap64 (x7 + 1))) else (none)) else (none)) else (carrefourref14_Longest.l1 k x0 x1 x6 true 0)
def carrefourref14_Longest.l1 : Nat → Int → List (S34) → List Int → Bool → Int → Option (List Int × Int)
  | 0, _, _, _, _, _ => none
  | k + 1, x0, x1, x6, x8, x9 => if x9 ≤ x0 then (if x8 = true then ((carrefourref14_round.f k x6 x1).bind fun bt125 => (carrefourref14_Longest.l1 k x0 x1 bt125.1 bt125.2 (wrap64 (x9 + 1)))) else (some (x6, 0))) else (if x8 = true then (some (([] : List Int), 140)) else (some (x6, 0)))
end
def carrefourref14_Longest.f (k : Nat) (a0 : Int) (l1 : List (S34)) : Option (List Int × Int) := (carrefourref14_Right.f k a0 l1).bind fun t120 => (if t120 = true then (if 0 ≤ a0 then (if (a0 : Int).toNat ≤ 35184372088832 then (carrefourref14_Longest.l0 k a0 l1 (List.replicate (a0 : Int).toNat 0) 1) else (none)) else (none)) else (some (([] : List Int), 1)))
/-! ### paths_Way: function 12 -/
-- (told where it is handed on)

/-! ### carrefourlaw14_awake: function 10 -/
def carrefourlaw14_awake.f (k : Nat)  : Option (Bool) := (some (([(⟨0, 1, 3⟩ : S34), (⟨1, 2, 4⟩ : S34), (⟨0, 2, 5⟩ : S34)] : List (S34)) : List (S34))).bind fun y129 => ((paths_Longest.f k 3 y129).bind fun bt132 => (if y129.length < 5864062014805 then ((paths_Longest.f k 3 (y129 ++ [(⟨2, 1, 0⟩ : S34)])).bind fun bt139 => ((paths_Way.f k 3 y129 2).bind fun t143 => (if bt132.2 = 0 then (if (bt132.1.length : Int) = 3 then (if 1 < (bt132.1.length : Int) then (if (rd bt132.1 1) = 3 then (if 2 < (bt132.1.length : Int) then (if (rd bt132.1 2) = 7 then (if bt139.2 = 140 then (if (t143.length : Int) = 3 then (if 1 < (t143.length : Int) then (some ((rd t143 1) == 1)) else (none)) else (some false)) else (some false)) else (some false)) else (none)) else (some false)) else (none)) else (some false)) else (some false)))) else (none)))
/-! ### carrefourlaw14_PathsLongest: function 3 -/
mutual
def carrefourlaw14_PathsLongest.j0 : Nat → List Int → List Int → Bool → Option (Bool)
  | 0, _, _, _ => none
  | k + 1, x5, x7, x35 => if x35 = true then (some false) else (carrefourlaw14_PathsLongest.l0 k x5 x7 0)
def carrefourlaw14_PathsLongest.l0 : Nat → List Int → List Int → Int → Option (Bool)
  | 0, _, _, _ => none
  | k + 1, x5, x7, x9 => if x9 < (x5.length : Int) then (if 0 ≤ x9 then (if x9 < (x7.length : Int) then (if (rd x5 x9) = (rd x7 x9) then (carrefourlaw14_PathsLongest.l0 k x5 x7 (wrap64 (x9 + 1))) else (some false)) else (none)) else (none)) else ((carrefourlaw14_awake.f k).bind fun t160 => (some t160))
end
def carrefourlaw14_PathsLongest.f (k : Nat) (a0 : Int) (l1 : List (S34)) : Option (Bool) := (carrefourlaw14_few.f a0 l1).bind fun t149 => (if t149 = true then ((paths_Longest.f k a0 l1).bind fun bt150 => ((carrefourref14_Longest.f k a0 l1).bind fun bt154 => (if bt150.2 = bt154.2 then (carrefourlaw14_PathsLongest.j0 k bt150.1 bt154.1 ((bt150.1.length : Int) != (bt154.1.length : Int))) else (carrefourlaw14_PathsLongest.j0 k bt150.1 bt154.1 true)))) else (some true))
end Go.Proofs.YtcdddmaibchjjaaDoor.X
