/- Walks: each '.calls' says that the Go function comes to what its Lean function tells. Conditions: as each theorem's head says. -/
import Derived.Test.YtcdddmaibchjjaaDoorX0
import Derived.Test.YtcdddmaibchjjaaDoorH12
namespace Go.Proofs.YtcdddmaibchjjaaDoor.X
open Go.RowKit Go.Proofs.YtcdddmaibchjjaaDoorW.PrintWords Go.Proofs.YtcdddmaibchjjaaDoorW.PrintLast Go.Proofs.YtcdddmaibchjjaaDoorW.PrintMore
attribute [local go_sem] max2_int min2_int max_two min_two max_three min_three max_four min_four   -- for this text's walks alone
set_option linter.unusedVariables false
set_option maxHeartbeats 8000000
set_option maxRecDepth 100000
set_option linter.unusedSimpArgs false

/-! ### carrefourlaw14_few: function 7 -/
def carrefourlaw14_few.f (a0 : Int) (l1 : List (S34)) : Option (Bool) := if a0 ≤ 12 then (some (decide ((l1.length : Int) ≤ 60))) else (if a0 > 64 then (some (decide ((l1.length : Int) ≤ 60))) else (some false))
/-! ### paths_Longest: function 8 -/
-- (told where it is handed on)


/-! ### paths_Way: function 12 -/
-- (told where it is handed on)

/-! ### carrefourlaw14_awake: function 10 -/
def carrefourlaw14_awake.f (k : Nat)  : Option (Bool) := (some (([(⟨0, 1, 3⟩ : S34), (⟨1, 2, 4⟩ : S34), (⟨0, 2, 5⟩ : S34)] : List (S34)) : List (S34))).bind fun y101 => ((paths_Longest.f k 3 y101).bind fun bt104 => (if y101.length < 5864062014805 then ((paths_Longest.f k 3 (y101 ++ [(⟨2, 1, 0⟩ : S34)])).bind fun bt111 => ((paths_Way.f k 3 y101 2).bind fun t115 => (if bt104.2 = 0 then (if (bt104.1.length : Int) = 3 then (if 1 < (bt104.1.length : Int) then (if (rd bt104.1 1) = 3 then (if 2 < (bt104.1.length : Int) then (if (rd bt104.1 2) = 7 then (if bt111.2 = 140 then (if (t115.length : Int) = 3 then (if 1 < (t115.length : Int) then (some ((rd t115 1) == 1)) else (none)) else (some false)) else (some false)) else (some false)) else (none)) else (some false)) else (none)) else (some false)) else (some false)))) else (none)))
/-! ### carrefourlaw14_simple: function 11 -/
def carrefourlaw14_simple.l0 : Nat → List (S34) → Int → Option (Bool)
  | 0, _, _ => none
  | k + 1, x0, x3 => if x3 < (x0.length : Int) then (if 0 ≤ x3 then (if ((rd_T34 x0 x3).f2) = 0 then (some false) else (carrefourlaw14_simple.l0 k x0 (wrap64 (x3 + 1)))) else (none)) else (some true)
def carrefourlaw14_simple.f (k : Nat) (l0 : List (S34)) : Option (Bool) := carrefourlaw14_simple.l0 k l0 0
/-! ### carrefourref14_Right: function 16 -/
mutual
def carrefourref14_Right.j0 : Nat → Int → List (S34) → Bool → Option (Bool)
  | 0, _, _, _ => none
  | k + 1, x0, x1, x16 => if x16 = true then (some false) else (carrefourref14_Right.l0 k x0 x1 0)
def carrefourref14_Right.l0 : Nat → Int → List (S34) → Int → Option (Bool)
  | 0, _, _, _ => none
  | k + 1, x0, x1, x5 => if x5 < (x1.length : Int) then (if 0 ≤ x5 then (if ((rd_T34 x1 x5).f0) < 0 then (some false) else (if ((rd_T34 x1 x5).f0) ≥ x0 then (some false) else (if ((rd_T34 x1 x5).f1) < 0 then (some false) else (if ((rd_T34 x1 x5).f1) ≥ x0 then (some false) else (if ((rd_T34 x1 x5).f2) < 0 then (some false) else (if ((rd_T34 x1 x5).f2) > 6000 then (some false) else (carrefourref14_Right.l0 k x0 x1 (wrap64 (x5 + 1))))))))) else (none)) else (some true)
end
def carrefourref14_Right.f (k : Nat) (a0 : Int) (l1 : List (S34)) : Option (Bool) := if a0 < 1 then (carrefourref14_Right.j0 k a0 l1 true) else (if a0 > 64 then (carrefourref14_Right.j0 k a0 l1 true) else (carrefourref14_Right.j0 k a0 l1 (decide ((l1.length : Int) > 1000))))
/-! ### carrefourref14_round: function 17 -/
def carrefourref14_round.l0 : Nat → List Int → List (S34) → List Int → Bool → Int → Option (List Int × Bool)
  | 0, _, _, _, _, _ => none
  | k + 1, x0, x1, x6, x7, x8 => if x8 < (x1.length : Int) then (if 0 ≤ x8 then (if 0 ≤ ((rd_T34 x1 x8).f0) then (if ((rd_T34 x1 x8).f0) < (x0.length : Int) then (if (rd x0 ((rd_T34 x1 x8).f0)) ≥ 0 then (if 0 ≤ ((rd_T34 x1 x8).f1) then (if ((rd_T34 x1 x8).f1) < (x6.length : Int) then (if (wrap64 ((rd x0 ((rd_T34 x1 x8).f0)) + ((rd_T34 x1 x8).f2))) > (rd x6 ((rd_T34 x1 x8).f1)) then (carrefourref14_round.l0 k x0 x1 (x6.set (((rd_T34 x1 x8).f1) : Int).toNat (wrap64 ((rd x0 ((rd_T34 x1 x8).f0)) + ((rd_T34 x1 x8).f2)))) true (wrap64 (x8 + 1))) else (carrefourref14_round.l0 k x0 x1 x6 x7 (wrap64 (x8 + 1)))) else (none)) else (none)) else (carrefourref14_round.l0 k x0 x1 x6 x7 (wrap64 (x8 + 1)))) else (none)) else (none)) else (none)) else (some (x6, x7))
def carrefourref14_round.f (k : Nat) (l0 : List Int) (l1 : List (S34)) : Option (List Int × Bool) := (some (([] : List Int) : List Int)).bind fun y128 => (if y128.length + l0.length < 17592186044416 then (carrefourref14_round.l0 k l0 l1 (y128 ++ l0) false 0) else (none))
/-! ### carrefourref14_Longest: function 9 -/
mutual
def carrefourref14_Longest.l0 : Nat → Int → List (S34) → List Int → Int → Option (List Int × Int)
  | 0, _, _, _, _ => none
  | k + 1, x0, x1, x6, x7 => if x7 < x0 then (if 0 ≤ x7 then (if x7 < (x6.length : Int) then (carrefourref14_Longest.l0 k x0 x1 (x6.set (x7 : Int).toNat (-1)) (wrap64 (x7 + 1))) else (none)) else (none)) else (carrefourref14_Longest.l1 k x0 x1 x6 true 0)
def carrefourref14_Longest.l1 : Nat → Int → List (S34) → List Int → Bool → Int → Option (List Int × Int)
  | 0, _, _, _, _, _ => none
  | k + 1, x0, x1, x6, x8, x9 => if x9 ≤ x0 then (if x8 = true then ((carrefourref14_round.f k x6 x1).bind fun bt146 => (carrefourref14_Longest.l1 k x0 x1 bt146.1 bt146.2 (wrap64 (x9 + 1)))) else (some (x6, 0))) else (if x8 = true then (some (([] : List Int), 140)) else (some (x6, 0)))
end
def carrefourref14_Longest.f (k : Nat) (a0 : Int) (l1 : List (S34)) : Option (List Int × Int) := (carrefourref14_Right.f k a0 l1).bind fun t141 => (if t141 = true then (if 0 ≤ a0 then (if (a0 : Int).toNat ≤ 35184372088832 then (carrefourref14_Longest.l0 k a0 l1 (List.replicate (a0 : Int).toNat 0) 1) else (none)) else (none)) else (some (([] : List Int), 1)))
/-! ### carrefourref14_on: function 21 -/
mutual
def carrefourref14_on.l0 : Nat → List Int → List (S34) → Int → Int → List Bool → Int → Option (List Int)
  | 0, _, _, _, _, _, _ => none
  | k + 1, x0, x1, x2, x3, x11, x12 => if x12 < (x0.length : Int) then (if 0 ≤ x12 then (if x12 < (x11.length : Int) then (if rdOf false x11 x12 = true then (carrefourref14_on.l0 k x0 x1 x2 x3 x11 (wrap64 (x12 + 1))) else (carrefourref14_on.l1 k x0 x1 x2 x3 x11 x12 false 0)) else (none)) else (none)) else (some ([] : List Int))
def carrefourref14_on.l1 : Nat → List Int → List (S34) → Int → Int → List Bool → Int → Bool → Int → Option (List Int)
  | 0, _, _, _, _, _, _, _, _ => none
  | k + 1, x0, x1, x2, x3, x11, x12, x13, x14 => if x14 < (x1.length : Int) then (if x13 = true then (carrefourref14_on.l1 k x0 x1 x2 x3 x11 x12 true (wrap64 (x14 + 1))) else (if 0 ≤ x14 then (if ((rd_T34 x1 x14).f0) = x2 then (if ((rd_T34 x1 x14).f1) = x12 then (if 0 ≤ x12 then (if x12 < (x0.length : Int) then (if 0 ≤ x2 then (if x2 < (x0.length : Int) then (carrefourref14_on.l1 k x0 x1 x2 x3 x11 x12 ((rd x0 x12) == (wrap64 ((rd x0 x2) + ((rd_T34 x1 x14).f2)))) (wrap64 (x14 + 1))) else (none)) else (none)) else (none)) else (none)) else (carrefourref14_on.l1 k x0 x1 x2 x3 x11 x12 false (wrap64 (x14 + 1)))) else (carrefourref14_on.l1 k x0 x1 x2 x3 x11 x12 false (wrap64 (x14 + 1)))) else (none))) else (if x13 = true then ((carrefourref14_on.f k x0 x1 x12 x3 x11).bind fun t166 => (if (t166.length : Int) > 0 then ((some (([x2] : List Int) : List Int)).bind fun y169 => (if y169.length + t166.length < 17592186044416 then (some (y169 ++ t166)) else (none))) else (carrefourref14_on.l0 k x0 x1 x2 x3 x11 (wrap64 (x12 + 1))))) else (carrefourref14_on.l0 k x0 x1 x2 x3 x11 (wrap64 (x12 + 1))))
def carrefourref14_on.f : Nat → List Int → List (S34) → Int → Int → List Bool → Option (List Int)
  | 0, _, _, _, _, _ => none
  | k + 1, l0, l1, a2, a3, l4 => if a2 = a3 then (some (([a3] : List Int))) else ((some (([] : List Bool) : List Bool)).bind fun y153 => (if y153.length + l4.length < 140737488355328 then ((some (y153 ++ l4 : List Bool)).bind fun y156 => (if 0 ≤ a2 then (if a2 < (y156.length : Int) then (carrefourref14_on.l0 k l0 l1 a2 a3 (y156.set (a2 : Int).toNat true) 0) else (none)) else (none))) else (none)))
end
/-! ### carrefourref14_Way: function 13 -/
def carrefourref14_Way.f (k : Nat) (a0 : Int) (l1 : List (S34)) (a2 : Int) : Option (List Int) := (carrefourref14_Longest.f k a0 l1).bind fun bt175 => (if bt175.2 = 0 then (if a2 < 0 then (some ([] : List Int)) else (if a2 ≥ a0 then (some ([] : List Int)) else (if 0 ≤ a2 then (if a2 < (bt175.1.length : Int) then (if (rd bt175.1 a2) < 0 then (some ([] : List Int)) else (if 0 ≤ a0 then (if (a0 : Int).toNat ≤ 281474976710656 then ((carrefourref14_on.f k bt175.1 l1 0 a2 (List.replicate (a0 : Int).toNat false)).bind fun t183 => (some t183)) else (none)) else (none))) else (none)) else (none)))) else (some ([] : List Int)))
/-! ### carrefourlaw14_PathsWay: function 4 -/
mutual
def carrefourlaw14_PathsWay.j0 : Nat → Int → List (S34) → Int → Bool → Option (Bool)
  | 0, _, _, _, _ => none
  | k + 1, x0, x1, x2, x18 => if x18 = true then ((carrefourlaw14_awake.f k).bind fun t188 => (some t188)) else ((paths_Way.f k x0 x1 x2).bind fun t189 => ((carrefourref14_Way.f k x0 x1 x2).bind fun t192 => (if (t189.length : Int) = (t192.length : Int) then (carrefourlaw14_PathsWay.l0 k t189 t192 0) else (some false))))
def carrefourlaw14_PathsWay.l0 : Nat → List Int → List Int → Int → Option (Bool)
  | 0, _, _, _ => none
  | k + 1, x7, x8, x9 => if x9 < (x7.length : Int) then (if 0 ≤ x9 then (if x9 < (x8.length : Int) then (if (rd x7 x9) = (rd x8 x9) then (carrefourlaw14_PathsWay.l0 k x7 x8 (wrap64 (x9 + 1))) else (some false)) else (none)) else (none)) else ((carrefourlaw14_awake.f k).bind fun t197 => (some t197))
end
def carrefourlaw14_PathsWay.f (k : Nat) (a0 : Int) (l1 : List (S34)) (a2 : Int) : Option (Bool) := (carrefourlaw14_few.f a0 l1).bind fun t186 => (if t186 = true then ((carrefourlaw14_simple.f k l1).bind fun t187 => (carrefourlaw14_PathsWay.j0 k a0 l1 a2 (!t187))) else (carrefourlaw14_PathsWay.j0 k a0 l1 a2 true))
end Go.Proofs.YtcdddmaibchjjaaDoor.X
