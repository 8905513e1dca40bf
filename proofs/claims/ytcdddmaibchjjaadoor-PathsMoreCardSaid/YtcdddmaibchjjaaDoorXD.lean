/- Walks: each '.calls' says that the Go function comes to what its Lean function tells. Conditions: as each theorem's head says. -/
import Derived.Test.YtcdddmaibchjjaaDoorX0
import Derived.Test.YtcdddmaibchjjaaDoorH12
namespace Go.Proofs.YtcdddmaibchjjaaDoor.X
open Go.RowKit Go.Proofs.YtcdddmaibchjjaaDoorW.PrintWords Go.Proofs.YtcdddmaibchjjaaDoorW.PrintLast Go.Proofs.YtcdddmaibchjjaaDoorW.PrintMore
attribute [local go_sem] max2_int min2_int max_two min_two max_three min_three max_four min_four   -- for this text's walks alone
set_option linter.unusedVariables false
set_option maxHeartbeats 8000000
set_option maxRecDepth 100000
set_option linter.unusedSimpArgs false

/-! ### carrefourlaw14_few: function 7 -/
def carrefourlaw14_few.f (a0 : Int) (l1 : List (S34)) : Option (Bool) := if a0 ≤ 12 then (some (decide ((l1.length : Int) ≤ 60))) else (if a0 > 64 then (some (decide ((l1.length : Int) ≤ 60))) else (some false))
/-! ### paths_Longest: function 8 -/
-- (told where it is handed on)


/-! ### paths_Way: function 12 -/
-- (told where it is handed on)

/-! ### carrefourlaw14_awake: function 10 -/
def carrefourlaw14_awake.f (k : Nat)  : Option (Bool) := (some (([(⟨0, 1, 3⟩ : S34), (⟨1, 2, 4⟩ : S34), (⟨0, 2, 5⟩ : S34)] : List (S34)) : List (S34))).bind fun y101 => ((paths_Longest.f k 3 y101).bind fun bt104 => (if y101.length < 5864062014805 then ((paths_Longest.f k 3 (y101 ++ [(⟨2, 1, 0⟩ : S34)])).bind fun bt111 => ((paths_Way.f k 3 y101 2).bind fun t115 => (if bt104.2 = 0 then (if (bt104.1.length : Int) = 3 then (if 1 < (bt104.1.length : Int) then (if (rd bt104.1 1) = 3 then (if 2 < (bt104.1.length : Int) then (if (rd bt104.1 2) = 7 then (if bt111.2 = 140 then (if (t115.length : Int) = 3 then (if 1 < (t115.length : Int) then (some ((rd t115 1) == 1)) else (none)) else (some false)) else (some false)) else (some false)) else (none)) else (some false)) else (none)) else (some false)) else (some false)))) else (none)))
/-! ### carrefourlaw14_PathsMore: function 6 -/
mutual
def carrefourlaw14_PathsMore.j0 : Nat → Int → List Int → Int → List Int → Int → Bool → Int → Int → Int → Option (Bool)
  | 0, _, _, _, _, _, _, _, _, _ => none
  | k + 1, x0, x7, x8, x9, x10, x40, x122000, x122001, x122002 => if x40 = true then (if x10 = 0 then (if x8 = 0 then ((carrefourlaw14_awake.f k).bind fun t143 => (some t143)) else (some false)) else ((carrefourlaw14_awake.f k).bind fun t144 => (some t144))) else (if (x7.length : Int) = x0 then (carrefourlaw14_PathsMore.j1 k x0 x7 x9 ((x9.length : Int) != x0) x122000 x122001 x122002) else (carrefourlaw14_PathsMore.j1 k x0 x7 x9 true x122000 x122001 x122002))
def carrefourlaw14_PathsMore.j1 : Nat → Int → List Int → List Int → Bool → Int → Int → Int → Option (Bool)
  | 0, _, _, _, _, _, _, _ => none
  | k + 1, x0, x7, x9, x59, x122000, x122001, x122002 => if x59 = true then (some false) else (carrefourlaw14_PathsMore.l0 k x0 x7 x9 true 0 x122000 x122001 x122002)
def carrefourlaw14_PathsMore.l0 : Nat → Int → List Int → List Int → Bool → Int → Int → Int → Int → Option (Bool)
  | 0, _, _, _, _, _, _, _, _ => none
  | k + 1, x0, x7, x9, x11, x12, x122000, x122001, x122002 => if x12 < x0 then (if 0 ≤ x12 then (if x12 < (x9.length : Int) then (if x12 < (x7.length : Int) then (if (rd x9 x12) < (rd x7 x12) then (some false) else (if x11 = true then (carrefourlaw14_PathsMore.l0 k x0 x7 x9 ((rd x7 x12) == (rd x9 x12)) (wrap64 (x12 + 1)) x122000 x122001 x122002) else (carrefourlaw14_PathsMore.l0 k x0 x7 x9 false (wrap64 (x12 + 1)) x122000 x122001 x122002))) else (none)) else (none)) else (none)) else (if 0 ≤ x122000 then (if x122000 < (x7.length : Int) then (if (rd x7 x122000) < 0 then (if (x11 == true) = true then ((carrefourlaw14_awake.f k).bind fun t150 => (some t150)) else (some false)) else (if 0 ≤ x122001 then (if x122001 < (x7.length : Int) then (if (x11 == (decide ((rd x7 x122001) ≥ (wrap64 ((rd x7 x122000) + x122002))))) = true then ((carrefourlaw14_awake.f k).bind fun t153 => (some t153)) else (some false)) else (none)) else (none))) else (none)) else (none))
end
def carrefourlaw14_PathsMore.f (k : Nat) (a0 : Int) (l1 : List (S34)) (a2_0 : Int) (a2_1 : Int) (a2_2 : Int) : Option (Bool) := (carrefourlaw14_few.f a0 l1).bind fun t122 => (if t122 = true then ((paths_Longest.f k a0 l1).bind fun bt123 => ((some (([] : List (S34)) : List (S34))).bind fun y127 => (if y127.length + l1.length < 5864062014805 then ((some (y127 ++ l1 : List (S34))).bind fun y130 => ((some (([(⟨a2_0, a2_1, a2_2⟩ : S34)] : List (S34)) : List (S34))).bind fun y133 => (if y130.length + y133.length < 5864062014805 then ((paths_Longest.f k a0 (y130 ++ y133)).bind fun bt139 => (if bt123.2 = 0 then (carrefourlaw14_PathsMore.j0 k a0 bt123.1 bt123.2 bt139.1 bt139.2 (bt139.2 != 0) a2_0 a2_1 a2_2) else (carrefourlaw14_PathsMore.j0 k a0 bt123.1 bt123.2 bt139.1 bt139.2 true a2_0 a2_1 a2_2))) else (none)))) else (none)))) else (some true))
end Go.Proofs.YtcdddmaibchjjaaDoor.X
