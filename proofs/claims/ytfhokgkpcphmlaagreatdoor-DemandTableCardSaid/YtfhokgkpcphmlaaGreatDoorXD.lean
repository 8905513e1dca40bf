/- Walks: each '.calls' says that the Go function comes to what its Lean function tells. Conditions: as each theorem's head says. -/
import Derived.Test.YtfhokgkpcphmlaaGreatDoorX0
namespace Go.Proofs.YtfhokgkpcphmlaaGreatDoor.X
open Go.RowKit Go.Proofs.YtfhokgkpcphmlaaGreatDoorW.PrintWords Go.Proofs.YtfhokgkpcphmlaaGreatDoorW.PrintLast Go.Proofs.YtfhokgkpcphmlaaGreatDoorW.PrintMore
attribute [local go_sem] max2_int min2_int max_two min_two max_three min_three max_four min_four   -- for this text's walks alone
set_option linter.unusedVariables false
set_option maxHeartbeats 8000000
set_option maxRecDepth 100000
set_option linter.unusedSimpArgs false

/-! ### carrefourlaw06_strings: function 9 -/
mutual
def carrefourlaw06_strings.l0 : Nat → List ByteArray → Int → Option (Bool)
  | 0, _, _ => none
  | k + 1, x0, x3 => if x3 < (x0.length : Int) then (carrefourlaw06_strings.j1 k x0 x3 (decide (x3 < 50))) else (carrefourlaw06_strings.j1 k x0 x3 false)
def carrefourlaw06_strings.j1 : Nat → List ByteArray → Int → Bool → Option (Bool)
  | 0, _, _, _ => none
  | k + 1, x0, x3, x11 => if x11 = true then (if 0 ≤ x3 then (if x3 < (x0.length : Int) then (if ((rdOf ByteArray.empty x0 x3).size : Int) > 100 then (some false) else (carrefourlaw06_strings.l0 k x0 (wrap64 (x3 + 1)))) else (none)) else (none)) else (some (decide ((x0.length : Int) ≤ 50)))
end
def carrefourlaw06_strings.f (k : Nat) (l0 : List ByteArray) : Option (Bool) := carrefourlaw06_strings.l0 k l0 0
/-! ### carrefourlaw06_node: function 8 -/
mutual
def carrefourlaw06_node.j0 : Nat → Bool → ByteArray → List (S48) → List (S54) → List (S56) → List (S59) → List (S63) → Int → Option (Bool)
  | 0, _, _, _, _, _, _, _, _ => none
  | k + 1, x37, x103000, x103001, x103002, x103003, x103004, x103005, x103006 => if x37 = true then (some false) else (carrefourlaw06_node.l0 k (([x103000] : List ByteArray)) 0 x103000 x103001 x103002 x103003 x103004 x103005 x103006)
def carrefourlaw06_node.l0 : Nat → List ByteArray → Int → ByteArray → List (S48) → List (S54) → List (S56) → List (S59) → List (S63) → Int → Option (Bool)
  | 0, _, _, _, _, _, _, _, _, _ => none
  | k + 1, x3, x4, x103000, x103001, x103002, x103003, x103004, x103005, x103006 => if x4 < (x103001.length : Int) then (if 0 ≤ x4 then (if x3.length < 8796093022208 then (carrefourlaw06_node.l0 k (x3 ++ [(rd_T48 x103001 x4).f0]) (wrap64 (x4 + 1)) x103000 x103001 x103002 x103003 x103004 x103005 x103006) else (none)) else (none)) else (if 0 ≤ (mn (x3.length : Int) 50) then (if (mn (x3.length : Int) 50) ≤ (x3.length : Int) then ((carrefourlaw06_strings.f k (x3.take ((mn (x3.length : Int) 50) : Int).toNat)).bind fun t114 => (if t114 = true then (carrefourlaw06_node.l1 k 0 x103000 x103001 x103002 x103003 x103004 x103005 x103006) else (some false))) else (none)) else (none))
def carrefourlaw06_node.l1 : Nat → Int → ByteArray → List (S48) → List (S54) → List (S56) → List (S59) → List (S63) → Int → Option (Bool)
  | 0, _, _, _, _, _, _, _, _ => none
  | k + 1, x5, x103000, x103001, x103002, x103003, x103004, x103005, x103006 => if x5 < (x103002.length : Int) then (if 0 ≤ x5 then ((carrefourlaw06_strings.f k (([(rd_T54 x103002 x5).f0, (rd_T54 x103002 x5).f1] : List ByteArray))).bind fun t120 => (if t120 = true then (carrefourlaw06_node.l1 k (wrap64 (x5 + 1)) x103000 x103001 x103002 x103003 x103004 x103005 x103006) else (some false))) else (none)) else (carrefourlaw06_node.l2 k 0 x103000 x103001 x103002 x103003 x103004 x103005 x103006)
def carrefourlaw06_node.l2 : Nat → Int → ByteArray → List (S48) → List (S54) → List (S56) → List (S59) → List (S63) → Int → Option (Bool)
  | 0, _, _, _, _, _, _, _, _ => none
  | k + 1, x6, x103000, x103001, x103002, x103003, x103004, x103005, x103006 => if x6 < (x103003.length : Int) then (if 0 ≤ x6 then ((carrefourlaw06_strings.f k (([(rd_T56 x103003 x6).f0] : List ByteArray))).bind fun t125 => (if t125 = true then ((carrefourlaw06_strings.f k ((rd_T56 x103003 x6).f1)).bind fun t127 => (if t127 = true then (carrefourlaw06_node.l2 k (wrap64 (x6 + 1)) x103000 x103001 x103002 x103003 x103004 x103005 x103006) else (some false))) else (some false))) else (none)) else (carrefourlaw06_node.l3 k 0 x103000 x103001 x103002 x103003 x103004 x103005 x103006)
def carrefourlaw06_node.l3 : Nat → Int → ByteArray → List (S48) → List (S54) → List (S56) → List (S59) → List (S63) → Int → Option (Bool)
  | 0, _, _, _, _, _, _, _, _ => none
  | k + 1, x7, x103000, x103001, x103002, x103003, x103004, x103005, x103006 => if x7 < (x103004.length : Int) then (if 0 ≤ x7 then (if (((rd_T59 x103004 x7).f0).length : Int) > 5 then (some false) else (carrefourlaw06_node.l4 k x7 0 x103000 x103001 x103002 x103003 x103004 x103005 x103006)) else (none)) else (carrefourlaw06_node.l5 k 0 x103000 x103001 x103002 x103003 x103004 x103005 x103006)
def carrefourlaw06_node.l4 : Nat → Int → Int → ByteArray → List (S48) → List (S54) → List (S56) → List (S59) → List (S63) → Int → Option (Bool)
  | 0, _, _, _, _, _, _, _, _, _ => none
  | k + 1, x7, x8, x103000, x103001, x103002, x103003, x103004, x103005, x103006 => if 0 ≤ x7 then (if x7 < (x103004.length : Int) then (if x8 < (((rd_T59 x103004 x7).f0).length : Int) then (if 0 ≤ x8 then ((carrefourlaw06_strings.f k ((rd_T61 ((rd_T59 x103004 x7).f0) x8).f1)).bind fun t132 => (if t132 = true then (carrefourlaw06_node.l4 k x7 (wrap64 (x8 + 1)) x103000 x103001 x103002 x103003 x103004 x103005 x103006) else (some false))) else (none)) else (carrefourlaw06_node.l3 k (wrap64 (x7 + 1)) x103000 x103001 x103002 x103003 x103004 x103005 x103006)) else (none)) else (none)
def carrefourlaw06_node.l5 : Nat → Int → ByteArray → List (S48) → List (S54) → List (S56) → List (S59) → List (S63) → Int → Option (Bool)
  | 0, _, _, _, _, _, _, _, _ => none
  | k + 1, x9, x103000, x103001, x103002, x103003, x103004, x103005, x103006 => if x9 < (x103005.length : Int) then (if 0 ≤ x9 then ((carrefourlaw06_strings.f k (([(rd_T63 x103005 x9).f0, (rd_T63 x103005 x9).f1] : List ByteArray))).bind fun t138 => (if t138 = true then (carrefourlaw06_node.l5 k (wrap64 (x9 + 1)) x103000 x103001 x103002 x103003 x103004 x103005 x103006) else (some false))) else (none)) else (some true)
end
def carrefourlaw06_node.f (k : Nat) (a0_0 : ByteArray) (l0_1 : List (S48)) (l0_2 : List (S54)) (l0_3 : List (S56)) (l0_4 : List (S59)) (l0_5 : List (S63)) (a0_6 : Int) : Option (Bool) := if (l0_1.length : Int) > 50 then (carrefourlaw06_node.j0 k true a0_0 l0_1 l0_2 l0_3 l0_4 l0_5 a0_6) else (if (l0_2.length : Int) > 50 then (carrefourlaw06_node.j0 k true a0_0 l0_1 l0_2 l0_3 l0_4 l0_5 a0_6) else (if (l0_3.length : Int) > 50 then (carrefourlaw06_node.j0 k true a0_0 l0_1 l0_2 l0_3 l0_4 l0_5 a0_6) else (if (l0_4.length : Int) > 50 then (carrefourlaw06_node.j0 k true a0_0 l0_1 l0_2 l0_3 l0_4 l0_5 a0_6) else (carrefourlaw06_node.j0 k (decide ((l0_5.length : Int) > 80)) a0_0 l0_1 l0_2 l0_3 l0_4 l0_5 a0_6))))
/-! ### carrefourlaw06_Few: function 4 -/
mutual
def carrefourlaw06_Few.j0 : Nat → Bool → Int → Int → Int → Int → Int → List (S42) → List (S45) → Int → Int → Option (Bool)
  | 0, _, _, _, _, _, _, _, _, _, _ => none
  | k + 1, x14, x140000, x140001, x140002, x140003, x140004, x140005, x140006, x140007, x140008 => if x14 = true then (some false) else (carrefourlaw06_Few.l0 k 0 x140000 x140001 x140002 x140003 x140004 x140005 x140006 x140007 x140008)
def carrefourlaw06_Few.l0 : Nat → Int → Int → Int → Int → Int → Int → List (S42) → List (S45) → Int → Int → Option (Bool)
  | 0, _, _, _, _, _, _, _, _, _, _ => none
  | k + 1, x3, x140000, x140001, x140002, x140003, x140004, x140005, x140006, x140007, x140008 => if x3 < (x140005.length : Int) then (if 0 ≤ x3 then ((carrefourlaw06_node.f k ((rd_T42 x140005 x3).f0) ((rd_T42 x140005 x3).f1) ((rd_T42 x140005 x3).f2) ((rd_T42 x140005 x3).f3) ((rd_T42 x140005 x3).f4) ((rd_T42 x140005 x3).f5) ((rd_T42 x140005 x3).f6)).bind fun t141 => (if t141 = true then (carrefourlaw06_Few.l0 k (wrap64 (x3 + 1)) x140000 x140001 x140002 x140003 x140004 x140005 x140006 x140007 x140008) else (some false))) else (none)) else (carrefourlaw06_Few.l1 k 0 x140000 x140001 x140002 x140003 x140004 x140005 x140006 x140007 x140008)
def carrefourlaw06_Few.l1 : Nat → Int → Int → Int → Int → Int → Int → List (S42) → List (S45) → Int → Int → Option (Bool)
  | 0, _, _, _, _, _, _, _, _, _, _ => none
  | k + 1, x4, x140000, x140001, x140002, x140003, x140004, x140005, x140006, x140007, x140008 => if x4 < (x140006.length : Int) then (if 0 ≤ x4 then ((carrefourlaw06_strings.f k (([(rd_T45 x140006 x4).f0, (rd_T45 x140006 x4).f1, (rd_T45 x140006 x4).f2] : List ByteArray))).bind fun t148 => (if t148 = true then (carrefourlaw06_Few.l1 k (wrap64 (x4 + 1)) x140000 x140001 x140002 x140003 x140004 x140005 x140006 x140007 x140008) else (some false))) else (none)) else (some true)
end
def carrefourlaw06_Few.f (k : Nat) (a0_0 : Int) (a0_1 : Int) (a0_2 : Int) (a0_3 : Int) (a0_4 : Int) (l0_5 : List (S42)) (l0_6 : List (S45)) (a0_7 : Int) (a0_8 : Int) : Option (Bool) := if (l0_5.length : Int) > 15 then (carrefourlaw06_Few.j0 k true a0_0 a0_1 a0_2 a0_3 a0_4 l0_5 l0_6 a0_7 a0_8) else (carrefourlaw06_Few.j0 k (decide ((l0_6.length : Int) > 15)) a0_0 a0_1 a0_2 a0_3 a0_4 l0_5 l0_6 a0_7 a0_8)
/-! ### demand_chain_then: function 15 -/
-- demand's chain.then: told by hand (it calls what it is handed): where something was refused already, and where not.
/-! ### frac_wide_zero: function 86 -/
def frac_wide_zero.f (a0_0 : Int) (a0_1 : Int) : Option (Bool) := some ((Go.bits .or .u64 a0_0 a0_1) == 0)
/-! ### bits_TrailingZeros64: function 96 -/
def bits_TrailingZeros64.f (a0 : Int) : Option Int := if 0 ≤ a0 ∧ a0 < 18446744073709551616 then some ((Lib.ctz 64 a0.toNat : Nat) : Int) else none
/-! ### frac_wide_twos: function 87 -/
def frac_wide_twos.f (a0_0 : Int) (a0_1 : Int) : Option (Int) := if a0_1 = 0 then ((bits_TrailingZeros64.f a0_0).bind fun t151 => (some (wrap64 (64 + t151)))) else ((bits_TrailingZeros64.f a0_1).bind fun t152 => (some t152))
/-! ### frac_wide_down: function 88 -/
def frac_wide_down.f (a0_0 : Int) (a0_1 : Int) (a1 : Int) : Option (Int × Int) := if a1 ≥ 64 then (if 0 ≤ (wrap64 (a1 - 64)) then (some (0, shr .u64 a0_0 (wrap64 (a1 - 64)))) else (none)) else (if 0 ≤ a1 then (if 0 ≤ (wrap64 (64 - a1)) then (some (shr .u64 a0_0 a1, Go.bits .or .u64 (shr .u64 a0_1 a1) (shl .u64 a0_0 (wrap64 (64 - a1))))) else (none)) else (none))
/-! ### frac_wide_cmp: function 89 -/
def frac_wide_cmp.f (a0_0 : Int) (a0_1 : Int) (a1_0 : Int) (a1_1 : Int) : Option (Int) := if (a0_0 == a1_0 && (a0_1 == a1_1)) = true then (some 0) else (if a0_0 < a1_0 then (some (-1)) else (if a0_0 = a1_0 then (if a0_1 < a1_1 then (some (-1)) else (some 1)) else (some 1)))
/-! ### bits_Sub64: function 54 -/
def bits_Sub64.f (a0 : Int) (a1 : Int) (a2 : Int) : Option (Int × Int) := if 0 ≤ a0 ∧ 0 ≤ a1 ∧ a1 < 18446744073709551616 ∧ 0 ≤ a2 ∧ a2 ≤ 1 then some ((a0 - a1 - a2) % 18446744073709551616, if a0 < a1 + a2 then 1 else 0) else none
/-- The model's entry for math/bits.Sub64. -/
def sub64Entry : Array Value → Sem Value := fun args => do
  let (x, y, b) ← Extern.MathBitsCarry.three "Sub64" args
  pure (Extern.MathBitsCarry.pair ((x + Extern.MathBitsCarry.m64 - y - b) % Extern.MathBitsCarry.m64) (if x < y + b then 1 else 0))
/-! ### frac_wide_minus: function 90 -/
def frac_wide_minus.f (a0_0 : Int) (a0_1 : Int) (a1_0 : Int) (a1_1 : Int) : Option (Int × Int) := (bits_Sub64.f a0_1 a1_1 0).bind fun bt160 => ((bits_Sub64.f a0_0 a1_0 bt160.2).bind fun bt162 => (some (bt162.1, bt160.1)))
/-! ### frac_wide_up: function 91 -/
def frac_wide_up.f (a0_0 : Int) (a0_1 : Int) (a1 : Int) : Option (Int × Int) := if a1 ≥ 64 then (if 0 ≤ (wrap64 (a1 - 64)) then (some (shl .u64 a0_1 (wrap64 (a1 - 64)), 0)) else (none)) else (if 0 ≤ a1 then (if 0 ≤ (wrap64 (64 - a1)) then (some (Go.bits .or .u64 (shl .u64 a0_0 a1) (shr .u64 a0_1 (wrap64 (64 - a1))), shl .u64 a0_1 a1)) else (none)) else (none))
/-! ### frac_gcd: function 63 -/
def frac_gcd.l0 : Nat → Int → Int → Int → Int → Int → Option (Int × Int)
  | 0, _, _, _, _, _ => none
  | k + 1, x5, x167000, x167001, x168000, x168001 => (frac_wide_zero.f x168000 x168001).bind fun t176 => (if t176 = true then ((frac_wide_up.f x167000 x167001 x5).bind fun bt177 => (some (bt177.1, bt177.2))) else ((frac_wide_twos.f x168000 x168001).bind fun t179 => ((frac_wide_down.f x168000 x168001 t179).bind fun bt180 => ((frac_wide_cmp.f x167000 x167001 bt180.1 bt180.2).bind fun t182 => (if t182 > 0 then ((frac_wide_minus.f x167000 x167001 bt180.1 bt180.2).bind fun bt183 => (frac_gcd.l0 k x5 bt180.1 bt180.2 bt183.1 bt183.2)) else ((frac_wide_minus.f bt180.1 bt180.2 x167000 x167001).bind fun bt185 => (frac_gcd.l0 k x5 x167000 x167001 bt185.1 bt185.2)))))))
def frac_gcd.f (k : Nat) (a0_0 : Int) (a0_1 : Int) (a1_0 : Int) (a1_1 : Int) : Option (Int × Int) := (frac_wide_zero.f a0_0 a0_1).bind fun t169 => (if t169 = true then (some (a1_0, a1_1)) else ((frac_wide_zero.f a1_0 a1_1).bind fun t170 => (if t170 = true then (some (a0_0, a0_1)) else ((frac_wide_twos.f a0_0 a0_1).bind fun t171 => ((frac_wide_twos.f a1_0 a1_1).bind fun t172 => ((frac_wide_twos.f a0_0 a0_1).bind fun t173 => ((frac_wide_down.f a0_0 a0_1 t173).bind fun bt174 => (frac_gcd.l0 k (mn t171 t172) bt174.1 bt174.2 a1_0 a1_1))))))))
/-! ### bits_Len64: function 97 -/
def bits_Len64.f (a0 : Int) : Option Int := if 0 ≤ a0 ∧ a0 ≤ 18446744073709551615 then some ((Lib.bitLen a0.toNat : Nat) : Int) else none
/-! ### frac_wide_long: function 92 -/
def frac_wide_long.f (a0_0 : Int) (a0_1 : Int) : Option (Int) := if a0_0 = 0 then ((bits_Len64.f a0_1).bind fun t188 => (some t188)) else ((bits_Len64.f a0_0).bind fun t189 => (some (wrap64 (64 + t189))))
/-! ### frac_wide_over: function 64 -/
def frac_wide_over.l0 : Nat → Int → Int → Int → Int → Int → Int → Int → Option (Int × Int)
  | 0, _, _, _, _, _, _, _ => none
  | k + 1, x6, x191000, x191001, x192000, x192001, x194000, x194001 => if x6 ≥ 0 then ((frac_wide_up.f x194000 x194001 1).bind fun bt196 => ((frac_wide_up.f x192000 x192001 x6).bind fun bt198 => ((frac_wide_cmp.f bt198.1 bt198.2 x191000 x191001).bind fun t201 => (if t201 ≤ 0 then ((frac_wide_minus.f x191000 x191001 bt198.1 bt198.2).bind fun bt202 => (frac_wide_over.l0 k (wrap64 (x6 - 1)) bt202.1 bt202.2 x192000 x192001 bt196.1 (Go.bits .or .u64 bt196.2 1))) else (frac_wide_over.l0 k (wrap64 (x6 - 1)) x191000 x191001 x192000 x192001 bt196.1 bt196.2))))) else (some (x194000, x194001))
def frac_wide_over.f (k : Nat) (a0_0 : Int) (a0_1 : Int) (a1_0 : Int) (a1_1 : Int) : Option (Int × Int) := (frac_wide_long.f a0_0 a0_1).bind fun t194 => ((frac_wide_long.f a1_0 a1_1).bind fun t195 => (frac_wide_over.l0 k (wrap64 (t194 - t195)) a0_0 a0_1 a1_0 a1_1 0 0))
/-! ### frac_signed_whole: function 65 -/
def frac_signed_whole.f (a0_0 : Bool) (a0_1 : Int) (a0_2 : Int) : Option (Int × Bool) := if a0_1 = 0 then (if a0_0 = true then (some (wrap64 (IntKind.u64.wrap (-a0_2)), decide (a0_2 ≤ 9223372036854775808))) else (some (wrap64 (a0_2), decide (a0_2 < 9223372036854775808)))) else (some (0, false))
/-! ### frac_reduced: function 36 -/
def frac_reduced.f (k : Nat) (a0_0 : Bool) (a0_1 : Int) (a0_2 : Int) (a1_0 : Bool) (a1_1 : Int) (a1_2 : Int) : Option (Int × Int × Int) := (frac_gcd.f k a0_1 a0_2 a1_1 a1_2).bind fun bt208 => ((frac_wide_over.f k a0_1 a0_2 bt208.1 bt208.2).bind fun bt211 => ((frac_wide_over.f k a1_1 a1_2 bt208.1 bt208.2).bind fun bt213 => ((frac_signed_whole.f (a0_0 != a1_0) bt211.1 bt211.2).bind fun bt215 => ((frac_signed_whole.f false bt213.1 bt213.2).bind fun bt217 => (if bt215.2 = true then (if bt217.2 = true then (some (bt215.1, bt217.1, 0)) else (some (0, 0, 2))) else (some (0, 0, 2)))))))
/-! ### frac_sized: function 37 -/
def frac_sized.f (a0 : Int) : Option (Bool × Int × Int) := if a0 < 0 then (some (true, 0, IntKind.u64.wrap (-(IntKind.u64.wrap (a0))))) else (some (false, 0, IntKind.u64.wrap (a0)))
/-! ### frac_Of: function 31 -/
def frac_Of.f (k : Nat) (a0 : Int) (a1 : Int) : Option (Int × Int × Int) := if a1 = 0 then (some (0, 0, 3)) else ((frac_sized.f a0).bind fun bt221 => ((frac_sized.f a1).bind fun bt224 => ((frac_reduced.f k bt221.1 bt221.2.1 bt221.2.2 bt224.1 bt224.2.1 bt224.2.2).bind fun bt227 => (some (bt227.1, bt227.2.1, bt227.2.2)))))
/-! ### demand_volume_1: function 30 -/
def demand_volume_1.f (k : Nat) (a0_0 : Int) (a0_1 : Int) : Option (Int × Int × Int) := (frac_Of.f k a0_0 a0_1).bind fun bt232 => (some (bt232.1, bt232.2.1, bt232.2.2))
/-! ### demand_number: function 18 -/
def demand_number.f (a0 : Int) : Option (Int × Int) := some (a0, 1)
/-! ### whole_signed: function 52 -/
def whole_signed.j0 : Nat → Int → Bool → Option (Int × Int)
  | 0, _, _ => none
  | k + 1, x0, x6 => if x6 = true then (some (wrap64 (IntKind.u64.wrap (-x0)), 0)) else (if x0 ≤ 9223372036854775807 then (some (wrap64 (x0), 0)) else (some (0, 2)))
def whole_signed.f (k : Nat) (a0 : Int) (a1 : Int) : Option (Int × Int) := if a1 < 0 then (whole_signed.j0 k a0 (decide (a0 ≤ 9223372036854775808))) else (whole_signed.j0 k a0 false)
theorem whole_signed.mono_l : ∀ k, (∀ y0 y1, LeO (whole_signed.j0 k y0 y1) (whole_signed.j0 (k + 1) y0 y1))
  | 0 => fun _ _ r h => by simp [whole_signed.j0] at h
  | k + 1 => by
    have ih0 := whole_signed.mono_l k
    · intro y0 y1
      unfold whole_signed.j0
      repeat' with_reducible first | exact ih0 _ _ | exact LeO.refl _ | exact LeO.none _ | refine LeO.ite ?_ ?_ | refine LeO.bind ?_ (fun _ => ?_)
theorem whole_signed.mono : ∀ a0 a1 k, LeO (whole_signed.f k a0 a1) (whole_signed.f (k + 1) a0 a1) := by
  intro a0 a1 k
  have ih0 := whole_signed.mono_l k
  unfold whole_signed.f
  repeat' with_reducible first | exact ih0 _ _ | exact LeO.refl _ | exact LeO.none _ | refine LeO.ite ?_ ?_ | refine LeO.bind ?_ (fun _ => ?_)
/-! ### whole_gcd: function 75 -/
mutual
def whole_gcd.j0 : Nat → Int → Int → Bool → Option (Int)
  | 0, _, _, _ => none
  | k + 1, x0, x1, x11 => if x11 = true then (some (Go.bits .or .u64 x0 x1)) else ((bits_TrailingZeros64.f (Go.bits .or .u64 x0 x1)).bind fun t236 => ((bits_TrailingZeros64.f x0).bind fun t237 => (if 0 ≤ t237 then (whole_gcd.l0 k (shr .u64 x0 t237) x1 t236) else (none))))
def whole_gcd.l0 : Nat → Int → Int → Int → Option (Int)
  | 0, _, _, _ => none
  | k + 1, x0, x1, x5 => if x1 = 0 then (if 0 ≤ x5 then (some (shl .u64 x0 x5)) else (none)) else ((bits_TrailingZeros64.f x1).bind fun t238 => (if 0 ≤ t238 then (if x0 > (shr .u64 x1 t238) then (whole_gcd.l0 k (shr .u64 x1 t238) (IntKind.u64.wrap (x0 - (shr .u64 x1 t238))) x5) else (whole_gcd.l0 k x0 (IntKind.u64.wrap ((shr .u64 x1 t238) - x0)) x5)) else (none)))
end
def whole_gcd.f (k : Nat) (a0 : Int) (a1 : Int) : Option (Int) := if a0 = 0 then (whole_gcd.j0 k a0 a1 true) else (whole_gcd.j0 k a0 a1 (a1 == 0))
/-! ### whole_size: function 76 -/
def whole_size.f (a0 : Int) : Option (Int) := if a0 < 0 then (some (IntKind.u64.wrap (-(IntKind.u64.wrap (a0))))) else (some (IntKind.u64.wrap (a0)))
/-! ### whole_Gcd: function 47 -/
def whole_Gcd.f (k : Nat) (a0 : Int) (a1 : Int) : Option (Int × Int) := (whole_size.f a0).bind fun t239 => ((whole_size.f a1).bind fun t240 => ((whole_gcd.f k t239 t240).bind fun t241 => ((whole_signed.f k t241 1).bind fun bt242 => (some (bt242.1, bt242.2)))))
/-! ### frac_Right: function 21 -/
def frac_Right.f (k : Nat) (a0_0 : Int) (a0_1 : Int) : Option (Bool) := (whole_Gcd.f k a0_0 a0_1).bind fun bt245 => (if a0_1 ≥ 1 then (if bt245.2 = 0 then (some (bt245.1 == 1)) else (some false)) else (some false))
/-! ### frac_nought: function 62 -/
def frac_nought.f  : Option (Int × Int) := some (0, 1)
/-! ### frac_norm: function 35 -/
def frac_norm.f (k : Nat) (a0_0 : Int) (a0_1 : Int) : Option (Int × Int) := (frac_Right.f k a0_0 a0_1).bind fun t250 => (if t250 = true then (some (a0_0, a0_1)) else ((frac_nought.f).bind fun bt251 => (some (bt251.1, bt251.2))))
/-! ### bits_Mul64: function 53 -/
def bits_Mul64.f (a0 : Int) (a1 : Int) : Option (Int × Int) := some (IntKind.u64.wrap ((IntKind.u64.wrap ((IntKind.u64.wrap ((a0 / 4294967296) * (a1 / 4294967296))) + ((IntKind.u64.wrap ((IntKind.u64.wrap ((a0 / 4294967296) * (Go.bits .and .u64 a1 4294967295))) + ((IntKind.u64.wrap ((Go.bits .and .u64 a0 4294967295) * (Go.bits .and .u64 a1 4294967295))) / 4294967296))) / 4294967296))) + ((IntKind.u64.wrap ((Go.bits .and .u64 (IntKind.u64.wrap ((IntKind.u64.wrap ((a0 / 4294967296) * (Go.bits .and .u64 a1 4294967295))) + ((IntKind.u64.wrap ((Go.bits .and .u64 a0 4294967295) * (Go.bits .and .u64 a1 4294967295))) / 4294967296))) 4294967295) + (IntKind.u64.wrap ((Go.bits .and .u64 a0 4294967295) * (a1 / 4294967296))))) / 4294967296)), IntKind.u64.wrap (a0 * a1))
/-! ### frac_multiply: function 66 -/
def frac_multiply.f (a0 : Int) (a1 : Int) : Option (Int × Int) := (bits_Mul64.f a0 a1).bind fun bt254 => (some (bt254.1, bt254.2))
/-! ### frac_signed_times: function 38 -/
def frac_signed_times.f (a0_0 : Bool) (a0_1 : Int) (a0_2 : Int) (a1_0 : Bool) (a1_1 : Int) (a1_2 : Int) : Option (Bool × Int × Int) := (frac_multiply.f a0_2 a1_2).bind fun bt259 => (some ((a0_0 != a1_0), bt259.1, bt259.2))
/-! ### frac_Mul: function 33 -/
def frac_Mul.f (k : Nat) (a0_0 : Int) (a0_1 : Int) (a1_0 : Int) (a1_1 : Int) : Option (Int × Int × Int) := (frac_norm.f k a0_0 a0_1).bind fun bt264 => ((frac_norm.f k a1_0 a1_1).bind fun bt266 => ((frac_sized.f bt264.1).bind fun bt268 => ((frac_sized.f bt266.1).bind fun bt271 => ((frac_signed_times.f bt268.1 bt268.2.1 bt268.2.2 bt271.1 bt271.2.1 bt271.2.2).bind fun bt274 => ((frac_sized.f bt264.2).bind fun bt277 => ((frac_sized.f bt266.2).bind fun bt280 => ((frac_signed_times.f bt277.1 bt277.2.1 bt277.2.2 bt280.1 bt280.2.1 bt280.2.2).bind fun bt283 => ((frac_reduced.f k bt274.1 bt274.2.1 bt274.2.2 bt283.1 bt283.2.1 bt283.2.2).bind fun bt286 => (some (bt286.1, bt286.2.1, bt286.2.2))))))))))
/-! ### demand_volume_2: function 32 -/
def demand_volume_2.f (k : Nat) (a0_0 : Int) (a0_1 : Int) (a1_0 : ByteArray) (a1_1 : Int) (a1_2 : Int) (a1_3 : Int) (a1_4 : Int) (a1_5 : Int) (a1_6 : Int) (a1_7 : Int) (a1_8 : Int) (a1_9 : Int) (a1_10 : Int) : Option (Int × Int × Int) := (demand_number.f a1_1).bind fun bt292 => ((frac_Mul.f k a0_0 a0_1 bt292.1 bt292.2).bind fun bt294 => (some (bt294.1, bt294.2.1, bt294.2.2)))
/-! ### frac_Div: function 17 -/
def frac_Div.f (k : Nat) (a0_0 : Int) (a0_1 : Int) (a1_0 : Int) (a1_1 : Int) : Option (Int × Int × Int) := (frac_norm.f k a0_0 a0_1).bind fun bt300 => ((frac_norm.f k a1_0 a1_1).bind fun bt302 => (if bt302.1 = 0 then (some (0, 0, 3)) else ((frac_sized.f bt300.1).bind fun bt304 => ((frac_sized.f bt302.2).bind fun bt307 => ((frac_signed_times.f bt304.1 bt304.2.1 bt304.2.2 bt307.1 bt307.2.1 bt307.2.2).bind fun bt310 => ((frac_sized.f bt300.2).bind fun bt313 => ((frac_sized.f bt302.1).bind fun bt316 => ((frac_signed_times.f bt313.1 bt313.2.1 bt313.2.2 bt316.1 bt316.2.1 bt316.2.2).bind fun bt319 => ((frac_reduced.f k bt310.1 bt310.2.1 bt310.2.2 bt319.1 bt319.2.1 bt319.2.2).bind fun bt322 => (some (bt322.1, bt322.2.1, bt322.2.2)))))))))))
/-! ### demand_volume_3: function 34 -/
-- (told where it is handed on)


/-! ### demand_volume: function 14 -/
/-- demand.volume: told by hand (it hands function literals on). -/
def demand_volume.f (k : Nat) (a0_0 : ByteArray) (a0_1 a0_2 a0_3 a0_4 a0_5 a0_6 a0_7 a0_8 a0_9 a0_10 a1_0 a1_1 : Int) : Option (Int × Int × Int) :=
  (demand_volume_1.f k a0_3 a0_4).bind fun a => if a.2.2 = 0 then ((demand_volume_2.f k a.1 a.2.1 a0_0 a0_1 a0_2 a0_3 a0_4 a0_5 a0_6 a0_7 a0_8 a0_9 a0_10).bind fun b => if b.2.2 = 0 then ((demand_volume_1.f k a1_0 a1_1).bind fun c => if c.2.2 = 0 then frac_Div.f k b.1 b.2.1 c.1 c.2.1 else some (0, 0, c.2.2)) else some b) else some a
/-! ### demand_Ratio_1: function 16 -/
def demand_Ratio_1.f (k : Nat) (a0_0 : Int) (a0_1 : Int) (a1_0 : ByteArray) (a1_1 : Int) (a1_2 : Int) (a1_3 : Int) (a1_4 : Int) (a1_5 : Int) (a1_6 : Int) (a1_7 : Int) (a1_8 : Int) (a1_9 : Int) (a1_10 : Int) : Option (Int × Int × Int) := (demand_number.f a1_2).bind fun bt328 => ((frac_Div.f k a0_0 a0_1 bt328.1 bt328.2).bind fun bt330 => (some (bt330.1, bt330.2.1, bt330.2.2)))
/-! ### demand_Ratio: function 10 -/
/-- demand.Ratio: told by hand (it hands a function literal on). -/
def demand_Ratio.f (k : Nat) (a0_0 : ByteArray) (a0_1 a0_2 a0_3 a0_4 a0_5 a0_6 a0_7 a0_8 a0_9 a0_10 a1_0 a1_1 : Int) : Option (Int × Int × Int) :=
  (demand_volume.f k a0_0 a0_1 a0_2 a0_3 a0_4 a0_5 a0_6 a0_7 a0_8 a0_9 a0_10 a1_0 a1_1).bind fun a => if a.2.2 = 0 then demand_Ratio_1.f k a.1 a.2.1 a0_0 a0_1 a0_2 a0_3 a0_4 a0_5 a0_6 a0_7 a0_8 a0_9 a0_10 else some a
/-! ### demand_Table: function 5 -/
mutual
def demand_Table.l0 : Nat → List (List (S23)) → List (S42) → Int → Int → Int → Int → Int → Int → Int → List (S42) → List (S45) → Int → Int → Option ((List (List (S23))) × Int)
  | 0, _, _, _, _, _, _, _, _, _, _, _, _, _ => none
  | k + 1, x4, x13, x14, x15, x334000, x334001, x334002, x334003, x334004, x334005, x334006, x334007, x334008 => if x15 < x14 then (if 0 ≤ x15 then (if x15 < (x13.length : Int) then (if 0 ≤ (((rd_T42 x13 x15).f1).length : Int) then (if ((((rd_T42 x13 x15).f1).length : Int) : Int).toNat ≤ 17592186044416 then (demand_Table.l1 k x4 (List.replicate ((((rd_T42 x13 x15).f1).length : Int) : Int).toNat z23) x13 x14 x15 ((rd_T42 x13 x15).f1) (((rd_T42 x13 x15).f1).length : Int) 0 x334000 x334001 x334002 x334003 x334004 x334005 x334006 x334007 x334008) else (none)) else (none)) else (none)) else (none)) else (some (x4, 0))
def demand_Table.l1 : Nat → List (List (S23)) → List (S23) → List (S42) → Int → Int → List (S48) → Int → Int → Int → Int → Int → Int → Int → List (S42) → List (S45) → Int → Int → Option ((List (List (S23))) × Int)
  | 0, _, _, _, _, _, _, _, _, _, _, _, _, _, _, _, _, _ => none
  | k + 1, x4, x7, x13, x14, x15, x24, x25, x26, x334000, x334001, x334002, x334003, x334004, x334005, x334006, x334007, x334008 => if x26 < x25 then (if 0 ≤ x26 then (if x26 < (x24.length : Int) then ((demand_Ratio.f k ((rd_T48 x24 x26).f0) ((rd_T48 x24 x26).f1) ((rd_T48 x24 x26).f2) ((rd_T48 x24 x26).f3.f0) ((rd_T48 x24 x26).f3.f1) ((rd_T48 x24 x26).f4) ((rd_T48 x24 x26).f5) ((rd_T48 x24 x26).f6) ((rd_T48 x24 x26).f7) ((rd_T48 x24 x26).f8) ((rd_T48 x24 x26).f9) x334003 x334004).bind fun bt341 => (if bt341.2.2 = 0 then (if x26 < (x7.length : Int) then (demand_Table.l1 k x4 (x7.set (x26 : Int).toNat (⟨bt341.1, bt341.2.1⟩ : S23)) x13 x14 x15 x24 x25 (wrap64 (x26 + 1)) x334000 x334001 x334002 x334003 x334004 x334005 x334006 x334007 x334008) else (none)) else (some (([] : List (List (S23))), bt341.2.2)))) else (none)) else (none)) else (if x4.length < 5864062014805 then (demand_Table.l0 k (x4 ++ [x7]) x13 x14 (wrap64 (x15 + 1)) x334000 x334001 x334002 x334003 x334004 x334005 x334006 x334007 x334008) else (none))
end
def demand_Table.f (k : Nat) (a0_0 : Int) (a0_1 : Int) (a0_2 : Int) (a0_3 : Int) (a0_4 : Int) (l0_5 : List (S42)) (l0_6 : List (S45)) (a0_7 : Int) (a0_8 : Int) : Option ((List (List (S23))) × Int) := demand_Table.l0 k ([] : List (List (S23))) l0_5 (l0_5.length : Int) 0 a0_0 a0_1 a0_2 a0_3 a0_4 l0_5 l0_6 a0_7 a0_8
/-! ### carrefourref01_Size: function 45 -/
def carrefourref01_Size.f (a0 : Int) : Option (Int) := if a0 < 0 then (some (IntKind.u64.wrap (-(IntKind.u64.wrap (a0))))) else (some (IntKind.u64.wrap (a0)))
/-! ### carrefourref02_gcd: function 67 -/
def carrefourref02_gcd.l0 : Nat → Int → Int → Option (Int)
  | 0, _, _ => none
  | k + 1, x0, x1 => if x1 = 0 then (some x0) else (carrefourref02_gcd.l0 k x1 (Int.tmod x0 x1))
def carrefourref02_gcd.f (k : Nat) (a0 : Int) (a1 : Int) : Option (Int) := carrefourref02_gcd.l0 k a0 a1
/-! ### carrefourref01_Signed: function 93 -/
def carrefourref01_Signed.j0 : Nat → Int → Bool → Bool → Option (Int × Int)
  | 0, _, _, _ => none
  | k + 1, x0, x1, x10 => if x10 = true then (some ((-9223372036854775808), 0)) else (if x0 > 9223372036854775807 then (some (0, 2)) else (if x1 = true then (some (wrap64 (-(wrap64 (x0))), 0)) else (some (wrap64 (x0), 0))))
def carrefourref01_Signed.f (k : Nat) (a0 : Int) (a1 : Bool) : Option (Int × Int) := if a0 = 9223372036854775808 then (carrefourref01_Signed.j0 k a0 a1 a1) else (carrefourref01_Signed.j0 k a0 a1 false)
/-! ### carrefourref02_made: function 68 -/
def carrefourref02_made.f (k : Nat) (a0 : Int) (a1 : Int) (a2 : Bool) : Option (Int × Int × Int) := (carrefourref01_Signed.f k a0 a2).bind fun bt350 => ((carrefourref01_Signed.f k a1 false).bind fun bt352 => (if bt350.2 = 0 then (if bt352.2 = 0 then (some (bt350.1, bt352.1, 0)) else (some (0, 0, 2))) else (some (0, 0, 2))))
/-! ### carrefourref02_Of: function 39 -/
def carrefourref02_Of.f (k : Nat) (a0 : Int) (a1 : Int) : Option (Int × Int × Int) := if a1 = 0 then (some (0, 0, 3)) else ((carrefourref01_Size.f a0).bind fun t355 => ((carrefourref01_Size.f a1).bind fun t356 => ((carrefourref02_gcd.f k t355 t356).bind fun t357 => (if t357 = 0 then (none) else (if a0 = 0 then ((carrefourref02_made.f k (IntKind.u64.wrap (Int.tdiv t355 t357)) (IntKind.u64.wrap (Int.tdiv t356 t357)) false).bind fun bt358 => (some (bt358.1, bt358.2.1, bt358.2.2))) else ((carrefourref02_made.f k (IntKind.u64.wrap (Int.tdiv t355 t357)) (IntKind.u64.wrap (Int.tdiv t356 t357)) ((decide (a0 < 0)) != (decide (a1 < 0)))).bind fun bt361 => (some (bt361.1, bt361.2.1, bt361.2.2))))))))
/-! ### carrefourref02_Right: function 69 -/
def carrefourref02_Right.f (k : Nat) (a0_0 : Int) (a0_1 : Int) : Option (Bool) := if a0_1 ≥ 1 then ((carrefourref01_Size.f a0_0).bind fun t365 => ((carrefourref02_gcd.f k t365 (IntKind.u64.wrap (a0_1))).bind fun t366 => (some (t366 == 1)))) else (some false)
/-! ### carrefourref02_Norm: function 41 -/
def carrefourref02_Norm.f (k : Nat) (a0_0 : Int) (a0_1 : Int) : Option (Int × Int) := (carrefourref02_Right.f k a0_0 a0_1).bind fun t369 => (if t369 = true then (some (a0_0, a0_1)) else (some (0, 1)))
/-! ### carrefourref02_few: function 42 -/
def carrefourref02_few.f (a0_0 : Int) (a0_1 : Int) (a1_0 : Int) (a1_1 : Int) : Option (Bool) := (carrefourref01_Size.f a0_0).bind fun t372 => (if t372 < 1073741824 then ((carrefourref01_Size.f a1_0).bind fun t373 => (if t373 < 1073741824 then (if a0_1 < 1073741824 then (some (decide (a1_1 < 1073741824))) else (some false)) else (some false))) else (some false))
/-! ### carrefourref02_trim: function 43 -/
def carrefourref02_trim.l0 : Nat → List Int → Int → Option (List Int)
  | 0, _, _ => none
  | k + 1, x0, x3 => if x3 > 0 then (if 0 ≤ (wrap64 (x3 - 1)) then (if (wrap64 (x3 - 1)) < (x0.length : Int) then (if (rd x0 (wrap64 (x3 - 1))) = 0 then (carrefourref02_trim.l0 k x0 (wrap64 (x3 - 1))) else ((some (([] : List Int) : List Int)).bind fun y375 => (if 0 ≤ x3 then (if x3 ≤ (x0.length : Int) then (if y375.length + (x0.take (x3 : Int).toNat).length < 17592186044416 then (some (y375 ++ (x0.take (x3 : Int).toNat))) else (none)) else (none)) else (none)))) else (none)) else (none)) else ((some (([] : List Int) : List Int)).bind fun y382 => (if 0 ≤ x3 then (if x3 ≤ (x0.length : Int) then (if y382.length + (x0.take (x3 : Int).toNat).length < 17592186044416 then (some (y382 ++ (x0.take (x3 : Int).toNat))) else (none)) else (none)) else (none)))
def carrefourref02_trim.f (k : Nat) (l0 : List Int) : Option (List Int) := carrefourref02_trim.l0 k l0 (l0.length : Int)
/-! ### carrefourref01_Parts: function 70 -/
def carrefourref01_Parts.l0 : Nat → Int → List Int → Int → Option (List Int)
  | 0, _, _, _ => none
  | k + 1, x0, x3, x4 => if x4 < 4 then (if x3.length < 17592186044416 then (carrefourref01_Parts.l0 k (IntKind.u64.wrap (Int.tdiv x0 65536)) (x3 ++ [Int.tmod x0 65536]) (wrap64 (x4 + 1))) else (none)) else (some x3)
def carrefourref01_Parts.f (k : Nat) (a0 : Int) : Option (List Int) := carrefourref01_Parts.l0 k a0 ([] : List Int) 0
/-! ### carrefourref01_Plus: function 71 -/
mutual
def carrefourref01_Plus.l0 : Nat → List Int → List Int → List Int → Int → Int → Option (List Int)
  | 0, _, _, _, _, _ => none
  | k + 1, x0, x1, x5, x6, x7 => if x7 < (x0.length : Int) then (carrefourref01_Plus.j1 k x0 x1 x5 x6 x7 true) else (if x7 < (x1.length : Int) then (carrefourref01_Plus.j1 k x0 x1 x5 x6 x7 true) else (carrefourref01_Plus.j1 k x0 x1 x5 x6 x7 (decide (x6 > 0))))
def carrefourref01_Plus.j1 : Nat → List Int → List Int → List Int → Int → Int → Bool → Option (List Int)
  | 0, _, _, _, _, _, _ => none
  | k + 1, x0, x1, x5, x6, x7, x22 => if x22 = true then (if x7 < (x0.length : Int) then (if 0 ≤ x7 then (if x7 < (x1.length : Int) then (if x5.length < 17592186044416 then (carrefourref01_Plus.l0 k x0 x1 (x5 ++ [Int.tmod (IntKind.u64.wrap ((IntKind.u64.wrap (x6 + (rd x0 x7))) + (rd x1 x7))) 65536]) (IntKind.u64.wrap (Int.tdiv (IntKind.u64.wrap ((IntKind.u64.wrap (x6 + (rd x0 x7))) + (rd x1 x7))) 65536)) (wrap64 (x7 + 1))) else (none)) else (if x5.length < 17592186044416 then (carrefourref01_Plus.l0 k x0 x1 (x5 ++ [Int.tmod (IntKind.u64.wrap (x6 + (rd x0 x7))) 65536]) (IntKind.u64.wrap (Int.tdiv (IntKind.u64.wrap (x6 + (rd x0 x7))) 65536)) (wrap64 (x7 + 1))) else (none))) else (none)) else (if x7 < (x1.length : Int) then (if 0 ≤ x7 then (if x5.length < 17592186044416 then (carrefourref01_Plus.l0 k x0 x1 (x5 ++ [Int.tmod (IntKind.u64.wrap (x6 + (rd x1 x7))) 65536]) (IntKind.u64.wrap (Int.tdiv (IntKind.u64.wrap (x6 + (rd x1 x7))) 65536)) (wrap64 (x7 + 1))) else (none)) else (none)) else (if x5.length < 17592186044416 then (carrefourref01_Plus.l0 k x0 x1 (x5 ++ [Int.tmod x6 65536]) (IntKind.u64.wrap (Int.tdiv x6 65536)) (wrap64 (x7 + 1))) else (none)))) else (some x5)
end
def carrefourref01_Plus.f (k : Nat) (l0 : List Int) (l1 : List Int) : Option (List Int) := carrefourref01_Plus.l0 k l0 l1 ([] : List Int) 0 0
/-! ### carrefourref01_Times: function 44 -/
mutual
def carrefourref01_Times.l0 : Nat → List Int → List Int → List Int → Int → Option (List Int)
  | 0, _, _, _, _ => none
  | k + 1, x5, x6, x7, x8 => if x8 < 4 then (if 0 ≤ x8 then (if (x8 : Int).toNat ≤ 35184372088832 then (carrefourref01_Times.l1 k x5 x6 x7 x8 (List.replicate (x8 : Int).toNat 0) 0 0) else (none)) else (none)) else (some x7)
def carrefourref01_Times.l1 : Nat → List Int → List Int → List Int → Int → List Int → Int → Int → Option (List Int)
  | 0, _, _, _, _, _, _, _ => none
  | k + 1, x5, x6, x7, x8, x9, x10, x11 => if x11 < 4 then (if 0 ≤ x8 then (if x8 < (x5.length : Int) then (if 0 ≤ x11 then (if x11 < (x6.length : Int) then (if x9.length < 17592186044416 then (carrefourref01_Times.l1 k x5 x6 x7 x8 (x9 ++ [Int.tmod (IntKind.u64.wrap ((IntKind.u64.wrap ((rd x5 x8) * (rd x6 x11))) + x10)) 65536]) (IntKind.u64.wrap (Int.tdiv (IntKind.u64.wrap ((IntKind.u64.wrap ((rd x5 x8) * (rd x6 x11))) + x10)) 65536)) (wrap64 (x11 + 1))) else (none)) else (none)) else (none)) else (none)) else (none)) else (if x9.length < 17592186044416 then ((carrefourref01_Plus.f k x7 (x9 ++ [x10])).bind fun t424 => (carrefourref01_Times.l0 k x5 x6 t424 (wrap64 (x8 + 1)))) else (none))
end
def carrefourref01_Times.f (k : Nat) (a0 : Int) (a1 : Int) : Option (List Int) := (carrefourref01_Parts.f k a0).bind fun t407 => ((carrefourref01_Parts.f k a1).bind fun t410 => (carrefourref01_Times.l0 k t407 t410 ([] : List Int) 0))
/-! ### carrefourref01_Order: function 72 -/
mutual
def carrefourref01_Order.l0 : Nat → List Int → List Int → Int → Option (Int)
  | 0, _, _, _ => none
  | k + 1, x0, x1, x6 => if x6 ≥ 0 then (if x6 < (x0.length : Int) then (if 0 ≤ x6 then (carrefourref01_Order.j1 k x0 x1 x6 (rd x0 x6) 0) else (none)) else (carrefourref01_Order.j1 k x0 x1 x6 0 0)) else (some 0)
def carrefourref01_Order.j1 : Nat → List Int → List Int → Int → Int → Int → Option (Int)
  | 0, _, _, _, _, _ => none
  | k + 1, x0, x1, x6, x7, x8 => if x6 < (x1.length : Int) then (if 0 ≤ x6 then (carrefourref01_Order.j2 k x0 x1 x6 x7 (rd x1 x6)) else (none)) else (carrefourref01_Order.j2 k x0 x1 x6 x7 x8)
def carrefourref01_Order.j2 : Nat → List Int → List Int → Int → Int → Int → Option (Int)
  | 0, _, _, _, _, _ => none
  | k + 1, x0, x1, x6, x7, x8 => if x7 < x8 then (some (-1)) else (if x7 > x8 then (some 1) else (carrefourref01_Order.l0 k x0 x1 (wrap64 (x6 - 1))))
end
def carrefourref01_Order.f (k : Nat) (l0 : List Int) (l1 : List Int) : Option (Int) := carrefourref01_Order.l0 k l0 l1 (wrap64 ((mx (l0.length : Int) (l1.length : Int)) - 1))
/-! ### carrefourref02_twice: function 94 -/
def carrefourref02_twice.f (k : Nat) (l0 : List Int) : Option (List Int) := (carrefourref01_Plus.f k l0 l0).bind fun t429 => (some t429)
/-! ### carrefourref01_Minus: function 95 -/
def carrefourref01_Minus.l0 : Nat → List Int → List Int → List Int → Int → Int → Option (List Int)
  | 0, _, _, _, _, _ => none
  | k + 1, x0, x1, x5, x6, x7 => if x7 < (x0.length : Int) then (if x7 < (x1.length : Int) then (if 0 ≤ x7 then (if (rd x0 x7) ≥ (IntKind.u64.wrap (x6 + (rd x1 x7))) then (if x5.length < 17592186044416 then (carrefourref01_Minus.l0 k x0 x1 (x5 ++ [IntKind.u64.wrap ((rd x0 x7) - (IntKind.u64.wrap (x6 + (rd x1 x7))))]) 0 (wrap64 (x7 + 1))) else (none)) else (if x5.length < 17592186044416 then (carrefourref01_Minus.l0 k x0 x1 (x5 ++ [IntKind.u64.wrap ((IntKind.u64.wrap ((rd x0 x7) + 65536)) - (IntKind.u64.wrap (x6 + (rd x1 x7))))]) 1 (wrap64 (x7 + 1))) else (none))) else (none)) else (if 0 ≤ x7 then (if (rd x0 x7) ≥ x6 then (if x5.length < 17592186044416 then (carrefourref01_Minus.l0 k x0 x1 (x5 ++ [IntKind.u64.wrap ((rd x0 x7) - x6)]) 0 (wrap64 (x7 + 1))) else (none)) else (if x5.length < 17592186044416 then (carrefourref01_Minus.l0 k x0 x1 (x5 ++ [IntKind.u64.wrap ((IntKind.u64.wrap ((rd x0 x7) + 65536)) - x6)]) 1 (wrap64 (x7 + 1))) else (none))) else (none))) else (some x5)
def carrefourref01_Minus.f (k : Nat) (l0 : List Int) (l1 : List Int) : Option (List Int) := carrefourref01_Minus.l0 k l0 l1 ([] : List Int) 0 0
/-! ### carrefourref02_rest: function 73 -/
mutual
def carrefourref02_rest.l0 : Nat → List Int → List (List Int) → List Int → Option (List Int)
  | 0, _, _, _ => none
  | k + 1, x0, x5, x6 => (carrefourref01_Order.f k x6 x0).bind fun t451 => (if t451 ≤ 0 then (if x5.length < 5864062014805 then ((carrefourref02_twice.f k x6).bind fun t455 => (carrefourref02_rest.l0 k x0 (x5 ++ [x6]) t455)) else (none)) else (carrefourref02_rest.l1 k x0 x5 (wrap64 ((x5.length : Int) - 1))))
def carrefourref02_rest.l1 : Nat → List Int → List (List Int) → Int → Option (List Int)
  | 0, _, _, _ => none
  | k + 1, x0, x5, x7 => if x7 ≥ 0 then (if 0 ≤ x7 then (if x7 < (x5.length : Int) then ((carrefourref01_Order.f k (rd_L21 x5 x7) x0).bind fun t459 => (if t459 ≤ 0 then ((carrefourref01_Minus.f k x0 (rd_L21 x5 x7)).bind fun t461 => ((carrefourref02_trim.f k t461).bind fun t464 => (carrefourref02_rest.l1 k t464 x5 (wrap64 (x7 - 1))))) else (carrefourref02_rest.l1 k x0 x5 (wrap64 (x7 - 1))))) else (none)) else (none)) else (some x0)
end
def carrefourref02_rest.f (k : Nat) (l0 : List Int) (l1 : List Int) : Option (List Int) := carrefourref02_rest.l0 k l0 ([] : List (List Int)) l1
/-! ### carrefourref02_divided: function 74 -/
mutual
def carrefourref02_divided.l0 : Nat → List Int → Int → List (List Int) → List Int → Option (Int × Bool)
  | 0, _, _, _, _ => none
  | k + 1, x0, x6, x7, x8 => (carrefourref01_Order.f k x8 x0).bind fun t467 => (if t467 ≤ 0 then (if x7.length < 5864062014805 then ((carrefourref02_twice.f k x8).bind fun t471 => (carrefourref02_divided.l0 k x0 x6 (x7 ++ [x8]) t471)) else (none)) else (if (x7.length : Int) > 64 then (some (0, false)) else (carrefourref02_divided.l1 k x0 x6 x7 (wrap64 ((x7.length : Int) - 1)))))
def carrefourref02_divided.l1 : Nat → List Int → Int → List (List Int) → Int → Option (Int × Bool)
  | 0, _, _, _, _ => none
  | k + 1, x0, x6, x7, x9 => if x9 ≥ 0 then (if 0 ≤ x9 then (if x9 < (x7.length : Int) then ((carrefourref01_Order.f k (rd_L21 x7 x9) x0).bind fun t475 => (if t475 ≤ 0 then ((carrefourref01_Minus.f k x0 (rd_L21 x7 x9)).bind fun t477 => ((carrefourref02_trim.f k t477).bind fun t480 => (carrefourref02_divided.l1 k t480 (IntKind.u64.wrap ((IntKind.u64.wrap (x6 * 2)) + 1)) x7 (wrap64 (x9 - 1))))) else (carrefourref02_divided.l1 k x0 (IntKind.u64.wrap (x6 * 2)) x7 (wrap64 (x9 - 1))))) else (none)) else (none)) else (some (x6, true))
end
def carrefourref02_divided.f (k : Nat) (l0 : List Int) (l1 : List Int) : Option (Int × Bool) := carrefourref02_divided.l0 k l0 0 ([] : List (List Int)) l1
/-! ### carrefourref02_lowest: function 46 -/
def carrefourref02_lowest.l0 : Nat → List Int → List Int → Bool → List Int → List Int → Option (Int × Int × Int)
  | 0, _, _, _, _, _ => none
  | k + 1, x0, x1, x2, x8, x9 => (carrefourref01_Order.f k x9 ([] : List Int)).bind fun t484 => (if t484 = 0 then ((carrefourref02_divided.f k x0 x8).bind fun bt488 => ((carrefourref02_divided.f k x1 x8).bind fun bt490 => (if bt488.2 = true then (if bt490.2 = true then (if x2 = true then ((carrefourref02_made.f k bt488.1 bt490.1 (bt488.1 != 0)).bind fun bt492 => (some (bt492.1, bt492.2.1, bt492.2.2))) else ((carrefourref02_made.f k bt488.1 bt490.1 false).bind fun bt495 => (some (bt495.1, bt495.2.1, bt495.2.2)))) else (some (0, 0, 2))) else (some (0, 0, 2))))) else ((carrefourref02_rest.f k x8 x9).bind fun t485 => (carrefourref02_lowest.l0 k x0 x1 x2 x9 t485)))
def carrefourref02_lowest.f (k : Nat) (l0 : List Int) (l1 : List Int) (a2 : Bool) : Option (Int × Int × Int) := carrefourref02_lowest.l0 k l0 l1 a2 l0 l1
/-! ### carrefourref02_Div: function 20 -/
def carrefourref02_Div.f (k : Nat) (a0_0 : Int) (a0_1 : Int) (a1_0 : Int) (a1_1 : Int) : Option (Int × Int × Int) := (carrefourref02_Norm.f k a0_0 a0_1).bind fun bt501 => ((carrefourref02_Norm.f k a1_0 a1_1).bind fun bt503 => (if bt503.1 = 0 then (some (0, 0, 3)) else ((carrefourref02_few.f bt501.1 bt501.2 bt503.1 bt503.2).bind fun t505 => (if t505 = true then ((carrefourref02_Of.f k (wrap64 (bt501.1 * bt503.2)) (wrap64 (bt501.2 * bt503.1))).bind fun bt506 => (some (bt506.1, bt506.2.1, bt506.2.2))) else ((carrefourref01_Size.f bt501.1).bind fun t509 => ((carrefourref01_Times.f k t509 (IntKind.u64.wrap (bt503.2))).bind fun t510 => ((carrefourref02_trim.f k t510).bind fun t513 => ((carrefourref01_Size.f bt503.1).bind fun t516 => ((carrefourref01_Times.f k (IntKind.u64.wrap (bt501.2)) t516).bind fun t517 => ((carrefourref02_trim.f k t517).bind fun t520 => ((carrefourref02_lowest.f k t513 t520 ((decide (bt501.1 < 0)) != (decide (bt503.1 < 0)))).bind fun bt523 => (some (bt523.1, bt523.2.1, bt523.2.2)))))))))))))
/-! ### carrefourref02_Mul: function 40 -/
def carrefourref02_Mul.f (k : Nat) (a0_0 : Int) (a0_1 : Int) (a1_0 : Int) (a1_1 : Int) : Option (Int × Int × Int) := (carrefourref02_Norm.f k a0_0 a0_1).bind fun bt529 => ((carrefourref02_Norm.f k a1_0 a1_1).bind fun bt531 => ((carrefourref02_few.f bt529.1 bt529.2 bt531.1 bt531.2).bind fun t533 => (if t533 = true then ((carrefourref02_Of.f k (wrap64 (bt529.1 * bt531.1)) (wrap64 (bt529.2 * bt531.2))).bind fun bt534 => (some (bt534.1, bt534.2.1, bt534.2.2))) else ((carrefourref01_Size.f bt529.1).bind fun t537 => ((carrefourref01_Size.f bt531.1).bind fun t538 => ((carrefourref01_Times.f k t537 t538).bind fun t539 => ((carrefourref02_trim.f k t539).bind fun t542 => ((carrefourref01_Times.f k (IntKind.u64.wrap (bt529.2)) (IntKind.u64.wrap (bt531.2))).bind fun t545 => ((carrefourref02_trim.f k t545).bind fun t548 => ((carrefourref02_lowest.f k t542 t548 ((decide (bt529.1 < 0)) != (decide (bt531.1 < 0)))).bind fun bt551 => (some (bt551.1, bt551.2.1, bt551.2.2))))))))))))
/-! ### carrefourref09_Volume: function 19 -/
def carrefourref09_Volume.f (k : Nat) (a0_0 : ByteArray) (a0_1 : Int) (a0_2 : Int) (a0_3 : Int) (a0_4 : Int) (a0_5 : Int) (a0_6 : Int) (a0_7 : Int) (a0_8 : Int) (a0_9 : Int) (a0_10 : Int) (a1_0 : Int) (a1_1 : Int) : Option (Int × Int × Int) := (carrefourref02_Of.f k a0_3 a0_4).bind fun bt557 => (if bt557.2.2 = 0 then ((carrefourref02_Mul.f k bt557.1 bt557.2.1 a0_1 1).bind fun bt561 => (if bt561.2.2 = 0 then ((carrefourref02_Of.f k a1_0 a1_1).bind fun bt565 => (if bt565.2.2 = 0 then ((carrefourref02_Div.f k bt561.1 bt561.2.1 bt565.1 bt565.2.1).bind fun bt569 => (some (bt569.1, bt569.2.1, bt569.2.2))) else (some (0, 0, bt565.2.2)))) else (some (0, 0, bt561.2.2)))) else (some (0, 0, bt557.2.2)))
/-! ### carrefourref09_Ratio: function 11 -/
def carrefourref09_Ratio.f (k : Nat) (a0_0 : ByteArray) (a0_1 : Int) (a0_2 : Int) (a0_3 : Int) (a0_4 : Int) (a0_5 : Int) (a0_6 : Int) (a0_7 : Int) (a0_8 : Int) (a0_9 : Int) (a0_10 : Int) (a1_0 : Int) (a1_1 : Int) : Option (Int × Int × Int) := (carrefourref09_Volume.f k a0_0 a0_1 a0_2 a0_3 a0_4 a0_5 a0_6 a0_7 a0_8 a0_9 a0_10 a1_0 a1_1).bind fun bt575 => (if bt575.2.2 = 0 then ((carrefourref02_Div.f k bt575.1 bt575.2.1 a0_2 1).bind fun bt579 => (some (bt579.1, bt579.2.1, bt579.2.2))) else (some (0, 0, bt575.2.2)))
/-! ### carrefourref09_Table: function 6 -/
mutual
def carrefourref09_Table.l0 : Nat → List (List (S23)) → Int → Int → Int → Int → Int → Int → List (S42) → List (S45) → Int → Int → Option ((List (List (S23))) × Int)
  | 0, _, _, _, _, _, _, _, _, _, _, _ => none
  | k + 1, x4, x5, x583000, x583001, x583002, x583003, x583004, x583005, x583006, x583007, x583008 => if x5 < (x583005.length : Int) then (carrefourref09_Table.l1 k x4 x5 ([] : List (S23)) 0 x583000 x583001 x583002 x583003 x583004 x583005 x583006 x583007 x583008) else (some (x4, 0))
def carrefourref09_Table.l1 : Nat → List (List (S23)) → Int → List (S23) → Int → Int → Int → Int → Int → Int → List (S42) → List (S45) → Int → Int → Option ((List (List (S23))) × Int)
  | 0, _, _, _, _, _, _, _, _, _, _, _, _, _ => none
  | k + 1, x4, x5, x6, x7, x583000, x583001, x583002, x583003, x583004, x583005, x583006, x583007, x583008 => if 0 ≤ x5 then (if x5 < (x583005.length : Int) then (if x7 < (((rd_T42 x583005 x5).f1).length : Int) then (if 0 ≤ x7 then ((carrefourref09_Ratio.f k ((rd_T48 ((rd_T42 x583005 x5).f1) x7).f0) ((rd_T48 ((rd_T42 x583005 x5).f1) x7).f1) ((rd_T48 ((rd_T42 x583005 x5).f1) x7).f2) ((rd_T48 ((rd_T42 x583005 x5).f1) x7).f3.f0) ((rd_T48 ((rd_T42 x583005 x5).f1) x7).f3.f1) ((rd_T48 ((rd_T42 x583005 x5).f1) x7).f4) ((rd_T48 ((rd_T42 x583005 x5).f1) x7).f5) ((rd_T48 ((rd_T42 x583005 x5).f1) x7).f6) ((rd_T48 ((rd_T42 x583005 x5).f1) x7).f7) ((rd_T48 ((rd_T42 x583005 x5).f1) x7).f8) ((rd_T48 ((rd_T42 x583005 x5).f1) x7).f9) x583003 x583004).bind fun bt586 => (if bt586.2.2 = 0 then (if x6.length < 8796093022208 then (carrefourref09_Table.l1 k x4 x5 (x6 ++ [(⟨bt586.1, bt586.2.1⟩ : S23)]) (wrap64 (x7 + 1)) x583000 x583001 x583002 x583003 x583004 x583005 x583006 x583007 x583008) else (none)) else (some (([] : List (List (S23))), bt586.2.2)))) else (none)) else (if x4.length < 5864062014805 then (carrefourref09_Table.l0 k (x4 ++ [x6]) (wrap64 (x5 + 1)) x583000 x583001 x583002 x583003 x583004 x583005 x583006 x583007 x583008) else (none))) else (none)) else (none)
end
def carrefourref09_Table.f (k : Nat) (a0_0 : Int) (a0_1 : Int) (a0_2 : Int) (a0_3 : Int) (a0_4 : Int) (l0_5 : List (S42)) (l0_6 : List (S45)) (a0_7 : Int) (a0_8 : Int) : Option ((List (List (S23))) × Int) := carrefourref09_Table.l0 k ([] : List (List (S23))) 0 a0_0 a0_1 a0_2 a0_3 a0_4 l0_5 l0_6 a0_7 a0_8
/-! ### demand_Volume: function 12 -/
def demand_Volume.f (k : Nat) (a0_0 : ByteArray) (a0_1 : Int) (a0_2 : Int) (a0_3 : Int) (a0_4 : Int) (a0_5 : Int) (a0_6 : Int) (a0_7 : Int) (a0_8 : Int) (a0_9 : Int) (a0_10 : Int) (a1_0 : Int) (a1_1 : Int) : Option (Int × Int × Int) := (demand_volume.f k a0_0 a0_1 a0_2 a0_3 a0_4 a0_5 a0_6 a0_7 a0_8 a0_9 a0_10 a1_0 a1_1).bind fun bt599 => (some (bt599.1, bt599.2.1, bt599.2.2))
/-! ### whole_product: function 48 -/
def whole_product.f (a0 : Int) (a1 : Int) : Option (Int × Int) := (whole_size.f a0).bind fun t604 => ((whole_size.f a1).bind fun t605 => ((bits_Mul64.f t604 t605).bind fun bt606 => (some (bt606.1, bt606.2))))
/-! ### whole_sign: function 49 -/
def whole_sign.j0 : Nat → Int → Int → Bool → Option (Int)
  | 0, _, _, _ => none
  | k + 1, x0, x1, x5 => if x5 = true then (some 0) else (if ((decide (x0 < 0)) != (decide (x1 < 0))) = true then (some (-1)) else (some 1))
def whole_sign.f (k : Nat) (a0 : Int) (a1 : Int) : Option (Int) := if a0 = 0 then (whole_sign.j0 k a0 a1 true) else (whole_sign.j0 k a0 a1 (a1 == 0))
theorem whole_sign.mono_l : ∀ k, (∀ y0 y1 y2, LeO (whole_sign.j0 k y0 y1 y2) (whole_sign.j0 (k + 1) y0 y1 y2))
  | 0 => fun _ _ _ r h => by simp [whole_sign.j0] at h
  | k + 1 => by
    have ih0 := whole_sign.mono_l k
    · intro y0 y1 y2
      unfold whole_sign.j0
      repeat' with_reducible first | exact ih0 _ _ _ | exact LeO.refl _ | exact LeO.none _ | refine LeO.ite ?_ ?_ | refine LeO.bind ?_ (fun _ => ?_)
theorem whole_sign.mono : ∀ a0 a1 k, LeO (whole_sign.f k a0 a1) (whole_sign.f (k + 1) a0 a1) := by
  intro a0 a1 k
  have ih0 := whole_sign.mono_l k
  unfold whole_sign.f
  repeat' with_reducible first | exact ih0 _ _ _ | exact LeO.refl _ | exact LeO.none _ | refine LeO.ite ?_ ?_ | refine LeO.bind ?_ (fun _ => ?_)
/-! ### bits_Add64: function 50 -/
def bits_Add64.f (a0 : Int) (a1 : Int) (a2 : Int) : Option (Int × Int) := if 0 ≤ a0 ∧ 0 ≤ a1 ∧ 0 ≤ a2 ∧ a2 ≤ 1 then some ((a0 + a1 + a2) % 18446744073709551616, (a0 + a1 + a2) / 18446744073709551616) else none
/-! ### bits_LeadingZeros64: function 77 -/
def bits_LeadingZeros64.f (a0 : Int) : Option (Int) := (bits_Len64.f a0).bind fun t608 => (some (wrap64 (64 - t608)))
/-! ### bits_Div64: function 51 -/
mutual
def bits_Div64.j2 : Nat → Int → Int → Int → Int → Int → Int → Int → Int → Option (Int × Int)
  | 0, _, _, _, _, _, _, _, _ => none
  | k + 1, x2, x8, x9, x10, x11, x13, x14, x15 => if x9 = 0 then (none) else (bits_Div64.l1 k x2 x8 x9 x10 x14 x15 (IntKind.u64.wrap ((IntKind.u64.wrap ((IntKind.u64.wrap ((IntKind.u64.wrap (x11 * 4294967296)) + x13)) - (IntKind.u64.wrap (x15 * x2)))) - (IntKind.u64.wrap ((IntKind.u64.wrap (Int.tdiv (IntKind.u64.wrap ((IntKind.u64.wrap ((IntKind.u64.wrap (x11 * 4294967296)) + x13)) - (IntKind.u64.wrap (x15 * x2)))) x9)) * x9)))) (IntKind.u64.wrap ((IntKind.u64.wrap ((IntKind.u64.wrap (x11 * 4294967296)) + x13)) - (IntKind.u64.wrap (x15 * x2)))) (IntKind.u64.wrap (Int.tdiv (IntKind.u64.wrap ((IntKind.u64.wrap ((IntKind.u64.wrap (x11 * 4294967296)) + x13)) - (IntKind.u64.wrap (x15 * x2)))) x9)))
def bits_Div64.l1 : Nat → Int → Int → Int → Int → Int → Int → Int → Int → Int → Option (Int × Int)
  | 0, _, _, _, _, _, _, _, _, _ => none
  | k + 1, x2, x8, x9, x10, x14, x15, x16, x17, x18 => if x18 ≥ 4294967296 then (bits_Div64.j4 k x2 x8 x9 x10 x14 x15 x16 x17 x18 true) else (bits_Div64.j4 k x2 x8 x9 x10 x14 x15 x16 x17 x18 (decide ((IntKind.u64.wrap (x18 * x10)) > (IntKind.u64.wrap ((IntKind.u64.wrap (4294967296 * x16)) + x14)))))
def bits_Div64.j4 : Nat → Int → Int → Int → Int → Int → Int → Int → Int → Int → Bool → Option (Int × Int)
  | 0, _, _, _, _, _, _, _, _, _, _ => none
  | k + 1, x2, x8, x9, x10, x14, x15, x16, x17, x18, x113 => if x113 = true then (if (IntKind.u64.wrap (x16 + x9)) ≥ 4294967296 then (if 0 ≤ x8 then (some (IntKind.u64.wrap ((IntKind.u64.wrap (x15 * 4294967296)) + (IntKind.u64.wrap (x18 - 1))), shr .u64 (IntKind.u64.wrap ((IntKind.u64.wrap ((IntKind.u64.wrap (x17 * 4294967296)) + x14)) - (IntKind.u64.wrap ((IntKind.u64.wrap (x18 - 1)) * x2)))) x8)) else (none)) else (bits_Div64.l1 k x2 x8 x9 x10 x14 x15 (IntKind.u64.wrap (x16 + x9)) x17 (IntKind.u64.wrap (x18 - 1)))) else (if 0 ≤ x8 then (some (IntKind.u64.wrap ((IntKind.u64.wrap (x15 * 4294967296)) + x18), shr .u64 (IntKind.u64.wrap ((IntKind.u64.wrap ((IntKind.u64.wrap (x17 * 4294967296)) + x14)) - (IntKind.u64.wrap (x18 * x2)))) x8)) else (none))
def bits_Div64.l0 : Nat → Int → Int → Int → Int → Int → Int → Int → Int → Int → Option (Int × Int)
  | 0, _, _, _, _, _, _, _, _, _ => none
  | k + 1, x2, x8, x9, x10, x11, x13, x14, x15, x16 => if x15 ≥ 4294967296 then (bits_Div64.j1 k x2 x8 x9 x10 x11 x13 x14 x15 x16 true) else (bits_Div64.j1 k x2 x8 x9 x10 x11 x13 x14 x15 x16 (decide ((IntKind.u64.wrap (x15 * x10)) > (IntKind.u64.wrap ((IntKind.u64.wrap (4294967296 * x16)) + x13)))))
def bits_Div64.j1 : Nat → Int → Int → Int → Int → Int → Int → Int → Int → Int → Bool → Option (Int × Int)
  | 0, _, _, _, _, _, _, _, _, _, _ => none
  | k + 1, x2, x8, x9, x10, x11, x13, x14, x15, x16, x78 => if x78 = true then (if (IntKind.u64.wrap (x16 + x9)) ≥ 4294967296 then (bits_Div64.j2 k x2 x8 x9 x10 x11 x13 x14 (IntKind.u64.wrap (x15 - 1))) else (bits_Div64.l0 k x2 x8 x9 x10 x11 x13 x14 (IntKind.u64.wrap (x15 - 1)) (IntKind.u64.wrap (x16 + x9)))) else (bits_Div64.j2 k x2 x8 x9 x10 x11 x13 x14 x15)
end
def bits_Div64.f (k : Nat) (a0 : Int) (a1 : Int) (a2 : Int) : Option (Int × Int) := if a2 = 0 then (none) else (if a2 ≤ a0 then (none) else (if a0 = 0 then (some (IntKind.u64.wrap (Int.tdiv a1 a2), Int.tmod a1 a2)) else ((bits_LeadingZeros64.f a2).bind fun t609 => (if 0 ≤ (IntKind.u64.wrap (t609)) then (if 0 ≤ (IntKind.u64.wrap (64 - (IntKind.u64.wrap (t609)))) then (if ((shl .u64 a2 (IntKind.u64.wrap (t609))) / 4294967296) = 0 then (none) else (bits_Div64.l0 k (shl .u64 a2 (IntKind.u64.wrap (t609))) (IntKind.u64.wrap (t609)) ((shl .u64 a2 (IntKind.u64.wrap (t609))) / 4294967296) (Go.bits .and .u64 (shl .u64 a2 (IntKind.u64.wrap (t609))) 4294967295) (Go.bits .or .u64 (shl .u64 a0 (IntKind.u64.wrap (t609))) (shr .u64 a1 (IntKind.u64.wrap (64 - (IntKind.u64.wrap (t609)))))) ((shl .u64 a1 (IntKind.u64.wrap (t609))) / 4294967296) (Go.bits .and .u64 (shl .u64 a1 (IntKind.u64.wrap (t609))) 4294967295) (IntKind.u64.wrap (Int.tdiv (Go.bits .or .u64 (shl .u64 a0 (IntKind.u64.wrap (t609))) (shr .u64 a1 (IntKind.u64.wrap (64 - (IntKind.u64.wrap (t609)))))) ((shl .u64 a2 (IntKind.u64.wrap (t609))) / 4294967296))) (IntKind.u64.wrap ((Go.bits .or .u64 (shl .u64 a0 (IntKind.u64.wrap (t609))) (shr .u64 a1 (IntKind.u64.wrap (64 - (IntKind.u64.wrap (t609)))))) - (IntKind.u64.wrap ((IntKind.u64.wrap (Int.tdiv (Go.bits .or .u64 (shl .u64 a0 (IntKind.u64.wrap (t609))) (shr .u64 a1 (IntKind.u64.wrap (64 - (IntKind.u64.wrap (t609)))))) ((shl .u64 a2 (IntKind.u64.wrap (t609))) / 4294967296))) * ((shl .u64 a2 (IntKind.u64.wrap (t609))) / 4294967296))))))) else (none)) else (none)))))
theorem bits_Div64.mono_l : ∀ k, (∀ y0 y1 y2 y3 y4 y5 y6 y7, LeO (bits_Div64.j2 k y0 y1 y2 y3 y4 y5 y6 y7) (bits_Div64.j2 (k + 1) y0 y1 y2 y3 y4 y5 y6 y7)) ∧ (∀ y0 y1 y2 y3 y4 y5 y6 y7 y8, LeO (bits_Div64.l1 k y0 y1 y2 y3 y4 y5 y6 y7 y8) (bits_Div64.l1 (k + 1) y0 y1 y2 y3 y4 y5 y6 y7 y8)) ∧ (∀ y0 y1 y2 y3 y4 y5 y6 y7 y8 y9, LeO (bits_Div64.j4 k y0 y1 y2 y3 y4 y5 y6 y7 y8 y9) (bits_Div64.j4 (k + 1) y0 y1 y2 y3 y4 y5 y6 y7 y8 y9)) ∧ (∀ y0 y1 y2 y3 y4 y5 y6 y7 y8, LeO (bits_Div64.l0 k y0 y1 y2 y3 y4 y5 y6 y7 y8) (bits_Div64.l0 (k + 1) y0 y1 y2 y3 y4 y5 y6 y7 y8)) ∧ (∀ y0 y1 y2 y3 y4 y5 y6 y7 y8 y9, LeO (bits_Div64.j1 k y0 y1 y2 y3 y4 y5 y6 y7 y8 y9) (bits_Div64.j1 (k + 1) y0 y1 y2 y3 y4 y5 y6 y7 y8 y9))
  | 0 => ⟨fun _ _ _ _ _ _ _ _ r h => by simp [bits_Div64.j2] at h, fun _ _ _ _ _ _ _ _ _ r h => by simp [bits_Div64.l1] at h, fun _ _ _ _ _ _ _ _ _ _ r h => by simp [bits_Div64.j4] at h, fun _ _ _ _ _ _ _ _ _ r h => by simp [bits_Div64.l0] at h, fun _ _ _ _ _ _ _ _ _ _ r h => by simp [bits_Div64.j1] at h⟩
  | k + 1 => by
    obtain ⟨ih0, ih1, ih2, ih3, ih4⟩ := bits_Div64.mono_l k
    refine ⟨?_, ?_, ?_, ?_, ?_⟩
    · intro y0 y1 y2 y3 y4 y5 y6 y7
      unfold bits_Div64.j2
      repeat' with_reducible first | exact ih0 _ _ _ _ _ _ _ _ | exact ih1 _ _ _ _ _ _ _ _ _ | exact ih2 _ _ _ _ _ _ _ _ _ _ | exact ih3 _ _ _ _ _ _ _ _ _ | exact ih4 _ _ _ _ _ _ _ _ _ _ | exact LeO.refl _ | exact LeO.none _ | refine LeO.ite ?_ ?_ | refine LeO.bind ?_ (fun _ => ?_)
    · intro y0 y1 y2 y3 y4 y5 y6 y7 y8
      unfold bits_Div64.l1
      repeat' with_reducible first | exact ih0 _ _ _ _ _ _ _ _ | exact ih1 _ _ _ _ _ _ _ _ _ | exact ih2 _ _ _ _ _ _ _ _ _ _ | exact ih3 _ _ _ _ _ _ _ _ _ | exact ih4 _ _ _ _ _ _ _ _ _ _ | exact LeO.refl _ | exact LeO.none _ | refine LeO.ite ?_ ?_ | refine LeO.bind ?_ (fun _ => ?_)
    · intro y0 y1 y2 y3 y4 y5 y6 y7 y8 y9
      unfold bits_Div64.j4
      repeat' with_reducible first | exact ih0 _ _ _ _ _ _ _ _ | exact ih1 _ _ _ _ _ _ _ _ _ | exact ih2 _ _ _ _ _ _ _ _ _ _ | exact ih3 _ _ _ _ _ _ _ _ _ | exact ih4 _ _ _ _ _ _ _ _ _ _ | exact LeO.refl _ | exact LeO.none _ | refine LeO.ite ?_ ?_ | refine LeO.bind ?_ (fun _ => ?_)
    · intro y0 y1 y2 y3 y4 y5 y6 y7 y8
      unfold bits_Div64.l0
      repeat' with_reducible first | exact ih0 _ _ _ _ _ _ _ _ | exact ih1 _ _ _ _ _ _ _ _ _ | exact ih2 _ _ _ _ _ _ _ _ _ _ | exact ih3 _ _ _ _ _ _ _ _ _ | exact ih4 _ _ _ _ _ _ _ _ _ _ | exact LeO.refl _ | exact LeO.none _ | refine LeO.ite ?_ ?_ | refine LeO.bind ?_ (fun _ => ?_)
    · intro y0 y1 y2 y3 y4 y5 y6 y7 y8 y9
      unfold bits_Div64.j1
      repeat' with_reducible first | exact ih0 _ _ _ _ _ _ _ _ | exact ih1 _ _ _ _ _ _ _ _ _ | exact ih2 _ _ _ _ _ _ _ _ _ _ | exact ih3 _ _ _ _ _ _ _ _ _ | exact ih4 _ _ _ _ _ _ _ _ _ _ | exact LeO.refl _ | exact LeO.none _ | refine LeO.ite ?_ ?_ | refine LeO.bind ?_ (fun _ => ?_)
theorem bits_Div64.mono : ∀ a0 a1 a2 k, LeO (bits_Div64.f k a0 a1 a2) (bits_Div64.f (k + 1) a0 a1 a2) := by
  intro a0 a1 a2 k
  obtain ⟨ih0, ih1, ih2, ih3, ih4⟩ := bits_Div64.mono_l k
  unfold bits_Div64.f
  repeat' with_reducible first | exact ih0 _ _ _ _ _ _ _ _ | exact ih1 _ _ _ _ _ _ _ _ _ | exact ih2 _ _ _ _ _ _ _ _ _ _ | exact ih3 _ _ _ _ _ _ _ _ _ | exact ih4 _ _ _ _ _ _ _ _ _ _ | exact LeO.refl _ | exact LeO.none _ | refine LeO.ite ?_ ?_ | refine LeO.bind ?_ (fun _ => ?_)
/-! ### whole_Scale: function 22 -/
def whole_Scale.j0 : Nat → Int → Int → Int → Int → Option (Int × Int)
  | 0, _, _, _, _ => none
  | k + 1, x2, x9, x614000, x614001 => if x614000 ≥ (IntKind.u64.wrap (x2)) then (some (0, 2)) else ((bits_Div64.f k x614000 x614001 (IntKind.u64.wrap (x2))).bind fun bt616 => ((whole_signed.f k bt616.1 x9).bind fun bt618 => (some (bt618.1, bt618.2))))
def whole_Scale.f (k : Nat) (a0 : Int) (a1 : Int) (a2 : Int) : Option (Int × Int) := if a2 < 1 then (some (0, 1)) else ((whole_product.f a0 a1).bind fun bt610 => ((whole_sign.f k a0 a1).bind fun t612 => (if t612 < 0 then ((bits_Add64.f bt610.2 (IntKind.u64.wrap ((IntKind.u64.wrap (a2)) - 1)) 0).bind fun bt614 => (whole_Scale.j0 k a2 t612 (IntKind.u64.wrap (bt610.1 + bt614.2)) bt614.1)) else (whole_Scale.j0 k a2 t612 bt610.1 bt610.2))))
theorem whole_Scale.mono_l : ∀ k, (∀ y0 y1 y2 y3, LeO (whole_Scale.j0 k y0 y1 y2 y3) (whole_Scale.j0 (k + 1) y0 y1 y2 y3))
  | 0 => fun _ _ _ _ r h => by simp [whole_Scale.j0] at h
  | k + 1 => by
    have ih0 := whole_Scale.mono_l k
    · intro y0 y1 y2 y3
      unfold whole_Scale.j0
      repeat' with_reducible first | exact ih0 _ _ _ _ | exact bits_Div64.mono _ _ _ _ | exact whole_sign.mono _ _ _ | exact whole_signed.mono _ _ _ | exact LeO.refl _ | exact LeO.none _ | refine LeO.ite ?_ ?_ | refine LeO.bind ?_ (fun _ => ?_)
theorem whole_Scale.mono : ∀ a0 a1 a2 k, LeO (whole_Scale.f k a0 a1 a2) (whole_Scale.f (k + 1) a0 a1 a2) := by
  intro a0 a1 a2 k
  have ih0 := whole_Scale.mono_l k
  unfold whole_Scale.f
  repeat' with_reducible first | exact ih0 _ _ _ _ | exact bits_Div64.mono _ _ _ _ | exact whole_sign.mono _ _ _ | exact whole_signed.mono _ _ _ | exact LeO.refl _ | exact LeO.none _ | refine LeO.ite ?_ ?_ | refine LeO.bind ?_ (fun _ => ?_)
/-! ### demand_new128: function 23 -/
def demand_new128.f (a0 : Int) (a1 : Int) : Option (Int × Int) := (bits_Mul64.f (IntKind.u64.wrap (a0)) (IntKind.u64.wrap (a1))).bind fun bt621 => (some (bt621.1, bt621.2))
/-! ### demand_long_less: function 24 -/
def demand_long_less.f (a0_0 : Int) (a0_1 : Int) (a1_0 : Int) (a1_1 : Int) : Option (Int × Int) := (bits_Sub64.f a0_1 a1_1 0).bind fun bt626 => ((bits_Sub64.f a0_0 a1_0 bt626.2).bind fun bt628 => (some (bt628.1, bt626.1)))
/-! ### demand_long_twice: function 25 -/
def demand_long_twice.f (a0_0 : Int) (a0_1 : Int) : Option (Int × Int) := some (Go.bits .or .u64 (IntKind.u64.wrap (a0_0 * 2)) (a0_1 / 9223372036854775808), IntKind.u64.wrap (a0_1 * 2))
/-! ### demand_long_atLeast: function 26 -/
def demand_long_atLeast.f (a0_0 : Int) (a0_1 : Int) (a1 : Int) : Option (Bool) := if a0_0 > 0 then (some true) else (some (decide (a0_1 ≥ (IntKind.u64.wrap (a1)))))
/-! ### whole_Add: function 27 -/
def whole_Add.f (a0 : Int) (a1 : Int) : Option (Int × Int) := if ((decide ((wrap64 (a0 + a1)) < a0)) != (decide (a1 < 0))) = true then (some (0, 2)) else (some (wrap64 (a0 + a1), 0))
/-! ### strconv_FormatInt: function 28 -/
/-- strconv.FormatInt at base 10: by the shelf's contract. -/
def strconv_FormatInt.f (a0 a1 : Int) : Option ByteArray := if a1 = 10 ∧ -9223372036854775808 ≤ a0 ∧ a0 ≤ 9223372036854775807 then some ⟨(Lib.itoa a0).toArray⟩ else none
/-! ### strings_Repeat: function 29 -/
/-- strings.Repeat of few copies of a short text: by the shelf's contract. -/
def strings_Repeat.f (a0 : ByteArray) (a1 : Int) : Option ByteArray := if 0 ≤ a1 ∧ a1 ≤ 1000 ∧ a0.size ≤ 1000 then some ⟨(Lib.repeatL a0.data.toList a1.toNat).toArray⟩ else none
/-! ### demand_Rate: function 13 -/
mutual
def demand_Rate.j0 : Nat → Int → Bool → Int → Int → Option (ByteArray × Int)
  | 0, _, _, _, _ => none
  | k + 1, x1, x26, x634000, x634001 => if x26 = true then (some ((⟨#[]⟩ : ByteArray), 1)) else (demand_Rate.l0 k x1 1 x1 0 x634000 x634001)
def demand_Rate.l0 : Nat → Int → Int → Int → Int → Int → Int → Option (ByteArray × Int)
  | 0, _, _, _, _, _, _ => none
  | k + 1, x1, x6, x27, x28, x634000, x634001 => if x28 < x27 then (demand_Rate.l0 k x1 (wrap64 (x6 * 10)) x27 (wrap64 (x28 + 1)) x634000 x634001) else ((whole_Scale.f k x634000 x6 x634001).bind fun bt635 => (if bt635.2 = 0 then ((demand_new128.f x634000 x6).bind fun bt637 => ((demand_new128.f bt635.1 x634001).bind fun bt639 => ((demand_long_less.f bt637.1 bt637.2 bt639.1 bt639.2).bind fun bt641 => ((demand_long_twice.f bt641.1 bt641.2).bind fun bt644 => ((demand_long_atLeast.f bt644.1 bt644.2 x634001).bind fun t646 => (if t646 = true then ((whole_Add.f bt635.1 1).bind fun bt647 => (if bt647.2 = 0 then (demand_Rate.j2 k x1 bt647.1) else (some ((⟨#[]⟩ : ByteArray), bt647.2)))) else (demand_Rate.j2 k x1 bt635.1))))))) else (some ((⟨#[]⟩ : ByteArray), bt635.2))))
def demand_Rate.j2 : Nat → Int → Int → Option (ByteArray × Int)
  | 0, _, _ => none
  | k + 1, x1, x7 => (strconv_FormatInt.f x7 10).bind fun t649 => (if (t649.size : Int) ≤ x1 then ((strings_Repeat.f (⟨#[48]⟩ : ByteArray) (wrap64 ((wrap64 (x1 + 1)) - (t649.size : Int)))).bind fun t650 => (if t650.size + t649.size ≤ 9223372036854775807 then (if x1 = 0 then (some (t650 ++ t649, 0)) else (if 0 ≤ (wrap64 (((t650 ++ t649).size : Int) - x1)) then (if (wrap64 (((t650 ++ t649).size : Int) - x1)) ≤ ((t650 ++ t649).size : Int) then (if ((t650 ++ t649).extract 0 ((wrap64 (((t650 ++ t649).size : Int) - x1)) : Int).toNat).size + 1 ≤ 9223372036854775807 then (if (((t650 ++ t649).extract 0 ((wrap64 (((t650 ++ t649).size : Int) - x1)) : Int).toNat) ++ (⟨#[46]⟩ : ByteArray)).size + ((t650 ++ t649).extract ((wrap64 (((t650 ++ t649).size : Int) - x1)) : Int).toNat (t650 ++ t649).size).size ≤ 9223372036854775807 then (some ((((t650 ++ t649).extract 0 ((wrap64 (((t650 ++ t649).size : Int) - x1)) : Int).toNat) ++ (⟨#[46]⟩ : ByteArray)) ++ ((t650 ++ t649).extract ((wrap64 (((t650 ++ t649).size : Int) - x1)) : Int).toNat (t650 ++ t649).size), 0)) else (none)) else (none)) else (none)) else (none))) else (none))) else (if x1 = 0 then (some (t649, 0)) else (if 0 ≤ (wrap64 ((t649.size : Int) - x1)) then (if (wrap64 ((t649.size : Int) - x1)) ≤ (t649.size : Int) then (if (t649.extract 0 ((wrap64 ((t649.size : Int) - x1)) : Int).toNat).size + 1 ≤ 9223372036854775807 then (if ((t649.extract 0 ((wrap64 ((t649.size : Int) - x1)) : Int).toNat) ++ (⟨#[46]⟩ : ByteArray)).size + (t649.extract ((wrap64 ((t649.size : Int) - x1)) : Int).toNat t649.size).size ≤ 9223372036854775807 then (some (((t649.extract 0 ((wrap64 ((t649.size : Int) - x1)) : Int).toNat) ++ (⟨#[46]⟩ : ByteArray)) ++ (t649.extract ((wrap64 ((t649.size : Int) - x1)) : Int).toNat t649.size), 0)) else (none)) else (none)) else (none)) else (none))))
end
def demand_Rate.f (k : Nat) (a0_0 : Int) (a0_1 : Int) (a1 : Int) : Option (ByteArray × Int) := if a1 < 0 then (demand_Rate.j0 k a1 true a0_0 a0_1) else (if a1 > 9 then (demand_Rate.j0 k a1 true a0_0 a0_1) else ((frac_Right.f k a0_0 a0_1).bind fun t634 => (if t634 = true then (demand_Rate.j0 k a1 (decide (a0_0 < 0)) a0_0 a0_1) else (demand_Rate.j0 k a1 true a0_0 a0_1))))
/-! ### carrefourlaw09_awake: function 7 -/
def carrefourlaw09_awake.f (k : Nat)  : Option (Bool) := (demand_Volume.f k (⟨#[]⟩ : ByteArray) 400 1800 21 20 0 0 0 0 0 0 9 10).bind fun bt653 => ((demand_Ratio.f k (⟨#[]⟩ : ByteArray) 400 1800 21 20 0 0 0 0 0 0 9 10).bind fun bt657 => ((demand_Rate.f k bt657.1 bt657.2.1 3).bind fun bt661 => (if bt653.2.2 = 0 then (if bt657.2.2 = 0 then (if bt661.2 = 0 then (if (bt653.1 == 1400 && (bt653.2.1 == 3)) = true then (if (bt657.1 == 7 && (bt657.2.1 == 27)) = true then (some (bt661.1.toList == ([48, 46, 50, 53, 57] : List UInt8))) else (some false)) else (some false)) else (some false)) else (some false)) else (some false))))
/-! ### carrefourlaw09_DemandTable: function 3 -/
mutual
def carrefourlaw09_DemandTable.j0 : Nat → List (List (S23)) → List (List (S23)) → Bool → Option (Bool)
  | 0, _, _, _ => none
  | k + 1, x3, x5, x31 => if x31 = true then (some false) else (carrefourlaw09_DemandTable.l0 k x3 x5 0)
def carrefourlaw09_DemandTable.l0 : Nat → List (List (S23)) → List (List (S23)) → Int → Option (Bool)
  | 0, _, _, _ => none
  | k + 1, x3, x5, x7 => if x7 < (x3.length : Int) then (if 0 ≤ x7 then (if x7 < (x5.length : Int) then (if ((rd_L19 x3 x7).length : Int) = ((rd_L19 x5 x7).length : Int) then (carrefourlaw09_DemandTable.l1 k x3 x5 x7 0) else (some false)) else (none)) else (none)) else ((carrefourlaw09_awake.f k).bind fun t673 => (some t673))
def carrefourlaw09_DemandTable.l1 : Nat → List (List (S23)) → List (List (S23)) → Int → Int → Option (Bool)
  | 0, _, _, _, _ => none
  | k + 1, x3, x5, x7, x8 => if 0 ≤ x7 then (if x7 < (x3.length : Int) then (if x8 < ((rd_L19 x3 x7).length : Int) then (if 0 ≤ x8 then (if x7 < (x5.length : Int) then (if x8 < ((rd_L19 x5 x7).length : Int) then (if (!(((rd_T23 (rd_L19 x3 x7) x8).f0) == ((rd_T23 (rd_L19 x5 x7) x8).f0)) || (!(((rd_T23 (rd_L19 x3 x7) x8).f1) == ((rd_T23 (rd_L19 x5 x7) x8).f1)))) = true then (some false) else (carrefourlaw09_DemandTable.l1 k x3 x5 x7 (wrap64 (x8 + 1)))) else (none)) else (none)) else (none)) else (carrefourlaw09_DemandTable.l0 k x3 x5 (wrap64 (x7 + 1)))) else (none)) else (none)
end
def carrefourlaw09_DemandTable.f (k : Nat) (a0_0 : Int) (a0_1 : Int) (a0_2 : Int) (a0_3 : Int) (a0_4 : Int) (l0_5 : List (S42)) (l0_6 : List (S45)) (a0_7 : Int) (a0_8 : Int) : Option (Bool) := (carrefourlaw06_Few.f k a0_0 a0_1 a0_2 a0_3 a0_4 l0_5 l0_6 a0_7 a0_8).bind fun t664 => (if t664 = true then ((demand_Table.f k a0_0 a0_1 a0_2 a0_3 a0_4 l0_5 l0_6 a0_7 a0_8).bind fun bt665 => ((carrefourref09_Table.f k a0_0 a0_1 a0_2 a0_3 a0_4 l0_5 l0_6 a0_7 a0_8).bind fun bt669 => (if bt665.2 = bt669.2 then (carrefourlaw09_DemandTable.j0 k bt665.1 bt669.1 ((bt665.1.length : Int) != (bt669.1.length : Int))) else (carrefourlaw09_DemandTable.j0 k bt665.1 bt669.1 true)))) else (some true))
end Go.Proofs.YtfhokgkpcphmlaaGreatDoor.X
