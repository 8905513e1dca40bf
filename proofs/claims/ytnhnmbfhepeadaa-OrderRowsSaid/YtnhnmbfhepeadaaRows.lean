/-
  No cell of these rows narrows 'for every input' (looked for: loops, veiled, ifaces, maps, wideKeys, modest, calm, conditions, laid).
  DERIVED. THE GIVEN ROWS OF THIS SEAT. 5 by the template 'for every input the law returns true; each argument reads behind the call as it read before'; 0 by the template 'total and deterministic' (their statements: YtnhnmbfhepeadaaTotals.lean).
  GIVEN WITH THE SEED: the statements are not yours to turn. If you find one false, say at which input.
  Laid BY PROGRAM, IN A SANDBOX (cutbox-rows.mjs): the forced cells as the released guide's own fill.sh prints them over the translation db8801d4da0afd3a… (all of the seat's roots in one cut). By AI agents, Wed Nov 11 2026. No macro, syntax, notation, axiom, sorry.
-/
import Derived.Test.YtnhnmbfhepeadaaChecked
import GoSem.Claim
import GoSem.ClaimJoined
import GoSem.ClaimMapViews
import Derived.JoinedTies
import Derived.KernelRfl
namespace Go.Proofs.Ytnhnmbfhepeadaa
/- THE CELL 'sum', in the pinned program and in every row, IS THE sha256 OF THE DUMP (.gsa) THAT YtnhnmbfhepeadaaProg.lean LOADS. Nothing in Lean hashes anything: it is a label: what it is worth is what the hold of that sum in a sandbox is worth. -/
noncomputable def Try.pinned : Pinned := { name := "ytnhnmbfhepeadaa", sum := "db8801d4da0afd3a5d7288e2414a69e9100afd75ce15dbefbb3a08397a17757d", checked := Try.checked }
namespace Rows
def none {H : Type} : Left H := { results := [], args := [] }

/-- 'carrefourlaw13.OrderNth': WHATEVER THE INPUT: true; the input reads as it did. -/
def orderNthSpec : ChangeSpec := { name := "orderNth", fn := fun _ => fun
  | [d1, d2] => { results := [.lit (.bool true)], args := [d1, d2] }
  | _ => none }
def orderNthRow : OpenClaim := { program := "ytnhnmbfhepeadaa", sum := "db8801d4da0afd3a5d7288e2414a69e9100afd75ce15dbefbb3a08397a17757d", func := "carrefour/carrefourlaw13.OrderNth", spec := "orderNth", apart := false }
def OrderNthSaid : Prop := orderNthRow.holds Try.pinned (OpenSpec.ofChange orderNthSpec)

/-- ITS FALSE NEIGHBOUR: 'it returns false'. Refute it at one input. -/
def orderNthWrong : ChangeSpec := { name := "orderNth", fn := fun _ => fun
  | [d1, d2] => { results := [.lit (.bool false)], args := [d1, d2] }
  | _ => none }
def OrderNthWrongFalsely : Prop := orderNthRow.holds Try.pinned (OpenSpec.ofChange orderNthWrong)

/-- 'carrefourlaw13.OrderAhead': WHATEVER THE INPUT: true; the input reads as it did. -/
def orderAheadSpec : ChangeSpec := { name := "orderAhead", fn := fun _ => fun
  | [d1, d2, d3] => { results := [.lit (.bool true)], args := [d1, d2, d3] }
  | _ => none }
def orderAheadRow : OpenClaim := { program := "ytnhnmbfhepeadaa", sum := "db8801d4da0afd3a5d7288e2414a69e9100afd75ce15dbefbb3a08397a17757d", func := "carrefour/carrefourlaw13.OrderAhead", spec := "orderAhead", apart := false }
def OrderAheadSaid : Prop := orderAheadRow.holds Try.pinned (OpenSpec.ofChange orderAheadSpec)

/-- ITS FALSE NEIGHBOUR: 'it returns false'. Refute it at one input. -/
def orderAheadWrong : ChangeSpec := { name := "orderAhead", fn := fun _ => fun
  | [d1, d2, d3] => { results := [.lit (.bool false)], args := [d1, d2, d3] }
  | _ => none }
def OrderAheadWrongFalsely : Prop := orderAheadRow.holds Try.pinned (OpenSpec.ofChange orderAheadWrong)

/-- 'carrefourlaw13.OrderRank': WHATEVER THE INPUT: true; the input reads as it did. -/
def orderRankSpec : ChangeSpec := { name := "orderRank", fn := fun _ => fun
  | [d] => { results := [.lit (.bool true)], args := [d] }
  | _ => none }
def orderRankRow : OpenClaim := { program := "ytnhnmbfhepeadaa", sum := "db8801d4da0afd3a5d7288e2414a69e9100afd75ce15dbefbb3a08397a17757d", func := "carrefour/carrefourlaw13.OrderRank", spec := "orderRank", apart := false }
def OrderRankSaid : Prop := orderRankRow.holds Try.pinned (OpenSpec.ofChange orderRankSpec)

/-- ITS FALSE NEIGHBOUR: 'it returns false'. Refute it at one input. -/
def orderRankWrong : ChangeSpec := { name := "orderRank", fn := fun _ => fun
  | [d] => { results := [.lit (.bool false)], args := [d] }
  | _ => none }
def OrderRankWrongFalsely : Prop := orderRankRow.holds Try.pinned (OpenSpec.ofChange orderRankWrong)

/-- 'carrefourlaw13.OrderBack': WHATEVER THE INPUT: true; the input reads as it did. -/
def orderBackSpec : ChangeSpec := { name := "orderBack", fn := fun _ => fun
  | [d1, d2] => { results := [.lit (.bool true)], args := [d1, d2] }
  | _ => none }
def orderBackRow : OpenClaim := { program := "ytnhnmbfhepeadaa", sum := "db8801d4da0afd3a5d7288e2414a69e9100afd75ce15dbefbb3a08397a17757d", func := "carrefour/carrefourlaw13.OrderBack", spec := "orderBack", apart := false }
def OrderBackSaid : Prop := orderBackRow.holds Try.pinned (OpenSpec.ofChange orderBackSpec)

/-- ITS FALSE NEIGHBOUR: 'it returns false'. Refute it at one input. -/
def orderBackWrong : ChangeSpec := { name := "orderBack", fn := fun _ => fun
  | [d1, d2] => { results := [.lit (.bool false)], args := [d1, d2] }
  | _ => none }
def OrderBackWrongFalsely : Prop := orderBackRow.holds Try.pinned (OpenSpec.ofChange orderBackWrong)

/-- 'carrefourlaw13.OrderRows': WHATEVER THE INPUT: true; the input reads as it did. -/
def orderRowsSpec : ChangeSpec := { name := "orderRows", fn := fun _ => fun
  | [d1, d2] => { results := [.lit (.bool true)], args := [d1, d2] }
  | _ => none }
def orderRowsRow : OpenClaim := { program := "ytnhnmbfhepeadaa", sum := "db8801d4da0afd3a5d7288e2414a69e9100afd75ce15dbefbb3a08397a17757d", func := "carrefour/carrefourlaw13.OrderRows", spec := "orderRows", apart := false }
def OrderRowsSaid : Prop := orderRowsRow.holds Try.pinned (OpenSpec.ofChange orderRowsSpec)

/-- ITS FALSE NEIGHBOUR: 'it returns false'. Refute it at one input. -/
def orderRowsWrong : ChangeSpec := { name := "orderRows", fn := fun _ => fun
  | [d1, d2] => { results := [.lit (.bool false)], args := [d1, d2] }
  | _ => none }
def OrderRowsWrongFalsely : Prop := orderRowsRow.holds Try.pinned (OpenSpec.ofChange orderRowsWrong)

/- THE SECOND FORM. 'bulk': how many values and letters a reading holds, each counted each time it is reached (what is shared counts as often as it is met; a slice's spare places count too). A statement '..UptoSaid' is the law's where the arguments, and the package variables that the reading takes, are together of bulk at most 1048576: NARROWER than '..Said'. Prove '..Said' where nothing that the law and all that it calls make is longer than what came in: it says more and counts as full. Else prove '..UptoSaid'. A law counts once. -/
mutual
def uptoBulk {H : Type} : DataW H → Nat
  | .lit (.string bytes) => bytes.length + 1
  | .lit _ => 1
  | .nil => 1
  | .ptr d => uptoBulk d + 1
  | .slice elems spare => uptoBulkAll elems + uptoBulkAll spare + 1
  | .agg parts => uptoBulkAll parts + 1
  | .iface _ d => uptoBulk d + 1
  | .map entries => uptoBulkEntries entries + 1
  | .held _ => 1
def uptoBulkAll {H : Type} : List (DataW H) → Nat
  | [] => 0
  | d :: r => uptoBulk d + uptoBulkAll r
def uptoBulkEntries {H : Type} : List (Lit × DataW H) → Nat
  | [] => 0
  | x :: r => uptoBulkEntry x + uptoBulkEntries r
def uptoBulkEntry {H : Type} : Lit × DataW H → Nat
  | (.string bytes, d) => bytes.length + uptoBulk d + 1
  | (_, d) => uptoBulk d + 1
 end
def uptoSmall : (H : Type) → List (DataW H) → Bool := fun _ ds => decide (uptoBulkAll ds ≤ 1048576)
def OpenSpec.upto (s : _root_.Go.ChangeSpec) : _root_.Go.OpenSpec := { _root_.Go.OpenSpec.ofChange s with cond := some uptoSmall }

/-- 'carrefourlaw13.OrderNth', WHERE WHAT IT READS IS OF BULK AT MOST 1048576: true; the input reads as it did. -/
def orderNthUptoRow : OpenClaim := { program := "ytnhnmbfhepeadaa", sum := "db8801d4da0afd3a5d7288e2414a69e9100afd75ce15dbefbb3a08397a17757d", func := "carrefour/carrefourlaw13.OrderNth", spec := "orderNth", apart := false, narrowed := true }
def OrderNthUptoSaid : Prop := orderNthUptoRow.holds Try.pinned (OpenSpec.upto orderNthSpec)

/-- 'carrefourlaw13.OrderAhead', WHERE WHAT IT READS IS OF BULK AT MOST 1048576: true; the input reads as it did. -/
def orderAheadUptoRow : OpenClaim := { program := "ytnhnmbfhepeadaa", sum := "db8801d4da0afd3a5d7288e2414a69e9100afd75ce15dbefbb3a08397a17757d", func := "carrefour/carrefourlaw13.OrderAhead", spec := "orderAhead", apart := false, narrowed := true }
def OrderAheadUptoSaid : Prop := orderAheadUptoRow.holds Try.pinned (OpenSpec.upto orderAheadSpec)

/-- 'carrefourlaw13.OrderRank', WHERE WHAT IT READS IS OF BULK AT MOST 1048576: true; the input reads as it did. -/
def orderRankUptoRow : OpenClaim := { program := "ytnhnmbfhepeadaa", sum := "db8801d4da0afd3a5d7288e2414a69e9100afd75ce15dbefbb3a08397a17757d", func := "carrefour/carrefourlaw13.OrderRank", spec := "orderRank", apart := false, narrowed := true }
def OrderRankUptoSaid : Prop := orderRankUptoRow.holds Try.pinned (OpenSpec.upto orderRankSpec)

/-- 'carrefourlaw13.OrderBack', WHERE WHAT IT READS IS OF BULK AT MOST 1048576: true; the input reads as it did. -/
def orderBackUptoRow : OpenClaim := { program := "ytnhnmbfhepeadaa", sum := "db8801d4da0afd3a5d7288e2414a69e9100afd75ce15dbefbb3a08397a17757d", func := "carrefour/carrefourlaw13.OrderBack", spec := "orderBack", apart := false, narrowed := true }
def OrderBackUptoSaid : Prop := orderBackUptoRow.holds Try.pinned (OpenSpec.upto orderBackSpec)

/-- 'carrefourlaw13.OrderRows', WHERE WHAT IT READS IS OF BULK AT MOST 1048576: true; the input reads as it did. -/
def orderRowsUptoRow : OpenClaim := { program := "ytnhnmbfhepeadaa", sum := "db8801d4da0afd3a5d7288e2414a69e9100afd75ce15dbefbb3a08397a17757d", func := "carrefour/carrefourlaw13.OrderRows", spec := "orderRows", apart := false, narrowed := true }
def OrderRowsUptoSaid : Prop := orderRowsUptoRow.holds Try.pinned (OpenSpec.upto orderRowsSpec)

end Rows
end Go.Proofs.Ytnhnmbfhepeadaa
