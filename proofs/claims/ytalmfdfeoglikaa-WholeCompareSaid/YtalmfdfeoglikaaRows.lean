/-
  No cell of these rows narrows 'for every input' (looked for: loops, veiled, ifaces, maps, wideKeys, modest, calm, conditions, laid).
  DERIVED. THE GIVEN ROWS OF THIS SEAT. 6 by the template 'for every input the law returns true; each argument reads behind the call as it read before'; 0 by the template 'total and deterministic' (their statements: YtalmfdfeoglikaaTotals.lean).
  GIVEN WITH THE SEED: the statements are not yours to turn. If you find one false, say at which input.
  Laid BY PROGRAM, IN A SANDBOX (cutbox-rows.mjs): the forced cells as the released guide's own fill.sh prints them over the translation b7f3b510fd5d128c… (all of the seat's roots in one cut). By AI agents, Wed Nov 11 2026. No macro, syntax, notation, axiom, sorry.
-/
import Derived.Test.YtalmfdfeoglikaaChecked
import GoSem.Claim
import GoSem.ClaimJoined
import GoSem.ClaimMapViews
import Derived.JoinedTies
import Derived.KernelRfl
namespace Go.Proofs.Ytalmfdfeoglikaa
/- THE CELL 'sum', in the pinned program and in every row, IS THE sha256 OF THE DUMP (.gsa) THAT YtalmfdfeoglikaaProg.lean LOADS. Nothing in Lean hashes anything: it is a label: what it is worth is what the hold of that sum in a sandbox is worth. -/
noncomputable def Try.pinned : Pinned := { name := "ytalmfdfeoglikaa", sum := "b7f3b510fd5d128c21ed087d166b89185b839a168d425e99c7ab9b0d64cf2e9c", checked := Try.checked }
namespace Rows
def none {H : Type} : Left H := { results := [], args := [] }

/-- 'carrefourlaw01.WholeScale': WHATEVER THE INPUT: true; the input reads as it did. -/
def wholeScaleSpec : ChangeSpec := { name := "wholeScale", fn := fun _ => fun
  | [d1, d2, d3] => { results := [.lit (.bool true)], args := [d1, d2, d3] }
  | _ => none }
def wholeScaleRow : OpenClaim := { program := "ytalmfdfeoglikaa", sum := "b7f3b510fd5d128c21ed087d166b89185b839a168d425e99c7ab9b0d64cf2e9c", func := "carrefour/carrefourlaw01.WholeScale", spec := "wholeScale", inPlace := ["math/bits.Add64"], named := ["math/bits.divideError", "math/bits.overflowError"], apart := false }
def WholeScaleSaid : Prop := wholeScaleRow.holds Try.pinned (OpenSpec.ofChange wholeScaleSpec)

/-- ITS FALSE NEIGHBOUR: 'it returns false'. Refute it at one input. -/
def wholeScaleWrong : ChangeSpec := { name := "wholeScale", fn := fun _ => fun
  | [d1, d2, d3] => { results := [.lit (.bool false)], args := [d1, d2, d3] }
  | _ => none }
def WholeScaleWrongFalsely : Prop := wholeScaleRow.holds Try.pinned (OpenSpec.ofChange wholeScaleWrong)

/-- 'carrefourlaw01.WholeSums': WHATEVER THE INPUT: true; the input reads as it did. -/
def wholeSumsSpec : ChangeSpec := { name := "wholeSums", fn := fun _ => fun
  | [d1, d2] => { results := [.lit (.bool true)], args := [d1, d2] }
  | _ => none }
def wholeSumsRow : OpenClaim := { program := "ytalmfdfeoglikaa", sum := "b7f3b510fd5d128c21ed087d166b89185b839a168d425e99c7ab9b0d64cf2e9c", func := "carrefour/carrefourlaw01.WholeSums", spec := "wholeSums", inPlace := ["math/bits.Add64"], named := ["math/bits.divideError", "math/bits.overflowError"], apart := false }
def WholeSumsSaid : Prop := wholeSumsRow.holds Try.pinned (OpenSpec.ofChange wholeSumsSpec)

/-- ITS FALSE NEIGHBOUR: 'it returns false'. Refute it at one input. -/
def wholeSumsWrong : ChangeSpec := { name := "wholeSums", fn := fun _ => fun
  | [d1, d2] => { results := [.lit (.bool false)], args := [d1, d2] }
  | _ => none }
def WholeSumsWrongFalsely : Prop := wholeSumsRow.holds Try.pinned (OpenSpec.ofChange wholeSumsWrong)

/-- 'carrefourlaw01.WholeProducts': WHATEVER THE INPUT: true; the input reads as it did. -/
def wholeProductsSpec : ChangeSpec := { name := "wholeProducts", fn := fun _ => fun
  | [d1, d2] => { results := [.lit (.bool true)], args := [d1, d2] }
  | _ => none }
def wholeProductsRow : OpenClaim := { program := "ytalmfdfeoglikaa", sum := "b7f3b510fd5d128c21ed087d166b89185b839a168d425e99c7ab9b0d64cf2e9c", func := "carrefour/carrefourlaw01.WholeProducts", spec := "wholeProducts", inPlace := ["math/bits.Add64"], named := ["math/bits.divideError", "math/bits.overflowError"], apart := false }
def WholeProductsSaid : Prop := wholeProductsRow.holds Try.pinned (OpenSpec.ofChange wholeProductsSpec)

/-- ITS FALSE NEIGHBOUR: 'it returns false'. Refute it at one input. -/
def wholeProductsWrong : ChangeSpec := { name := "wholeProducts", fn := fun _ => fun
  | [d1, d2] => { results := [.lit (.bool false)], args := [d1, d2] }
  | _ => none }
def WholeProductsWrongFalsely : Prop := wholeProductsRow.holds Try.pinned (OpenSpec.ofChange wholeProductsWrong)

/-- 'carrefourlaw01.WholeQuotients': WHATEVER THE INPUT: true; the input reads as it did. -/
def wholeQuotientsSpec : ChangeSpec := { name := "wholeQuotients", fn := fun _ => fun
  | [d1, d2] => { results := [.lit (.bool true)], args := [d1, d2] }
  | _ => none }
def wholeQuotientsRow : OpenClaim := { program := "ytalmfdfeoglikaa", sum := "b7f3b510fd5d128c21ed087d166b89185b839a168d425e99c7ab9b0d64cf2e9c", func := "carrefour/carrefourlaw01.WholeQuotients", spec := "wholeQuotients", inPlace := ["math/bits.Add64"], named := ["math/bits.divideError", "math/bits.overflowError"], apart := false }
def WholeQuotientsSaid : Prop := wholeQuotientsRow.holds Try.pinned (OpenSpec.ofChange wholeQuotientsSpec)

/-- ITS FALSE NEIGHBOUR: 'it returns false'. Refute it at one input. -/
def wholeQuotientsWrong : ChangeSpec := { name := "wholeQuotients", fn := fun _ => fun
  | [d1, d2] => { results := [.lit (.bool false)], args := [d1, d2] }
  | _ => none }
def WholeQuotientsWrongFalsely : Prop := wholeQuotientsRow.holds Try.pinned (OpenSpec.ofChange wholeQuotientsWrong)

/-- 'carrefourlaw01.WholeCompare': WHATEVER THE INPUT: true; the input reads as it did. -/
def wholeCompareSpec : ChangeSpec := { name := "wholeCompare", fn := fun _ => fun
  | [d] => { results := [.lit (.bool true)], args := [d] }
  | _ => none }
def wholeCompareRow : OpenClaim := { program := "ytalmfdfeoglikaa", sum := "b7f3b510fd5d128c21ed087d166b89185b839a168d425e99c7ab9b0d64cf2e9c", func := "carrefour/carrefourlaw01.WholeCompare", spec := "wholeCompare", inPlace := ["math/bits.Add64"], named := ["math/bits.divideError", "math/bits.overflowError"], apart := false }
def WholeCompareSaid : Prop := wholeCompareRow.holds Try.pinned (OpenSpec.ofChange wholeCompareSpec)

/-- ITS FALSE NEIGHBOUR: 'it returns false'. Refute it at one input. -/
def wholeCompareWrong : ChangeSpec := { name := "wholeCompare", fn := fun _ => fun
  | [d] => { results := [.lit (.bool false)], args := [d] }
  | _ => none }
def WholeCompareWrongFalsely : Prop := wholeCompareRow.holds Try.pinned (OpenSpec.ofChange wholeCompareWrong)

/-- 'carrefourlaw01.WholeRoot': WHATEVER THE INPUT: true; the input reads as it did. -/
def wholeRootSpec : ChangeSpec := { name := "wholeRoot", fn := fun _ => fun
  | [d] => { results := [.lit (.bool true)], args := [d] }
  | _ => none }
def wholeRootRow : OpenClaim := { program := "ytalmfdfeoglikaa", sum := "b7f3b510fd5d128c21ed087d166b89185b839a168d425e99c7ab9b0d64cf2e9c", func := "carrefour/carrefourlaw01.WholeRoot", spec := "wholeRoot", inPlace := ["math/bits.Add64"], named := ["math/bits.divideError", "math/bits.overflowError"], apart := false }
def WholeRootSaid : Prop := wholeRootRow.holds Try.pinned (OpenSpec.ofChange wholeRootSpec)

/-- ITS FALSE NEIGHBOUR: 'it returns false'. Refute it at one input. -/
def wholeRootWrong : ChangeSpec := { name := "wholeRoot", fn := fun _ => fun
  | [d] => { results := [.lit (.bool false)], args := [d] }
  | _ => none }
def WholeRootWrongFalsely : Prop := wholeRootRow.holds Try.pinned (OpenSpec.ofChange wholeRootWrong)

/- THE SECOND FORM. 'bulk': how many values and letters a reading holds, each counted each time it is reached (what is shared counts as often as it is met; a slice's spare places count too). A statement '..UptoSaid' is the law's where the arguments, and the package variables that the reading takes, are together of bulk at most 1048576: NARROWER than '..Said'. Prove '..Said' where nothing that the law and all that it calls make is longer than what came in: it says more and counts as full. Else prove '..UptoSaid'. A law counts once. -/
mutual
def uptoBulk {H : Type} : DataW H → Nat
  | .lit (.string bytes) => bytes.length + 1
  | .lit _ => 1
  | .nil => 1
  | .ptr d => uptoBulk d + 1
  | .slice elems spare => uptoBulkAll elems + uptoBulkAll spare + 1
  | .agg parts => uptoBulkAll parts + 1
  | .iface _ d => uptoBulk d + 1
  | .map entries => uptoBulkEntries entries + 1
  | .held _ => 1
def uptoBulkAll {H : Type} : List (DataW H) → Nat
  | [] => 0
  | d :: r => uptoBulk d + uptoBulkAll r
def uptoBulkEntries {H : Type} : List (Lit × DataW H) → Nat
  | [] => 0
  | x :: r => uptoBulkEntry x + uptoBulkEntries r
def uptoBulkEntry {H : Type} : Lit × DataW H → Nat
  | (.string bytes, d) => bytes.length + uptoBulk d + 1
  | (_, d) => uptoBulk d + 1
 end
def uptoSmall : (H : Type) → List (DataW H) → Bool := fun _ ds => decide (uptoBulkAll ds ≤ 1048576)
def OpenSpec.upto (s : _root_.Go.ChangeSpec) : _root_.Go.OpenSpec := { _root_.Go.OpenSpec.ofChange s with cond := some uptoSmall }

/-- 'carrefourlaw01.WholeScale', WHERE WHAT IT READS IS OF BULK AT MOST 1048576: true; the input reads as it did. -/
def wholeScaleUptoRow : OpenClaim := { program := "ytalmfdfeoglikaa", sum := "b7f3b510fd5d128c21ed087d166b89185b839a168d425e99c7ab9b0d64cf2e9c", func := "carrefour/carrefourlaw01.WholeScale", spec := "wholeScale", inPlace := ["math/bits.Add64"], named := ["math/bits.divideError", "math/bits.overflowError"], apart := false, narrowed := true }
def WholeScaleUptoSaid : Prop := wholeScaleUptoRow.holds Try.pinned (OpenSpec.upto wholeScaleSpec)

/-- 'carrefourlaw01.WholeSums', WHERE WHAT IT READS IS OF BULK AT MOST 1048576: true; the input reads as it did. -/
def wholeSumsUptoRow : OpenClaim := { program := "ytalmfdfeoglikaa", sum := "b7f3b510fd5d128c21ed087d166b89185b839a168d425e99c7ab9b0d64cf2e9c", func := "carrefour/carrefourlaw01.WholeSums", spec := "wholeSums", inPlace := ["math/bits.Add64"], named := ["math/bits.divideError", "math/bits.overflowError"], apart := false, narrowed := true }
def WholeSumsUptoSaid : Prop := wholeSumsUptoRow.holds Try.pinned (OpenSpec.upto wholeSumsSpec)

/-- 'carrefourlaw01.WholeProducts', WHERE WHAT IT READS IS OF BULK AT MOST 1048576: true; the input reads as it did. -/
def wholeProductsUptoRow : OpenClaim := { program := "ytalmfdfeoglikaa", sum := "b7f3b510fd5d128c21ed087d166b89185b839a168d425e99c7ab9b0d64cf2e9c", func := "carrefour/carrefourlaw01.WholeProducts", spec := "wholeProducts", inPlace := ["math/bits.Add64"], named := ["math/bits.divideError", "math/bits.overflowError"], apart := false, narrowed := true }
def WholeProductsUptoSaid : Prop := wholeProductsUptoRow.holds Try.pinned (OpenSpec.upto wholeProductsSpec)

/-- 'carrefourlaw01.WholeQuotients', WHERE WHAT IT READS IS OF BULK AT MOST 1048576: true; the input reads as it did. -/
def wholeQuotientsUptoRow : OpenClaim := { program := "ytalmfdfeoglikaa", sum := "b7f3b510fd5d128c21ed087d166b89185b839a168d425e99c7ab9b0d64cf2e9c", func := "carrefour/carrefourlaw01.WholeQuotients", spec := "wholeQuotients", inPlace := ["math/bits.Add64"], named := ["math/bits.divideError", "math/bits.overflowError"], apart := false, narrowed := true }
def WholeQuotientsUptoSaid : Prop := wholeQuotientsUptoRow.holds Try.pinned (OpenSpec.upto wholeQuotientsSpec)

/-- 'carrefourlaw01.WholeCompare', WHERE WHAT IT READS IS OF BULK AT MOST 1048576: true; the input reads as it did. -/
def wholeCompareUptoRow : OpenClaim := { program := "ytalmfdfeoglikaa", sum := "b7f3b510fd5d128c21ed087d166b89185b839a168d425e99c7ab9b0d64cf2e9c", func := "carrefour/carrefourlaw01.WholeCompare", spec := "wholeCompare", inPlace := ["math/bits.Add64"], named := ["math/bits.divideError", "math/bits.overflowError"], apart := false, narrowed := true }
def WholeCompareUptoSaid : Prop := wholeCompareUptoRow.holds Try.pinned (OpenSpec.upto wholeCompareSpec)

/-- 'carrefourlaw01.WholeRoot', WHERE WHAT IT READS IS OF BULK AT MOST 1048576: true; the input reads as it did. -/
def wholeRootUptoRow : OpenClaim := { program := "ytalmfdfeoglikaa", sum := "b7f3b510fd5d128c21ed087d166b89185b839a168d425e99c7ab9b0d64cf2e9c", func := "carrefour/carrefourlaw01.WholeRoot", spec := "wholeRoot", inPlace := ["math/bits.Add64"], named := ["math/bits.divideError", "math/bits.overflowError"], apart := false, narrowed := true }
def WholeRootUptoSaid : Prop := wholeRootUptoRow.holds Try.pinned (OpenSpec.upto wholeRootSpec)

end Rows
end Go.Proofs.Ytalmfdfeoglikaa
