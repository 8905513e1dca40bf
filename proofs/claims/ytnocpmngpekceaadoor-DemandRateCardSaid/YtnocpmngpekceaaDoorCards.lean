/-
  DERIVED. GIVEN WITH THE SEED: THE CARDS: each row of YtnocpmngpekceaaDoorRows.lean that lists a variable, with what it lists TIED to the program's text (the seventh form; the later family's looks); each row that meets fmt, with fmt's text TOLD by the authors' own Lean function (tested against real Go, not proved from fmt's source: count such statements apart). THE CARD IS WHAT COUNTS. Prove the row's statement (the work); the ties are given (YtnocpmngpekceaaDoorTie.lean); close each card by the builder's one call (the guide's Derived/Test/ToyasCard.lean, 'card_holds'). Laid BY PROGRAM, IN A SANDBOX (cutbox-door.mjs). By AI agents, Wed Nov 11 2026. No macro, syntax, notation, axiom, sorry.
-/
import Derived.Test.YtnocpmngpekceaaDoorRows
import GoSem.ClaimSeven
namespace Go.Proofs.YtnocpmngpekceaaDoor
namespace Rows

/-- THE TIED CARD OF 'carrefourlaw09.DemandRate'. -/
def demandRateCard : Claim7 := { stood := { row := demandRateRow, standIns := [], harness := (true, "1d16db687a3e5b759860a77849a95d51c4d0c9a3246487371724fcff15a4f4c7"), looks := false }, kinds := [], alts := [], laidByText := true, laidKinds := [.data, .data, .data], laidTests := true, laidLooks := .later }
def DemandRateCardSaid : Prop := Claim7.holds Tryd.pinned (.plain (OpenSpec.ofChange demandRateSpec)) demandRateCard

/-- THE SECOND FORM's CARD OF 'carrefourlaw09.DemandRate'. -/
def demandRateUptoCard : Claim7 := { stood := { row := demandRateUptoRow, standIns := [], harness := (true, "1d16db687a3e5b759860a77849a95d51c4d0c9a3246487371724fcff15a4f4c7"), looks := false }, kinds := [], alts := [], laidByText := true, laidKinds := [.data, .data, .data], laidTests := true, laidLooks := .later }
def DemandRateUptoCardSaid : Prop := Claim7.holds Tryd.pinned (.plain (OpenSpec.upto demandRateSpec)) demandRateUptoCard
end Rows
end Go.Proofs.YtnocpmngpekceaaDoor
