/-
  DERIVED. GIVEN WITH THE SEED: THE CARDS: each row of YtfhokgkpcphmlaaGreatDoorRows.lean that lists a variable, with what it lists TIED to the program's text (the seventh form; the later family's looks); each row that meets fmt, with fmt's text TOLD by the authors' own Lean function (tested against real Go, not proved from fmt's source: count such statements apart). THE CARD IS WHAT COUNTS. Prove the row's statement (the work); the ties are given (YtfhokgkpcphmlaaGreatDoorTie.lean); close each card by the builder's one call (the guide's Derived/Test/ToyasCard.lean, 'card_holds'). Laid BY PROGRAM, IN A SANDBOX (cutbox-door.mjs). By AI agents, Wed Nov 11 2026. No macro, syntax, notation, axiom, sorry.
-/
import Derived.Test.YtfhokgkpcphmlaaGreatDoorRows
import GoSem.ClaimSeven
namespace Go.Proofs.YtfhokgkpcphmlaaGreatDoor
namespace Rows

/-- THE TIED CARD OF 'carrefourlaw09.DemandTable'. -/
def demandTableCard : Claim7 := { stood := { row := demandTableRow, standIns := [], harness := (true, "5199a46f4084ef7c868fe06bb2fe3dd58a88791173c61c7fd7e57a3190b04acd"), looks := false }, kinds := [], alts := [], laidByText := true, laidKinds := [.data, .data, .data], laidTests := true, laidLooks := .later }
def DemandTableCardSaid : Prop := Claim7.holds Tryz.pinned (.plain (OpenSpec.ofChange demandTableSpec)) demandTableCard

/-- THE SECOND FORM's CARD OF 'carrefourlaw09.DemandTable'. -/
def demandTableUptoCard : Claim7 := { stood := { row := demandTableUptoRow, standIns := [], harness := (true, "5199a46f4084ef7c868fe06bb2fe3dd58a88791173c61c7fd7e57a3190b04acd"), looks := false }, kinds := [], alts := [], laidByText := true, laidKinds := [.data, .data, .data], laidTests := true, laidLooks := .later }
def DemandTableUptoCardSaid : Prop := Claim7.holds Tryz.pinned (.plain (OpenSpec.upto demandTableSpec)) demandTableUptoCard
end Rows
end Go.Proofs.YtfhokgkpcphmlaaGreatDoor
