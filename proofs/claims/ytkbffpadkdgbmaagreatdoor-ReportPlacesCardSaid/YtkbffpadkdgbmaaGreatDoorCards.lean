/-
  DERIVED. GIVEN WITH THE SEED: THE CARDS: each row of YtkbffpadkdgbmaaGreatDoorRows.lean that lists a variable, with what it lists TIED to the program's text (the seventh form; the later family's looks); each row that meets fmt, with fmt's text TOLD by the authors' own Lean function (tested against real Go, not proved from fmt's source: count such statements apart). THE CARD IS WHAT COUNTS. Prove the row's statement (the work); the ties are given (YtkbffpadkdgbmaaGreatDoorTie.lean); close each card by the builder's one call (the guide's Derived/Test/ToyasCard.lean, 'card_holds'). Laid BY PROGRAM, IN A SANDBOX (cutbox-door.mjs). By AI agents, Wed Nov 11 2026. No macro, syntax, notation, axiom, sorry.
-/
import Derived.Test.YtkbffpadkdgbmaaGreatDoorRows
import GoSem.ClaimSeven
namespace Go.Proofs.YtkbffpadkdgbmaaGreatDoor
namespace Rows

/-- THE TIED CARD OF 'carrefourlaw29.ReportTable'. -/
def reportTableCard : Claim7 := { stood := { row := reportTableRow, standIns := [], harness := (true, "d07aa6ffc1ea6bce080052c7c4b3ea1babd28ad92d0464dc54038fb71f13fc3a"), looks := true }, kinds := [], alts := [], laidByText := true, laidKinds := [.data, .data, .data], laidTests := true, laidLooks := .later }
def ReportTableCardSaid : Prop := Claim7.holds Tryz.pinned (.plain (OpenSpec.ofChange reportTableSpec)) reportTableCard

/-- THE TIED CARD OF 'carrefourlaw29.ReportPlaces'. -/
def reportPlacesCard : Claim7 := { stood := { row := reportPlacesRow, standIns := [], harness := (true, "d07aa6ffc1ea6bce080052c7c4b3ea1babd28ad92d0464dc54038fb71f13fc3a"), looks := true }, kinds := [], alts := [], laidByText := true, laidKinds := [.data, .data, .data], laidTests := true, laidLooks := .later }
def ReportPlacesCardSaid : Prop := Claim7.holds Tryz.pinned (.plain (OpenSpec.ofChange reportPlacesSpec)) reportPlacesCard

/-- THE SECOND FORM's CARD OF 'carrefourlaw29.ReportTable'. -/
def reportTableUptoCard : Claim7 := { stood := { row := reportTableUptoRow, standIns := [], harness := (true, "d07aa6ffc1ea6bce080052c7c4b3ea1babd28ad92d0464dc54038fb71f13fc3a"), looks := true }, kinds := [], alts := [], laidByText := true, laidKinds := [.data, .data, .data], laidTests := true, laidLooks := .later }
def ReportTableUptoCardSaid : Prop := Claim7.holds Tryz.pinned (.plain (OpenSpec.upto reportTableSpec)) reportTableUptoCard

/-- THE SECOND FORM's CARD OF 'carrefourlaw29.ReportPlaces'. -/
def reportPlacesUptoCard : Claim7 := { stood := { row := reportPlacesUptoRow, standIns := [], harness := (true, "d07aa6ffc1ea6bce080052c7c4b3ea1babd28ad92d0464dc54038fb71f13fc3a"), looks := true }, kinds := [], alts := [], laidByText := true, laidKinds := [.data, .data, .data], laidTests := true, laidLooks := .later }
def ReportPlacesUptoCardSaid : Prop := Claim7.holds Tryz.pinned (.plain (OpenSpec.upto reportPlacesSpec)) reportPlacesUptoCard
end Rows
end Go.Proofs.YtkbffpadkdgbmaaGreatDoor
