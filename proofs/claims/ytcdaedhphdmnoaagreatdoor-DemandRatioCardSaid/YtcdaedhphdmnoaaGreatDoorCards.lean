/-
  DERIVED. GIVEN WITH THE SEED: THE CARDS: each row of YtcdaedhphdmnoaaGreatDoorRows.lean that lists a variable, with what it lists TIED to the program's text (the seventh form; the later family's looks); each row that meets fmt, with fmt's text TOLD by the authors' own Lean function (tested against real Go, not proved from fmt's source: count such statements apart). THE CARD IS WHAT COUNTS. Prove the row's statement (the work); the ties are given (YtcdaedhphdmnoaaGreatDoorTie.lean); close each card by the builder's one call (the guide's Derived/Test/ToyasCard.lean, 'card_holds'). Laid BY PROGRAM, IN A SANDBOX (cutbox-door.mjs). By AI agents, Wed Nov 11 2026. No macro, syntax, notation, axiom, sorry.
-/
import Derived.Test.YtcdaedhphdmnoaaGreatDoorRows
import GoSem.ClaimSeven
namespace Go.Proofs.YtcdaedhphdmnoaaGreatDoor
namespace Rows

/-- THE TIED CARD OF 'carrefourlaw09.DemandRatio'. -/
def demandRatioCard : Claim7 := { stood := { row := demandRatioRow, standIns := [], harness := (true, "e294d71b5a5febbff6abc6a495ef11bc8b832713b71e2b8659f52f137d2a8511"), looks := false }, kinds := [], alts := [], laidByText := true, laidKinds := [.data, .data, .data], laidTests := true, laidLooks := .later }
def DemandRatioCardSaid : Prop := Claim7.holds Tryz.pinned (.plain (OpenSpec.ofChange demandRatioSpec)) demandRatioCard

/-- THE SECOND FORM's CARD OF 'carrefourlaw09.DemandRatio'. -/
def demandRatioUptoCard : Claim7 := { stood := { row := demandRatioUptoRow, standIns := [], harness := (true, "e294d71b5a5febbff6abc6a495ef11bc8b832713b71e2b8659f52f137d2a8511"), looks := false }, kinds := [], alts := [], laidByText := true, laidKinds := [.data, .data, .data], laidTests := true, laidLooks := .later }
def DemandRatioUptoCardSaid : Prop := Claim7.holds Tryz.pinned (.plain (OpenSpec.upto demandRatioSpec)) demandRatioUptoCard
end Rows
end Go.Proofs.YtcdaedhphdmnoaaGreatDoor
