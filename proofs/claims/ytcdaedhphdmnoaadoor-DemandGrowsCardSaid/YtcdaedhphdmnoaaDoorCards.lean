/-
  DERIVED. GIVEN WITH THE SEED: THE CARDS: each row of YtcdaedhphdmnoaaDoorRows.lean that lists a variable, with what it lists TIED to the program's text (the seventh form; the later family's looks); each row that meets fmt, with fmt's text TOLD by the authors' own Lean function (tested against real Go, not proved from fmt's source: count such statements apart). THE CARD IS WHAT COUNTS. Prove the row's statement (the work); the ties are given (YtcdaedhphdmnoaaDoorTie.lean); close each card by the builder's one call (the guide's Derived/Test/ToyasCard.lean, 'card_holds'). Laid BY PROGRAM, IN A SANDBOX (cutbox-door.mjs). By AI agents, Wed Nov 11 2026. No macro, syntax, notation, axiom, sorry.
-/
import Derived.Test.YtcdaedhphdmnoaaDoorRows
import GoSem.ClaimSeven
namespace Go.Proofs.YtcdaedhphdmnoaaDoor
namespace Rows

/-- THE TIED CARD OF 'carrefourlaw09.DemandGrows'. -/
def demandGrowsCard : Claim7 := { stood := { row := demandGrowsRow, standIns := [], harness := (true, "fff722677f520adaa6d0c2f28afea983be22bd3eb2112e34f20c8ad1564c81e6"), looks := false }, kinds := [], alts := [], laidByText := true, laidKinds := [.data, .data, .data], laidTests := true, laidLooks := .later }
def DemandGrowsCardSaid : Prop := Claim7.holds Tryd.pinned (.plain (OpenSpec.ofChange demandGrowsSpec)) demandGrowsCard

/-- THE TIED CARD OF 'carrefourlaw09.DemandShare'. -/
def demandShareCard : Claim7 := { stood := { row := demandShareRow, standIns := [], harness := (true, "fff722677f520adaa6d0c2f28afea983be22bd3eb2112e34f20c8ad1564c81e6"), looks := false }, kinds := [], alts := [], laidByText := true, laidKinds := [.data, .data, .data], laidTests := true, laidLooks := .later }
def DemandShareCardSaid : Prop := Claim7.holds Tryd.pinned (.plain (OpenSpec.ofChange demandShareSpec)) demandShareCard

/-- THE SECOND FORM's CARD OF 'carrefourlaw09.DemandGrows'. -/
def demandGrowsUptoCard : Claim7 := { stood := { row := demandGrowsUptoRow, standIns := [], harness := (true, "fff722677f520adaa6d0c2f28afea983be22bd3eb2112e34f20c8ad1564c81e6"), looks := false }, kinds := [], alts := [], laidByText := true, laidKinds := [.data, .data, .data], laidTests := true, laidLooks := .later }
def DemandGrowsUptoCardSaid : Prop := Claim7.holds Tryd.pinned (.plain (OpenSpec.upto demandGrowsSpec)) demandGrowsUptoCard

/-- THE SECOND FORM's CARD OF 'carrefourlaw09.DemandShare'. -/
def demandShareUptoCard : Claim7 := { stood := { row := demandShareUptoRow, standIns := [], harness := (true, "fff722677f520adaa6d0c2f28afea983be22bd3eb2112e34f20c8ad1564c81e6"), looks := false }, kinds := [], alts := [], laidByText := true, laidKinds := [.data, .data, .data], laidTests := true, laidLooks := .later }
def DemandShareUptoCardSaid : Prop := Claim7.holds Tryd.pinned (.plain (OpenSpec.upto demandShareSpec)) demandShareUptoCard
end Rows
end Go.Proofs.YtcdaedhphdmnoaaDoor
