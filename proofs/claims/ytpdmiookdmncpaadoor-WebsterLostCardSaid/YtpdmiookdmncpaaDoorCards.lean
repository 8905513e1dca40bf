/-
  DERIVED. GIVEN WITH THE SEED: THE CARDS: each row of YtpdmiookdmncpaaDoorRows.lean that lists a variable, with what it lists TIED to the program's text (the seventh form; the later family's looks); each row that meets fmt, with fmt's text TOLD by the authors' own Lean function (tested against real Go, not proved from fmt's source: count such statements apart). THE CARD IS WHAT COUNTS. Prove the row's statement (the work); the ties are given (YtpdmiookdmncpaaDoorTie.lean); close each card by the builder's one call (the guide's Derived/Test/ToyasCard.lean, 'card_holds'). Laid BY PROGRAM, IN A SANDBOX (cutbox-door.mjs). By AI agents, Wed Nov 11 2026. No macro, syntax, notation, axiom, sorry.
-/
import Derived.Test.YtpdmiookdmncpaaDoorRows
import GoSem.ClaimSeven
namespace Go.Proofs.YtpdmiookdmncpaaDoor
namespace Rows

/-- THE TIED CARD OF 'carrefourlaw12.WebsterCycle'. -/
def websterCycleCard : Claim7 := { stood := { row := websterCycleRow, standIns := [], harness := (true, "790d2ab49392649ec95a91153baf3a442296c1ac4205f26b19d26888fb390979"), looks := false }, kinds := [], alts := [], laidByText := true, laidKinds := [.data], laidTests := true, laidLooks := .later }
def WebsterCycleCardSaid : Prop := Claim7.holds Tryd.pinned (.plain (OpenSpec.ofChange websterCycleSpec)) websterCycleCard

/-- THE TIED CARD OF 'carrefourlaw12.WebsterAllowed'. -/
def websterAllowedCard : Claim7 := { stood := { row := websterAllowedRow, standIns := [], harness := (true, "790d2ab49392649ec95a91153baf3a442296c1ac4205f26b19d26888fb390979"), looks := false }, kinds := [], alts := [], laidByText := true, laidKinds := [.data], laidTests := true, laidLooks := .later }
def WebsterAllowedCardSaid : Prop := Claim7.holds Tryd.pinned (.plain (OpenSpec.ofChange websterAllowedSpec)) websterAllowedCard

/-- THE TIED CARD OF 'carrefourlaw12.WebsterLeast'. -/
def websterLeastCard : Claim7 := { stood := { row := websterLeastRow, standIns := [], harness := (true, "790d2ab49392649ec95a91153baf3a442296c1ac4205f26b19d26888fb390979"), looks := false }, kinds := [], alts := [], laidByText := true, laidKinds := [.data], laidTests := true, laidLooks := .later }
def WebsterLeastCardSaid : Prop := Claim7.holds Tryd.pinned (.plain (OpenSpec.ofChange websterLeastSpec)) websterLeastCard

/-- THE TIED CARD OF 'carrefourlaw12.WebsterNext'. -/
def websterNextCard : Claim7 := { stood := { row := websterNextRow, standIns := [], harness := (true, "790d2ab49392649ec95a91153baf3a442296c1ac4205f26b19d26888fb390979"), looks := false }, kinds := [], alts := [], laidByText := true, laidKinds := [.data], laidTests := true, laidLooks := .later }
def WebsterNextCardSaid : Prop := Claim7.holds Tryd.pinned (.plain (OpenSpec.ofChange websterNextSpec)) websterNextCard

/-- THE TIED CARD OF 'carrefourlaw12.WebsterLost'. -/
def websterLostCard : Claim7 := { stood := { row := websterLostRow, standIns := [], harness := (true, "790d2ab49392649ec95a91153baf3a442296c1ac4205f26b19d26888fb390979"), looks := false }, kinds := [], alts := [], laidByText := true, laidKinds := [.data], laidTests := true, laidLooks := .later }
def WebsterLostCardSaid : Prop := Claim7.holds Tryd.pinned (.plain (OpenSpec.ofChange websterLostSpec)) websterLostCard

/-- THE TIED CARD OF 'carrefourlaw11.CritMost'. -/
def critMostCard : Claim7 := { stood := { row := critMostRow, standIns := [], harness := (true, "790d2ab49392649ec95a91153baf3a442296c1ac4205f26b19d26888fb390979"), looks := false }, kinds := [], alts := [], laidByText := true, laidKinds := [.data], laidTests := true, laidLooks := .later }
def CritMostCardSaid : Prop := Claim7.holds Tryd.pinned (.plain (OpenSpec.ofChange critMostSpec)) critMostCard

/-- THE TIED CARD OF 'carrefourlaw11.CritGrows'. -/
def critGrowsCard : Claim7 := { stood := { row := critGrowsRow, standIns := [], harness := (true, "790d2ab49392649ec95a91153baf3a442296c1ac4205f26b19d26888fb390979"), looks := false }, kinds := [], alts := [], laidByText := true, laidKinds := [.data], laidTests := true, laidLooks := .later }
def CritGrowsCardSaid : Prop := Claim7.holds Tryd.pinned (.plain (OpenSpec.ofChange critGrowsSpec)) critGrowsCard

/-- THE SECOND FORM's CARD OF 'carrefourlaw12.WebsterCycle'. -/
def websterCycleUptoCard : Claim7 := { stood := { row := websterCycleUptoRow, standIns := [], harness := (true, "790d2ab49392649ec95a91153baf3a442296c1ac4205f26b19d26888fb390979"), looks := false }, kinds := [], alts := [], laidByText := true, laidKinds := [.data], laidTests := true, laidLooks := .later }
def WebsterCycleUptoCardSaid : Prop := Claim7.holds Tryd.pinned (.plain (OpenSpec.upto websterCycleSpec)) websterCycleUptoCard

/-- THE SECOND FORM's CARD OF 'carrefourlaw12.WebsterAllowed'. -/
def websterAllowedUptoCard : Claim7 := { stood := { row := websterAllowedUptoRow, standIns := [], harness := (true, "790d2ab49392649ec95a91153baf3a442296c1ac4205f26b19d26888fb390979"), looks := false }, kinds := [], alts := [], laidByText := true, laidKinds := [.data], laidTests := true, laidLooks := .later }
def WebsterAllowedUptoCardSaid : Prop := Claim7.holds Tryd.pinned (.plain (OpenSpec.upto websterAllowedSpec)) websterAllowedUptoCard

/-- THE SECOND FORM's CARD OF 'carrefourlaw12.WebsterLeast'. -/
def websterLeastUptoCard : Claim7 := { stood := { row := websterLeastUptoRow, standIns := [], harness := (true, "790d2ab49392649ec95a91153baf3a442296c1ac4205f26b19d26888fb390979"), looks := false }, kinds := [], alts := [], laidByText := true, laidKinds := [.data], laidTests := true, laidLooks := .later }
def WebsterLeastUptoCardSaid : Prop := Claim7.holds Tryd.pinned (.plain (OpenSpec.upto websterLeastSpec)) websterLeastUptoCard

/-- THE SECOND FORM's CARD OF 'carrefourlaw12.WebsterNext'. -/
def websterNextUptoCard : Claim7 := { stood := { row := websterNextUptoRow, standIns := [], harness := (true, "790d2ab49392649ec95a91153baf3a442296c1ac4205f26b19d26888fb390979"), looks := false }, kinds := [], alts := [], laidByText := true, laidKinds := [.data], laidTests := true, laidLooks := .later }
def WebsterNextUptoCardSaid : Prop := Claim7.holds Tryd.pinned (.plain (OpenSpec.upto websterNextSpec)) websterNextUptoCard

/-- THE SECOND FORM's CARD OF 'carrefourlaw12.WebsterLost'. -/
def websterLostUptoCard : Claim7 := { stood := { row := websterLostUptoRow, standIns := [], harness := (true, "790d2ab49392649ec95a91153baf3a442296c1ac4205f26b19d26888fb390979"), looks := false }, kinds := [], alts := [], laidByText := true, laidKinds := [.data], laidTests := true, laidLooks := .later }
def WebsterLostUptoCardSaid : Prop := Claim7.holds Tryd.pinned (.plain (OpenSpec.upto websterLostSpec)) websterLostUptoCard

/-- THE SECOND FORM's CARD OF 'carrefourlaw11.CritMost'. -/
def critMostUptoCard : Claim7 := { stood := { row := critMostUptoRow, standIns := [], harness := (true, "790d2ab49392649ec95a91153baf3a442296c1ac4205f26b19d26888fb390979"), looks := false }, kinds := [], alts := [], laidByText := true, laidKinds := [.data], laidTests := true, laidLooks := .later }
def CritMostUptoCardSaid : Prop := Claim7.holds Tryd.pinned (.plain (OpenSpec.upto critMostSpec)) critMostUptoCard

/-- THE SECOND FORM's CARD OF 'carrefourlaw11.CritGrows'. -/
def critGrowsUptoCard : Claim7 := { stood := { row := critGrowsUptoRow, standIns := [], harness := (true, "790d2ab49392649ec95a91153baf3a442296c1ac4205f26b19d26888fb390979"), looks := false }, kinds := [], alts := [], laidByText := true, laidKinds := [.data], laidTests := true, laidLooks := .later }
def CritGrowsUptoCardSaid : Prop := Claim7.holds Tryd.pinned (.plain (OpenSpec.upto critGrowsSpec)) critGrowsUptoCard
end Rows
end Go.Proofs.YtpdmiookdmncpaaDoor
