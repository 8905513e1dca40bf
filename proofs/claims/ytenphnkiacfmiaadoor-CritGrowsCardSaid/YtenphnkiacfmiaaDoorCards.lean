/-
  DERIVED. GIVEN WITH THE SEED: THE CARDS: each row of YtenphnkiacfmiaaDoorRows.lean that lists a variable, with what it lists TIED to the program's text (the seventh form; the later family's looks); each row that meets fmt, with fmt's text TOLD by the authors' own Lean function (tested against real Go, not proved from fmt's source: count such statements apart). THE CARD IS WHAT COUNTS. Prove the row's statement (the work); the ties are given (YtenphnkiacfmiaaDoorTie.lean); close each card by the builder's one call (the guide's Derived/Test/ToyasCard.lean, 'card_holds'). Laid BY PROGRAM, IN A SANDBOX (cutbox-door.mjs). By AI agents, Wed Nov 11 2026. No macro, syntax, notation, axiom, sorry.
-/
import Derived.Test.YtenphnkiacfmiaaDoorRows
import GoSem.ClaimSeven
namespace Go.Proofs.YtenphnkiacfmiaaDoor
namespace Rows

/-- THE TIED CARD OF 'carrefourlaw11.CritMost'. -/
def critMostCard : Claim7 := { stood := { row := critMostRow, standIns := [], harness := (true, "46679c4534e1196bf4853baf82479f7c86ad39d4c26011cb8f979d4627aafbfc"), looks := false }, kinds := [], alts := [], laidByText := true, laidKinds := [.data], laidTests := true, laidLooks := .later }
def CritMostCardSaid : Prop := Claim7.holds Tryd.pinned (.plain (OpenSpec.ofChange critMostSpec)) critMostCard

/-- THE TIED CARD OF 'carrefourlaw11.CritGrows'. -/
def critGrowsCard : Claim7 := { stood := { row := critGrowsRow, standIns := [], harness := (true, "46679c4534e1196bf4853baf82479f7c86ad39d4c26011cb8f979d4627aafbfc"), looks := false }, kinds := [], alts := [], laidByText := true, laidKinds := [.data], laidTests := true, laidLooks := .later }
def CritGrowsCardSaid : Prop := Claim7.holds Tryd.pinned (.plain (OpenSpec.ofChange critGrowsSpec)) critGrowsCard

/-- THE SECOND FORM's CARD OF 'carrefourlaw11.CritMost'. -/
def critMostUptoCard : Claim7 := { stood := { row := critMostUptoRow, standIns := [], harness := (true, "46679c4534e1196bf4853baf82479f7c86ad39d4c26011cb8f979d4627aafbfc"), looks := false }, kinds := [], alts := [], laidByText := true, laidKinds := [.data], laidTests := true, laidLooks := .later }
def CritMostUptoCardSaid : Prop := Claim7.holds Tryd.pinned (.plain (OpenSpec.upto critMostSpec)) critMostUptoCard

/-- THE SECOND FORM's CARD OF 'carrefourlaw11.CritGrows'. -/
def critGrowsUptoCard : Claim7 := { stood := { row := critGrowsUptoRow, standIns := [], harness := (true, "46679c4534e1196bf4853baf82479f7c86ad39d4c26011cb8f979d4627aafbfc"), looks := false }, kinds := [], alts := [], laidByText := true, laidKinds := [.data], laidTests := true, laidLooks := .later }
def CritGrowsUptoCardSaid : Prop := Claim7.holds Tryd.pinned (.plain (OpenSpec.upto critGrowsSpec)) critGrowsUptoCard
end Rows
end Go.Proofs.YtenphnkiacfmiaaDoor
