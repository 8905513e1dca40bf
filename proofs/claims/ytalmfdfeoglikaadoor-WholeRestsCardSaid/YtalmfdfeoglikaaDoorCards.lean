/-
  DERIVED. GIVEN WITH THE SEED: THE CARDS: each row of YtalmfdfeoglikaaDoorRows.lean that lists a variable, with what it lists TIED to the program's text (the seventh form; the later family's looks); each row that meets fmt, with fmt's text TOLD by the authors' own Lean function (tested against real Go, not proved from fmt's source: count such statements apart). THE CARD IS WHAT COUNTS. Prove the row's statement (the work); the ties are given (YtalmfdfeoglikaaDoorTie.lean); close each card by the builder's one call (the guide's Derived/Test/ToyasCard.lean, 'card_holds'). Laid BY PROGRAM, IN A SANDBOX (cutbox-door.mjs). By AI agents, Wed Nov 11 2026. No macro, syntax, notation, axiom, sorry.
-/
import Derived.Test.YtalmfdfeoglikaaDoorRows
import GoSem.ClaimSeven
namespace Go.Proofs.YtalmfdfeoglikaaDoor
namespace Rows

/-- THE TIED CARD OF 'carrefourlaw01.WholeDivisors'. -/
def wholeDivisorsCard : Claim7 := { stood := { row := wholeDivisorsRow, standIns := [], harness := (true, "c47671b3f69edc70edecb42693aebcb27c6a3c20098b03e6cd9f91baa720f36f"), looks := false }, kinds := [], alts := [], laidByText := true, laidKinds := [.data], laidTests := true, laidLooks := .later }
def WholeDivisorsCardSaid : Prop := Claim7.holds Tryd.pinned (.plain (OpenSpec.ofChange wholeDivisorsSpec)) wholeDivisorsCard

/-- THE TIED CARD OF 'carrefourlaw01.WholeRests'. -/
def wholeRestsCard : Claim7 := { stood := { row := wholeRestsRow, standIns := [], harness := (true, "c47671b3f69edc70edecb42693aebcb27c6a3c20098b03e6cd9f91baa720f36f"), looks := false }, kinds := [], alts := [], laidByText := true, laidKinds := [.data], laidTests := true, laidLooks := .later }
def WholeRestsCardSaid : Prop := Claim7.holds Tryd.pinned (.plain (OpenSpec.ofChange wholeRestsSpec)) wholeRestsCard

/-- THE SECOND FORM's CARD OF 'carrefourlaw01.WholeDivisors'. -/
def wholeDivisorsUptoCard : Claim7 := { stood := { row := wholeDivisorsUptoRow, standIns := [], harness := (true, "c47671b3f69edc70edecb42693aebcb27c6a3c20098b03e6cd9f91baa720f36f"), looks := false }, kinds := [], alts := [], laidByText := true, laidKinds := [.data], laidTests := true, laidLooks := .later }
def WholeDivisorsUptoCardSaid : Prop := Claim7.holds Tryd.pinned (.plain (OpenSpec.upto wholeDivisorsSpec)) wholeDivisorsUptoCard

/-- THE SECOND FORM's CARD OF 'carrefourlaw01.WholeRests'. -/
def wholeRestsUptoCard : Claim7 := { stood := { row := wholeRestsUptoRow, standIns := [], harness := (true, "c47671b3f69edc70edecb42693aebcb27c6a3c20098b03e6cd9f91baa720f36f"), looks := false }, kinds := [], alts := [], laidByText := true, laidKinds := [.data], laidTests := true, laidLooks := .later }
def WholeRestsUptoCardSaid : Prop := Claim7.holds Tryd.pinned (.plain (OpenSpec.upto wholeRestsSpec)) wholeRestsUptoCard
end Rows
end Go.Proofs.YtalmfdfeoglikaaDoor
