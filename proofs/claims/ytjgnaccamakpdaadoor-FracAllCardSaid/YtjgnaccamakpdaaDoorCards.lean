/-
  DERIVED. GIVEN WITH THE SEED: THE CARDS: each row of YtjgnaccamakpdaaDoorRows.lean that lists a variable, with what it lists TIED to the program's text (the seventh form; the later family's looks); each row that meets fmt, with fmt's text TOLD by the authors' own Lean function (tested against real Go, not proved from fmt's source: count such statements apart). THE CARD IS WHAT COUNTS. Prove the row's statement (the work); the ties are given (YtjgnaccamakpdaaDoorTie.lean); close each card by the builder's one call (the guide's Derived/Test/ToyasCard.lean, 'card_holds'). Laid BY PROGRAM, IN A SANDBOX (cutbox-door.mjs). By AI agents, Wed Nov 11 2026. No macro, syntax, notation, axiom, sorry.
-/
import Derived.Test.YtjgnaccamakpdaaDoorRows
import GoSem.ClaimSeven
namespace Go.Proofs.YtjgnaccamakpdaaDoor
namespace Rows

/-- THE TIED CARD OF 'carrefourlaw02.FracSums'. -/
def fracSumsCard : Claim7 := { stood := { row := fracSumsRow, standIns := [], harness := (true, "1511b1ce96e46e4436af00a390052ea846689bd3ebe5c8ddfc544a2cb1ec1a8d"), looks := false }, kinds := [], alts := [], laidByText := true, laidKinds := [.data, .data, .data], laidTests := true, laidLooks := .later }
def FracSumsCardSaid : Prop := Claim7.holds Tryd.pinned (.plain (OpenSpec.ofChange fracSumsSpec)) fracSumsCard

/-- THE TIED CARD OF 'carrefourlaw02.FracOf'. -/
def fracOfCard : Claim7 := { stood := { row := fracOfRow, standIns := [], harness := (true, "1511b1ce96e46e4436af00a390052ea846689bd3ebe5c8ddfc544a2cb1ec1a8d"), looks := false }, kinds := [], alts := [], laidByText := true, laidKinds := [.data, .data, .data], laidTests := true, laidLooks := .later }
def FracOfCardSaid : Prop := Claim7.holds Tryd.pinned (.plain (OpenSpec.ofChange fracOfSpec)) fracOfCard

/-- THE TIED CARD OF 'carrefourlaw02.FracRing'. -/
def fracRingCard : Claim7 := { stood := { row := fracRingRow, standIns := [], harness := (true, "1511b1ce96e46e4436af00a390052ea846689bd3ebe5c8ddfc544a2cb1ec1a8d"), looks := false }, kinds := [], alts := [], laidByText := true, laidKinds := [.data, .data, .data], laidTests := true, laidLooks := .later }
def FracRingCardSaid : Prop := Claim7.holds Tryd.pinned (.plain (OpenSpec.ofChange fracRingSpec)) fracRingCard

/-- THE TIED CARD OF 'carrefourlaw02.FracProducts'. -/
def fracProductsCard : Claim7 := { stood := { row := fracProductsRow, standIns := [], harness := (true, "1511b1ce96e46e4436af00a390052ea846689bd3ebe5c8ddfc544a2cb1ec1a8d"), looks := false }, kinds := [], alts := [], laidByText := true, laidKinds := [.data, .data, .data], laidTests := true, laidLooks := .later }
def FracProductsCardSaid : Prop := Claim7.holds Tryd.pinned (.plain (OpenSpec.ofChange fracProductsSpec)) fracProductsCard

/-- THE TIED CARD OF 'carrefourlaw02.FracOrder'. -/
def fracOrderCard : Claim7 := { stood := { row := fracOrderRow, standIns := [], harness := (true, "1511b1ce96e46e4436af00a390052ea846689bd3ebe5c8ddfc544a2cb1ec1a8d"), looks := false }, kinds := [], alts := [], laidByText := true, laidKinds := [.data, .data, .data], laidTests := true, laidLooks := .later }
def FracOrderCardSaid : Prop := Claim7.holds Tryd.pinned (.plain (OpenSpec.ofChange fracOrderSpec)) fracOrderCard

/-- THE TIED CARD OF 'carrefourlaw02.FracRound'. -/
def fracRoundCard : Claim7 := { stood := { row := fracRoundRow, standIns := [], harness := (true, "1511b1ce96e46e4436af00a390052ea846689bd3ebe5c8ddfc544a2cb1ec1a8d"), looks := false }, kinds := [], alts := [], laidByText := true, laidKinds := [.data, .data, .data], laidTests := true, laidLooks := .later }
def FracRoundCardSaid : Prop := Claim7.holds Tryd.pinned (.plain (OpenSpec.ofChange fracRoundSpec)) fracRoundCard

/-- THE TIED CARD OF 'carrefourlaw02.FracAll'. -/
def fracAllCard : Claim7 := { stood := { row := fracAllRow, standIns := [], harness := (true, "1511b1ce96e46e4436af00a390052ea846689bd3ebe5c8ddfc544a2cb1ec1a8d"), looks := false }, kinds := [], alts := [], laidByText := true, laidKinds := [.data, .data, .data], laidTests := true, laidLooks := .later }
def FracAllCardSaid : Prop := Claim7.holds Tryd.pinned (.plain (OpenSpec.ofChange fracAllSpec)) fracAllCard

/-- THE SECOND FORM's CARD OF 'carrefourlaw02.FracSums'. -/
def fracSumsUptoCard : Claim7 := { stood := { row := fracSumsUptoRow, standIns := [], harness := (true, "1511b1ce96e46e4436af00a390052ea846689bd3ebe5c8ddfc544a2cb1ec1a8d"), looks := false }, kinds := [], alts := [], laidByText := true, laidKinds := [.data, .data, .data], laidTests := true, laidLooks := .later }
def FracSumsUptoCardSaid : Prop := Claim7.holds Tryd.pinned (.plain (OpenSpec.upto fracSumsSpec)) fracSumsUptoCard

/-- THE SECOND FORM's CARD OF 'carrefourlaw02.FracOf'. -/
def fracOfUptoCard : Claim7 := { stood := { row := fracOfUptoRow, standIns := [], harness := (true, "1511b1ce96e46e4436af00a390052ea846689bd3ebe5c8ddfc544a2cb1ec1a8d"), looks := false }, kinds := [], alts := [], laidByText := true, laidKinds := [.data, .data, .data], laidTests := true, laidLooks := .later }
def FracOfUptoCardSaid : Prop := Claim7.holds Tryd.pinned (.plain (OpenSpec.upto fracOfSpec)) fracOfUptoCard

/-- THE SECOND FORM's CARD OF 'carrefourlaw02.FracRing'. -/
def fracRingUptoCard : Claim7 := { stood := { row := fracRingUptoRow, standIns := [], harness := (true, "1511b1ce96e46e4436af00a390052ea846689bd3ebe5c8ddfc544a2cb1ec1a8d"), looks := false }, kinds := [], alts := [], laidByText := true, laidKinds := [.data, .data, .data], laidTests := true, laidLooks := .later }
def FracRingUptoCardSaid : Prop := Claim7.holds Tryd.pinned (.plain (OpenSpec.upto fracRingSpec)) fracRingUptoCard

/-- THE SECOND FORM's CARD OF 'carrefourlaw02.FracProducts'. -/
def fracProductsUptoCard : Claim7 := { stood := { row := fracProductsUptoRow, standIns := [], harness := (true, "1511b1ce96e46e4436af00a390052ea846689bd3ebe5c8ddfc544a2cb1ec1a8d"), looks := false }, kinds := [], alts := [], laidByText := true, laidKinds := [.data, .data, .data], laidTests := true, laidLooks := .later }
def FracProductsUptoCardSaid : Prop := Claim7.holds Tryd.pinned (.plain (OpenSpec.upto fracProductsSpec)) fracProductsUptoCard

/-- THE SECOND FORM's CARD OF 'carrefourlaw02.FracOrder'. -/
def fracOrderUptoCard : Claim7 := { stood := { row := fracOrderUptoRow, standIns := [], harness := (true, "1511b1ce96e46e4436af00a390052ea846689bd3ebe5c8ddfc544a2cb1ec1a8d"), looks := false }, kinds := [], alts := [], laidByText := true, laidKinds := [.data, .data, .data], laidTests := true, laidLooks := .later }
def FracOrderUptoCardSaid : Prop := Claim7.holds Tryd.pinned (.plain (OpenSpec.upto fracOrderSpec)) fracOrderUptoCard

/-- THE SECOND FORM's CARD OF 'carrefourlaw02.FracRound'. -/
def fracRoundUptoCard : Claim7 := { stood := { row := fracRoundUptoRow, standIns := [], harness := (true, "1511b1ce96e46e4436af00a390052ea846689bd3ebe5c8ddfc544a2cb1ec1a8d"), looks := false }, kinds := [], alts := [], laidByText := true, laidKinds := [.data, .data, .data], laidTests := true, laidLooks := .later }
def FracRoundUptoCardSaid : Prop := Claim7.holds Tryd.pinned (.plain (OpenSpec.upto fracRoundSpec)) fracRoundUptoCard

/-- THE SECOND FORM's CARD OF 'carrefourlaw02.FracAll'. -/
def fracAllUptoCard : Claim7 := { stood := { row := fracAllUptoRow, standIns := [], harness := (true, "1511b1ce96e46e4436af00a390052ea846689bd3ebe5c8ddfc544a2cb1ec1a8d"), looks := false }, kinds := [], alts := [], laidByText := true, laidKinds := [.data, .data, .data], laidTests := true, laidLooks := .later }
def FracAllUptoCardSaid : Prop := Claim7.holds Tryd.pinned (.plain (OpenSpec.upto fracAllSpec)) fracAllUptoCard
end Rows
end Go.Proofs.YtjgnaccamakpdaaDoor
