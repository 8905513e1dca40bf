/-
  DERIVED. GIVEN WITH THE SEED: THE CARDS: each row of YtcdddmaibchjjaaDoorRows.lean that lists a variable, with what it lists TIED to the program's text (the seventh form; the later family's looks); each row that meets fmt, with fmt's text TOLD by the authors' own Lean function (tested against real Go, not proved from fmt's source: count such statements apart). THE CARD IS WHAT COUNTS. Prove the row's statement (the work); the ties are given (YtcdddmaibchjjaaDoorTie.lean); close each card by the builder's one call (the guide's Derived/Test/ToyasCard.lean, 'card_holds'). Laid BY PROGRAM, IN A SANDBOX (cutbox-door.mjs). By AI agents, Wed Nov 11 2026. No macro, syntax, notation, axiom, sorry.
-/
import Derived.Test.YtcdddmaibchjjaaDoorRows
import GoSem.ClaimSeven
namespace Go.Proofs.YtcdddmaibchjjaaDoor
namespace Rows

/-- THE TIED CARD OF 'carrefourlaw14.PathsLongest'. -/
def pathsLongestCard : Claim7 := { stood := { row := pathsLongestRow, standIns := [], harness := (true, "b9a5129927982c16aa5937dd9e9636fa3a82c240c991b57fc646b164dab7a40c"), looks := false }, kinds := [], alts := [], laidByText := true, laidKinds := [.data], laidTests := true, laidLooks := .later }
def PathsLongestCardSaid : Prop := Claim7.holds Tryd.pinned (.plain (OpenSpec.ofChange pathsLongestSpec)) pathsLongestCard

/-- THE TIED CARD OF 'carrefourlaw14.PathsWay'. -/
def pathsWayCard : Claim7 := { stood := { row := pathsWayRow, standIns := [], harness := (true, "b9a5129927982c16aa5937dd9e9636fa3a82c240c991b57fc646b164dab7a40c"), looks := false }, kinds := [], alts := [], laidByText := true, laidKinds := [.data], laidTests := true, laidLooks := .later }
def PathsWayCardSaid : Prop := Claim7.holds Tryd.pinned (.plain (OpenSpec.ofChange pathsWaySpec)) pathsWayCard

/-- THE TIED CARD OF 'carrefourlaw14.PathsFits'. -/
def pathsFitsCard : Claim7 := { stood := { row := pathsFitsRow, standIns := [], harness := (true, "b9a5129927982c16aa5937dd9e9636fa3a82c240c991b57fc646b164dab7a40c"), looks := false }, kinds := [], alts := [], laidByText := true, laidKinds := [.data], laidTests := true, laidLooks := .later }
def PathsFitsCardSaid : Prop := Claim7.holds Tryd.pinned (.plain (OpenSpec.ofChange pathsFitsSpec)) pathsFitsCard

/-- THE TIED CARD OF 'carrefourlaw14.PathsMore'. -/
def pathsMoreCard : Claim7 := { stood := { row := pathsMoreRow, standIns := [], harness := (true, "b9a5129927982c16aa5937dd9e9636fa3a82c240c991b57fc646b164dab7a40c"), looks := false }, kinds := [], alts := [], laidByText := true, laidKinds := [.data], laidTests := true, laidLooks := .later }
def PathsMoreCardSaid : Prop := Claim7.holds Tryd.pinned (.plain (OpenSpec.ofChange pathsMoreSpec)) pathsMoreCard

/-- THE SECOND FORM's CARD OF 'carrefourlaw14.PathsLongest'. -/
def pathsLongestUptoCard : Claim7 := { stood := { row := pathsLongestUptoRow, standIns := [], harness := (true, "b9a5129927982c16aa5937dd9e9636fa3a82c240c991b57fc646b164dab7a40c"), looks := false }, kinds := [], alts := [], laidByText := true, laidKinds := [.data], laidTests := true, laidLooks := .later }
def PathsLongestUptoCardSaid : Prop := Claim7.holds Tryd.pinned (.plain (OpenSpec.upto pathsLongestSpec)) pathsLongestUptoCard

/-- THE SECOND FORM's CARD OF 'carrefourlaw14.PathsWay'. -/
def pathsWayUptoCard : Claim7 := { stood := { row := pathsWayUptoRow, standIns := [], harness := (true, "b9a5129927982c16aa5937dd9e9636fa3a82c240c991b57fc646b164dab7a40c"), looks := false }, kinds := [], alts := [], laidByText := true, laidKinds := [.data], laidTests := true, laidLooks := .later }
def PathsWayUptoCardSaid : Prop := Claim7.holds Tryd.pinned (.plain (OpenSpec.upto pathsWaySpec)) pathsWayUptoCard

/-- THE SECOND FORM's CARD OF 'carrefourlaw14.PathsFits'. -/
def pathsFitsUptoCard : Claim7 := { stood := { row := pathsFitsUptoRow, standIns := [], harness := (true, "b9a5129927982c16aa5937dd9e9636fa3a82c240c991b57fc646b164dab7a40c"), looks := false }, kinds := [], alts := [], laidByText := true, laidKinds := [.data], laidTests := true, laidLooks := .later }
def PathsFitsUptoCardSaid : Prop := Claim7.holds Tryd.pinned (.plain (OpenSpec.upto pathsFitsSpec)) pathsFitsUptoCard

/-- THE SECOND FORM's CARD OF 'carrefourlaw14.PathsMore'. -/
def pathsMoreUptoCard : Claim7 := { stood := { row := pathsMoreUptoRow, standIns := [], harness := (true, "b9a5129927982c16aa5937dd9e9636fa3a82c240c991b57fc646b164dab7a40c"), looks := false }, kinds := [], alts := [], laidByText := true, laidKinds := [.data], laidTests := true, laidLooks := .later }
def PathsMoreUptoCardSaid : Prop := Claim7.holds Tryd.pinned (.plain (OpenSpec.upto pathsMoreSpec)) pathsMoreUptoCard
end Rows
end Go.Proofs.YtcdddmaibchjjaaDoor
