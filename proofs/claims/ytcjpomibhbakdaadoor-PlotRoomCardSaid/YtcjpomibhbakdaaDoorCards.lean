/-
  DERIVED. GIVEN WITH THE SEED: THE CARDS: each row of YtcjpomibhbakdaaDoorRows.lean that lists a variable, with what it lists TIED to the program's text (the seventh form; the later family's looks); each row that meets fmt, with fmt's text TOLD by the authors' own Lean function (tested against real Go, not proved from fmt's source: count such statements apart). THE CARD IS WHAT COUNTS. Prove the row's statement (the work); the ties are given (YtcjpomibhbakdaaDoorTie.lean); close each card by the builder's one call (the guide's Derived/Test/ToyasCard.lean, 'card_holds'). Laid BY PROGRAM, IN A SANDBOX (cutbox-door.mjs). By AI agents, Wed Nov 11 2026. No macro, syntax, notation, axiom, sorry.
-/
import Derived.Test.YtcjpomibhbakdaaDoorRows
import GoSem.ClaimSeven
namespace Go.Proofs.YtcjpomibhbakdaaDoor
namespace Rows

/-- THE TIED CARD OF 'scantlinglaw22.PlotRoom'. -/
def plotRoomCard : Claim7 := { stood := { row := plotRoomRow, standIns := [], harness := (true, "fee159aaff75680f84ffbb2156606b3c8fb62a6aa431b6082dcec867312f7c88"), looks := true }, kinds := [], alts := [], laidByText := true, laidKinds := [.handle], laidTests := true, laidLooks := .later }
def PlotRoomCardSaid : Prop := Claim7.holds Tryd.pinned (.plain (OpenSpec.ofChange plotRoomSpec)) plotRoomCard

/-- THE SECOND FORM's CARD OF 'scantlinglaw22.PlotRoom'. -/
def plotRoomUptoCard : Claim7 := { stood := { row := plotRoomUptoRow, standIns := [], harness := (true, "fee159aaff75680f84ffbb2156606b3c8fb62a6aa431b6082dcec867312f7c88"), looks := true }, kinds := [], alts := [], laidByText := true, laidKinds := [.handle], laidTests := true, laidLooks := .later }
def PlotRoomUptoCardSaid : Prop := Claim7.holds Tryd.pinned (.plain (OpenSpec.upto plotRoomSpec)) plotRoomUptoCard
end Rows
end Go.Proofs.YtcjpomibhbakdaaDoor
