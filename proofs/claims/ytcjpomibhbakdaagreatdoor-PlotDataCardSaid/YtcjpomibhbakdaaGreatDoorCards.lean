/-
  DERIVED. GIVEN WITH THE SEED: THE CARDS: each row of YtcjpomibhbakdaaGreatDoorRows.lean that lists a variable, with what it lists TIED to the program's text (the seventh form; the later family's looks); each row that meets fmt, with fmt's text TOLD by the authors' own Lean function (tested against real Go, not proved from fmt's source: count such statements apart). THE CARD IS WHAT COUNTS. Prove the row's statement (the work); the ties are given (YtcjpomibhbakdaaGreatDoorTie.lean); close each card by the builder's one call (the guide's Derived/Test/ToyasCard.lean, 'card_holds'). Laid BY PROGRAM, IN A SANDBOX (cutbox-door.mjs). By AI agents, Wed Nov 11 2026. No macro, syntax, notation, axiom, sorry.
-/
import Derived.Test.YtcjpomibhbakdaaGreatDoorRows
import GoSem.ClaimSeven
namespace Go.Proofs.YtcjpomibhbakdaaGreatDoor
namespace Rows

/-- THE TIED CARD OF 'scantlinglaw22.PlotData'. -/
def plotDataCard : Claim7 := { stood := { row := plotDataRow, standIns := [], harness := (true, "09a2b28dfb6d2bfbecda1aa1390386d15fc387fed7bbbb6bfa853578eebed713"), looks := true }, kinds := [], alts := [], laidByText := true, laidKinds := [.handle], laidTests := true, laidLooks := .later }
def PlotDataCardSaid : Prop := Claim7.holds Tryz.pinned (.plain (OpenSpec.ofChange plotDataSpec)) plotDataCard

/-- THE TIED CARD OF 'scantlinglaw22.PlotMeta'. -/
def plotMetaCard : Claim7 := { stood := { row := plotMetaRow, standIns := [], harness := (true, "09a2b28dfb6d2bfbecda1aa1390386d15fc387fed7bbbb6bfa853578eebed713"), looks := true }, kinds := [], alts := [], laidByText := true, laidKinds := [.handle], laidTests := true, laidLooks := .later }
def PlotMetaCardSaid : Prop := Claim7.holds Tryz.pinned (.plain (OpenSpec.ofChange plotMetaSpec)) plotMetaCard

/-- THE SECOND FORM's CARD OF 'scantlinglaw22.PlotData'. -/
def plotDataUptoCard : Claim7 := { stood := { row := plotDataUptoRow, standIns := [], harness := (true, "09a2b28dfb6d2bfbecda1aa1390386d15fc387fed7bbbb6bfa853578eebed713"), looks := true }, kinds := [], alts := [], laidByText := true, laidKinds := [.handle], laidTests := true, laidLooks := .later }
def PlotDataUptoCardSaid : Prop := Claim7.holds Tryz.pinned (.plain (OpenSpec.upto plotDataSpec)) plotDataUptoCard

/-- THE SECOND FORM's CARD OF 'scantlinglaw22.PlotMeta'. -/
def plotMetaUptoCard : Claim7 := { stood := { row := plotMetaUptoRow, standIns := [], harness := (true, "09a2b28dfb6d2bfbecda1aa1390386d15fc387fed7bbbb6bfa853578eebed713"), looks := true }, kinds := [], alts := [], laidByText := true, laidKinds := [.handle], laidTests := true, laidLooks := .later }
def PlotMetaUptoCardSaid : Prop := Claim7.holds Tryz.pinned (.plain (OpenSpec.upto plotMetaSpec)) plotMetaUptoCard
end Rows
end Go.Proofs.YtcjpomibhbakdaaGreatDoor
