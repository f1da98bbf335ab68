/-
  DERIVED. GIVEN WITH THE SEED: THE CARDS: each row of YtbhjgcokpmiopaaGreatDoorRows.lean that lists a variable, with what it lists TIED to the program's text (the seventh form; the later family's looks); each row that meets fmt, with fmt's text TOLD by the authors' own Lean function (tested against real Go, not proved from fmt's source: count such statements apart). THE CARD IS WHAT COUNTS. Prove the row's statement (the work); the ties are given (YtbhjgcokpmiopaaGreatDoorTie.lean); close each card by the builder's one call (the guide's Derived/Test/ToyasCard.lean, 'card_holds'). Laid BY PROGRAM, IN A SANDBOX (cutbox-door.mjs). By AI agents, Wed Nov 11 2026. No macro, syntax, notation, axiom, sorry.
-/
import Derived.Test.YtbhjgcokpmiopaaGreatDoorRows
import GoSem.ClaimSeven
namespace Go.Proofs.YtbhjgcokpmiopaaGreatDoor
namespace Rows

/-- THE TIED CARD OF 'scantlinglaw22.PlotMeta'. -/
def plotMetaCard : Claim7 := { stood := { row := plotMetaRow, standIns := [], harness := (true, "9c8ae2f3417e14f903f4cd8d9a12266117854a2e3455f9bc28e4a18023c39f27"), looks := true }, kinds := [], alts := [], laidByText := true, laidKinds := [.handle], laidTests := true, laidLooks := .later }
def PlotMetaCardSaid : Prop := Claim7.holds Tryz.pinned (.plain (OpenSpec.ofChange plotMetaSpec)) plotMetaCard

/-- THE SECOND FORM's CARD OF 'scantlinglaw22.PlotMeta'. -/
def plotMetaUptoCard : Claim7 := { stood := { row := plotMetaUptoRow, standIns := [], harness := (true, "9c8ae2f3417e14f903f4cd8d9a12266117854a2e3455f9bc28e4a18023c39f27"), looks := true }, kinds := [], alts := [], laidByText := true, laidKinds := [.handle], laidTests := true, laidLooks := .later }
def PlotMetaUptoCardSaid : Prop := Claim7.holds Tryz.pinned (.plain (OpenSpec.upto plotMetaSpec)) plotMetaUptoCard
end Rows
end Go.Proofs.YtbhjgcokpmiopaaGreatDoor
