/-
  DERIVED. GIVEN WITH THE SEED: THE CARDS: each row of YtceeiinepijokaaGreatDoorRows.lean that lists a variable, with what it lists TIED to the program's text (the seventh form; the later family's looks); each row that meets fmt, with fmt's text TOLD by the authors' own Lean function (tested against real Go, not proved from fmt's source: count such statements apart). THE CARD IS WHAT COUNTS. Prove the row's statement (the work); the ties are given (YtceeiinepijokaaGreatDoorTie.lean); close each card by the builder's one call (the guide's Derived/Test/ToyasCard.lean, 'card_holds'). Laid BY PROGRAM, IN A SANDBOX (cutbox-door.mjs). By AI agents, Wed Nov 11 2026. No macro, syntax, notation, axiom, sorry.
-/
import Derived.Test.YtceeiinepijokaaGreatDoorRows
import GoSem.ClaimSeven
namespace Go.Proofs.YtceeiinepijokaaGreatDoor
namespace Rows

/-- THE TIED CARD OF 'scantlinglaw47.LinkTells'. -/
def linkTellsCard : Claim7 := { stood := { row := linkTellsRow, standIns := [], harness := (true, "8a1f81e1e750dcfad0fdcfb36f9a88caa9d6452a0515ecf60059646be641cae0"), looks := true }, kinds := [], alts := [], laidByText := true, laidKinds := [.handle], laidTests := true, laidLooks := .later }
def LinkTellsCardSaid : Prop := Claim7.holds Tryz.pinned (.plain (OpenSpec.ofChange linkTellsSpec)) linkTellsCard

/-- THE TIED CARD OF 'scantlinglaw26.LayBack'. -/
def layBackCard : Claim7 := { stood := { row := layBackRow, standIns := [], harness := (true, "8a1f81e1e750dcfad0fdcfb36f9a88caa9d6452a0515ecf60059646be641cae0"), looks := true }, kinds := [], alts := [], laidByText := true, laidKinds := [.handle], laidTests := true, laidLooks := .later }
def LayBackCardSaid : Prop := Claim7.holds Tryz.pinned (.plain (OpenSpec.ofChange layBackSpec)) layBackCard

/-- THE SECOND FORM's CARD OF 'scantlinglaw47.LinkTells'. -/
def linkTellsUptoCard : Claim7 := { stood := { row := linkTellsUptoRow, standIns := [], harness := (true, "8a1f81e1e750dcfad0fdcfb36f9a88caa9d6452a0515ecf60059646be641cae0"), looks := true }, kinds := [], alts := [], laidByText := true, laidKinds := [.handle], laidTests := true, laidLooks := .later }
def LinkTellsUptoCardSaid : Prop := Claim7.holds Tryz.pinned (.plain (OpenSpec.upto linkTellsSpec)) linkTellsUptoCard

/-- THE SECOND FORM's CARD OF 'scantlinglaw26.LayBack'. -/
def layBackUptoCard : Claim7 := { stood := { row := layBackUptoRow, standIns := [], harness := (true, "8a1f81e1e750dcfad0fdcfb36f9a88caa9d6452a0515ecf60059646be641cae0"), looks := true }, kinds := [], alts := [], laidByText := true, laidKinds := [.handle], laidTests := true, laidLooks := .later }
def LayBackUptoCardSaid : Prop := Claim7.holds Tryz.pinned (.plain (OpenSpec.upto layBackSpec)) layBackUptoCard
end Rows
end Go.Proofs.YtceeiinepijokaaGreatDoor
