/-
  DERIVED. GIVEN WITH THE SEED: THE CARDS: each row of YtolblnjohaooaaaGreatDoorRows.lean that lists a variable, with what it lists TIED to the program's text (the seventh form; the later family's looks); each row that meets fmt, with fmt's text TOLD by the authors' own Lean function (tested against real Go, not proved from fmt's source: count such statements apart). THE CARD IS WHAT COUNTS. Prove the row's statement (the work); the ties are given (YtolblnjohaooaaaGreatDoorTie.lean); close each card by the builder's one call (the guide's Derived/Test/ToyasCard.lean, 'card_holds'). Laid BY PROGRAM, IN A SANDBOX (cutbox-door.mjs). By AI agents, Wed Nov 11 2026. No macro, syntax, notation, axiom, sorry.
-/
import Derived.Test.YtolblnjohaooaaaGreatDoorRows
import GoSem.ClaimSeven
namespace Go.Proofs.YtolblnjohaooaaaGreatDoor
namespace Rows

/-- THE TIED CARD OF 'scantlinglaw14.WalkScans'. -/
def walkScansCard : Claim7 := { stood := { row := walkScansRow, standIns := [], harness := (true, "f98bd13f3fbb3ae0dd6a131bfe607945f2d6187127f2029a11d4062c9399d1c9"), looks := true }, kinds := [], alts := [], laidByText := true, laidKinds := [.handle], laidTests := true, laidLooks := .later }
def WalkScansCardSaid : Prop := Claim7.holds Tryz.pinned (.plain (OpenSpec.ofChange walkScansSpec)) walkScansCard

/-- THE TIED CARD OF 'scantlinglaw14.WalkLoops'. -/
def walkLoopsCard : Claim7 := { stood := { row := walkLoopsRow, standIns := [], harness := (true, "f98bd13f3fbb3ae0dd6a131bfe607945f2d6187127f2029a11d4062c9399d1c9"), looks := true }, kinds := [], alts := [], laidByText := true, laidKinds := [.handle], laidTests := true, laidLooks := .later }
def WalkLoopsCardSaid : Prop := Claim7.holds Tryz.pinned (.plain (OpenSpec.ofChange walkLoopsSpec)) walkLoopsCard

/-- THE TIED CARD OF 'scantlinglaw14.WalkWhole'. -/
def walkWholeCard : Claim7 := { stood := { row := walkWholeRow, standIns := [], harness := (true, "f98bd13f3fbb3ae0dd6a131bfe607945f2d6187127f2029a11d4062c9399d1c9"), looks := true }, kinds := [], alts := [], laidByText := true, laidKinds := [.handle], laidTests := true, laidLooks := .later }
def WalkWholeCardSaid : Prop := Claim7.holds Tryz.pinned (.plain (OpenSpec.ofChange walkWholeSpec)) walkWholeCard

/-- THE SECOND FORM's CARD OF 'scantlinglaw14.WalkScans'. -/
def walkScansUptoCard : Claim7 := { stood := { row := walkScansUptoRow, standIns := [], harness := (true, "f98bd13f3fbb3ae0dd6a131bfe607945f2d6187127f2029a11d4062c9399d1c9"), looks := true }, kinds := [], alts := [], laidByText := true, laidKinds := [.handle], laidTests := true, laidLooks := .later }
def WalkScansUptoCardSaid : Prop := Claim7.holds Tryz.pinned (.plain (OpenSpec.upto walkScansSpec)) walkScansUptoCard

/-- THE SECOND FORM's CARD OF 'scantlinglaw14.WalkLoops'. -/
def walkLoopsUptoCard : Claim7 := { stood := { row := walkLoopsUptoRow, standIns := [], harness := (true, "f98bd13f3fbb3ae0dd6a131bfe607945f2d6187127f2029a11d4062c9399d1c9"), looks := true }, kinds := [], alts := [], laidByText := true, laidKinds := [.handle], laidTests := true, laidLooks := .later }
def WalkLoopsUptoCardSaid : Prop := Claim7.holds Tryz.pinned (.plain (OpenSpec.upto walkLoopsSpec)) walkLoopsUptoCard

/-- THE SECOND FORM's CARD OF 'scantlinglaw14.WalkWhole'. -/
def walkWholeUptoCard : Claim7 := { stood := { row := walkWholeUptoRow, standIns := [], harness := (true, "f98bd13f3fbb3ae0dd6a131bfe607945f2d6187127f2029a11d4062c9399d1c9"), looks := true }, kinds := [], alts := [], laidByText := true, laidKinds := [.handle], laidTests := true, laidLooks := .later }
def WalkWholeUptoCardSaid : Prop := Claim7.holds Tryz.pinned (.plain (OpenSpec.upto walkWholeSpec)) walkWholeUptoCard
end Rows
end Go.Proofs.YtolblnjohaooaaaGreatDoor
