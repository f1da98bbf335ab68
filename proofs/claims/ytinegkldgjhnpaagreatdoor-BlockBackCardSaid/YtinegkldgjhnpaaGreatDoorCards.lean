/-
  DERIVED. GIVEN WITH THE SEED: THE CARDS: each row of YtinegkldgjhnpaaGreatDoorRows.lean that lists a variable, with what it lists TIED to the program's text (the seventh form; the later family's looks); each row that meets fmt, with fmt's text TOLD by the authors' own Lean function (tested against real Go, not proved from fmt's source: count such statements apart). THE CARD IS WHAT COUNTS. Prove the row's statement (the work); the ties are given (YtinegkldgjhnpaaGreatDoorTie.lean); close each card by the builder's one call (the guide's Derived/Test/ToyasCard.lean, 'card_holds'). Laid BY PROGRAM, IN A SANDBOX (cutbox-door.mjs). By AI agents, Wed Nov 11 2026. No macro, syntax, notation, axiom, sorry.
-/
import Derived.Test.YtinegkldgjhnpaaGreatDoorRows
import GoSem.ClaimSeven
namespace Go.Proofs.YtinegkldgjhnpaaGreatDoor
namespace Rows

/-- THE TIED CARD OF 'scantlinglaw14.WalkScans'. -/
def walkScansCard : Claim7 := { stood := { row := walkScansRow, standIns := [], harness := (true, "3599bd1eeff0cbeafcc89135e73eb12c344f3b8cef5b4f26ed274bcf5ec9dad5"), looks := true }, kinds := [], alts := [], laidByText := true, laidKinds := [.handle], laidTests := true, laidLooks := .later }
def WalkScansCardSaid : Prop := Claim7.holds Tryz.pinned (.plain (OpenSpec.ofChange walkScansSpec)) walkScansCard

/-- THE TIED CARD OF 'scantlinglaw14.WalkWhole'. -/
def walkWholeCard : Claim7 := { stood := { row := walkWholeRow, standIns := [], harness := (true, "3599bd1eeff0cbeafcc89135e73eb12c344f3b8cef5b4f26ed274bcf5ec9dad5"), looks := true }, kinds := [], alts := [], laidByText := true, laidKinds := [.handle], laidTests := true, laidLooks := .later }
def WalkWholeCardSaid : Prop := Claim7.holds Tryz.pinned (.plain (OpenSpec.ofChange walkWholeSpec)) walkWholeCard

/-- THE TIED CARD OF 'scantlinglaw11.BlockBack'. -/
def blockBackCard : Claim7 := { stood := { row := blockBackRow, standIns := [], harness := (true, "3599bd1eeff0cbeafcc89135e73eb12c344f3b8cef5b4f26ed274bcf5ec9dad5"), looks := true }, kinds := [], alts := [], laidByText := true, laidKinds := [.handle], laidTests := true, laidLooks := .later }
def BlockBackCardSaid : Prop := Claim7.holds Tryz.pinned (.plain (OpenSpec.ofChange blockBackSpec)) blockBackCard

/-- THE TIED CARD OF 'scantlinglaw11.BlockReads'. -/
def blockReadsCard : Claim7 := { stood := { row := blockReadsRow, standIns := [], harness := (true, "3599bd1eeff0cbeafcc89135e73eb12c344f3b8cef5b4f26ed274bcf5ec9dad5"), looks := true }, kinds := [], alts := [], laidByText := true, laidKinds := [.handle], laidTests := true, laidLooks := .later }
def BlockReadsCardSaid : Prop := Claim7.holds Tryz.pinned (.plain (OpenSpec.ofChange blockReadsSpec)) blockReadsCard

/-- THE SECOND FORM's CARD OF 'scantlinglaw14.WalkScans'. -/
def walkScansUptoCard : Claim7 := { stood := { row := walkScansUptoRow, standIns := [], harness := (true, "3599bd1eeff0cbeafcc89135e73eb12c344f3b8cef5b4f26ed274bcf5ec9dad5"), looks := true }, kinds := [], alts := [], laidByText := true, laidKinds := [.handle], laidTests := true, laidLooks := .later }
def WalkScansUptoCardSaid : Prop := Claim7.holds Tryz.pinned (.plain (OpenSpec.upto walkScansSpec)) walkScansUptoCard

/-- THE SECOND FORM's CARD OF 'scantlinglaw14.WalkWhole'. -/
def walkWholeUptoCard : Claim7 := { stood := { row := walkWholeUptoRow, standIns := [], harness := (true, "3599bd1eeff0cbeafcc89135e73eb12c344f3b8cef5b4f26ed274bcf5ec9dad5"), looks := true }, kinds := [], alts := [], laidByText := true, laidKinds := [.handle], laidTests := true, laidLooks := .later }
def WalkWholeUptoCardSaid : Prop := Claim7.holds Tryz.pinned (.plain (OpenSpec.upto walkWholeSpec)) walkWholeUptoCard

/-- THE SECOND FORM's CARD OF 'scantlinglaw11.BlockBack'. -/
def blockBackUptoCard : Claim7 := { stood := { row := blockBackUptoRow, standIns := [], harness := (true, "3599bd1eeff0cbeafcc89135e73eb12c344f3b8cef5b4f26ed274bcf5ec9dad5"), looks := true }, kinds := [], alts := [], laidByText := true, laidKinds := [.handle], laidTests := true, laidLooks := .later }
def BlockBackUptoCardSaid : Prop := Claim7.holds Tryz.pinned (.plain (OpenSpec.upto blockBackSpec)) blockBackUptoCard

/-- THE SECOND FORM's CARD OF 'scantlinglaw11.BlockReads'. -/
def blockReadsUptoCard : Claim7 := { stood := { row := blockReadsUptoRow, standIns := [], harness := (true, "3599bd1eeff0cbeafcc89135e73eb12c344f3b8cef5b4f26ed274bcf5ec9dad5"), looks := true }, kinds := [], alts := [], laidByText := true, laidKinds := [.handle], laidTests := true, laidLooks := .later }
def BlockReadsUptoCardSaid : Prop := Claim7.holds Tryz.pinned (.plain (OpenSpec.upto blockReadsSpec)) blockReadsUptoCard
end Rows
end Go.Proofs.YtinegkldgjhnpaaGreatDoor
