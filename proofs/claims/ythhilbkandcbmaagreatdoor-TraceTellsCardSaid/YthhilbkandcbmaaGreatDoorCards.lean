/-
  DERIVED. GIVEN WITH THE SEED: THE CARDS: each row of YthhilbkandcbmaaGreatDoorRows.lean that lists a variable, with what it lists TIED to the program's text (the seventh form; the later family's looks); each row that meets fmt, with fmt's text TOLD by the authors' own Lean function (tested against real Go, not proved from fmt's source: count such statements apart). THE CARD IS WHAT COUNTS. Prove the row's statement (the work); the ties are given (YthhilbkandcbmaaGreatDoorTie.lean); close each card by the builder's one call (the guide's Derived/Test/ToyasCard.lean, 'card_holds'). Laid BY PROGRAM, IN A SANDBOX (cutbox-door.mjs). By AI agents, Wed Nov 11 2026. No macro, syntax, notation, axiom, sorry.
-/
import Derived.Test.YthhilbkandcbmaaGreatDoorRows
import GoSem.ClaimSeven
namespace Go.Proofs.YthhilbkandcbmaaGreatDoor
namespace Rows

/-- THE TIED CARD OF 'scantlinglaw46.TraceTells'. -/
def traceTellsCard : Claim7 := { stood := { row := traceTellsRow, standIns := [], harness := (true, "d2ec38da1ff577a1591801487d7f8fd7eb4dd9b347a4113fd3bc311eecbd28d7"), looks := true }, kinds := [], alts := [], laidByText := true, laidKinds := [.handle], laidTests := true, laidLooks := .later }
def TraceTellsCardSaid : Prop := Claim7.holds Tryz.pinned (.plain (OpenSpec.ofChange traceTellsSpec)) traceTellsCard

/-- THE SECOND FORM's CARD OF 'scantlinglaw46.TraceTells'. -/
def traceTellsUptoCard : Claim7 := { stood := { row := traceTellsUptoRow, standIns := [], harness := (true, "d2ec38da1ff577a1591801487d7f8fd7eb4dd9b347a4113fd3bc311eecbd28d7"), looks := true }, kinds := [], alts := [], laidByText := true, laidKinds := [.handle], laidTests := true, laidLooks := .later }
def TraceTellsUptoCardSaid : Prop := Claim7.holds Tryz.pinned (.plain (OpenSpec.upto traceTellsSpec)) traceTellsUptoCard
end Rows
end Go.Proofs.YthhilbkandcbmaaGreatDoor
