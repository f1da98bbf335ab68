/-
  DERIVED. GIVEN WITH THE SEED: THE CARDS: each row of YtcmbnkfkbdccoaaDoorRows.lean that lists a variable, with what it lists TIED to the program's text (the seventh form; the later family's looks); each row that meets fmt, with fmt's text TOLD by the authors' own Lean function (tested against real Go, not proved from fmt's source: count such statements apart). THE CARD IS WHAT COUNTS. Prove the row's statement (the work); the ties are given (YtcmbnkfkbdccoaaDoorTie.lean); close each card by the builder's one call (the guide's Derived/Test/ToyasCard.lean, 'card_holds'). Laid BY PROGRAM, IN A SANDBOX (cutbox-door.mjs). By AI agents, Wed Nov 11 2026. No macro, syntax, notation, axiom, sorry.
-/
import Derived.Test.YtcmbnkfkbdccoaaDoorRows
import GoSem.ClaimSeven
namespace Go.Proofs.YtcmbnkfkbdccoaaDoor
namespace Rows

/-- THE TIED CARD OF 'scantlinglaw16.AllocNobody'. -/
def allocNobodyCard : Claim7 := { stood := { row := allocNobodyRow, standIns := [], harness := (true, "f2b3bf739f39a31a2e38d4b487882cc61104b7c3907dd7c991e149df597a438e"), looks := true }, kinds := [], alts := [], laidByText := true, laidKinds := [.handle], laidTests := true, laidLooks := .later }
def AllocNobodyCardSaid : Prop := Claim7.holds Tryd.pinned (.plain (OpenSpec.ofChange allocNobodySpec)) allocNobodyCard

/-- THE SECOND FORM's CARD OF 'scantlinglaw16.AllocNobody'. -/
def allocNobodyUptoCard : Claim7 := { stood := { row := allocNobodyUptoRow, standIns := [], harness := (true, "f2b3bf739f39a31a2e38d4b487882cc61104b7c3907dd7c991e149df597a438e"), looks := true }, kinds := [], alts := [], laidByText := true, laidKinds := [.handle], laidTests := true, laidLooks := .later }
def AllocNobodyUptoCardSaid : Prop := Claim7.holds Tryd.pinned (.plain (OpenSpec.upto allocNobodySpec)) allocNobodyUptoCard
end Rows
end Go.Proofs.YtcmbnkfkbdccoaaDoor
