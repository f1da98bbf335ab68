/-
  DERIVED. GIVEN WITH THE SEED: THE CARDS: each row of YtoiblgeheblddaaGreatDoorRows.lean that lists a variable, with what it lists TIED to the program's text (the seventh form; the later family's looks); each row that meets fmt, with fmt's text TOLD by the authors' own Lean function (tested against real Go, not proved from fmt's source: count such statements apart). THE CARD IS WHAT COUNTS. Prove the row's statement (the work); the ties are given (YtoiblgeheblddaaGreatDoorTie.lean); close each card by the builder's one call (the guide's Derived/Test/ToyasCard.lean, 'card_holds'). Laid BY PROGRAM, IN A SANDBOX (cutbox-door.mjs). By AI agents, Wed Nov 11 2026. No macro, syntax, notation, axiom, sorry.
-/
import Derived.Test.YtoiblgeheblddaaGreatDoorRows
import GoSem.ClaimSeven
namespace Go.Proofs.YtoiblgeheblddaaGreatDoor
namespace Rows

/-- THE TIED CARD OF 'scantlinglaw11.BlockNobody'. -/
def blockNobodyCard : Claim7 := { stood := { row := blockNobodyRow, standIns := [], harness := (true, "7a4532a085e8ca815c7cba5c62085e0e24c92cd2f860d699f8f5a80ce84f6e26"), looks := true }, kinds := [], alts := [], laidByText := true, laidKinds := [.handle], laidTests := true, laidLooks := .later }
def BlockNobodyCardSaid : Prop := Claim7.holds Tryz.pinned (.plain (OpenSpec.ofChange blockNobodySpec)) blockNobodyCard

/-- THE SECOND FORM's CARD OF 'scantlinglaw11.BlockNobody'. -/
def blockNobodyUptoCard : Claim7 := { stood := { row := blockNobodyUptoRow, standIns := [], harness := (true, "7a4532a085e8ca815c7cba5c62085e0e24c92cd2f860d699f8f5a80ce84f6e26"), looks := true }, kinds := [], alts := [], laidByText := true, laidKinds := [.handle], laidTests := true, laidLooks := .later }
def BlockNobodyUptoCardSaid : Prop := Claim7.holds Tryz.pinned (.plain (OpenSpec.upto blockNobodySpec)) blockNobodyUptoCard
end Rows
end Go.Proofs.YtoiblgeheblddaaGreatDoor
