/-
  DERIVED. GIVEN WITH THE SEED: THE CARDS: each row of YtbopakjiahojdaaGreatDoorRows.lean that lists a variable, with what it lists TIED to the program's text (the seventh form; the later family's looks); each row that meets fmt, with fmt's text TOLD by the authors' own Lean function (tested against real Go, not proved from fmt's source: count such statements apart). THE CARD IS WHAT COUNTS. Prove the row's statement (the work); the ties are given (YtbopakjiahojdaaGreatDoorTie.lean); close each card by the builder's one call (the guide's Derived/Test/ToyasCard.lean, 'card_holds'). Laid BY PROGRAM, IN A SANDBOX (cutbox-door.mjs). By AI agents, Wed Nov 11 2026. No macro, syntax, notation, axiom, sorry.
-/
import Derived.Test.YtbopakjiahojdaaGreatDoorRows
import GoSem.ClaimSeven
namespace Go.Proofs.YtbopakjiahojdaaGreatDoor
namespace Rows

/-- THE TIED CARD OF 'scantlinglaw17.BuildMakes'. -/
def buildMakesCard : Claim7 := { stood := { row := buildMakesRow, standIns := [], harness := (true, "d41bc9d7391a932270f1e3cb127097fbf02a3e92e10104b4070ede3fc0bdc623"), looks := true }, kinds := [], alts := [], laidByText := true, laidKinds := [.handle], laidTests := true, laidLooks := .later }
def BuildMakesCardSaid : Prop := Claim7.holds Tryz.pinned (.plain (OpenSpec.ofChange buildMakesSpec)) buildMakesCard

/-- THE TIED CARD OF 'scantlinglaw16.AllocPlays'. -/
def allocPlaysCard : Claim7 := { stood := { row := allocPlaysRow, standIns := [], harness := (true, "d41bc9d7391a932270f1e3cb127097fbf02a3e92e10104b4070ede3fc0bdc623"), looks := true }, kinds := [], alts := [], laidByText := true, laidKinds := [.handle], laidTests := true, laidLooks := .later }
def AllocPlaysCardSaid : Prop := Claim7.holds Tryz.pinned (.plain (OpenSpec.ofChange allocPlaysSpec)) allocPlaysCard

/-- THE TIED CARD OF 'scantlinglaw11.BlockWrites'. -/
def blockWritesCard : Claim7 := { stood := { row := blockWritesRow, standIns := [], harness := (true, "d41bc9d7391a932270f1e3cb127097fbf02a3e92e10104b4070ede3fc0bdc623"), looks := true }, kinds := [], alts := [], laidByText := true, laidKinds := [.handle], laidTests := true, laidLooks := .later }
def BlockWritesCardSaid : Prop := Claim7.holds Tryz.pinned (.plain (OpenSpec.ofChange blockWritesSpec)) blockWritesCard

/-- THE SECOND FORM's CARD OF 'scantlinglaw17.BuildMakes'. -/
def buildMakesUptoCard : Claim7 := { stood := { row := buildMakesUptoRow, standIns := [], harness := (true, "d41bc9d7391a932270f1e3cb127097fbf02a3e92e10104b4070ede3fc0bdc623"), looks := true }, kinds := [], alts := [], laidByText := true, laidKinds := [.handle], laidTests := true, laidLooks := .later }
def BuildMakesUptoCardSaid : Prop := Claim7.holds Tryz.pinned (.plain (OpenSpec.upto buildMakesSpec)) buildMakesUptoCard

/-- THE SECOND FORM's CARD OF 'scantlinglaw16.AllocPlays'. -/
def allocPlaysUptoCard : Claim7 := { stood := { row := allocPlaysUptoRow, standIns := [], harness := (true, "d41bc9d7391a932270f1e3cb127097fbf02a3e92e10104b4070ede3fc0bdc623"), looks := true }, kinds := [], alts := [], laidByText := true, laidKinds := [.handle], laidTests := true, laidLooks := .later }
def AllocPlaysUptoCardSaid : Prop := Claim7.holds Tryz.pinned (.plain (OpenSpec.upto allocPlaysSpec)) allocPlaysUptoCard

/-- THE SECOND FORM's CARD OF 'scantlinglaw11.BlockWrites'. -/
def blockWritesUptoCard : Claim7 := { stood := { row := blockWritesUptoRow, standIns := [], harness := (true, "d41bc9d7391a932270f1e3cb127097fbf02a3e92e10104b4070ede3fc0bdc623"), looks := true }, kinds := [], alts := [], laidByText := true, laidKinds := [.handle], laidTests := true, laidLooks := .later }
def BlockWritesUptoCardSaid : Prop := Claim7.holds Tryz.pinned (.plain (OpenSpec.upto blockWritesSpec)) blockWritesUptoCard
end Rows
end Go.Proofs.YtbopakjiahojdaaGreatDoor
