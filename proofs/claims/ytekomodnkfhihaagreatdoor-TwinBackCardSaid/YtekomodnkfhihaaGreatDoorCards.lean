/-
  DERIVED. GIVEN WITH THE SEED: THE CARDS: each row of YtekomodnkfhihaaGreatDoorRows.lean that lists a variable, with what it lists TIED to the program's text (the seventh form; the later family's looks); each row that meets fmt, with fmt's text TOLD by the authors' own Lean function (tested against real Go, not proved from fmt's source: count such statements apart). THE CARD IS WHAT COUNTS. Prove the row's statement (the work); the ties are given (YtekomodnkfhihaaGreatDoorTie.lean); close each card by the builder's one call (the guide's Derived/Test/ToyasCard.lean, 'card_holds'). Laid BY PROGRAM, IN A SANDBOX (cutbox-door.mjs). By AI agents, Wed Nov 11 2026. No macro, syntax, notation, axiom, sorry.
-/
import Derived.Test.YtekomodnkfhihaaGreatDoorRows
import GoSem.ClaimSeven
namespace Go.Proofs.YtekomodnkfhihaaGreatDoor
namespace Rows

/-- THE TIED CARD OF 'scantlinglaw27.TwinLess'. -/
def twinLessCard : Claim7 := { stood := { row := twinLessRow, standIns := [], harness := (true, "972e4639d61dd0c0be85ea5c044c845ea898ccd6384e6443b2496268dd97aba0"), looks := true }, kinds := [], alts := [], laidByText := true, laidKinds := [.data, .data, .data], laidTests := true, laidLooks := .later }
def TwinLessCardSaid : Prop := Claim7.holds Tryz.pinned (.plain (OpenSpec.ofChange twinLessSpec)) twinLessCard

/-- THE TIED CARD OF 'scantlinglaw27.TwinMakes'. -/
def twinMakesCard : Claim7 := { stood := { row := twinMakesRow, standIns := [], harness := (true, "972e4639d61dd0c0be85ea5c044c845ea898ccd6384e6443b2496268dd97aba0"), looks := true }, kinds := [], alts := [], laidByText := true, laidKinds := [.data, .data, .data, .handle], laidTests := true, laidLooks := .later }
def TwinMakesCardSaid : Prop := Claim7.holds Tryz.pinned (.plain (OpenSpec.ofChange twinMakesSpec)) twinMakesCard

/-- THE TIED CARD OF 'scantlinglaw27.TwinBack'. -/
def twinBackCard : Claim7 := { stood := { row := twinBackRow, standIns := [], harness := (true, "972e4639d61dd0c0be85ea5c044c845ea898ccd6384e6443b2496268dd97aba0"), looks := true }, kinds := [], alts := [], laidByText := true, laidKinds := [.data, .data, .data, .handle], laidTests := true, laidLooks := .later }
def TwinBackCardSaid : Prop := Claim7.holds Tryz.pinned (.plain (OpenSpec.ofChange twinBackSpec)) twinBackCard

/-- THE SECOND FORM's CARD OF 'scantlinglaw27.TwinLess'. -/
def twinLessUptoCard : Claim7 := { stood := { row := twinLessUptoRow, standIns := [], harness := (true, "972e4639d61dd0c0be85ea5c044c845ea898ccd6384e6443b2496268dd97aba0"), looks := true }, kinds := [], alts := [], laidByText := true, laidKinds := [.data, .data, .data], laidTests := true, laidLooks := .later }
def TwinLessUptoCardSaid : Prop := Claim7.holds Tryz.pinned (.plain (OpenSpec.upto twinLessSpec)) twinLessUptoCard

/-- THE SECOND FORM's CARD OF 'scantlinglaw27.TwinMakes'. -/
def twinMakesUptoCard : Claim7 := { stood := { row := twinMakesUptoRow, standIns := [], harness := (true, "972e4639d61dd0c0be85ea5c044c845ea898ccd6384e6443b2496268dd97aba0"), looks := true }, kinds := [], alts := [], laidByText := true, laidKinds := [.data, .data, .data, .handle], laidTests := true, laidLooks := .later }
def TwinMakesUptoCardSaid : Prop := Claim7.holds Tryz.pinned (.plain (OpenSpec.upto twinMakesSpec)) twinMakesUptoCard

/-- THE SECOND FORM's CARD OF 'scantlinglaw27.TwinBack'. -/
def twinBackUptoCard : Claim7 := { stood := { row := twinBackUptoRow, standIns := [], harness := (true, "972e4639d61dd0c0be85ea5c044c845ea898ccd6384e6443b2496268dd97aba0"), looks := true }, kinds := [], alts := [], laidByText := true, laidKinds := [.data, .data, .data, .handle], laidTests := true, laidLooks := .later }
def TwinBackUptoCardSaid : Prop := Claim7.holds Tryz.pinned (.plain (OpenSpec.upto twinBackSpec)) twinBackUptoCard
end Rows
end Go.Proofs.YtekomodnkfhihaaGreatDoor
