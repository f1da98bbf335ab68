/-
  DERIVED. GIVEN WITH THE SEED: THE CARDS: each row of YtegcamkgeacjfaaGreatDoorRows.lean that lists a variable, with what it lists TIED to the program's text (the seventh form; the later family's looks); each row that meets fmt, with fmt's text TOLD by the authors' own Lean function (tested against real Go, not proved from fmt's source: count such statements apart). THE CARD IS WHAT COUNTS. Prove the row's statement (the work); the ties are given (YtegcamkgeacjfaaGreatDoorTie.lean); close each card by the builder's one call (the guide's Derived/Test/ToyasCard.lean, 'card_holds'). Laid BY PROGRAM, IN A SANDBOX (cutbox-door.mjs). By AI agents, Wed Nov 11 2026. No macro, syntax, notation, axiom, sorry.
-/
import Derived.Test.YtegcamkgeacjfaaGreatDoorRows
import GoSem.ClaimSeven
namespace Go.Proofs.YtegcamkgeacjfaaGreatDoor
namespace Rows

/-- THE TIED CARD OF 'scantlinglaw26.LayMakes'. -/
def layMakesCard : Claim7 := { stood := { row := layMakesRow, standIns := [], harness := (true, "978857c53090d02c73258ebd4079aecf13562669d57af92a592db471f3c1016a"), looks := true }, kinds := [], alts := [], laidByText := true, laidKinds := [.handle], laidTests := true, laidLooks := .later }
def LayMakesCardSaid : Prop := Claim7.holds Tryz.pinned (.plain (OpenSpec.ofChange layMakesSpec)) layMakesCard

/-- THE TIED CARD OF 'scantlinglaw28.AuditPool'. -/
def auditPoolCard : Claim7 := { stood := { row := auditPoolRow, standIns := [], harness := (true, "978857c53090d02c73258ebd4079aecf13562669d57af92a592db471f3c1016a"), looks := true }, kinds := [], alts := [], laidByText := true, laidKinds := [.handle], laidTests := true, laidLooks := .later }
def AuditPoolCardSaid : Prop := Claim7.holds Tryz.pinned (.plain (OpenSpec.ofChange auditPoolSpec)) auditPoolCard

/-- THE TIED CARD OF 'scantlinglaw28.AuditAgrees'. -/
def auditAgreesCard : Claim7 := { stood := { row := auditAgreesRow, standIns := [], harness := (true, "978857c53090d02c73258ebd4079aecf13562669d57af92a592db471f3c1016a"), looks := true }, kinds := [], alts := [], laidByText := true, laidKinds := [.handle], laidTests := true, laidLooks := .later }
def AuditAgreesCardSaid : Prop := Claim7.holds Tryz.pinned (.plain (OpenSpec.ofChange auditAgreesSpec)) auditAgreesCard

/-- THE SECOND FORM's CARD OF 'scantlinglaw26.LayMakes'. -/
def layMakesUptoCard : Claim7 := { stood := { row := layMakesUptoRow, standIns := [], harness := (true, "978857c53090d02c73258ebd4079aecf13562669d57af92a592db471f3c1016a"), looks := true }, kinds := [], alts := [], laidByText := true, laidKinds := [.handle], laidTests := true, laidLooks := .later }
def LayMakesUptoCardSaid : Prop := Claim7.holds Tryz.pinned (.plain (OpenSpec.upto layMakesSpec)) layMakesUptoCard

/-- THE SECOND FORM's CARD OF 'scantlinglaw28.AuditPool'. -/
def auditPoolUptoCard : Claim7 := { stood := { row := auditPoolUptoRow, standIns := [], harness := (true, "978857c53090d02c73258ebd4079aecf13562669d57af92a592db471f3c1016a"), looks := true }, kinds := [], alts := [], laidByText := true, laidKinds := [.handle], laidTests := true, laidLooks := .later }
def AuditPoolUptoCardSaid : Prop := Claim7.holds Tryz.pinned (.plain (OpenSpec.upto auditPoolSpec)) auditPoolUptoCard

/-- THE SECOND FORM's CARD OF 'scantlinglaw28.AuditAgrees'. -/
def auditAgreesUptoCard : Claim7 := { stood := { row := auditAgreesUptoRow, standIns := [], harness := (true, "978857c53090d02c73258ebd4079aecf13562669d57af92a592db471f3c1016a"), looks := true }, kinds := [], alts := [], laidByText := true, laidKinds := [.handle], laidTests := true, laidLooks := .later }
def AuditAgreesUptoCardSaid : Prop := Claim7.holds Tryz.pinned (.plain (OpenSpec.upto auditAgreesSpec)) auditAgreesUptoCard
end Rows
end Go.Proofs.YtegcamkgeacjfaaGreatDoor
