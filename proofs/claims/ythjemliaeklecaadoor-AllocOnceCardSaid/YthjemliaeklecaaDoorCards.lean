/-
  DERIVED. GIVEN WITH THE SEED: THE CARDS: each row of YthjemliaeklecaaDoorRows.lean that lists a variable, with what it lists TIED to the program's text (the seventh form; the later family's looks); each row that meets fmt, with fmt's text TOLD by the authors' own Lean function (tested against real Go, not proved from fmt's source: count such statements apart). THE CARD IS WHAT COUNTS. Prove the row's statement (the work); the ties are given (YthjemliaeklecaaDoorTie.lean); close each card by the builder's one call (the guide's Derived/Test/ToyasCard.lean, 'card_holds'). Laid BY PROGRAM, IN A SANDBOX (cutbox-door.mjs). By AI agents, Wed Nov 11 2026. No macro, syntax, notation, axiom, sorry.
-/
import Derived.Test.YthjemliaeklecaaDoorRows
import GoSem.ClaimSeven
namespace Go.Proofs.YthjemliaeklecaaDoor
namespace Rows

/-- THE TIED CARD OF 'scantlinglaw05.FaultWraps'. -/
def faultWrapsCard : Claim7 := { stood := { row := faultWrapsRow, standIns := [], harness := (true, "8586fba26a573c7a020e538cdd0d3237df6ab921d0b540dcac7d748fbe50272b"), looks := true }, kinds := [], alts := [], laidByText := true, laidKinds := [.handle], laidTests := true, laidLooks := .later }
def FaultWrapsCardSaid : Prop := Claim7.holds Tryd.pinned (.plain (OpenSpec.ofChange faultWrapsSpec)) faultWrapsCard

/-- THE TIED CARD OF 'scantlinglaw05.FaultFirst'. -/
def faultFirstCard : Claim7 := { stood := { row := faultFirstRow, standIns := [], harness := (true, "8586fba26a573c7a020e538cdd0d3237df6ab921d0b540dcac7d748fbe50272b"), looks := true }, kinds := [], alts := [], laidByText := true, laidKinds := [.handle], laidTests := true, laidLooks := .later }
def FaultFirstCardSaid : Prop := Claim7.holds Tryd.pinned (.plain (OpenSpec.ofChange faultFirstSpec)) faultFirstCard

/-- THE TIED CARD OF 'scantlinglaw05.FaultTells'. -/
def faultTellsCard : Claim7 := { stood := { row := faultTellsRow, standIns := [], harness := (true, "8586fba26a573c7a020e538cdd0d3237df6ab921d0b540dcac7d748fbe50272b"), looks := true }, kinds := [], alts := [], laidByText := true, laidKinds := [.handle], laidTests := true, laidLooks := .later }
def FaultTellsCardSaid : Prop := Claim7.holds Tryd.pinned (.plain (OpenSpec.ofChange faultTellsSpec)) faultTellsCard

/-- THE TIED CARD OF 'scantlinglaw05.FaultOthers'. -/
def faultOthersCard : Claim7 := { stood := { row := faultOthersRow, standIns := [], harness := (true, "8586fba26a573c7a020e538cdd0d3237df6ab921d0b540dcac7d748fbe50272b"), looks := true }, kinds := [], alts := [], laidByText := true, laidKinds := [.handle], laidTests := true, laidLooks := .later }
def FaultOthersCardSaid : Prop := Claim7.holds Tryd.pinned (.plain (OpenSpec.ofChange faultOthersSpec)) faultOthersCard

/-- THE TIED CARD OF 'scantlinglaw28.AuditOf'. -/
def auditOfCard : Claim7 := { stood := { row := auditOfRow, standIns := [], harness := (true, "8586fba26a573c7a020e538cdd0d3237df6ab921d0b540dcac7d748fbe50272b"), looks := true }, kinds := [], alts := [], laidByText := true, laidKinds := [.handle], laidTests := true, laidLooks := .later }
def AuditOfCardSaid : Prop := Claim7.holds Tryd.pinned (.plain (OpenSpec.ofChange auditOfSpec)) auditOfCard

/-- THE TIED CARD OF 'scantlinglaw28.AuditCounts'. -/
def auditCountsCard : Claim7 := { stood := { row := auditCountsRow, standIns := [], harness := (true, "8586fba26a573c7a020e538cdd0d3237df6ab921d0b540dcac7d748fbe50272b"), looks := true }, kinds := [], alts := [], laidByText := true, laidKinds := [.handle], laidTests := true, laidLooks := .later }
def AuditCountsCardSaid : Prop := Claim7.holds Tryd.pinned (.plain (OpenSpec.ofChange auditCountsSpec)) auditCountsCard

/-- THE TIED CARD OF 'scantlinglaw17.BuildSpace'. -/
def buildSpaceCard : Claim7 := { stood := { row := buildSpaceRow, standIns := [], harness := (true, "8586fba26a573c7a020e538cdd0d3237df6ab921d0b540dcac7d748fbe50272b"), looks := true }, kinds := [], alts := [], laidByText := true, laidKinds := [.handle], laidTests := true, laidLooks := .later }
def BuildSpaceCardSaid : Prop := Claim7.holds Tryd.pinned (.plain (OpenSpec.ofChange buildSpaceSpec)) buildSpaceCard

/-- THE TIED CARD OF 'scantlinglaw16.AllocOnce'. -/
def allocOnceCard : Claim7 := { stood := { row := allocOnceRow, standIns := [], harness := (true, "8586fba26a573c7a020e538cdd0d3237df6ab921d0b540dcac7d748fbe50272b"), looks := true }, kinds := [], alts := [], laidByText := true, laidKinds := [.handle], laidTests := true, laidLooks := .later }
def AllocOnceCardSaid : Prop := Claim7.holds Tryd.pinned (.plain (OpenSpec.ofChange allocOnceSpec)) allocOnceCard

/-- THE SECOND FORM's CARD OF 'scantlinglaw05.FaultWraps'. -/
def faultWrapsUptoCard : Claim7 := { stood := { row := faultWrapsUptoRow, standIns := [], harness := (true, "8586fba26a573c7a020e538cdd0d3237df6ab921d0b540dcac7d748fbe50272b"), looks := true }, kinds := [], alts := [], laidByText := true, laidKinds := [.handle], laidTests := true, laidLooks := .later }
def FaultWrapsUptoCardSaid : Prop := Claim7.holds Tryd.pinned (.plain (OpenSpec.upto faultWrapsSpec)) faultWrapsUptoCard

/-- THE SECOND FORM's CARD OF 'scantlinglaw05.FaultFirst'. -/
def faultFirstUptoCard : Claim7 := { stood := { row := faultFirstUptoRow, standIns := [], harness := (true, "8586fba26a573c7a020e538cdd0d3237df6ab921d0b540dcac7d748fbe50272b"), looks := true }, kinds := [], alts := [], laidByText := true, laidKinds := [.handle], laidTests := true, laidLooks := .later }
def FaultFirstUptoCardSaid : Prop := Claim7.holds Tryd.pinned (.plain (OpenSpec.upto faultFirstSpec)) faultFirstUptoCard

/-- THE SECOND FORM's CARD OF 'scantlinglaw05.FaultTells'. -/
def faultTellsUptoCard : Claim7 := { stood := { row := faultTellsUptoRow, standIns := [], harness := (true, "8586fba26a573c7a020e538cdd0d3237df6ab921d0b540dcac7d748fbe50272b"), looks := true }, kinds := [], alts := [], laidByText := true, laidKinds := [.handle], laidTests := true, laidLooks := .later }
def FaultTellsUptoCardSaid : Prop := Claim7.holds Tryd.pinned (.plain (OpenSpec.upto faultTellsSpec)) faultTellsUptoCard

/-- THE SECOND FORM's CARD OF 'scantlinglaw05.FaultOthers'. -/
def faultOthersUptoCard : Claim7 := { stood := { row := faultOthersUptoRow, standIns := [], harness := (true, "8586fba26a573c7a020e538cdd0d3237df6ab921d0b540dcac7d748fbe50272b"), looks := true }, kinds := [], alts := [], laidByText := true, laidKinds := [.handle], laidTests := true, laidLooks := .later }
def FaultOthersUptoCardSaid : Prop := Claim7.holds Tryd.pinned (.plain (OpenSpec.upto faultOthersSpec)) faultOthersUptoCard

/-- THE SECOND FORM's CARD OF 'scantlinglaw28.AuditOf'. -/
def auditOfUptoCard : Claim7 := { stood := { row := auditOfUptoRow, standIns := [], harness := (true, "8586fba26a573c7a020e538cdd0d3237df6ab921d0b540dcac7d748fbe50272b"), looks := true }, kinds := [], alts := [], laidByText := true, laidKinds := [.handle], laidTests := true, laidLooks := .later }
def AuditOfUptoCardSaid : Prop := Claim7.holds Tryd.pinned (.plain (OpenSpec.upto auditOfSpec)) auditOfUptoCard

/-- THE SECOND FORM's CARD OF 'scantlinglaw28.AuditCounts'. -/
def auditCountsUptoCard : Claim7 := { stood := { row := auditCountsUptoRow, standIns := [], harness := (true, "8586fba26a573c7a020e538cdd0d3237df6ab921d0b540dcac7d748fbe50272b"), looks := true }, kinds := [], alts := [], laidByText := true, laidKinds := [.handle], laidTests := true, laidLooks := .later }
def AuditCountsUptoCardSaid : Prop := Claim7.holds Tryd.pinned (.plain (OpenSpec.upto auditCountsSpec)) auditCountsUptoCard

/-- THE SECOND FORM's CARD OF 'scantlinglaw17.BuildSpace'. -/
def buildSpaceUptoCard : Claim7 := { stood := { row := buildSpaceUptoRow, standIns := [], harness := (true, "8586fba26a573c7a020e538cdd0d3237df6ab921d0b540dcac7d748fbe50272b"), looks := true }, kinds := [], alts := [], laidByText := true, laidKinds := [.handle], laidTests := true, laidLooks := .later }
def BuildSpaceUptoCardSaid : Prop := Claim7.holds Tryd.pinned (.plain (OpenSpec.upto buildSpaceSpec)) buildSpaceUptoCard

/-- THE SECOND FORM's CARD OF 'scantlinglaw16.AllocOnce'. -/
def allocOnceUptoCard : Claim7 := { stood := { row := allocOnceUptoRow, standIns := [], harness := (true, "8586fba26a573c7a020e538cdd0d3237df6ab921d0b540dcac7d748fbe50272b"), looks := true }, kinds := [], alts := [], laidByText := true, laidKinds := [.handle], laidTests := true, laidLooks := .later }
def AllocOnceUptoCardSaid : Prop := Claim7.holds Tryd.pinned (.plain (OpenSpec.upto allocOnceSpec)) allocOnceUptoCard
end Rows
end Go.Proofs.YthjemliaeklecaaDoor
