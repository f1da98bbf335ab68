/-
  DERIVED. GIVEN WITH THE SEED: THE CARDS: each row of YthlakkdgcgkcdaaGreatDoorRows.lean that lists a variable, with what it lists TIED to the program's text (the seventh form; the later family's looks); each row that meets fmt, with fmt's text TOLD by the authors' own Lean function (tested against real Go, not proved from fmt's source: count such statements apart). THE CARD IS WHAT COUNTS. Prove the row's statement (the work); the ties are given (YthlakkdgcgkcdaaGreatDoorTie.lean); close each card by the builder's one call (the guide's Derived/Test/ToyasCard.lean, 'card_holds'). Laid BY PROGRAM, IN A SANDBOX (cutbox-door.mjs). By AI agents, Wed Nov 11 2026. No macro, syntax, notation, axiom, sorry.
-/
import Derived.Test.YthlakkdgcgkcdaaGreatDoorRows
import GoSem.ClaimSeven
namespace Go.Proofs.YthlakkdgcgkcdaaGreatDoor
namespace Rows

/-- THE TIED CARD OF 'scantlinglaw28.AuditMaps'. -/
def auditMapsCard : Claim7 := { stood := { row := auditMapsRow, standIns := [], harness := (true, "f843577c063935e0924e80b797d39549d8f6810a2e41401dd5378bbef9ec4181"), looks := true }, kinds := [], alts := [], laidByText := true, laidKinds := [.handle], laidTests := true, laidLooks := .later }
def AuditMapsCardSaid : Prop := Claim7.holds Tryz.pinned (.plain (OpenSpec.ofChange auditMapsSpec)) auditMapsCard

/-- THE TIED CARD OF 'scantlinglaw23.ChartData'. -/
def chartDataCard : Claim7 := { stood := { row := chartDataRow, standIns := [], harness := (true, "f843577c063935e0924e80b797d39549d8f6810a2e41401dd5378bbef9ec4181"), looks := true }, kinds := [], alts := [], laidByText := true, laidKinds := [.handle], laidTests := true, laidLooks := .later }
def ChartDataCardSaid : Prop := Claim7.holds Tryz.pinned (.plain (OpenSpec.ofChange chartDataSpec)) chartDataCard

/-- THE TIED CARD OF 'scantlinglaw23.ChartMeta'. -/
def chartMetaCard : Claim7 := { stood := { row := chartMetaRow, standIns := [], harness := (true, "f843577c063935e0924e80b797d39549d8f6810a2e41401dd5378bbef9ec4181"), looks := true }, kinds := [], alts := [], laidByText := true, laidKinds := [.handle], laidTests := true, laidLooks := .later }
def ChartMetaCardSaid : Prop := Claim7.holds Tryz.pinned (.plain (OpenSpec.ofChange chartMetaSpec)) chartMetaCard

/-- THE SECOND FORM's CARD OF 'scantlinglaw28.AuditMaps'. -/
def auditMapsUptoCard : Claim7 := { stood := { row := auditMapsUptoRow, standIns := [], harness := (true, "f843577c063935e0924e80b797d39549d8f6810a2e41401dd5378bbef9ec4181"), looks := true }, kinds := [], alts := [], laidByText := true, laidKinds := [.handle], laidTests := true, laidLooks := .later }
def AuditMapsUptoCardSaid : Prop := Claim7.holds Tryz.pinned (.plain (OpenSpec.upto auditMapsSpec)) auditMapsUptoCard

/-- THE SECOND FORM's CARD OF 'scantlinglaw23.ChartData'. -/
def chartDataUptoCard : Claim7 := { stood := { row := chartDataUptoRow, standIns := [], harness := (true, "f843577c063935e0924e80b797d39549d8f6810a2e41401dd5378bbef9ec4181"), looks := true }, kinds := [], alts := [], laidByText := true, laidKinds := [.handle], laidTests := true, laidLooks := .later }
def ChartDataUptoCardSaid : Prop := Claim7.holds Tryz.pinned (.plain (OpenSpec.upto chartDataSpec)) chartDataUptoCard

/-- THE SECOND FORM's CARD OF 'scantlinglaw23.ChartMeta'. -/
def chartMetaUptoCard : Claim7 := { stood := { row := chartMetaUptoRow, standIns := [], harness := (true, "f843577c063935e0924e80b797d39549d8f6810a2e41401dd5378bbef9ec4181"), looks := true }, kinds := [], alts := [], laidByText := true, laidKinds := [.handle], laidTests := true, laidLooks := .later }
def ChartMetaUptoCardSaid : Prop := Claim7.holds Tryz.pinned (.plain (OpenSpec.upto chartMetaSpec)) chartMetaUptoCard
end Rows
end Go.Proofs.YthlakkdgcgkcdaaGreatDoor
