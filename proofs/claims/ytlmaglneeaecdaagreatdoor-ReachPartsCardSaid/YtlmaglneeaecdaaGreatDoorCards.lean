/-
  DERIVED. GIVEN WITH THE SEED: THE CARDS: each row of YtlmaglneeaecdaaGreatDoorRows.lean that lists a variable, with what it lists TIED to the program's text (the seventh form; the later family's looks); each row that meets fmt, with fmt's text TOLD by the authors' own Lean function (tested against real Go, not proved from fmt's source: count such statements apart). THE CARD IS WHAT COUNTS. Prove the row's statement (the work); the ties are given (YtlmaglneeaecdaaGreatDoorTie.lean); close each card by the builder's one call (the guide's Derived/Test/ToyasCard.lean, 'card_holds'). Laid BY PROGRAM, IN A SANDBOX (cutbox-door.mjs). By AI agents, Wed Nov 11 2026. No macro, syntax, notation, axiom, sorry.
-/
import Derived.Test.YtlmaglneeaecdaaGreatDoorRows
import GoSem.ClaimSeven
namespace Go.Proofs.YtlmaglneeaecdaaGreatDoor
namespace Rows

/-- THE TIED CARD OF 'scantlinglaw24.LoadDevices'. -/
def loadDevicesCard : Claim7 := { stood := { row := loadDevicesRow, standIns := [], harness := (true, "d096d34c5a07b9b1d57bd3406f414e0f4c64c0c00a39e5e06804145c072b7cf1"), looks := true }, kinds := [], alts := [], laidByText := true, laidKinds := [.handle], laidTests := true, laidLooks := .later }
def LoadDevicesCardSaid : Prop := Claim7.holds Tryz.pinned (.plain (OpenSpec.ofChange loadDevicesSpec)) loadDevicesCard

/-- THE TIED CARD OF 'scantlinglaw25.ReachCounts'. -/
def reachCountsCard : Claim7 := { stood := { row := reachCountsRow, standIns := [], harness := (true, "d096d34c5a07b9b1d57bd3406f414e0f4c64c0c00a39e5e06804145c072b7cf1"), looks := true }, kinds := [], alts := [], laidByText := true, laidKinds := [.handle], laidTests := true, laidLooks := .later }
def ReachCountsCardSaid : Prop := Claim7.holds Tryz.pinned (.plain (OpenSpec.ofChange reachCountsSpec)) reachCountsCard

/-- THE TIED CARD OF 'scantlinglaw24.LoadPool'. -/
def loadPoolCard : Claim7 := { stood := { row := loadPoolRow, standIns := [], harness := (true, "d096d34c5a07b9b1d57bd3406f414e0f4c64c0c00a39e5e06804145c072b7cf1"), looks := true }, kinds := [], alts := [], laidByText := true, laidKinds := [.handle], laidTests := true, laidLooks := .later }
def LoadPoolCardSaid : Prop := Claim7.holds Tryz.pinned (.plain (OpenSpec.ofChange loadPoolSpec)) loadPoolCard

/-- THE TIED CARD OF 'scantlinglaw25.ReachParts'. -/
def reachPartsCard : Claim7 := { stood := { row := reachPartsRow, standIns := [], harness := (true, "d096d34c5a07b9b1d57bd3406f414e0f4c64c0c00a39e5e06804145c072b7cf1"), looks := true }, kinds := [], alts := [], laidByText := true, laidKinds := [.handle], laidTests := true, laidLooks := .later }
def ReachPartsCardSaid : Prop := Claim7.holds Tryz.pinned (.plain (OpenSpec.ofChange reachPartsSpec)) reachPartsCard

/-- THE SECOND FORM's CARD OF 'scantlinglaw24.LoadDevices'. -/
def loadDevicesUptoCard : Claim7 := { stood := { row := loadDevicesUptoRow, standIns := [], harness := (true, "d096d34c5a07b9b1d57bd3406f414e0f4c64c0c00a39e5e06804145c072b7cf1"), looks := true }, kinds := [], alts := [], laidByText := true, laidKinds := [.handle], laidTests := true, laidLooks := .later }
def LoadDevicesUptoCardSaid : Prop := Claim7.holds Tryz.pinned (.plain (OpenSpec.upto loadDevicesSpec)) loadDevicesUptoCard

/-- THE SECOND FORM's CARD OF 'scantlinglaw25.ReachCounts'. -/
def reachCountsUptoCard : Claim7 := { stood := { row := reachCountsUptoRow, standIns := [], harness := (true, "d096d34c5a07b9b1d57bd3406f414e0f4c64c0c00a39e5e06804145c072b7cf1"), looks := true }, kinds := [], alts := [], laidByText := true, laidKinds := [.handle], laidTests := true, laidLooks := .later }
def ReachCountsUptoCardSaid : Prop := Claim7.holds Tryz.pinned (.plain (OpenSpec.upto reachCountsSpec)) reachCountsUptoCard

/-- THE SECOND FORM's CARD OF 'scantlinglaw24.LoadPool'. -/
def loadPoolUptoCard : Claim7 := { stood := { row := loadPoolUptoRow, standIns := [], harness := (true, "d096d34c5a07b9b1d57bd3406f414e0f4c64c0c00a39e5e06804145c072b7cf1"), looks := true }, kinds := [], alts := [], laidByText := true, laidKinds := [.handle], laidTests := true, laidLooks := .later }
def LoadPoolUptoCardSaid : Prop := Claim7.holds Tryz.pinned (.plain (OpenSpec.upto loadPoolSpec)) loadPoolUptoCard

/-- THE SECOND FORM's CARD OF 'scantlinglaw25.ReachParts'. -/
def reachPartsUptoCard : Claim7 := { stood := { row := reachPartsUptoRow, standIns := [], harness := (true, "d096d34c5a07b9b1d57bd3406f414e0f4c64c0c00a39e5e06804145c072b7cf1"), looks := true }, kinds := [], alts := [], laidByText := true, laidKinds := [.handle], laidTests := true, laidLooks := .later }
def ReachPartsUptoCardSaid : Prop := Claim7.holds Tryz.pinned (.plain (OpenSpec.upto reachPartsSpec)) reachPartsUptoCard
end Rows
end Go.Proofs.YtlmaglneeaecdaaGreatDoor
