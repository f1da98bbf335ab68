/-
  DERIVED. GIVEN WITH THE SEED: THE CARDS: each row of YtgphgaehfdfjjaaGreatDoorRows.lean that lists a variable, with what it lists TIED to the program's text (the seventh form; the later family's looks); each row that meets fmt, with fmt's text TOLD by the authors' own Lean function (tested against real Go, not proved from fmt's source: count such statements apart). THE CARD IS WHAT COUNTS. Prove the row's statement (the work); the ties are given (YtgphgaehfdfjjaaGreatDoorTie.lean); close each card by the builder's one call (the guide's Derived/Test/ToyasCard.lean, 'card_holds'). Laid BY PROGRAM, IN A SANDBOX (cutbox-door.mjs). By AI agents, Wed Nov 11 2026. No macro, syntax, notation, axiom, sorry.
-/
import Derived.Test.YtgphgaehfdfjjaaGreatDoorRows
import GoSem.ClaimSeven
namespace Go.Proofs.YtgphgaehfdfjjaaGreatDoor
namespace Rows

/-- THE TIED CARD OF 'scantlinglaw25.ReachAdds'. -/
def reachAddsCard : Claim7 := { stood := { row := reachAddsRow, standIns := [], harness := (true, "2fa700342da55e79153fcc982304572330489f35d88d72e955a9f04ab1643bca"), looks := true }, kinds := [], alts := [], laidByText := true, laidKinds := [.handle], laidTests := true, laidLooks := .later }
def ReachAddsCardSaid : Prop := Claim7.holds Tryz.pinned (.plain (OpenSpec.ofChange reachAddsSpec)) reachAddsCard

/-- THE TIED CARD OF 'scantlinglaw24.LoadPool'. -/
def loadPoolCard : Claim7 := { stood := { row := loadPoolRow, standIns := [], harness := (true, "2fa700342da55e79153fcc982304572330489f35d88d72e955a9f04ab1643bca"), looks := true }, kinds := [], alts := [], laidByText := true, laidKinds := [.handle], laidTests := true, laidLooks := .later }
def LoadPoolCardSaid : Prop := Claim7.holds Tryz.pinned (.plain (OpenSpec.ofChange loadPoolSpec)) loadPoolCard

/-- THE SECOND FORM's CARD OF 'scantlinglaw25.ReachAdds'. -/
def reachAddsUptoCard : Claim7 := { stood := { row := reachAddsUptoRow, standIns := [], harness := (true, "2fa700342da55e79153fcc982304572330489f35d88d72e955a9f04ab1643bca"), looks := true }, kinds := [], alts := [], laidByText := true, laidKinds := [.handle], laidTests := true, laidLooks := .later }
def ReachAddsUptoCardSaid : Prop := Claim7.holds Tryz.pinned (.plain (OpenSpec.upto reachAddsSpec)) reachAddsUptoCard

/-- THE SECOND FORM's CARD OF 'scantlinglaw24.LoadPool'. -/
def loadPoolUptoCard : Claim7 := { stood := { row := loadPoolUptoRow, standIns := [], harness := (true, "2fa700342da55e79153fcc982304572330489f35d88d72e955a9f04ab1643bca"), looks := true }, kinds := [], alts := [], laidByText := true, laidKinds := [.handle], laidTests := true, laidLooks := .later }
def LoadPoolUptoCardSaid : Prop := Claim7.holds Tryz.pinned (.plain (OpenSpec.upto loadPoolSpec)) loadPoolUptoCard
end Rows
end Go.Proofs.YtgphgaehfdfjjaaGreatDoor
