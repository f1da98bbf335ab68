/-
  DERIVED. GIVEN WITH THE SEED: THE CARDS: each row of YtlmogdjcnbjhfaaDoorRows.lean that lists a variable, with what it lists TIED to the program's text (the seventh form; the later family's looks); each row that meets fmt, with fmt's text TOLD by the authors' own Lean function (tested against real Go, not proved from fmt's source: count such statements apart). THE CARD IS WHAT COUNTS. Prove the row's statement (the work); the ties are given (YtlmogdjcnbjhfaaDoorTie.lean); close each card by the builder's one call (the guide's Derived/Test/ToyasCard.lean, 'card_holds'). Laid BY PROGRAM, IN A SANDBOX (cutbox-door.mjs). By AI agents, Wed Nov 11 2026. No macro, syntax, notation, axiom, sorry.
-/
import Derived.Test.YtlmogdjcnbjhfaaDoorRows
import GoSem.ClaimSeven
namespace Go.Proofs.YtlmogdjcnbjhfaaDoor
namespace Rows

/-- THE TIED CARD OF 'scantlinglaw17.BuildSpace'. -/
def buildSpaceCard : Claim7 := { stood := { row := buildSpaceRow, standIns := [], harness := (true, "03db338f1e8046df61d935f909259d3ecb82d9c43f82f31ffd310a8a7940191f"), looks := true }, kinds := [], alts := [], laidByText := true, laidKinds := [.handle], laidTests := true, laidLooks := .later }
def BuildSpaceCardSaid : Prop := Claim7.holds Tryd.pinned (.plain (OpenSpec.ofChange buildSpaceSpec)) buildSpaceCard

/-- THE SECOND FORM's CARD OF 'scantlinglaw17.BuildSpace'. -/
def buildSpaceUptoCard : Claim7 := { stood := { row := buildSpaceUptoRow, standIns := [], harness := (true, "03db338f1e8046df61d935f909259d3ecb82d9c43f82f31ffd310a8a7940191f"), looks := true }, kinds := [], alts := [], laidByText := true, laidKinds := [.handle], laidTests := true, laidLooks := .later }
def BuildSpaceUptoCardSaid : Prop := Claim7.holds Tryd.pinned (.plain (OpenSpec.upto buildSpaceSpec)) buildSpaceUptoCard
end Rows
end Go.Proofs.YtlmogdjcnbjhfaaDoor
