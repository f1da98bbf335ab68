/-
  NARROWER THAN 'FOR EVERY INPUT', by the rows' own cells (each row's printed sentence says how): LayMakes: laid · AuditPool: laid · AuditAgrees: laid.
  DERIVED. THE GIVEN ROWS OF THIS SEAT. 3 by the template 'for every input the law returns true; each argument reads behind the call as it read before'; 0 by the template 'total and deterministic' (their statements: YtegcamkgeacjfaaGreatDoorTotals.lean).
  GIVEN WITH THE SEED: the statements are not yours to turn. If you find one false, say at which input.
  Laid BY PROGRAM, IN A SANDBOX (cutbox-rows.mjs): the forced cells as the released guide's own fill.sh prints them over the translation d68fcec4fd911eea… (all of the seat's roots in one cut). By AI agents, Wed Nov 11 2026. No macro, syntax, notation, axiom, sorry.
-/
import Derived.Test.YtegcamkgeacjfaaGreatDoorChecked
import GoSem.Claim
import GoSem.ClaimJoined
import GoSem.ClaimMapViews
import Derived.JoinedTies
import Derived.KernelRfl
namespace Go.Proofs.YtegcamkgeacjfaaGreatDoor
/- THE CELL 'sum', in the pinned program and in every row, IS THE sha256 OF THE DUMP (.gsa) THAT YtegcamkgeacjfaaGreatDoorProg.lean LOADS. Nothing in Lean hashes anything: it is a label: what it is worth is what the hold of that sum in a sandbox is worth. -/
noncomputable def Tryz.pinned : Pinned := { name := "ytegcamkgeacjfaagreatdoor", sum := "d68fcec4fd911eea92886e7a9bec3318db970f7a3eb3447d9dfbaf9409e3d851", checked := Tryz.checked }
namespace Rows
def none {H : Type} : Left H := { results := [], args := [] }

/- WHAT THE LISTED PACKAGE-LEVEL VARIABLES READ AS WHEN THE CALL BEGINS. Each datum BY PROGRAM (the guide's laid-datum.mjs) off the statement by which the dump's own 'gosem.cut.vars' lays the variable. In a bare row this is a premise. The card (YtegcamkgeacjfaaGreatDoorCards.lean) ties it to the program's text. -/
def laid_errors_errorType {H : Type} : DataW H := .iface "internal/reflectlite.rtype" (.agg [.ptr (.lit (.string [101, 114, 114, 111, 114]))])

/-- 'scantlinglaw26.LayMakes': WHATEVER THE INPUT: true; the input reads as it did. -/
def layMakesSpec : ChangeSpec := { name := "layMakes", fn := fun _ => fun
  | [d1, d2] => { results := [.lit (.bool true)], args := [d1, d2] }
  | _ => none }
def layMakesRow : OpenClaim := { program := "ytegcamkgeacjfaagreatdoor", sum := "d68fcec4fd911eea92886e7a9bec3318db970f7a3eb3447d9dfbaf9409e3d851", func := "scantling/scantlinglaw26.LayMakes", spec := "layMakes", inPlace := ["internal/reflectlite.TypeOf", "internal/reflectlite.ValueOf", "(internal/reflectlite.Value).Type", "(internal/reflectlite.Value).IsNil", "(internal/reflectlite.Value).Elem", "(internal/reflectlite.Value).Set"], unfollowed := true, recurses := true, named := ["errors.errorType"], apart := false, laid := [("errors.errorType", laid_errors_errorType)] }
def LayMakesSaid : Prop := layMakesRow.holds Tryz.pinned (OpenSpec.ofChange layMakesSpec)

/-- ITS FALSE NEIGHBOUR: 'it returns false'. Refute it at one input. -/
def layMakesWrong : ChangeSpec := { name := "layMakes", fn := fun _ => fun
  | [d1, d2] => { results := [.lit (.bool false)], args := [d1, d2] }
  | _ => none }
def LayMakesWrongFalsely : Prop := layMakesRow.holds Tryz.pinned (OpenSpec.ofChange layMakesWrong)

/-- 'scantlinglaw28.AuditPool': WHATEVER THE INPUT: true; the input reads as it did. -/
def auditPoolSpec : ChangeSpec := { name := "auditPool", fn := fun _ => fun
  | [d1, d2, d3] => { results := [.lit (.bool true)], args := [d1, d2, d3] }
  | _ => none }
def auditPoolRow : OpenClaim := { program := "ytegcamkgeacjfaagreatdoor", sum := "d68fcec4fd911eea92886e7a9bec3318db970f7a3eb3447d9dfbaf9409e3d851", func := "scantling/scantlinglaw28.AuditPool", spec := "auditPool", inPlace := ["internal/reflectlite.TypeOf", "internal/reflectlite.ValueOf", "(internal/reflectlite.Value).Type", "(internal/reflectlite.Value).IsNil", "(internal/reflectlite.Value).Elem", "(internal/reflectlite.Value).Set"], unfollowed := true, recurses := true, named := ["errors.errorType"], apart := false, laid := [("errors.errorType", laid_errors_errorType)] }
def AuditPoolSaid : Prop := auditPoolRow.holds Tryz.pinned (OpenSpec.ofChange auditPoolSpec)

/-- ITS FALSE NEIGHBOUR: 'it returns false'. Refute it at one input. -/
def auditPoolWrong : ChangeSpec := { name := "auditPool", fn := fun _ => fun
  | [d1, d2, d3] => { results := [.lit (.bool false)], args := [d1, d2, d3] }
  | _ => none }
def AuditPoolWrongFalsely : Prop := auditPoolRow.holds Tryz.pinned (OpenSpec.ofChange auditPoolWrong)

/-- 'scantlinglaw28.AuditAgrees': WHATEVER THE INPUT: true; the input reads as it did. -/
def auditAgreesSpec : ChangeSpec := { name := "auditAgrees", fn := fun _ => fun
  | [d1, d2, d3] => { results := [.lit (.bool true)], args := [d1, d2, d3] }
  | _ => none }
def auditAgreesRow : OpenClaim := { program := "ytegcamkgeacjfaagreatdoor", sum := "d68fcec4fd911eea92886e7a9bec3318db970f7a3eb3447d9dfbaf9409e3d851", func := "scantling/scantlinglaw28.AuditAgrees", spec := "auditAgrees", inPlace := ["internal/reflectlite.TypeOf", "internal/reflectlite.ValueOf", "(internal/reflectlite.Value).Type", "(internal/reflectlite.Value).IsNil", "(internal/reflectlite.Value).Elem", "(internal/reflectlite.Value).Set"], unfollowed := true, recurses := true, named := ["errors.errorType"], apart := false, laid := [("errors.errorType", laid_errors_errorType)] }
def AuditAgreesSaid : Prop := auditAgreesRow.holds Tryz.pinned (OpenSpec.ofChange auditAgreesSpec)

/-- ITS FALSE NEIGHBOUR: 'it returns false'. Refute it at one input. -/
def auditAgreesWrong : ChangeSpec := { name := "auditAgrees", fn := fun _ => fun
  | [d1, d2, d3] => { results := [.lit (.bool false)], args := [d1, d2, d3] }
  | _ => none }
def AuditAgreesWrongFalsely : Prop := auditAgreesRow.holds Tryz.pinned (OpenSpec.ofChange auditAgreesWrong)

/- THE SECOND FORM. 'bulk': how many values and letters a reading holds, each counted each time it is reached (what is shared counts as often as it is met; a slice's spare places count too). A statement '..UptoSaid' is the law's where the arguments, and the package variables that the reading takes, are together of bulk at most 1048576: NARROWER than '..Said'. Prove '..Said' where nothing that the law and all that it calls make is longer than what came in: it says more and counts as full. Else prove '..UptoSaid'. A law counts once. -/
mutual
def uptoBulk {H : Type} : DataW H → Nat
  | .lit (.string bytes) => bytes.length + 1
  | .lit _ => 1
  | .nil => 1
  | .ptr d => uptoBulk d + 1
  | .slice elems spare => uptoBulkAll elems + uptoBulkAll spare + 1
  | .agg parts => uptoBulkAll parts + 1
  | .iface _ d => uptoBulk d + 1
  | .map entries => uptoBulkEntries entries + 1
  | .held _ => 1
def uptoBulkAll {H : Type} : List (DataW H) → Nat
  | [] => 0
  | d :: r => uptoBulk d + uptoBulkAll r
def uptoBulkEntries {H : Type} : List (Lit × DataW H) → Nat
  | [] => 0
  | x :: r => uptoBulkEntry x + uptoBulkEntries r
def uptoBulkEntry {H : Type} : Lit × DataW H → Nat
  | (.string bytes, d) => bytes.length + uptoBulk d + 1
  | (_, d) => uptoBulk d + 1
 end
def uptoSmall : (H : Type) → List (DataW H) → Bool := fun _ ds => decide (uptoBulkAll ds ≤ 1048576)
def OpenSpec.upto (s : _root_.Go.ChangeSpec) : _root_.Go.OpenSpec := { _root_.Go.OpenSpec.ofChange s with cond := some uptoSmall }

/-- 'scantlinglaw26.LayMakes', WHERE WHAT IT READS IS OF BULK AT MOST 1048576: true; the input reads as it did. -/
def layMakesUptoRow : OpenClaim := { program := "ytegcamkgeacjfaagreatdoor", sum := "d68fcec4fd911eea92886e7a9bec3318db970f7a3eb3447d9dfbaf9409e3d851", func := "scantling/scantlinglaw26.LayMakes", spec := "layMakes", inPlace := ["internal/reflectlite.TypeOf", "internal/reflectlite.ValueOf", "(internal/reflectlite.Value).Type", "(internal/reflectlite.Value).IsNil", "(internal/reflectlite.Value).Elem", "(internal/reflectlite.Value).Set"], unfollowed := true, recurses := true, named := ["errors.errorType"], apart := false, laid := [("errors.errorType", laid_errors_errorType)], narrowed := true }
def LayMakesUptoSaid : Prop := layMakesUptoRow.holds Tryz.pinned (OpenSpec.upto layMakesSpec)

/-- 'scantlinglaw28.AuditPool', WHERE WHAT IT READS IS OF BULK AT MOST 1048576: true; the input reads as it did. -/
def auditPoolUptoRow : OpenClaim := { program := "ytegcamkgeacjfaagreatdoor", sum := "d68fcec4fd911eea92886e7a9bec3318db970f7a3eb3447d9dfbaf9409e3d851", func := "scantling/scantlinglaw28.AuditPool", spec := "auditPool", inPlace := ["internal/reflectlite.TypeOf", "internal/reflectlite.ValueOf", "(internal/reflectlite.Value).Type", "(internal/reflectlite.Value).IsNil", "(internal/reflectlite.Value).Elem", "(internal/reflectlite.Value).Set"], unfollowed := true, recurses := true, named := ["errors.errorType"], apart := false, laid := [("errors.errorType", laid_errors_errorType)], narrowed := true }
def AuditPoolUptoSaid : Prop := auditPoolUptoRow.holds Tryz.pinned (OpenSpec.upto auditPoolSpec)

/-- 'scantlinglaw28.AuditAgrees', WHERE WHAT IT READS IS OF BULK AT MOST 1048576: true; the input reads as it did. -/
def auditAgreesUptoRow : OpenClaim := { program := "ytegcamkgeacjfaagreatdoor", sum := "d68fcec4fd911eea92886e7a9bec3318db970f7a3eb3447d9dfbaf9409e3d851", func := "scantling/scantlinglaw28.AuditAgrees", spec := "auditAgrees", inPlace := ["internal/reflectlite.TypeOf", "internal/reflectlite.ValueOf", "(internal/reflectlite.Value).Type", "(internal/reflectlite.Value).IsNil", "(internal/reflectlite.Value).Elem", "(internal/reflectlite.Value).Set"], unfollowed := true, recurses := true, named := ["errors.errorType"], apart := false, laid := [("errors.errorType", laid_errors_errorType)], narrowed := true }
def AuditAgreesUptoSaid : Prop := auditAgreesUptoRow.holds Tryz.pinned (OpenSpec.upto auditAgreesSpec)

end Rows
end Go.Proofs.YtegcamkgeacjfaaGreatDoor
