/-
  NARROWER THAN 'FOR EVERY INPUT', by the rows' own cells (each row's printed sentence says how): AuditMaps: laid · ChartData: laid · ChartMeta: laid.
  DERIVED. THE GIVEN ROWS OF THIS SEAT. 3 by the template 'for every input the law returns true; each argument reads behind the call as it read before'; 0 by the template 'total and deterministic' (their statements: YthlakkdgcgkcdaaGreatDoorTotals.lean).
  GIVEN WITH THE SEED: the statements are not yours to turn. If you find one false, say at which input.
  Laid BY PROGRAM, IN A SANDBOX (cutbox-rows.mjs): the forced cells as the released guide's own fill.sh prints them over the translation 0217dae0e5d9aac5… (all of the seat's roots in one cut). By AI agents, Wed Nov 11 2026. No macro, syntax, notation, axiom, sorry.
-/
import Derived.Test.YthlakkdgcgkcdaaGreatDoorChecked
import GoSem.Claim
import GoSem.ClaimJoined
import GoSem.ClaimMapViews
import Derived.JoinedTies
import Derived.KernelRfl
namespace Go.Proofs.YthlakkdgcgkcdaaGreatDoor
/- THE CELL 'sum', in the pinned program and in every row, IS THE sha256 OF THE DUMP (.gsa) THAT YthlakkdgcgkcdaaGreatDoorProg.lean LOADS. Nothing in Lean hashes anything: it is a label: what it is worth is what the hold of that sum in a sandbox is worth. -/
noncomputable def Tryz.pinned : Pinned := { name := "ythlakkdgcgkcdaagreatdoor", sum := "0217dae0e5d9aac55b8c634ae16ea36e7960c98a128ccc09797e2116be0d10c5", checked := Tryz.checked }
namespace Rows
def none {H : Type} : Left H := { results := [], args := [] }

/- WHAT THE LISTED PACKAGE-LEVEL VARIABLES READ AS WHEN THE CALL BEGINS. Each datum BY PROGRAM (the guide's laid-datum.mjs) off the statement by which the dump's own 'gosem.cut.vars' lays the variable. In a bare row this is a premise. The card (YthlakkdgcgkcdaaGreatDoorCards.lean) ties it to the program's text. -/
def laid_errors_errorType {H : Type} : DataW H := .iface "internal/reflectlite.rtype" (.agg [.ptr (.lit (.string [101, 114, 114, 111, 114]))])

/-- 'scantlinglaw28.AuditMaps': WHATEVER THE INPUT: true; the input reads as it did. -/
def auditMapsSpec : ChangeSpec := { name := "auditMaps", fn := fun _ => fun
  | [d1, d2, d3] => { results := [.lit (.bool true)], args := [d1, d2, d3] }
  | _ => none }
def auditMapsRow : OpenClaim := { program := "ythlakkdgcgkcdaagreatdoor", sum := "0217dae0e5d9aac55b8c634ae16ea36e7960c98a128ccc09797e2116be0d10c5", func := "scantling/scantlinglaw28.AuditMaps", spec := "auditMaps", inPlace := ["internal/reflectlite.TypeOf", "internal/reflectlite.ValueOf", "(internal/reflectlite.Value).Type", "(internal/reflectlite.Value).IsNil", "(internal/reflectlite.Value).Elem", "(internal/reflectlite.Value).Set"], unfollowed := true, recurses := true, named := ["errors.errorType"], apart := false, laid := [("errors.errorType", laid_errors_errorType)] }
def AuditMapsSaid : Prop := auditMapsRow.holds Tryz.pinned (OpenSpec.ofChange auditMapsSpec)

/-- ITS FALSE NEIGHBOUR: 'it returns false'. Refute it at one input. -/
def auditMapsWrong : ChangeSpec := { name := "auditMaps", fn := fun _ => fun
  | [d1, d2, d3] => { results := [.lit (.bool false)], args := [d1, d2, d3] }
  | _ => none }
def AuditMapsWrongFalsely : Prop := auditMapsRow.holds Tryz.pinned (OpenSpec.ofChange auditMapsWrong)

/-- 'scantlinglaw23.ChartData': WHATEVER THE INPUT: true; the input reads as it did. -/
def chartDataSpec : ChangeSpec := { name := "chartData", fn := fun _ => fun
  | [d1, d2, d3, d4, d5] => { results := [.lit (.bool true)], args := [d1, d2, d3, d4, d5] }
  | _ => none }
def chartDataRow : OpenClaim := { program := "ythlakkdgcgkcdaagreatdoor", sum := "0217dae0e5d9aac55b8c634ae16ea36e7960c98a128ccc09797e2116be0d10c5", func := "scantling/scantlinglaw23.ChartData", spec := "chartData", inPlace := ["internal/reflectlite.TypeOf", "internal/reflectlite.ValueOf", "(internal/reflectlite.Value).Type", "(internal/reflectlite.Value).IsNil", "(internal/reflectlite.Value).Elem", "(internal/reflectlite.Value).Set"], unfollowed := true, recurses := true, named := ["errors.errorType"], apart := false, laid := [("errors.errorType", laid_errors_errorType)] }
def ChartDataSaid : Prop := chartDataRow.holds Tryz.pinned (OpenSpec.ofChange chartDataSpec)

/-- ITS FALSE NEIGHBOUR: 'it returns false'. Refute it at one input. -/
def chartDataWrong : ChangeSpec := { name := "chartData", fn := fun _ => fun
  | [d1, d2, d3, d4, d5] => { results := [.lit (.bool false)], args := [d1, d2, d3, d4, d5] }
  | _ => none }
def ChartDataWrongFalsely : Prop := chartDataRow.holds Tryz.pinned (OpenSpec.ofChange chartDataWrong)

/-- 'scantlinglaw23.ChartMeta': WHATEVER THE INPUT: true; the input reads as it did. -/
def chartMetaSpec : ChangeSpec := { name := "chartMeta", fn := fun _ => fun
  | [d1, d2, d3, d4, d5] => { results := [.lit (.bool true)], args := [d1, d2, d3, d4, d5] }
  | _ => none }
def chartMetaRow : OpenClaim := { program := "ythlakkdgcgkcdaagreatdoor", sum := "0217dae0e5d9aac55b8c634ae16ea36e7960c98a128ccc09797e2116be0d10c5", func := "scantling/scantlinglaw23.ChartMeta", spec := "chartMeta", inPlace := ["internal/reflectlite.TypeOf", "internal/reflectlite.ValueOf", "(internal/reflectlite.Value).Type", "(internal/reflectlite.Value).IsNil", "(internal/reflectlite.Value).Elem", "(internal/reflectlite.Value).Set"], unfollowed := true, recurses := true, named := ["errors.errorType"], apart := false, laid := [("errors.errorType", laid_errors_errorType)] }
def ChartMetaSaid : Prop := chartMetaRow.holds Tryz.pinned (OpenSpec.ofChange chartMetaSpec)

/-- ITS FALSE NEIGHBOUR: 'it returns false'. Refute it at one input. -/
def chartMetaWrong : ChangeSpec := { name := "chartMeta", fn := fun _ => fun
  | [d1, d2, d3, d4, d5] => { results := [.lit (.bool false)], args := [d1, d2, d3, d4, d5] }
  | _ => none }
def ChartMetaWrongFalsely : Prop := chartMetaRow.holds Tryz.pinned (OpenSpec.ofChange chartMetaWrong)

/- THE SECOND FORM. 'bulk': how many values and letters a reading holds, each counted each time it is reached (what is shared counts as often as it is met; a slice's spare places count too). A statement '..UptoSaid' is the law's where the arguments, and the package variables that the reading takes, are together of bulk at most 1048576: NARROWER than '..Said'. Prove '..Said' where nothing that the law and all that it calls make is longer than what came in: it says more and counts as full. Else prove '..UptoSaid'. A law counts once. -/
mutual
def uptoBulk {H : Type} : DataW H → Nat
  | .lit (.string bytes) => bytes.length + 1
  | .lit _ => 1
  | .nil => 1
  | .ptr d => uptoBulk d + 1
  | .slice elems spare => uptoBulkAll elems + uptoBulkAll spare + 1
  | .agg parts => uptoBulkAll parts + 1
  | .iface _ d => uptoBulk d + 1
  | .map entries => uptoBulkEntries entries + 1
  | .held _ => 1
def uptoBulkAll {H : Type} : List (DataW H) → Nat
  | [] => 0
  | d :: r => uptoBulk d + uptoBulkAll r
def uptoBulkEntries {H : Type} : List (Lit × DataW H) → Nat
  | [] => 0
  | x :: r => uptoBulkEntry x + uptoBulkEntries r
def uptoBulkEntry {H : Type} : Lit × DataW H → Nat
  | (.string bytes, d) => bytes.length + uptoBulk d + 1
  | (_, d) => uptoBulk d + 1
 end
def uptoSmall : (H : Type) → List (DataW H) → Bool := fun _ ds => decide (uptoBulkAll ds ≤ 1048576)
def OpenSpec.upto (s : _root_.Go.ChangeSpec) : _root_.Go.OpenSpec := { _root_.Go.OpenSpec.ofChange s with cond := some uptoSmall }

/-- 'scantlinglaw28.AuditMaps', WHERE WHAT IT READS IS OF BULK AT MOST 1048576: true; the input reads as it did. -/
def auditMapsUptoRow : OpenClaim := { program := "ythlakkdgcgkcdaagreatdoor", sum := "0217dae0e5d9aac55b8c634ae16ea36e7960c98a128ccc09797e2116be0d10c5", func := "scantling/scantlinglaw28.AuditMaps", spec := "auditMaps", inPlace := ["internal/reflectlite.TypeOf", "internal/reflectlite.ValueOf", "(internal/reflectlite.Value).Type", "(internal/reflectlite.Value).IsNil", "(internal/reflectlite.Value).Elem", "(internal/reflectlite.Value).Set"], unfollowed := true, recurses := true, named := ["errors.errorType"], apart := false, laid := [("errors.errorType", laid_errors_errorType)], narrowed := true }
def AuditMapsUptoSaid : Prop := auditMapsUptoRow.holds Tryz.pinned (OpenSpec.upto auditMapsSpec)

/-- 'scantlinglaw23.ChartData', WHERE WHAT IT READS IS OF BULK AT MOST 1048576: true; the input reads as it did. -/
def chartDataUptoRow : OpenClaim := { program := "ythlakkdgcgkcdaagreatdoor", sum := "0217dae0e5d9aac55b8c634ae16ea36e7960c98a128ccc09797e2116be0d10c5", func := "scantling/scantlinglaw23.ChartData", spec := "chartData", inPlace := ["internal/reflectlite.TypeOf", "internal/reflectlite.ValueOf", "(internal/reflectlite.Value).Type", "(internal/reflectlite.Value).IsNil", "(internal/reflectlite.Value).Elem", "(internal/reflectlite.Value).Set"], unfollowed := true, recurses := true, named := ["errors.errorType"], apart := false, laid := [("errors.errorType", laid_errors_errorType)], narrowed := true }
def ChartDataUptoSaid : Prop := chartDataUptoRow.holds Tryz.pinned (OpenSpec.upto chartDataSpec)

/-- 'scantlinglaw23.ChartMeta', WHERE WHAT IT READS IS OF BULK AT MOST 1048576: true; the input reads as it did. -/
def chartMetaUptoRow : OpenClaim := { program := "ythlakkdgcgkcdaagreatdoor", sum := "0217dae0e5d9aac55b8c634ae16ea36e7960c98a128ccc09797e2116be0d10c5", func := "scantling/scantlinglaw23.ChartMeta", spec := "chartMeta", inPlace := ["internal/reflectlite.TypeOf", "internal/reflectlite.ValueOf", "(internal/reflectlite.Value).Type", "(internal/reflectlite.Value).IsNil", "(internal/reflectlite.Value).Elem", "(internal/reflectlite.Value).Set"], unfollowed := true, recurses := true, named := ["errors.errorType"], apart := false, laid := [("errors.errorType", laid_errors_errorType)], narrowed := true }
def ChartMetaUptoSaid : Prop := chartMetaUptoRow.holds Tryz.pinned (OpenSpec.upto chartMetaSpec)

end Rows
end Go.Proofs.YthlakkdgcgkcdaaGreatDoor
