/- errors.Is of one Errno at another, as a contract. -/
import Derived.Test.YtbopakjiahojdaaGreatDoorErrCode
namespace Go.Proofs.YtbopakjiahojdaaGreatDoor
open Go.RowKit Go.Extern.Stop Go.Stop Go.Extern
set_option linter.unusedVariables false

theorem errno_eq {P : Program} (w : World) {ti tn : TypeId} {ms : Array (String × TypeId)} {i : TypeInfo} {k : IntKind} (a b : Int)
    (hi : P.underlying ti = some (.interface ms)) (hn : P.underlying tn = some (.int k)) (hinfo : P.info? tn = some i) (hcomp : i.comparable = true) :
    (binOp .eql ti (.iface tn (.int k a)) (.iface tn (.int k b))).run P w = .ok (.bool (a == b)) w := by
  have h : ∀ d : Nat, (Op.equalIn (d + 2) ti (.iface tn (.int k a)) (.iface tn (.int k b))).run P w = .ok (a == b) w := fun d => by simp [Op.equalIn, run_underlying hi, run_underlying hn, typeInfo, hinfo, hcomp]
  simp only [binOp]
  simp [Op.equal, Op.maxDepth, h 9998]
theorem Tryz.eqN (a b : Int) (w : World) : (binOp .eql 37 (.iface 40 (.int .i64 a)) (.iface 40 (.int .i64 b))).run Tryz.prog w = .ok (.bool (a == b)) w := by
  obtain ⟨i, h1, h2⟩ := Option.map_eq_some_iff.1 (show (Tryz.prog.info? 40).map (·.comparable) = some true by kernel_rfl)
  exact errno_eq w a b Tryz.underlying37 Tryz.underlying40 h1 h2
theorem Tryz.methComparable (h : Value) (w : World) : (Go.method 349 164 (.agg #[h]) "Comparable").run Tryz.prog w = .ok (174, .agg #[h]) w := by kernel_rfl
theorem Tryz.comparableN (w : World) : (callFunc 174 #[.agg #[.pointer (some ⟨4, 40, none⟩)]]).run Tryz.prog w = .ok (Next.value (.bool true)) w := by kernel_rfl

set_option maxRecDepth 100000 in
set_option maxHeartbeats 2000000 in
theorem errors_isN (c d : Int) (w : World) : Calls Tryz.prog 118 #[.iface 40 (.int .i64 c), .iface 40 (.int .i64 d), .bool true] w (Ret (.bool (c == d)) w) := by
  have y1 := Tryz.eqN
  have y2 := Tryz.noIsN
  have y3 := Tryz.noUnwrapN
  have y4 := Tryz.noUnwrapsN
  go_enter Tryz.func118, Tryz.ntmps118
  go_wp2_with fail
  go_loopw [0] (fun v wr => v = .iface 40 (.int .i64 c) ∧ wr = w) (fun _ _ => 0)
  case atStart => exact ⟨rfl, rfl⟩
  case round =>
    obtain ⟨rfl, rfl⟩ := hrel
    by_cases h : c = d
    · have h' : (c == d) = true := by simpa using h
      have HH := Lib.hid h; clear h
      go_wp2_with fail
      go_ret
      exact ⟨by rw [h']; rfl, Below.refl _ _⟩
    · have h' : (c == d) = false := by simpa using h
      have HH := Lib.hid h; clear h
      go_wp2_with fail
      go_ret
      exact ⟨by rw [h']; rfl, Below.refl _ _⟩
set_option maxRecDepth 100000 in
set_option maxHeartbeats 2000000 in
theorem errors_IsN (c d : Int) (w : World) : Calls Tryz.prog 91 #[.iface 40 (.int .i64 c), .iface 40 (.int .i64 d)] w (Ret (.bool (c == d)) w) := by
  have h66 := @run_callFunc_extern Tryz.prog 103 _ ReflectliteType.typeOf Tryz.func103 (by kernel_rfl) (by kernel_rfl) (by kernel_rfl) (by kernel_rfl)
  have y1 := Tryz.typeOfN
  have y2 := Tryz.methComparable
  have y3 := Tryz.comparableN
  go_enter Tryz.func91, Tryz.ntmps91
  go_wp2_with fail
  refine (errors_isN c d _).mono ?_
  rintro e w' ⟨rfl, hb⟩
  go_wp2_with fail
  go_ret
  exact ⟨rfl, hb⟩
end Go.Proofs.YtbopakjiahojdaaGreatDoor

