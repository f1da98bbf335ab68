/- errors.Is of one Errno at another, as a contract. -/
import Derived.Test.YtoiblgeheblddaaErrCode
namespace Go.Proofs.Ytoiblgeheblddaa
open Go.RowKit Go.Extern.Stop Go.Stop Go.Extern
set_option linter.unusedVariables false

theorem errno_eq {P : Program} (w : World) {ti tn : TypeId} {ms : Array (String × TypeId)} {i : TypeInfo} {k : IntKind} (a b : Int)
    (hi : P.underlying ti = some (.interface ms)) (hn : P.underlying tn = some (.int k)) (hinfo : P.info? tn = some i) (hcomp : i.comparable = true) :
    (binOp .eql ti (.iface tn (.int k a)) (.iface tn (.int k b))).run P w = .ok (.bool (a == b)) w := by
  have h : ∀ d : Nat, (Op.equalIn (d + 2) ti (.iface tn (.int k a)) (.iface tn (.int k b))).run P w = .ok (a == b) w := fun d => by simp [Op.equalIn, run_underlying hi, run_underlying hn, typeInfo, hinfo, hcomp]
  simp only [binOp]
  simp [Op.equal, Op.maxDepth, h 9998]
theorem Try.eqN (a b : Int) (w : World) : (binOp .eql 38 (.iface 43 (.int .i64 a)) (.iface 43 (.int .i64 b))).run Try.prog w = .ok (.bool (a == b)) w := by
  obtain ⟨i, h1, h2⟩ := Option.map_eq_some_iff.1 (show (Try.prog.info? 43).map (·.comparable) = some true by kernel_rfl)
  exact errno_eq w a b Try.underlying38 Try.underlying43 h1 h2
theorem Try.methComparable (h : Value) (w : World) : (Go.method 284 125 (.agg #[h]) "Comparable").run Try.prog w = .ok (100, .agg #[h]) w := by kernel_rfl
theorem Try.comparableN (w : World) : (callFunc 100 #[.agg #[.pointer (some ⟨0, 43, none⟩)]]).run Try.prog w = .ok (Next.value (.bool true)) w := by kernel_rfl

set_option maxRecDepth 100000 in
set_option maxHeartbeats 2000000 in
theorem errors_isN (c d : Int) (w : World) : Calls Try.prog 41 #[.iface 43 (.int .i64 c), .iface 43 (.int .i64 d), .bool true] w (Ret (.bool (c == d)) w) := by
  have y1 := Try.eqN
  have y2 := Try.noIsN
  have y3 := Try.noUnwrapN
  have y4 := Try.noUnwrapsN
  go_enter Try.func41, Try.ntmps41
  go_wp2_with fail
  go_loopw [0] (fun v wr => v = .iface 43 (.int .i64 c) ∧ wr = w) (fun _ _ => 0)
  case atStart => exact ⟨rfl, rfl⟩
  case round =>
    obtain ⟨rfl, rfl⟩ := hrel
    by_cases h : c = d
    · have h' : (c == d) = true := by simpa using h
      have HH := Lib.hid h; clear h
      go_wp2_with fail
      go_ret
      exact ⟨by rw [h']; rfl, Below.refl _ _⟩
    · have h' : (c == d) = false := by simpa using h
      have HH := Lib.hid h; clear h
      go_wp2_with fail
      go_ret
      exact ⟨by rw [h']; rfl, Below.refl _ _⟩
set_option maxRecDepth 100000 in
set_option maxHeartbeats 2000000 in
theorem errors_IsN (c d : Int) (w : World) : Calls Try.prog 19 #[.iface 43 (.int .i64 c), .iface 43 (.int .i64 d)] w (Ret (.bool (c == d)) w) := by
  have h66 := @run_callFunc_extern Try.prog 40 _ ReflectliteType.typeOf Try.func40 (by kernel_rfl) (by kernel_rfl) (by kernel_rfl) (by kernel_rfl)
  have y1 := Try.typeOfN
  have y2 := Try.methComparable
  have y3 := Try.comparableN
  go_enter Try.func19, Try.ntmps19
  go_wp2_with fail
  refine (errors_isN c d _).mono ?_
  rintro e w' ⟨rfl, hb⟩
  go_wp2_with fail
  go_ret
  exact ⟨rfl, hb⟩
end Go.Proofs.Ytoiblgeheblddaa

