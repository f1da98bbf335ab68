/- errors.Unwrap, errors.As at an Errno, and errors.Is at an Errno, as contracts. -/
import Derived.Test.YtoiblgeheblddaaErr
namespace Go.Proofs.Ytoiblgeheblddaa
open Go.RowKit Go.Extern.Stop Go.Stop Go.Extern
set_option linter.unusedVariables false

theorem Try.methUnwrapF (v : Value) (w : World) : (Go.method 284 61 v "Unwrap").run Try.prog w = .ok (96, v) w := by kernel_rfl
theorem Try.nilUnwrapF (a : Addr) (w : World) : (nilAhead 284 61 (.pointer (some a)) "Unwrap").run Try.prog w = .ok (some false) w := by kernel_rfl
set_option maxHeartbeats 400000 in
theorem fault_unwrapM (blk : Nat) (v' : Value) (w : World) (h : w.cell? ⟨blk, 1, none⟩ = some v') :
    Calls Try.prog 96 #[.pointer (some ⟨blk, 0, none⟩)] w fun e w' => e = .returned v' ∧ w' = w := by
  go_enter Try.func96, Try.ntmps96
  go_wp2_with fail
  go_ret
  exact ⟨rfl, rfl⟩
set_option maxHeartbeats 400000 in
theorem errors_unwrapF (blk : Nat) (v' : Value) (w : World) (h : w.cell? ⟨blk, 1, none⟩ = some v') :
    Calls Try.prog 18 #[.iface 61 (.pointer (some ⟨blk, 0, none⟩))] w fun e w' => e = .returned v' ∧ w' = w := by
  have h1 := Try.hasUnwrapF
  have h2 := Try.methUnwrapF
  have h3 := Try.nilUnwrapF
  go_enter Try.func18, Try.ntmps18
  go_wp2_with fail
  refine (fault_unwrapM _ _ _ h).mono ?_
  rintro e w' ⟨rfl, rfl⟩
  go_wp2_with fail
  go_ret
  exact ⟨rfl, rfl⟩
set_option maxHeartbeats 400000 in
theorem errors_unwrapN (c : Value) (w : World) : Calls Try.prog 18 #[.iface 43 c] w (Ret .nilIface w) := by
  have h1 := Try.noUnwrapN
  go_enter Try.func18, Try.ntmps18
  go_wp2_with fail
  go_ret
  exact ⟨rfl, Below.refl _ _⟩

theorem Try.methAssign (h : Value) (w : World) : (Go.method 284 125 (.agg #[h]) "AssignableTo").run Try.prog w = .ok (99, .agg #[h]) w := by kernel_rfl
theorem Try.methKind (h : Value) (w : World) : (Go.method 284 125 (.agg #[h]) "Kind").run Try.prog w = .ok (97, h) w := by kernel_rfl
theorem Try.methElem (h : Value) (w : World) : (Go.method 284 125 (.agg #[h]) "Elem").run Try.prog w = .ok (101, .agg #[h]) w := by kernel_rfl
theorem Try.methImplements (h : Value) (w : World) : (Go.method 284 125 (.agg #[h]) "Implements").run Try.prog w = .ok (102, .agg #[h]) w := by kernel_rfl

/-- where errors.as ends: it has set the target, or it has not -/
def AsPost (T : Nat) (t : Option Int) (w : World) (e : Ending) (w' : World) : Prop :=
  match t with
  | some c => e = .returned (.bool true) ∧ ∃ w1, Below w.heap.size w w1 ∧ w' = w1.setCell ⟨T, 0, none⟩ (.int .i64 c)
  | none => e = .returned (.bool false) ∧ Below w.heap.size w w'

end Go.Proofs.Ytoiblgeheblddaa

