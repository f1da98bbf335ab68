/- Errors as the program has them: what errors.As, errors.Is and errors.Unwrap of Go's library return at a chain of Faults over an Errno, at a nil error, and where one of another kind stands between. -/
import Derived.Test.YtoiblgeheblddaaProg
import Derived.Test.YtoiblgeheblddaaRange
import Derived.LaidEql
import Derived.Stop.Asserts
import Derived.RowKitTokens
import Derived.Deep.LoopGhost
namespace Go.Proofs.Ytoiblgeheblddaa
open Go.RowKit Go.Extern.Stop Go.Stop Go.Extern
set_option linter.unusedVariables false

/-- v is an error: Faults at the blocks of the list (no number: an error of another kind that wraps one), an Errno below, or nothing. -/
def ErrV (w : World) : List (Option Int) → Option Int → Value → Prop
  | [], none, v => v = .nilIface
  | [], some c, v => v = .iface 43 (.int .i64 c)
  | some b :: r, t, v => ∃ blk v', v = .iface 61 (.pointer (some ⟨blk, 0, none⟩)) ∧ Blk w blk [.int .i64 b, v'] 64 ∧ ErrV w r t v'
  | none :: r, t, v => False
theorem ErrV.kept {w w' : World} (hb : ∀ blk cs, Blk w blk cs 64 → Blk w' blk cs 64) : ∀ {l : List (Option Int)} {t : Option Int} {v : Value}, ErrV w l t v → ErrV w' l t v
  | [], none, v, h => h
  | [], some c, v, h => h
  | some b :: r, t, v, ⟨blk, v', h1, h2, h4⟩ => ⟨blk, v', h1, hb _ _ h2, ErrV.kept hb h4⟩
  | none :: r, t, v, h => h.elim
theorem ErrV.below {w w' : World} (hb : Below w.heap.size w w') {l : List (Option Int)} {t : Option Int} {v : Value} (h : ErrV w l t v) : ErrV w' l t v := h.kept fun _ _ k => k.below hb
/-- whether there is an error -/
def noErr (l : List (Option Int)) (t : Option Int) : Bool := l.isEmpty && t.isNone
theorem ErrV.nil_or {w : World} {l : List (Option Int)} {t : Option Int} {v : Value} (h : ErrV w l t v) : (noErr l t = true ∧ v = .nilIface) ∨ (noErr l t = false ∧ ∃ ty x, v = .iface ty x) := by
  match l, t, h with
  | [], none, h => exact .inl ⟨rfl, h⟩
  | [], some c, h => exact .inr ⟨rfl, _, _, h⟩
  | some b :: r, t, ⟨_, _, h, _⟩ => exact .inr ⟨rfl, _, _, h⟩
  | none :: r, t, h => exact h.elim
theorem noErr_true {l : List (Option Int)} {t : Option Int} (h : noErr l t = true) : l = [] ∧ t = none := by
  cases l <;> cases t <;> simp_all [noErr]

/-! ### what the model's entries for internal/reflectlite give at these types -/
theorem Try.kindN (w : World) : ((ReflectliteType.abiMethod fun t => (fun a : Nat => Value.int IntKind.u8 (a : Int)) <$> Rtype.kind t) #[.pointer (some ⟨0, 43, none⟩)]).run Try.prog w = .ok (.int .u8 2) w := by kernel_rfl
theorem as_rlm (z : Sem Value) (f : TypeId → Addr → Nat → Nat → Sem Value) (v : Value) :
    ReflectliteValue.method z f #[v] = (do match ← ReflectliteValue.parts v with | none => z | some (t, a, fl) => f t a fl (fl % 32)) := rfl
theorem Try.implementsN (w : World) : (ReflectliteType.relation "Implements" ReflectliteType.implements_ #[.agg #[.pointer (some ⟨0, 43, none⟩)], .iface 125 (.agg #[.pointer (some ⟨0, 38, none⟩)])]).run Try.prog w = .ok (.bool true) w := by kernel_rfl
theorem Try.typeOfN (v : Value) (w : World) : (ReflectliteType.typeOf #[.iface 43 v]).run Try.prog w = .ok (.iface 125 (.agg #[.pointer (some ⟨0, 43, none⟩)])) w := by kernel_rfl
theorem Try.typeOfF (v : Value) (w : World) : (ReflectliteType.typeOf #[.iface 61 v]).run Try.prog w = .ok (.iface 125 (.agg #[.pointer (some ⟨0, 61, none⟩)])) w := by kernel_rfl
theorem Try.assignN (w : World) : (ReflectliteType.relation "AssignableTo" ReflectliteType.assignableTo #[.agg #[.pointer (some ⟨0, 43, none⟩)], .iface 125 (.agg #[.pointer (some ⟨0, 43, none⟩)])]).run Try.prog w = .ok (.bool true) w := by kernel_rfl
theorem Try.assignF (w : World) : (ReflectliteType.relation "AssignableTo" ReflectliteType.assignableTo #[.agg #[.pointer (some ⟨0, 61, none⟩)], .iface 125 (.agg #[.pointer (some ⟨0, 43, none⟩)])]).run Try.prog w = .ok (.bool false) w := by kernel_rfl
theorem Try.valueOfN (c : Int) (w : World) : (ReflectliteValue.unpack (.iface 43 (.int .i64 c))).run Try.prog w
    = .ok (.agg #[.pointer (some ⟨0, 43, none⟩), .pointer (some ⟨w.heap.size, 0, none⟩), .int .u64 130]) (w.alloc (.cells #[.int .i64 c] 43)) := by kernel_rfl
theorem Try.mkN (p : Addr) (w : World) : (ReflectliteValue.mk 43 p ReflectliteValue.flagAddr).run Try.prog w = .ok (.agg #[.pointer (some ⟨0, 43, none⟩), .pointer (some p), .int .u64 386]) w := by kernel_rfl
theorem as_rls (v x : Value) : ReflectliteValue.set #[v, x] = (do
    let (some (dst, a, fl), some (src, b, _)) := (← ReflectliteValue.parts v, ← ReflectliteValue.parts x)
      | unsupported (.noEntry "extern/(internal/reflectlite.Value).Set.zeroValue")
    if fl / ReflectliteValue.flagAddr % 2 == 0 then unsupported (.noEntry "extern/(internal/reflectlite.Value).Set.unaddressable")
    let val ← loadVar src b
    if ← Rtype.directlyAssignable dst src then storeVar dst a val
    else if ← Rtype.implements dst src then
      if (← Rtype.kind src) == 20 then
        match val with
        | .nilIface => unsupported (.noEntry "extern/reflectlite: a nil value of one interface type handed on as a value of another")
        | _ => storeVar dst a val
      else storeVar dst a (.iface src val)
    else panicString ("reflectlite.Set: value of type " ++ (← Rtype.spelt src) ++ " is not assignable to type " ++ (← Rtype.spelt dst))
    pure (.tuple #[])) := rfl
theorem Try.partsNa (a : Addr) (w : World) : (ReflectliteValue.parts (.agg #[.pointer (some ⟨0, 43, none⟩), .pointer (some a), .int .u64 386])).run Try.prog w = .ok (some (43, a, 386)) w := by kernel_rfl
theorem Try.partsN (a : Addr) (w : World) : (ReflectliteValue.parts (.agg #[.pointer (some ⟨0, 43, none⟩), .pointer (some a), .int .u64 130])).run Try.prog w = .ok (some (43, a, 130)) w := by kernel_rfl
theorem Try.directN (w : World) : (Rtype.directlyAssignable 43 43).run Try.prog w = .ok true w := by kernel_rfl
theorem Try.setN (ta b : Addr) (c : Int) (old : Value) (W : World) (hb : W.cell? b = some (.int .i64 c)) (ht : W.cell? ta = some old) (hf : W.frozen? ta = false) :
    (ReflectliteValue.set #[.agg #[.pointer (some ⟨0, 43, none⟩), .pointer (some ta), .int .u64 386], .agg #[.pointer (some ⟨0, 43, none⟩), .pointer (some b), .int .u64 130]]).run Try.prog W
      = .ok (.tuple #[]) (W.setCell ta (.int .i64 c)) := by
  rw [as_rls]
  simp only [Sem.run_bind, Try.partsNa, Try.partsN, Result.andThen]
  simp [ReflectliteValue.flagAddr, loadVar, isAgg, underlying, Try.underlying43, hb, Result.andThen, Try.directN, storeVar, Value.cells, storeCells, Addr.add]
  rw [run_store Try.prog W ta _ _ (by rfl)]
  simp [ht, hf]

/-! ### what the library's assertions find -/
theorem Try.noIsF (v : Value) (xT : TypeId) (w : World) : (Instr.typeAssert (.iface 61 v) xT 127 true).run Try.prog w = .ok (.tuple #[.nilIface, .bool false]) w := run_typeAssert_lacksB Try.underlying127 (by kernel_rfl) (by kernel_rfl) v xT w
theorem Try.hasUnwrapF (v : Value) (xT : TypeId) (w : World) : (Instr.typeAssert (.iface 61 v) xT 90 true).run Try.prog w = .ok (.tuple #[.iface 61 v, .bool true]) w := run_typeAssert_hasB Try.underlying90 (by kernel_rfl) v xT w
theorem Try.noIsN (v : Value) (xT : TypeId) (w : World) : (Instr.typeAssert (.iface 43 v) xT 127 true).run Try.prog w = .ok (.tuple #[.nilIface, .bool false]) w := run_typeAssert_lacksB Try.underlying127 (by kernel_rfl) (by kernel_rfl) v xT w
theorem Try.noUnwrapN (v : Value) (xT : TypeId) (w : World) : (Instr.typeAssert (.iface 43 v) xT 90 true).run Try.prog w = .ok (.tuple #[.nilIface, .bool false]) w := run_typeAssert_lacksB Try.underlying90 (by kernel_rfl) (by kernel_rfl) v xT w
theorem Try.noUnwrapsN (v : Value) (xT : TypeId) (w : World) : (Instr.typeAssert (.iface 43 v) xT 130 true).run Try.prog w = .ok (.tuple #[.nilIface, .bool false]) w := run_typeAssert_lacksB Try.underlying130 (by kernel_rfl) (by kernel_rfl) v xT w
theorem Try.isFF (v : Value) (w : World) : (Instr.typeAssert (.iface 61 v) 38 61 true).run Try.prog w = .ok (.tuple #[v, .bool true]) w := by kernel_rfl
theorem Try.isNF (v : Value) (w : World) : (Instr.typeAssert (.iface 43 v) 38 61 true).run Try.prog w = .ok (.tuple #[.pointer none, .bool false]) w := by kernel_rfl
theorem Try.isnilF (w : World) : (Instr.typeAssert .nilIface 38 61 true).run Try.prog w = .ok (.tuple #[.pointer none, .bool false]) w := by kernel_rfl

end Go.Proofs.Ytoiblgeheblddaa

