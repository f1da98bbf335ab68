/- Errors as the program has them: what errors.As, errors.Is and errors.Unwrap of Go's library return at a chain of Faults over an Errno, at a nil error, and where one of another kind stands between. -/
import Derived.Test.YtbopakjiahojdaaGreatDoorProg
import Derived.Test.YtbopakjiahojdaaGreatDoorRange
import Derived.LaidEql
import Derived.Stop.Asserts
import Derived.RowKitTokens
import Derived.Deep.LoopGhost
namespace Go.Proofs.YtbopakjiahojdaaGreatDoor
open Go.RowKit Go.Extern.Stop Go.Stop Go.Extern
set_option linter.unusedVariables false

/-- v is an error: Faults at the blocks of the list (no number: an error of another kind that wraps one), an Errno below, or nothing. -/
def ErrV (w : World) : List (Option Int) → Option Int → Value → Prop
  | [], none, v => v = .nilIface
  | [], some c, v => v = .iface 40 (.int .i64 c)
  | some b :: r, t, v => ∃ blk v', v = .iface 133 (.pointer (some ⟨blk, 0, none⟩)) ∧ Blk w blk [.int .i64 b, v'] 136 ∧ ErrV w r t v'
  | none :: r, t, v => False
theorem ErrV.kept {w w' : World} (hb : ∀ blk cs, Blk w blk cs 136 → Blk w' blk cs 136) : ∀ {l : List (Option Int)} {t : Option Int} {v : Value}, ErrV w l t v → ErrV w' l t v
  | [], none, v, h => h
  | [], some c, v, h => h
  | some b :: r, t, v, ⟨blk, v', h1, h2, h4⟩ => ⟨blk, v', h1, hb _ _ h2, ErrV.kept hb h4⟩
  | none :: r, t, v, h => h.elim
theorem ErrV.below {w w' : World} (hb : Below w.heap.size w w') {l : List (Option Int)} {t : Option Int} {v : Value} (h : ErrV w l t v) : ErrV w' l t v := h.kept fun _ _ k => k.below hb
/-- whether there is an error -/
def noErr (l : List (Option Int)) (t : Option Int) : Bool := l.isEmpty && t.isNone
theorem ErrV.nil_or {w : World} {l : List (Option Int)} {t : Option Int} {v : Value} (h : ErrV w l t v) : (noErr l t = true ∧ v = .nilIface) ∨ (noErr l t = false ∧ ∃ ty x, v = .iface ty x) := by
  match l, t, h with
  | [], none, h => exact .inl ⟨rfl, h⟩
  | [], some c, h => exact .inr ⟨rfl, _, _, h⟩
  | some b :: r, t, ⟨_, _, h, _⟩ => exact .inr ⟨rfl, _, _, h⟩
  | none :: r, t, h => exact h.elim
theorem noErr_true {l : List (Option Int)} {t : Option Int} (h : noErr l t = true) : l = [] ∧ t = none := by
  cases l <;> cases t <;> simp_all [noErr]

/-! ### what the model's entries for internal/reflectlite give at these types -/
theorem Tryz.valueOfPN (t : Addr) (w : World) : (ReflectliteValue.unpack (.iface 84 (.pointer (some t)))).run Tryz.prog w
    = .ok (.agg #[.pointer (some ⟨4, 84, none⟩), .pointer (some ⟨w.heap.size, 0, none⟩), .int .u64 150]) (w.alloc (.cells #[.pointer (some t)] 84)) := by kernel_rfl
theorem Tryz.typePN (a : Addr) (w : World) : (ReflectliteValue.methodAny (ReflectliteValue.valueError "reflectlite.Value.Type" 0) (fun t _ _ _ => ReflectliteType.toType t) #[.agg #[.pointer (some ⟨4, 84, none⟩), .pointer (some a), .int .u64 150]]).run Tryz.prog w
    = .ok (.iface 164 (.agg #[.pointer (some ⟨4, 84, none⟩)])) w := by kernel_rfl
theorem Tryz.kindPN (w : World) : ((ReflectliteType.abiMethod fun t => (fun a : Nat => Value.int IntKind.u8 (a : Int)) <$> Rtype.kind t) #[.pointer (some ⟨4, 84, none⟩)]).run Tryz.prog w = .ok (.int .u8 22) w := by kernel_rfl
theorem Tryz.kindN (w : World) : ((ReflectliteType.abiMethod fun t => (fun a : Nat => Value.int IntKind.u8 (a : Int)) <$> Rtype.kind t) #[.pointer (some ⟨4, 40, none⟩)]).run Tryz.prog w = .ok (.int .u8 2) w := by kernel_rfl
theorem as_rlm (z : Sem Value) (f : TypeId → Addr → Nat → Nat → Sem Value) (v : Value) :
    ReflectliteValue.method z f #[v] = (do match ← ReflectliteValue.parts v with | none => z | some (t, a, fl) => f t a fl (fl % 32)) := rfl
theorem Tryz.partsPN (a : Addr) (w : World) : (ReflectliteValue.parts (.agg #[.pointer (some ⟨4, 84, none⟩), .pointer (some a), .int .u64 150])).run Tryz.prog w = .ok (some (84, a, 150)) w := by kernel_rfl
theorem Tryz.isNilPN (a p : Addr) (W : World) (ha : W.cell? a = some (.pointer (some p))) :
    (ReflectliteValue.method (ReflectliteValue.valueError "reflectlite.Value.IsNil" 0) ReflectliteValue.isNil #[.agg #[.pointer (some ⟨4, 84, none⟩), .pointer (some a), .int .u64 150]]).run Tryz.prog W = .ok (.bool false) W := by
  rw [as_rlm]
  simp only [Sem.run_bind, Tryz.partsPN, Result.andThen]
  simp [ReflectliteValue.isNil, loadVar, isAgg, underlying, Tryz.underlying84, ha, Result.andThen]
theorem Tryz.elemPN (w : World) : (ReflectliteType.method ReflectliteType.elem #[.agg #[.pointer (some ⟨4, 84, none⟩)]]).run Tryz.prog w = .ok (.iface 164 (.agg #[.pointer (some ⟨4, 40, none⟩)])) w := by kernel_rfl
theorem Tryz.implementsN (w : World) : (ReflectliteType.relation "Implements" ReflectliteType.implements_ #[.agg #[.pointer (some ⟨4, 40, none⟩)], .iface 164 (.agg #[.pointer (some ⟨4, 37, none⟩)])]).run Tryz.prog w = .ok (.bool true) w := by kernel_rfl
theorem Tryz.typeOfN (v : Value) (w : World) : (ReflectliteType.typeOf #[.iface 40 v]).run Tryz.prog w = .ok (.iface 164 (.agg #[.pointer (some ⟨4, 40, none⟩)])) w := by kernel_rfl
theorem Tryz.typeOfF (v : Value) (w : World) : (ReflectliteType.typeOf #[.iface 133 v]).run Tryz.prog w = .ok (.iface 164 (.agg #[.pointer (some ⟨4, 133, none⟩)])) w := by kernel_rfl
theorem Tryz.assignN (w : World) : (ReflectliteType.relation "AssignableTo" ReflectliteType.assignableTo #[.agg #[.pointer (some ⟨4, 40, none⟩)], .iface 164 (.agg #[.pointer (some ⟨4, 40, none⟩)])]).run Tryz.prog w = .ok (.bool true) w := by kernel_rfl
theorem Tryz.assignF (w : World) : (ReflectliteType.relation "AssignableTo" ReflectliteType.assignableTo #[.agg #[.pointer (some ⟨4, 133, none⟩)], .iface 164 (.agg #[.pointer (some ⟨4, 40, none⟩)])]).run Tryz.prog w = .ok (.bool false) w := by kernel_rfl
theorem Tryz.valueOfN (c : Int) (w : World) : (ReflectliteValue.unpack (.iface 40 (.int .i64 c))).run Tryz.prog w
    = .ok (.agg #[.pointer (some ⟨4, 40, none⟩), .pointer (some ⟨w.heap.size, 0, none⟩), .int .u64 130]) (w.alloc (.cells #[.int .i64 c] 40)) := by kernel_rfl
theorem Tryz.elemOfPN (w : World) : (Rtype.elem? 84).run Tryz.prog w = .ok (some 40) w := by kernel_rfl
theorem Tryz.mkN (p : Addr) (w : World) : (ReflectliteValue.mk 40 p ReflectliteValue.flagAddr).run Tryz.prog w = .ok (.agg #[.pointer (some ⟨4, 40, none⟩), .pointer (some p), .int .u64 386]) w := by kernel_rfl
theorem Tryz.elemVPN (a p : Addr) (W : World) (ha : W.cell? a = some (.pointer (some p))) :
    (ReflectliteValue.method (ReflectliteValue.valueError "reflectlite.Value.Elem" 0) ReflectliteValue.elem #[.agg #[.pointer (some ⟨4, 84, none⟩), .pointer (some a), .int .u64 150]]).run Tryz.prog W
      = .ok (.agg #[.pointer (some ⟨4, 40, none⟩), .pointer (some p), .int .u64 386]) W := by
  rw [as_rlm]
  simp only [Sem.run_bind, Tryz.partsPN, Result.andThen]
  simp [ReflectliteValue.elem, loadVar, isAgg, underlying, Tryz.underlying84, ha, Result.andThen, Tryz.elemOfPN, Tryz.mkN]
theorem as_rls (v x : Value) : ReflectliteValue.set #[v, x] = (do
    let (some (dst, a, fl), some (src, b, _)) := (← ReflectliteValue.parts v, ← ReflectliteValue.parts x)
      | unsupported (.noEntry "extern/(internal/reflectlite.Value).Set.zeroValue")
    if fl / ReflectliteValue.flagAddr % 2 == 0 then unsupported (.noEntry "extern/(internal/reflectlite.Value).Set.unaddressable")
    let val ← loadVar src b
    if ← Rtype.directlyAssignable dst src then storeVar dst a val
    else if ← Rtype.implements dst src then
      if (← Rtype.kind src) == 20 then
        match val with
        | .nilIface => unsupported (.noEntry "extern/reflectlite: a nil value of one interface type handed on as a value of another")
        | _ => storeVar dst a val
      else storeVar dst a (.iface src val)
    else panicString ("reflectlite.Set: value of type " ++ (← Rtype.spelt src) ++ " is not assignable to type " ++ (← Rtype.spelt dst))
    pure (.tuple #[])) := rfl
theorem Tryz.partsNa (a : Addr) (w : World) : (ReflectliteValue.parts (.agg #[.pointer (some ⟨4, 40, none⟩), .pointer (some a), .int .u64 386])).run Tryz.prog w = .ok (some (40, a, 386)) w := by kernel_rfl
theorem Tryz.partsN (a : Addr) (w : World) : (ReflectliteValue.parts (.agg #[.pointer (some ⟨4, 40, none⟩), .pointer (some a), .int .u64 130])).run Tryz.prog w = .ok (some (40, a, 130)) w := by kernel_rfl
theorem Tryz.directN (w : World) : (Rtype.directlyAssignable 40 40).run Tryz.prog w = .ok true w := by kernel_rfl
theorem Tryz.setN (ta b : Addr) (c : Int) (old : Value) (W : World) (hb : W.cell? b = some (.int .i64 c)) (ht : W.cell? ta = some old) (hf : W.frozen? ta = false) :
    (ReflectliteValue.set #[.agg #[.pointer (some ⟨4, 40, none⟩), .pointer (some ta), .int .u64 386], .agg #[.pointer (some ⟨4, 40, none⟩), .pointer (some b), .int .u64 130]]).run Tryz.prog W
      = .ok (.tuple #[]) (W.setCell ta (.int .i64 c)) := by
  rw [as_rls]
  simp only [Sem.run_bind, Tryz.partsNa, Tryz.partsN, Result.andThen]
  simp [ReflectliteValue.flagAddr, loadVar, isAgg, underlying, Tryz.underlying40, hb, Result.andThen, Tryz.directN, storeVar, Value.cells, storeCells, Addr.add]
  rw [run_store Tryz.prog W ta _ _ (by rfl)]
  simp [ht, hf]

/-! ### what the library's assertions find -/
theorem Tryz.noAsF (v : Value) (xT : TypeId) (w : World) : (Instr.typeAssert (.iface 133 v) xT 169 true).run Tryz.prog w = .ok (.tuple #[.nilIface, .bool false]) w := run_typeAssert_lacksB Tryz.underlying169 (by kernel_rfl) (by kernel_rfl) v xT w
theorem Tryz.noIsF (v : Value) (xT : TypeId) (w : World) : (Instr.typeAssert (.iface 133 v) xT 204 true).run Tryz.prog w = .ok (.tuple #[.nilIface, .bool false]) w := run_typeAssert_lacksB Tryz.underlying204 (by kernel_rfl) (by kernel_rfl) v xT w
theorem Tryz.hasUnwrapF (v : Value) (xT : TypeId) (w : World) : (Instr.typeAssert (.iface 133 v) xT 172 true).run Tryz.prog w = .ok (.tuple #[.iface 133 v, .bool true]) w := run_typeAssert_hasB Tryz.underlying172 (by kernel_rfl) v xT w
theorem Tryz.noIsN (v : Value) (xT : TypeId) (w : World) : (Instr.typeAssert (.iface 40 v) xT 204 true).run Tryz.prog w = .ok (.tuple #[.nilIface, .bool false]) w := run_typeAssert_lacksB Tryz.underlying204 (by kernel_rfl) (by kernel_rfl) v xT w
theorem Tryz.noUnwrapN (v : Value) (xT : TypeId) (w : World) : (Instr.typeAssert (.iface 40 v) xT 172 true).run Tryz.prog w = .ok (.tuple #[.nilIface, .bool false]) w := run_typeAssert_lacksB Tryz.underlying172 (by kernel_rfl) (by kernel_rfl) v xT w
theorem Tryz.noUnwrapsN (v : Value) (xT : TypeId) (w : World) : (Instr.typeAssert (.iface 40 v) xT 174 true).run Tryz.prog w = .ok (.tuple #[.nilIface, .bool false]) w := run_typeAssert_lacksB Tryz.underlying174 (by kernel_rfl) (by kernel_rfl) v xT w
theorem Tryz.isFF (v : Value) (w : World) : (Instr.typeAssert (.iface 133 v) 37 133 true).run Tryz.prog w = .ok (.tuple #[v, .bool true]) w := by kernel_rfl
theorem Tryz.isNF (v : Value) (w : World) : (Instr.typeAssert (.iface 40 v) 37 133 true).run Tryz.prog w = .ok (.tuple #[.pointer none, .bool false]) w := by kernel_rfl
theorem Tryz.isnilF (w : World) : (Instr.typeAssert .nilIface 37 133 true).run Tryz.prog w = .ok (.tuple #[.pointer none, .bool false]) w := by kernel_rfl

end Go.Proofs.YtbopakjiahojdaaGreatDoor

