/- errors.Unwrap, errors.As at an Errno, and errors.Is at an Errno, as contracts. -/
import Derived.Test.YtbopakjiahojdaaGreatDoorErr
namespace Go.Proofs.YtbopakjiahojdaaGreatDoor
open Go.RowKit Go.Extern.Stop Go.Stop Go.Extern
set_option linter.unusedVariables false

theorem Tryz.methUnwrapF (v : Value) (w : World) : (Go.method 349 133 v "Unwrap").run Tryz.prog w = .ok (171, v) w := by kernel_rfl
theorem Tryz.nilUnwrapF (a : Addr) (w : World) : (nilAhead 349 133 (.pointer (some a)) "Unwrap").run Tryz.prog w = .ok (some false) w := by kernel_rfl
set_option maxHeartbeats 400000 in
theorem fault_unwrapM (blk : Nat) (v' : Value) (w : World) (h : w.cell? ⟨blk, 1, none⟩ = some v') :
    Calls Tryz.prog 171 #[.pointer (some ⟨blk, 0, none⟩)] w fun e w' => e = .returned v' ∧ w' = w := by
  go_enter Tryz.func171, Tryz.ntmps171
  go_wp2_with fail
  go_ret
  exact ⟨rfl, rfl⟩
set_option maxHeartbeats 400000 in
theorem errors_unwrapF (blk : Nat) (v' : Value) (w : World) (h : w.cell? ⟨blk, 1, none⟩ = some v') :
    Calls Tryz.prog 80 #[.iface 133 (.pointer (some ⟨blk, 0, none⟩))] w fun e w' => e = .returned v' ∧ w' = w := by
  have h1 := Tryz.hasUnwrapF
  have h2 := Tryz.methUnwrapF
  have h3 := Tryz.nilUnwrapF
  go_enter Tryz.func80, Tryz.ntmps80
  go_wp2_with fail
  refine (fault_unwrapM _ _ _ h).mono ?_
  rintro e w' ⟨rfl, rfl⟩
  go_wp2_with fail
  go_ret
  exact ⟨rfl, rfl⟩
set_option maxHeartbeats 400000 in
theorem errors_unwrapN (c : Value) (w : World) : Calls Tryz.prog 80 #[.iface 40 c] w (Ret .nilIface w) := by
  have h1 := Tryz.noUnwrapN
  go_enter Tryz.func80, Tryz.ntmps80
  go_wp2_with fail
  go_ret
  exact ⟨rfl, Below.refl _ _⟩

theorem Tryz.methAssign (h : Value) (w : World) : (Go.method 349 164 (.agg #[h]) "AssignableTo").run Tryz.prog w = .ok (173, .agg #[h]) w := by kernel_rfl
theorem Tryz.methKind (h : Value) (w : World) : (Go.method 349 164 (.agg #[h]) "Kind").run Tryz.prog w = .ok (149, h) w := by kernel_rfl
theorem Tryz.methElem (h : Value) (w : World) : (Go.method 349 164 (.agg #[h]) "Elem").run Tryz.prog w = .ok (175, .agg #[h]) w := by kernel_rfl
theorem Tryz.methImplements (h : Value) (w : World) : (Go.method 349 164 (.agg #[h]) "Implements").run Tryz.prog w = .ok (176, .agg #[h]) w := by kernel_rfl

def refTV (a : Nat) : Value := .agg #[.pointer (some ⟨4, 84, none⟩), .pointer (some ⟨a, 0, none⟩), .int .u64 150]
/-- where errors.as ends: it has set the target, or it has not -/
def AsPost (T : Nat) (t : Option Int) (w : World) (e : Ending) (w' : World) : Prop :=
  match t with
  | some c => e = .returned (.bool true) ∧ ∃ w1, Below w.heap.size w w1 ∧ w' = w1.setCell ⟨T, 0, none⟩ (.int .i64 c)
  | none => e = .returned (.bool false) ∧ Below w.heap.size w w'

set_option maxRecDepth 100000 in
set_option maxHeartbeats 4000000 in
theorem errors_as1 (T bV : Nat) (old : Int) (t : Option Int) (l : List (Option Int)) (v : Value) (w : World) (hv : ErrV w l t v) (hn : noErr l t = false)
    (hT : Blk w T [.int .i64 old] 40) (hV : w.cell? ⟨bV, 0, none⟩ = some (.pointer (some ⟨T, 0, none⟩))) :
    Calls Tryz.prog 76 #[v, .iface 84 (.pointer (some ⟨T, 0, none⟩)), refTV bV, .iface 164 (.agg #[.pointer (some ⟨4, 40, none⟩)])] w (AsPost T t w) := by
  have x45 := @run_callFunc_extern Tryz.prog 73 _ (fun args => ReflectliteValue.unpack (args.getD 0 (.tuple #[]))) Tryz.func73 (by kernel_rfl) (by kernel_rfl) (by kernel_rfl) (by kernel_rfl)
  have x66 := @run_callFunc_extern Tryz.prog 103 _ ReflectliteType.typeOf Tryz.func103 (by kernel_rfl) (by kernel_rfl) (by kernel_rfl) (by kernel_rfl)
  have x35 := @run_callFunc_extern Tryz.prog 173 _ (ReflectliteType.relation "AssignableTo" ReflectliteType.assignableTo) Tryz.func173 (by kernel_rfl) (by kernel_rfl) (by kernel_rfl) (by kernel_rfl)
  have x11 := @run_callFunc_extern Tryz.prog 104 _ (ReflectliteValue.method (ReflectliteValue.valueError "reflectlite.Value.Elem" 0) ReflectliteValue.elem) Tryz.func104 (by kernel_rfl) (by kernel_rfl) (by kernel_rfl) (by kernel_rfl)
  have x12 := @run_callFunc_extern Tryz.prog 105 _ ReflectliteValue.set Tryz.func105 (by kernel_rfl) (by kernel_rfl) (by kernel_rfl) (by kernel_rfl)
  have y1 := Tryz.typeOfN
  have y2 := Tryz.typeOfF
  have y4 := Tryz.assignN
  have y5 := Tryz.assignF
  have y7 := Tryz.methAssign
  have y8 := Tryz.valueOfN
  have y9 := Tryz.noAsF
  have y10 := Tryz.hasUnwrapF
  have y11 := Tryz.methUnwrapF
  unfold refTV
  go_enter Tryz.func76, Tryz.ntmps76
  go_wp2_with fail
  have kV := Blk.new w [.pointer (some ⟨4, 84, none⟩), .pointer (some ⟨bV, 0, none⟩), .int .u64 150] 123
  have hB := Bl.box w (.cells #[.pointer (some ⟨4, 84, none⟩), .pointer (some ⟨bV, 0, none⟩), .int .u64 150] 123)
  obtain ⟨W, hW⟩ : ∃ W, w.alloc (.cells #[.pointer (some ⟨4, 84, none⟩), .pointer (some ⟨bV, 0, none⟩), .int .u64 150] 123) = W := ⟨_, rfl⟩
  change Blk (w.alloc (.cells #[.pointer (some ⟨4, 84, none⟩), .pointer (some ⟨bV, 0, none⟩), .int .u64 150] 123)) _ _ _ at kV
  rw [hW] at kV hB ⊢
  have hT1 := hT.below hB
  have hV1 := getC hB hV
  have hv1 := hv.below hB
  clear hW hT hV hv
  go_loopg [0] l.length (fun k x wr => ∃ l', l'.length = k ∧ ErrV wr l' t x ∧ noErr l' t = false ∧ Below W.heap.size W wr)
  case atStart => exact ⟨l, rfl, hv1, hn, Below.refl _ _⟩
  case round =>
    obtain ⟨l', hk, hx, hne, hbr⟩ := hrel
    have kT := hT1.below hbr
    have kW := kV.below hbr
    have cV := getC hbr hV1
    have cT := kT.cell (i := 0) rfl
    have fT := kT.frozen 0
    have c60 := kW.cell (i := 0) rfl
    have c61 := kW.cell (i := 1) rfl
    have c62 := kW.cell (i := 2) rfl
    have HK := Lib.hid hk; clear hk
    match l', hx, hne with
    | [], hx, hne =>
      cases t with
      | none => simp [noErr] at hne
      | some c =>
        obtain rfl : u0 = _ := hx
        have z1 := Tryz.elemVPN ⟨bV, 0, none⟩ ⟨T, 0, none⟩ wr cV
        have z2 := Tryz.setN ⟨T, 0, none⟩ ⟨wr.heap.size, 0, none⟩ c (.int .i64 old) (wr.alloc (.cells #[.int .i64 c] 40)) ((Blk.new wr [.int .i64 c] 40).cell (i := 0) rfl) (getA _ cT) ((kT.alloc _).frozen 0)
        go_wp2_with fail
        go_ret
        exact ⟨rfl, _, Bl.next hB (Bl.next hbr (Bl.box _ _)), rfl⟩
    | some b :: r, hx, _ =>
      obtain ⟨blk, v', rfl, hk, h3⟩ := hx
      have h1 := hk.cell (i := 0) rfl
      have h2 := hk.cell (i := 1) rfl
      go_wp2_with fail
      refine (fault_unwrapM _ _ _ h2).mono ?_
      rintro e w' ⟨rfl, rfl⟩
      rcases h3.nil_or with ⟨hz, rfl⟩ | ⟨hz, ty, x, rfl⟩
      · obtain ⟨rfl, rfl⟩ := noErr_true hz
        go_wp2_with fail
        go_ret
        exact ⟨rfl, Bl.next hB hbr⟩
      · go_wp2_with fail
        change _ = _ at HK
        go_roundg r.length
        case measure => rw [← HK]; simp
        case rel => exact ⟨r, rfl, h3, hz, hbr⟩
    | none :: r, hx, _ => exact hx.elim
end Go.Proofs.YtbopakjiahojdaaGreatDoor

