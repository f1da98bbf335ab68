/- errors.Unwrap, errors.As at an Errno, and errors.Is at an Errno, as contracts. -/
import Derived.Test.YtlmogdjcnbjhfaaDoorErr
namespace Go.Proofs.YtlmogdjcnbjhfaaDoor
open Go.RowKit Go.Extern.Stop Go.Stop Go.Extern
set_option linter.unusedVariables false

theorem Tryd.methUnwrapF (v : Value) (w : World) : (Go.method 267 128 v "Unwrap").run Tryd.prog w = .ok (99, v) w := by kernel_rfl
theorem Tryd.nilUnwrapF (a : Addr) (w : World) : (nilAhead 267 128 (.pointer (some a)) "Unwrap").run Tryd.prog w = .ok (some false) w := by kernel_rfl
set_option maxHeartbeats 400000 in
theorem fault_unwrapM (blk : Nat) (v' : Value) (w : World) (h : w.cell? ⟨blk, 1, none⟩ = some v') :
    Calls Tryd.prog 99 #[.pointer (some ⟨blk, 0, none⟩)] w fun e w' => e = .returned v' ∧ w' = w := by
  go_enter Tryd.func99, Tryd.ntmps99
  go_wp2_with fail
  go_ret
  exact ⟨rfl, rfl⟩
theorem Tryd.methAssign (h : Value) (w : World) : (Go.method 267 92 (.agg #[h]) "AssignableTo").run Tryd.prog w = .ok (88, .agg #[h]) w := by kernel_rfl
theorem Tryd.methKind (h : Value) (w : World) : (Go.method 267 92 (.agg #[h]) "Kind").run Tryd.prog w = .ok (80, h) w := by kernel_rfl
theorem Tryd.methElem (h : Value) (w : World) : (Go.method 267 92 (.agg #[h]) "Elem").run Tryd.prog w = .ok (90, .agg #[h]) w := by kernel_rfl
theorem Tryd.methImplements (h : Value) (w : World) : (Go.method 267 92 (.agg #[h]) "Implements").run Tryd.prog w = .ok (91, .agg #[h]) w := by kernel_rfl

def refTV (a : Nat) : Value := .agg #[.pointer (some ⟨1, 56, none⟩), .pointer (some ⟨a, 0, none⟩), .int .u64 150]
/-- where errors.as ends: it has set the target, or it has not -/
def AsPost (T : Nat) (t : Option Int) (w : World) (e : Ending) (w' : World) : Prop :=
  match t with
  | some c => e = .returned (.bool true) ∧ ∃ w1, Below w.heap.size w w1 ∧ w' = w1.setCell ⟨T, 0, none⟩ (.int .i64 c)
  | none => e = .returned (.bool false) ∧ Below w.heap.size w w'

set_option maxRecDepth 100000 in
set_option maxHeartbeats 4000000 in
theorem errors_as1 (T bV : Nat) (old : Int) (t : Option Int) (l : List (Option Int)) (v : Value) (w : World) (hv : ErrV w l t v) (hn : noErr l t = false)
    (hT : Blk w T [.int .i64 old] 32) (hV : w.cell? ⟨bV, 0, none⟩ = some (.pointer (some ⟨T, 0, none⟩))) :
    Calls Tryd.prog 34 #[v, .iface 56 (.pointer (some ⟨T, 0, none⟩)), refTV bV, .iface 92 (.agg #[.pointer (some ⟨1, 32, none⟩)])] w (AsPost T t w) := by
  have x45 := @run_callFunc_extern Tryd.prog 31 _ (fun args => ReflectliteValue.unpack (args.getD 0 (.tuple #[]))) Tryd.func31 (by kernel_rfl) (by kernel_rfl) (by kernel_rfl) (by kernel_rfl)
  have x66 := @run_callFunc_extern Tryd.prog 43 _ ReflectliteType.typeOf Tryd.func43 (by kernel_rfl) (by kernel_rfl) (by kernel_rfl) (by kernel_rfl)
  have x35 := @run_callFunc_extern Tryd.prog 88 _ (ReflectliteType.relation "AssignableTo" ReflectliteType.assignableTo) Tryd.func88 (by kernel_rfl) (by kernel_rfl) (by kernel_rfl) (by kernel_rfl)
  have x11 := @run_callFunc_extern Tryd.prog 44 _ (ReflectliteValue.method (ReflectliteValue.valueError "reflectlite.Value.Elem" 0) ReflectliteValue.elem) Tryd.func44 (by kernel_rfl) (by kernel_rfl) (by kernel_rfl) (by kernel_rfl)
  have x12 := @run_callFunc_extern Tryd.prog 45 _ ReflectliteValue.set Tryd.func45 (by kernel_rfl) (by kernel_rfl) (by kernel_rfl) (by kernel_rfl)
  have y1 := Tryd.typeOfN
  have y2 := Tryd.typeOfF
  have y4 := Tryd.assignN
  have y5 := Tryd.assignF
  have y7 := Tryd.methAssign
  have y8 := Tryd.valueOfN
  have y9 := Tryd.noAsF
  have y10 := Tryd.hasUnwrapF
  have y11 := Tryd.methUnwrapF
  unfold refTV
  go_enter Tryd.func34, Tryd.ntmps34
  go_wp2_with fail
  have kV := Blk.new w [.pointer (some ⟨1, 56, none⟩), .pointer (some ⟨bV, 0, none⟩), .int .u64 150] 72
  have hB := Bl.box w (.cells #[.pointer (some ⟨1, 56, none⟩), .pointer (some ⟨bV, 0, none⟩), .int .u64 150] 72)
  obtain ⟨W, hW⟩ : ∃ W, w.alloc (.cells #[.pointer (some ⟨1, 56, none⟩), .pointer (some ⟨bV, 0, none⟩), .int .u64 150] 72) = W := ⟨_, rfl⟩
  change Blk (w.alloc (.cells #[.pointer (some ⟨1, 56, none⟩), .pointer (some ⟨bV, 0, none⟩), .int .u64 150] 72)) _ _ _ at kV
  rw [hW] at kV hB ⊢
  have hT1 := hT.below hB
  have hV1 := getC hB hV
  have hv1 := hv.below hB
  clear hW hT hV hv
  go_loopg [0] l.length (fun k x wr => ∃ l', l'.length = k ∧ ErrV wr l' t x ∧ noErr l' t = false ∧ Below W.heap.size W wr)
  case atStart => exact ⟨l, rfl, hv1, hn, Below.refl _ _⟩
  case round =>
    obtain ⟨l', hk, hx, hne, hbr⟩ := hrel
    have kT := hT1.below hbr
    have kW := kV.below hbr
    have cV := getC hbr hV1
    have cT := kT.cell (i := 0) rfl
    have fT := kT.frozen 0
    have c60 := kW.cell (i := 0) rfl
    have c61 := kW.cell (i := 1) rfl
    have c62 := kW.cell (i := 2) rfl
    have HK := Lib.hid hk; clear hk
    match l', hx, hne with
    | [], hx, hne =>
      cases t with
      | none => simp [noErr] at hne
      | some c =>
        obtain rfl : u0 = _ := hx
        have z1 := Tryd.elemVPN ⟨bV, 0, none⟩ ⟨T, 0, none⟩ wr cV
        have z2 := Tryd.setN ⟨T, 0, none⟩ ⟨wr.heap.size, 0, none⟩ c (.int .i64 old) (wr.alloc (.cells #[.int .i64 c] 32)) ((Blk.new wr [.int .i64 c] 32).cell (i := 0) rfl) (getA _ cT) ((kT.alloc _).frozen 0)
        go_wp2_with fail
        go_ret
        exact ⟨rfl, _, Bl.next hB (Bl.next hbr (Bl.box _ _)), rfl⟩
    | some b :: r, hx, _ =>
      obtain ⟨blk, v', rfl, hk, h3⟩ := hx
      have h1 := hk.cell (i := 0) rfl
      have h2 := hk.cell (i := 1) rfl
      go_wp2_with fail
      refine (fault_unwrapM _ _ _ h2).mono ?_
      rintro e w' ⟨rfl, rfl⟩
      rcases h3.nil_or with ⟨hz, rfl⟩ | ⟨hz, ty, x, rfl⟩
      · obtain ⟨rfl, rfl⟩ := noErr_true hz
        go_wp2_with fail
        go_ret
        exact ⟨rfl, Bl.next hB hbr⟩
      · go_wp2_with fail
        change _ = _ at HK
        go_roundg r.length
        case measure => rw [← HK]; simp
        case rel => exact ⟨r, rfl, h3, hz, hbr⟩
    | none :: r, hx, _ => exact hx.elim
end Go.Proofs.YtlmogdjcnbjhfaaDoor

