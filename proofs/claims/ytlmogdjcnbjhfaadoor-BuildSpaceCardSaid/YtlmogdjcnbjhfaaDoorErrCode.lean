/- errors.As at an Errno, fault.Code, fault.At and fault.First, as contracts. -/
import Derived.Test.YtlmogdjcnbjhfaaDoorErrAs
namespace Go.Proofs.YtlmogdjcnbjhfaaDoor
open Go.RowKit Go.Extern.Stop Go.Stop Go.Extern
set_option linter.unusedVariables false

/-- the package-level variable errors.errorType, as it lies from the start -/
def ErrT (w : World) : Prop := w.cell? ⟨0, 0, none⟩ = some (.iface 92 (.agg #[.pointer (some ⟨1, 26, none⟩)]))
theorem ErrT.below {w w' : World} (h : ErrT w) (hb : Below w.heap.size w w') : ErrT w' := getC hb h
/-- the number of an error -/
def codeOf (l : List (Option Int)) (t : Option Int) : Int := if noErr l t then 0 else t.getD 18

set_option maxRecDepth 100000 in
set_option maxHeartbeats 4000000 in
theorem errors_As1 (T : Nat) (old : Int) (t : Option Int) (l : List (Option Int)) (v : Value) (w : World) (hg : ErrT w) (hv : ErrV w l t v) (hn : noErr l t = false)
    (hT : Blk w T [.int .i64 old] 32) :
    Calls Tryd.prog 21 #[v, .iface 56 (.pointer (some ⟨T, 0, none⟩))] w (AsPost T t w) := by
  have h1 := @run_callFunc_extern Tryd.prog 31 _ (fun args => ReflectliteValue.unpack (args.getD 0 (.tuple #[]))) Tryd.func31 (by kernel_rfl) (by kernel_rfl) (by kernel_rfl) (by kernel_rfl)
  have h2 := @run_callFunc_extern Tryd.prog 32 _ (ReflectliteValue.methodAny (ReflectliteValue.valueError "reflectlite.Value.Type" 0) (fun t _ _ _ => ReflectliteType.toType t)) Tryd.func32 (by kernel_rfl) (by kernel_rfl) (by kernel_rfl) (by kernel_rfl)
  have h3 := @run_callFunc_extern Tryd.prog 33 _ (ReflectliteValue.method (ReflectliteValue.valueError "reflectlite.Value.IsNil" 0) ReflectliteValue.isNil) Tryd.func33 (by kernel_rfl) (by kernel_rfl) (by kernel_rfl) (by kernel_rfl)
  have h4 := @run_callFunc_extern Tryd.prog 80 _ (ReflectliteType.abiMethod fun t => do pure (.int .u8 (← Rtype.kind t))) Tryd.func80 (by kernel_rfl) (by kernel_rfl) (by kernel_rfl) (by kernel_rfl)
  have h5 := @run_callFunc_extern Tryd.prog 90 _ (ReflectliteType.method ReflectliteType.elem) Tryd.func90 (by kernel_rfl) (by kernel_rfl) (by kernel_rfl) (by kernel_rfl)
  have h6 := @run_callFunc_extern Tryd.prog 91 _ (ReflectliteType.relation "Implements" ReflectliteType.implements_) Tryd.func91 (by kernel_rfl) (by kernel_rfl) (by kernel_rfl) (by kernel_rfl)
  have f1 := Tryd.valueOfPN
  have f2 := Tryd.typePN
  have f3 := Tryd.methKind
  have f4 := Tryd.methElem
  have f5 := Tryd.methImplements
  have f6 := Tryd.kindPN
  have f7 := Tryd.kindN
  have f8 := Tryd.elemPN
  have f9 := Tryd.implementsN
  have hV : Blk (w.alloc (.cells #[.pointer (some ⟨T, 0, none⟩)] 56)) w.heap.size [.pointer (some ⟨T, 0, none⟩)] 56 := Blk.new w _ _
  obtain ⟨O, hO⟩ : ∃ O : Obj, O = .cells #[.pointer (some ⟨1, 56, none⟩), .pointer (some ⟨w.heap.size, 0, none⟩), .int .u64 150] 72 := ⟨_, rfl⟩
  have hV2 := (hV.alloc O).cell (i := 0) rfl
  have n8 := Tryd.isNilPN ⟨w.heap.size, 0, none⟩ ⟨T, 0, none⟩ ((w.alloc (.cells #[.pointer (some ⟨T, 0, none⟩)] 56)).alloc O) hV2
  have hB : Below w.heap.size w ((w.alloc (.cells #[.pointer (some ⟨T, 0, none⟩)] 56)).alloc O) := Bl.next (Bl.box _ _) (Bl.box _ _)
  have g2 := hg.below hB
  have hcall := errors_as1 T w.heap.size old t l v _ (hv.below hB) hn (hT.below hB) hV2
  subst hO
  unfold ErrT at g2
  unfold refTV at hcall
  clear hV hV2 hg hT
  rcases hv.nil_or with ⟨hz, _⟩ | ⟨_, ty, x, rfl⟩
  · rw [hz] at hn; exact nomatch hn
  go_enter Tryd.func21, Tryd.ntmps21
  go_wp2_with fail
  refine hcall.mono ?_
  intro e w' h
  cases t with
  | some c =>
    obtain ⟨rfl, w1, h1, rfl⟩ := h
    go_wp2_with fail
    go_ret
    exact ⟨rfl, w1, Bl.next hB h1, rfl⟩
  | none =>
    obtain ⟨rfl, h1⟩ := h
    go_wp2_with fail
    go_ret
    exact ⟨rfl, Bl.next hB h1⟩

set_option maxHeartbeats 1000000 in
theorem fault_Code (t : Option Int) (l : List (Option Int)) (v : Value) (w : World) (hg : ErrT w) (hv : ErrV w l t v) :
    Calls Tryd.prog 9 #[v] w (Ret (.int .i64 (codeOf l t)) w) := by
  rcases hv.nil_or with ⟨hz, rfl⟩ | ⟨hz, ty, x, rfl⟩
  · simp only [codeOf, hz, if_true]
    go_enter Tryd.func9, Tryd.ntmps9
    go_wp2_with fail
    go_ret
    exact ⟨rfl, Below.refl _ _⟩
  simp only [codeOf, hz, Bool.false_eq_true, if_false]
  have hB := Bl.box w (.cells #[.int .i64 0] 32)
  have kT : Blk (w.alloc (.cells #[.int .i64 0] 32)) w.heap.size [.int .i64 0] 32 := Blk.new w _ _
  have hcall := errors_As1 w.heap.size 0 t l _ _ (hg.below hB) (hv.below hB) hz kT
  clear hg hv
  go_enter Tryd.func9, Tryd.ntmps9
  go_wp2_with fail
  refine hcall.mono ?_
  intro e w' h
  cases t with
  | some c =>
    obtain ⟨rfl, w1, h1, rfl⟩ := h
    have k2 := ((kT.below h1).set 0 (.int .i64 c)).cell (i := 0) rfl
    go_wp2_with fail
    go_ret
    exact ⟨rfl, (Bl.next hB h1).setCell (Nat.le_refl _) _⟩
  | none =>
    obtain ⟨rfl, h1⟩ := h
    go_wp2_with fail
    go_ret
    exact ⟨rfl, Bl.next hB h1⟩

def atL (b : Int) (l : List (Option Int)) (t : Option Int) : List (Option Int) := if noErr l t then l else some b :: l
set_option maxHeartbeats 400000 in
theorem fault_At (b : Int) (t : Option Int) (l : List (Option Int)) (v : Value) (w : World) (hv : ErrV w l t v) :
    Calls Tryd.prog 59 #[.int .i64 b, v] w (RetS (fun w' r => ErrV w' (atL b l t) t r) w) := by
  rcases hv.nil_or with ⟨hz, rfl⟩ | ⟨hz, ty, x, rfl⟩
  · simp only [atL, hz, if_true]
    go_enter Tryd.func59, Tryd.ntmps59
    go_wp2_with fail
    go_ret
    exact ⟨_, rfl, Below.refl _ _, hv⟩
  simp only [atL, hz, Bool.false_eq_true, if_false]
  go_enter Tryd.func59, Tryd.ntmps59
  go_wp2_with fail
  go_ret
  have k := Blk.new w [.int .i64 b, .iface ty x] 130
  exact ⟨_, rfl, Bl.box _ _, w.heap.size, _, rfl, k, hv.below (Bl.box _ _)⟩

/-- the blocks of an error -/
def errM (l : List (Option Int)) (t : Option Int) : Nat := l.length + if t.isSome then 1 else 0
def blocksOf (l : List (Option Int)) : List Int := l.filterMap id
end Go.Proofs.YtlmogdjcnbjhfaaDoor

