/- errors.As at an Errno, fault.Code, fault.At and fault.First, as contracts. -/
import Derived.Test.YtbopakjiahojdaaGreatDoorErrAs
namespace Go.Proofs.YtbopakjiahojdaaGreatDoor
open Go.RowKit Go.Extern.Stop Go.Stop Go.Extern
set_option linter.unusedVariables false

/-- the package-level variable errors.errorType, as it lies from the start -/
def ErrT (w : World) : Prop := w.cell? ⟨0, 0, none⟩ = some (.iface 164 (.agg #[.pointer (some ⟨4, 37, none⟩)]))
theorem ErrT.below {w w' : World} (h : ErrT w) (hb : Below w.heap.size w w') : ErrT w' := getC hb h
/-- the number of an error -/
def codeOf (l : List (Option Int)) (t : Option Int) : Int := if noErr l t then 0 else t.getD 18

set_option maxRecDepth 100000 in
set_option maxHeartbeats 4000000 in
theorem errors_As1 (T : Nat) (old : Int) (t : Option Int) (l : List (Option Int)) (v : Value) (w : World) (hg : ErrT w) (hv : ErrV w l t v) (hn : noErr l t = false)
    (hT : Blk w T [.int .i64 old] 40) :
    Calls Tryz.prog 42 #[v, .iface 84 (.pointer (some ⟨T, 0, none⟩))] w (AsPost T t w) := by
  have h1 := @run_callFunc_extern Tryz.prog 73 _ (fun args => ReflectliteValue.unpack (args.getD 0 (.tuple #[]))) Tryz.func73 (by kernel_rfl) (by kernel_rfl) (by kernel_rfl) (by kernel_rfl)
  have h2 := @run_callFunc_extern Tryz.prog 74 _ (ReflectliteValue.methodAny (ReflectliteValue.valueError "reflectlite.Value.Type" 0) (fun t _ _ _ => ReflectliteType.toType t)) Tryz.func74 (by kernel_rfl) (by kernel_rfl) (by kernel_rfl) (by kernel_rfl)
  have h3 := @run_callFunc_extern Tryz.prog 75 _ (ReflectliteValue.method (ReflectliteValue.valueError "reflectlite.Value.IsNil" 0) ReflectliteValue.isNil) Tryz.func75 (by kernel_rfl) (by kernel_rfl) (by kernel_rfl) (by kernel_rfl)
  have h4 := @run_callFunc_extern Tryz.prog 149 _ (ReflectliteType.abiMethod fun t => do pure (.int .u8 (← Rtype.kind t))) Tryz.func149 (by kernel_rfl) (by kernel_rfl) (by kernel_rfl) (by kernel_rfl)
  have h5 := @run_callFunc_extern Tryz.prog 175 _ (ReflectliteType.method ReflectliteType.elem) Tryz.func175 (by kernel_rfl) (by kernel_rfl) (by kernel_rfl) (by kernel_rfl)
  have h6 := @run_callFunc_extern Tryz.prog 176 _ (ReflectliteType.relation "Implements" ReflectliteType.implements_) Tryz.func176 (by kernel_rfl) (by kernel_rfl) (by kernel_rfl) (by kernel_rfl)
  have f1 := Tryz.valueOfPN
  have f2 := Tryz.typePN
  have f3 := Tryz.methKind
  have f4 := Tryz.methElem
  have f5 := Tryz.methImplements
  have f6 := Tryz.kindPN
  have f7 := Tryz.kindN
  have f8 := Tryz.elemPN
  have f9 := Tryz.implementsN
  have hV : Blk (w.alloc (.cells #[.pointer (some ⟨T, 0, none⟩)] 84)) w.heap.size [.pointer (some ⟨T, 0, none⟩)] 84 := Blk.new w _ _
  obtain ⟨O, hO⟩ : ∃ O : Obj, O = .cells #[.pointer (some ⟨4, 84, none⟩), .pointer (some ⟨w.heap.size, 0, none⟩), .int .u64 150] 123 := ⟨_, rfl⟩
  have hV2 := (hV.alloc O).cell (i := 0) rfl
  have n8 := Tryz.isNilPN ⟨w.heap.size, 0, none⟩ ⟨T, 0, none⟩ ((w.alloc (.cells #[.pointer (some ⟨T, 0, none⟩)] 84)).alloc O) hV2
  have hB : Below w.heap.size w ((w.alloc (.cells #[.pointer (some ⟨T, 0, none⟩)] 84)).alloc O) := Bl.next (Bl.box _ _) (Bl.box _ _)
  have g2 := hg.below hB
  have hcall := errors_as1 T w.heap.size old t l v _ (hv.below hB) hn (hT.below hB) hV2
  subst hO
  unfold ErrT at g2
  unfold refTV at hcall
  clear hV hV2 hg hT
  rcases hv.nil_or with ⟨hz, _⟩ | ⟨_, ty, x, rfl⟩
  · rw [hz] at hn; exact nomatch hn
  go_enter Tryz.func42, Tryz.ntmps42
  go_wp2_with fail
  refine hcall.mono ?_
  intro e w' h
  cases t with
  | some c =>
    obtain ⟨rfl, w1, h1, rfl⟩ := h
    go_wp2_with fail
    go_ret
    exact ⟨rfl, w1, Bl.next hB h1, rfl⟩
  | none =>
    obtain ⟨rfl, h1⟩ := h
    go_wp2_with fail
    go_ret
    exact ⟨rfl, Bl.next hB h1⟩

set_option maxHeartbeats 1000000 in
theorem fault_Code (t : Option Int) (l : List (Option Int)) (v : Value) (w : World) (hg : ErrT w) (hv : ErrV w l t v) :
    Calls Tryz.prog 12 #[v] w (Ret (.int .i64 (codeOf l t)) w) := by
  rcases hv.nil_or with ⟨hz, rfl⟩ | ⟨hz, ty, x, rfl⟩
  · simp only [codeOf, hz, if_true]
    go_enter Tryz.func12, Tryz.ntmps12
    go_wp2_with fail
    go_ret
    exact ⟨rfl, Below.refl _ _⟩
  simp only [codeOf, hz, Bool.false_eq_true, if_false]
  have hB := Bl.box w (.cells #[.int .i64 0] 40)
  have kT : Blk (w.alloc (.cells #[.int .i64 0] 40)) w.heap.size [.int .i64 0] 40 := Blk.new w _ _
  have hcall := errors_As1 w.heap.size 0 t l _ _ (hg.below hB) (hv.below hB) hz kT
  clear hg hv
  go_enter Tryz.func12, Tryz.ntmps12
  go_wp2_with fail
  refine hcall.mono ?_
  intro e w' h
  cases t with
  | some c =>
    obtain ⟨rfl, w1, h1, rfl⟩ := h
    have k2 := ((kT.below h1).set 0 (.int .i64 c)).cell (i := 0) rfl
    go_wp2_with fail
    go_ret
    exact ⟨rfl, (Bl.next hB h1).setCell (Nat.le_refl _) _⟩
  | none =>
    obtain ⟨rfl, h1⟩ := h
    go_wp2_with fail
    go_ret
    exact ⟨rfl, Bl.next hB h1⟩

def atL (b : Int) (l : List (Option Int)) (t : Option Int) : List (Option Int) := if noErr l t then l else some b :: l
set_option maxHeartbeats 400000 in
theorem fault_At (b : Int) (t : Option Int) (l : List (Option Int)) (v : Value) (w : World) (hv : ErrV w l t v) :
    Calls Tryz.prog 92 #[.int .i64 b, v] w (RetS (fun w' r => ErrV w' (atL b l t) t r) w) := by
  rcases hv.nil_or with ⟨hz, rfl⟩ | ⟨hz, ty, x, rfl⟩
  · simp only [atL, hz, if_true]
    go_enter Tryz.func92, Tryz.ntmps92
    go_wp2_with fail
    go_ret
    exact ⟨_, rfl, Below.refl _ _, hv⟩
  simp only [atL, hz, Bool.false_eq_true, if_false]
  go_enter Tryz.func92, Tryz.ntmps92
  go_wp2_with fail
  go_ret
  have k := Blk.new w [.int .i64 b, .iface ty x] 136
  exact ⟨_, rfl, Bl.box _ _, w.heap.size, _, rfl, k, hv.below (Bl.box _ _)⟩

/-- the blocks of an error -/
def errM (l : List (Option Int)) (t : Option Int) : Nat := l.length + if t.isSome then 1 else 0
def blocksOf (l : List (Option Int)) : List Int := l.filterMap id
set_option maxRecDepth 100000 in
set_option maxHeartbeats 4000000 in
theorem fault_Blocks (t : Option Int) (l : List (Option Int)) (v : Value) (w : World) (hlen : l.length ≤ 1000000) (hv : ErrV w l t v) :
    Calls Tryz.prog 48 #[v] w (RetS (fun w' r => w'.ownsRow w.heap.size 3 1 r (blocksOf l).length ((blocksOf l).map (Value.int .i64))) w) := by
  obtain ⟨i0, hi0, hz0, hz1, hz2⟩ := info_parts (P := Tryz.prog) (e := 3) (z := .int .i64 0) (size := 1) (bytes := 8) (by kernel_rfl)
  have y1 := Tryz.hasUnwrapF
  have y2 := Tryz.methUnwrapF
  have y3 := Tryz.nilUnwrapF
  have y4 := Tryz.noUnwrapN
  have y7 := Tryz.isFF
  have y8 := Tryz.isNF
  go_enter Tryz.func48, Tryz.ntmps48
  go_wp2_with fail
  go_loopg [0, 3] (errM l t) (fun k x u wr => ∃ l' t' xs, k = errM l' t' ∧ ErrV w l' t' x ∧ wr.ownsRow w.heap.size 3 1 u xs.length (xs.map (Value.int .i64)) ∧ blocksOf l = xs ++ blocksOf l' ∧ Below w.heap.size w wr)
  case atStart => exact ⟨l, t, [], rfl, hv, World.ownsRow_nil _ _ _ _, rfl, Below.refl _ _⟩
  case round =>
    obtain ⟨l', t', xs, hk, hx, hown, hbl, hbr⟩ := hrel
    have HK := Lib.hid hk; clear hk
    have hle : xs.length + (blocksOf l').length ≤ 1000000 := by
      have : (blocksOf l).length ≤ l.length := List.length_filterMap_le _ _
      rw [hbl, List.length_append] at this; omega
    have HB := Lib.hid hbl; clear hbl
    match l', hx with
    | [], hx =>
      cases t' with
      | none =>
        obtain rfl : u0 = _ := hx
        have HO := Lib.hid hown; clear hown
        go_wp2_with fail
        go_ret
        refine ⟨_, rfl, hbr, ?_⟩
        rw [HB.out, show blocksOf [] = [] from rfl, List.append_nil]
        exact HO.out
      | some c =>
        obtain rfl : u0 = _ := hx
        have HO := Lib.hid hown; clear hown
        go_wp2_with fail
        refine (errors_unwrapN _ _).mono ?_
        rintro e w' ⟨rfl, hb⟩
        have HO2 := Lib.hid (own_below HO.out hb)
        go_wp2_with fail
        go_roundg 0
        case measure => rw [HK.out]; simp [errM]
        case rel => exact ⟨[], none, xs, rfl, rfl, HO2.out, HB.out, Bl.next hbr hb⟩
    | some b :: r, hx =>
      obtain ⟨blk, v', rfl, hk, h3⟩ := hx
      have h1 := hk.cell (i := 0) rfl
      have h2 := hk.cell (i := 1) rfl
      have c1 := getC hbr h1
      go_wp2_with (at_builtin; refine Stop.go ?_)
      unfold Stop
      refine app_own rfl _ _ 31 rfl w.heap.size 3 i0 (.int .i64 0) 1 8 Tryz.underlying31 hi0 hz0 hz1 hz2 rfl (by decide) u3 xs.length _ rfl (hown.alloc _) wr.heap.size 1 1 [.int .i64 b] 3 rfl
        (Blk.new wr [.int .i64 b] 3) rfl (by simp [Value.oneCell']) (by unfold maxLen; omega) (by omega) (by have := hbr.size; simp; omega) ?_
      intro v2 w3 hown3 _ hb3
      have hB3 : Below w.heap.size w w3 := (hbr.trans ((Bl.box wr _).mono hbr.size)).trans hb3
      have HO := Lib.hid hown3
      have g2 := getC hB3 h2
      clear hown hown3
      go_wp2_with fail
      refine (errors_unwrapF _ _ _ g2).mono ?_
      rintro e w' ⟨rfl, rfl⟩
      go_wp2_with fail
      go_roundg (errM r t')
      case measure => rw [HK.out]; simp [errM]
      case rel => exact ⟨r, t', xs ++ [b], rfl, h3, by simpa using HO.out, by rw [HB.out]; simp [blocksOf], hB3⟩
    | none :: r, hx => exact hx.elim
end Go.Proofs.YtbopakjiahojdaaGreatDoor

