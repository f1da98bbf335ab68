/- errors.As at an Errno, fault.Code, fault.At and fault.First, as contracts. -/
import Derived.Test.YtoiblgeheblddaaErrAs
namespace Go.Proofs.Ytoiblgeheblddaa
open Go.RowKit Go.Extern.Stop Go.Stop Go.Extern
set_option linter.unusedVariables false

/-- the number of an error -/
def codeOf (l : List (Option Int)) (t : Option Int) : Int := if noErr l t then 0 else t.getD 18

def atL (b : Int) (l : List (Option Int)) (t : Option Int) : List (Option Int) := if noErr l t then l else some b :: l
set_option maxHeartbeats 400000 in
theorem fault_At (b : Int) (t : Option Int) (l : List (Option Int)) (v : Value) (w : World) (hv : ErrV w l t v) :
    Calls Try.prog 29 #[.int .i64 b, v] w (RetS (fun w' r => ErrV w' (atL b l t) t r) w) := by
  rcases hv.nil_or with ⟨hz, rfl⟩ | ⟨hz, ty, x, rfl⟩
  · simp only [atL, hz, if_true]
    go_enter Try.func29, Try.ntmps29
    go_wp2_with fail
    go_ret
    exact ⟨_, rfl, Below.refl _ _, hv⟩
  simp only [atL, hz, Bool.false_eq_true, if_false]
  go_enter Try.func29, Try.ntmps29
  go_wp2_with fail
  go_ret
  have k := Blk.new w [.int .i64 b, .iface ty x] 64
  exact ⟨_, rfl, Bl.box _ _, w.heap.size, _, rfl, k, hv.below (Bl.box _ _)⟩

/-- the blocks of an error -/
def errM (l : List (Option Int)) (t : Option Int) : Nat := l.length + if t.isSome then 1 else 0
def blocksOf (l : List (Option Int)) : List Int := l.filterMap id
set_option maxRecDepth 100000 in
set_option maxHeartbeats 4000000 in
theorem fault_Blocks (t : Option Int) (l : List (Option Int)) (v : Value) (w : World) (hlen : l.length ≤ 1000000) (hv : ErrV w l t v) :
    Calls Try.prog 8 #[v] w (RetS (fun w' r => w'.ownsRow w.heap.size 3 1 r (blocksOf l).length ((blocksOf l).map (Value.int .i64))) w) := by
  obtain ⟨i0, hi0, hz0, hz1, hz2⟩ := info_parts (P := Try.prog) (e := 3) (z := .int .i64 0) (size := 1) (bytes := 8) (by kernel_rfl)
  have y1 := Try.hasUnwrapF
  have y2 := Try.methUnwrapF
  have y3 := Try.nilUnwrapF
  have y4 := Try.noUnwrapN
  have y7 := Try.isFF
  have y8 := Try.isNF
  go_enter Try.func8, Try.ntmps8
  go_wp2_with fail
  go_loopg [0, 3] (errM l t) (fun k x u wr => ∃ l' t' xs, k = errM l' t' ∧ ErrV w l' t' x ∧ wr.ownsRow w.heap.size 3 1 u xs.length (xs.map (Value.int .i64)) ∧ blocksOf l = xs ++ blocksOf l' ∧ Below w.heap.size w wr)
  case atStart => exact ⟨l, t, [], rfl, hv, World.ownsRow_nil _ _ _ _, rfl, Below.refl _ _⟩
  case round =>
    obtain ⟨l', t', xs, hk, hx, hown, hbl, hbr⟩ := hrel
    have HK := Lib.hid hk; clear hk
    have hle : xs.length + (blocksOf l').length ≤ 1000000 := by
      have : (blocksOf l).length ≤ l.length := List.length_filterMap_le _ _
      rw [hbl, List.length_append] at this; omega
    have HB := Lib.hid hbl; clear hbl
    match l', hx with
    | [], hx =>
      cases t' with
      | none =>
        obtain rfl : u0 = _ := hx
        have HO := Lib.hid hown; clear hown
        go_wp2_with fail
        go_ret
        refine ⟨_, rfl, hbr, ?_⟩
        rw [HB.out, show blocksOf [] = [] from rfl, List.append_nil]
        exact HO.out
      | some c =>
        obtain rfl : u0 = _ := hx
        have HO := Lib.hid hown; clear hown
        go_wp2_with fail
        refine (errors_unwrapN _ _).mono ?_
        rintro e w' ⟨rfl, hb⟩
        have HO2 := Lib.hid (own_below HO.out hb)
        go_wp2_with fail
        go_roundg 0
        case measure => rw [HK.out]; simp [errM]
        case rel => exact ⟨[], none, xs, rfl, rfl, HO2.out, HB.out, Bl.next hbr hb⟩
    | some b :: r, hx =>
      obtain ⟨blk, v', rfl, hk, h3⟩ := hx
      have h1 := hk.cell (i := 0) rfl
      have h2 := hk.cell (i := 1) rfl
      have c1 := getC hbr h1
      go_wp2_with (at_builtin; refine Stop.go ?_)
      unfold Stop
      refine app_own rfl _ _ 27 rfl w.heap.size 3 i0 (.int .i64 0) 1 8 Try.underlying27 hi0 hz0 hz1 hz2 rfl (by decide) u3 xs.length _ rfl (hown.alloc _) wr.heap.size 1 1 [.int .i64 b] 3 rfl
        (Blk.new wr [.int .i64 b] 3) rfl (by simp [Value.oneCell']) (by unfold maxLen; omega) (by omega) (by have := hbr.size; simp; omega) ?_
      intro v2 w3 hown3 _ hb3
      have hB3 : Below w.heap.size w w3 := (hbr.trans ((Bl.box wr _).mono hbr.size)).trans hb3
      have HO := Lib.hid hown3
      have g2 := getC hB3 h2
      clear hown hown3
      go_wp2_with fail
      refine (errors_unwrapF _ _ _ g2).mono ?_
      rintro e w' ⟨rfl, rfl⟩
      go_wp2_with fail
      go_roundg (errM r t')
      case measure => rw [HK.out]; simp [errM]
      case rel => exact ⟨r, t', xs ++ [b], rfl, h3, by simpa using HO.out, by rw [HB.out]; simp [blocksOf], hB3⟩
    | none :: r, hx => exact hx.elim
end Go.Proofs.Ytoiblgeheblddaa

