/- Package image at an image of no bytes, block.told at an Errno, and block.Super at an image of no bytes. -/
import Derived.Test.YtoiblgeheblddaaErrIs
import Derived.Test.YtoiblgeheblddaaApp
import Derived.Deep.MidRow
namespace Go.Proofs.Ytoiblgeheblddaa
open Go.RowKit Go.Extern.Stop Go.Stop Go.Extern
set_option linter.unusedVariables false

set_option maxHeartbeats 1000000 in
theorem block_told (no c : Int) (w : World) : Calls Try.prog 27 #[.int .i64 no, .iface 43 (.int .i64 c)] w (RetS (fun w' r => ErrV w' (if c = 0 then [] else [some no]) (if c = 0 then none else some c) r) w) := by
  by_cases h : c = 0
  · subst h
    go_enter Try.func27, Try.ntmps27
    go_wp2_with fail
    refine (errors_IsN 0 0 _).mono ?_
    rintro e w1 ⟨rfl, hb⟩
    rw [show ((0 : Int) == 0) = true from rfl]
    go_wp2_with fail
    go_ret
    exact ⟨_, rfl, hb, rfl⟩
  · have h' : (c == 0) = false := by simpa using h
    simp only [h, if_false]
    have HC := Lib.hid h; clear h
    go_enter Try.func27, Try.ntmps27
    go_wp2_with fail
    refine (errors_IsN c 0 _).mono ?_
    rintro e w1 ⟨rfl, hb⟩
    rw [h']
    go_wp2_with fail
    refine (fault_At no (some c) [] _ w1 rfl).mono ?_
    rintro e w2 ⟨r, rfl, hb2, h2⟩
    go_wp2_with fail
    go_ret
    exact ⟨_, rfl, Bl.next hb hb2, h2⟩

theorem Try.nilBytes (w : World) : (binOp .eql 22 (.slice none 0 0) (.slice none 0 0)).run Try.prog w = .ok (.bool true) w := by kernel_rfl
set_option maxRecDepth 100000 in
set_option maxHeartbeats 1000000 in
theorem image_Of_nil (w : World) : Calls Try.prog 5 #[.slice none 0 0] w fun e w' => e = .returned (.pointer (some ⟨w.heap.size, 0, none⟩)) ∧ w' = w.alloc (.cells #[.slice none 0 0] 50) := by
  have y := Try.nilBytes
  go_enter Try.func5, Try.ntmps5
  go_wp2
  go_ret
  exact ⟨rfl, rfl⟩
set_option maxRecDepth 100000 in
set_option maxHeartbeats 1000000 in
theorem image_Read_nil (b : Nat) (k : Int) (w : World) (h : Blk w b [.slice none 0 0] 50) (hk : 0 ≤ k) : Calls Try.prog 34 #[.pointer (some ⟨b, 0, none⟩), .int .i64 k] w (Ret (.tuple #[.slice none 0 0, .int .i64 3]) w) := by
  have c0 := h.cell (i := 0) rfl
  have hk' : ¬ (k < 0) := by omega
  have y := Try.nilBytes
  go_enter Try.func34, Try.ntmps34
  go_wp2
  exact bodyPost_ret (v := .tuple #[.slice none 0 0, .int .i64 3]) (by simp [results, Try.results34, go_sem]) rfl ⟨rfl, Below.refl _ _⟩

theorem range_below {w w' : World} {b o : Nat} {cs : List Value} (h : w.rangeAt b o cs) (hb : Below w.heap.size w w') : w'.rangeAt b o cs := fun j v hj => getC hb (h j v hj)
theorem Blk.range {w : World} {b : Nat} {cs : List Value} {t : TypeId} (h : Blk w b cs t) : w.rangeAt b 0 cs := fun j v hj => by rw [Nat.zero_add]; exact h.cell hj
theorem Blk.there {w : World} {b : Nat} {cs : List Value} {t : TypeId} (h : Blk w b cs t) {n : Nat} (hn : n = cs.length) : w.there b 0 n := fun j hj => by
  rw [Nat.zero_add]
  exact ⟨by rw [h.cell (List.getElem?_eq_getElem (by omega))]; rfl, h.frozen j⟩
end Go.Proofs.Ytoiblgeheblddaa

