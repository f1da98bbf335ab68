/- Package image at an image of no bytes, block.told at an Errno, and block.Super at an image of no bytes. Package image: Of, Blocks, block, Write and Bytes at an image whose bytes lie in a row of its own. Package alloc at an image of its own: New, Next, Lay, Left, Used. node.Width and node.Max at the five trees; package tall: over, Levels, Nodes, Sizes. More rules for printed walks: copying a string's bytes into a row, a slice cut at its head, slices of strings. No program is named here. Package node at a node that is right: flag, key, Right, Put. code.Pack of one field and of the six fields of a node; value.Root. (*Alloc).Image, and build.right at entries that are right. Lemmas for the law AllocOnce: remainders, bytes as a string, blocks laid one behind the other. What build.level lays and hands up: plain definitions and lemmas. Counts as space maps, plainly: small counts and those above, chunks, the bytes of a block of counts, slots. Reading numbers: code.Get, code.Unpack, code.Zero at places that are there. Strings compared, and the bytes of a number that was read. No program is named here. code.Zero, seal.Open. node.Read, whatever the bytes. Further steps of a walk: append of a string to a row of the call's own, a store into a place of such a row, and where an appended row lies. value.ReadRoot, whatever the string. Package value: put and read, for any parts. Counts joined with those above them, plainly. Maps of the call's own, from numbers to truths, all of them true: made, written, asked, shortened, counted. What package span computes: All, Has, Right and Fits return the plain functions below, for any span and any slice of keys, and change nothing that lay there. What package span's iterator 'each' hands over: the spans of the children from the last one to the first, for any span and any keys; and that Child and Split return the plain functions below. What the iterator of slices.Backward hands over: the elements of a slice of ints from the last one to the first. -/
import Derived.Deep.MidRow
import Derived.Lib.BufferWrite
import Derived.Lib.AppendStr
import Derived.Laws.IdiomStrings
import Derived.Maps.Own
import Derived.Test.YthlakkdgcgkcdaaGreatDoorRows
import Derived.RangeFuncNested
import Derived.RangeFuncBound
import Derived.RangeFuncCalls
import Derived.RangeFuncLeaves
import Derived.Shelf.Abstract
import Derived.Shelf.RegionOpen
import Derived.OwnWalkIn
import Derived.TacticsInMore
import Derived.LoopNIn
import Derived.LoopIn
import Derived.Test.YthlakkdgcgkcdaaGreatDoorMg1
namespace Go.Proofs.YthlakkdgcgkcdaaGreatDoor
open Go.RowKit Go.Extern.Stop Go.Stop Go.Extern
set_option linter.unusedVariables false

set_option maxHeartbeats 1000000 in
theorem block_told (no c : Int) (w : World) : Calls Tryz.prog 113 #[.int .i64 no, .iface 51 (.int .i64 c)] w (RetS (fun w' r => ErrV w' (if c = 0 then [] else [some no]) (if c = 0 then none else some c) r) w) := by
  by_cases h : c = 0
  · subst h
    go_enter Tryz.func113, Tryz.ntmps113
    go_wp2_with fail
    refine (errors_IsN 0 0 _).mono ?_
    rintro e w1 ⟨rfl, hb⟩
    rw [show ((0 : Int) == 0) = true from rfl]
    go_wp2_with fail
    go_ret
    exact ⟨_, rfl, hb, rfl⟩
  · have h' : (c == 0) = false := by simpa using h
    simp only [h, if_false]
    have HC := Lib.hid h; clear h
    go_enter Tryz.func113, Tryz.ntmps113
    go_wp2_with fail
    refine (errors_IsN c 0 _).mono ?_
    rintro e w1 ⟨rfl, hb⟩
    rw [h']
    go_wp2_with fail
    refine (fault_At no (some c) [] _ w1 rfl).mono ?_
    rintro e w2 ⟨r, rfl, hb2, h2⟩
    go_wp2_with fail
    go_ret
    exact ⟨_, rfl, Bl.next hb hb2, h2⟩

theorem Tryz.nilBytes (w : World) : (binOp .eql 22 (.slice none 0 0) (.slice none 0 0)).run Tryz.prog w = .ok (.bool true) w := by kernel_rfl
set_option maxRecDepth 100000 in
set_option maxHeartbeats 1000000 in
theorem image_Of_nil (w : World) : Calls Tryz.prog 7 #[.slice none 0 0] w fun e w' => e = .returned (.pointer (some ⟨w.heap.size, 0, none⟩)) ∧ w' = w.alloc (.cells #[.slice none 0 0] 56) := by
  have y := Tryz.nilBytes
  go_enter Tryz.func7, Tryz.ntmps7
  go_wp2
  go_ret
  exact ⟨rfl, rfl⟩
set_option maxRecDepth 100000 in
set_option maxHeartbeats 1000000 in
theorem image_Read_nil (b : Nat) (k : Int) (w : World) (h : Blk w b [.slice none 0 0] 56) (hk : 0 ≤ k) : Calls Tryz.prog 112 #[.pointer (some ⟨b, 0, none⟩), .int .i64 k] w (Ret (.tuple #[.slice none 0 0, .int .i64 3]) w) := by
  have c0 := h.cell (i := 0) rfl
  have hk' : ¬ (k < 0) := by omega
  have y := Tryz.nilBytes
  go_enter Tryz.func112, Tryz.ntmps112
  go_wp2
  exact bodyPost_ret (v := .tuple #[.slice none 0 0, .int .i64 3]) (by simp [results, Tryz.results112, go_sem]) rfl ⟨rfl, Below.refl _ _⟩

theorem Blk.range {w : World} {b : Nat} {cs : List Value} {t : TypeId} (h : Blk w b cs t) : w.rangeAt b 0 cs := fun j v hj => by rw [Nat.zero_add]; exact h.cell hj
theorem Blk.there {w : World} {b : Nat} {cs : List Value} {t : TypeId} (h : Blk w b cs t) {n : Nat} (hn : n = cs.length) : w.there b 0 n := fun j hj => by
  rw [Nat.zero_add]
  exact ⟨by rw [h.cell (List.getElem?_eq_getElem (by omega))]; rfl, h.frozen j⟩
end Go.Proofs.YthlakkdgcgkcdaaGreatDoor
namespace Go.Proofs.YthlakkdgcgkcdaaGreatDoor
open Go.RowKit Go.Extern.Stop Go.Stop Go.Extern
set_option linter.unusedVariables false
attribute [local irreducible] wpList wpAnyH Code.wp Oper.wp Go

theorem quo_nat (n k : Nat) (hn : n < 9223372036854775808) (hk : 0 < k) : IntKind.i64.wrap (Int.tdiv (n : Int) (k : Int)) = ((n / k : Nat) : Int) := by
  rw [Int.tdiv_eq_ediv_of_nonneg (Int.natCast_nonneg _), ← Int.natCast_ediv]
  exact i64_nat (Nat.lt_of_le_of_lt (Nat.div_le_self _ _) hn)
theorem min_cast (a b : Nat) : (if (b : Int) < (a : Int) then (b : Int) else (a : Int)) = ((min a b : Nat) : Int) := by split <;> omega
set_option maxRecDepth 100000 in
set_option maxHeartbeats 1000000 in
theorem image_Blocks (b : Nat) (p : Option Addr) (n c : Nat) (w : World) (hk : Blk w b [.slice p n c] 56) (hn : n ≤ 100000000) :
    Calls Tryz.prog 78 #[.pointer (some ⟨b, 0, none⟩)] w (Ret (.int .i64 ((n / 256 : Nat) : Int)) w) := by
 refine zin 11 Tryz.func78 ?_
 refine xb 20 0 hk ?_
 refine xq 1 (congrArg (Value.int .i64) (show (IntKind.i64.wrap (Int.tdiv (↑n : Int) 256) : Int) = (↑(n / 256) : Int) from quo_nat n 256 (by omega) (by decide))) ?_
 exact xe 4 (.int .i64 (↑(n / 256) : Int)) ⟨rfl, (Below.refl w.heap.size _)⟩
set_option maxRecDepth 100000 in
set_option maxHeartbeats 1000000 in
theorem image_Of (a : Option Addr) (c : Nat) (l : List UInt8) (w : World) (h : Bys w (.slice a l.length c) l) (hl : l.length ≤ 100000000) (hc : l.length ≤ c) :
    Calls Tryz.prog 7 #[.slice a l.length c] w (RetS (fun w' r => ∃ b p c, r = .pointer (some ⟨b, 0, none⟩) ∧ w.heap.size ≤ b ∧ Blk w' b [.slice p (min (l.length / 256) 14400 * 256) c] 56 ∧ w'.ownsRow w.heap.size 5 1 (.slice p (min (l.length / 256) 14400 * 256) c) (min (l.length / 256) 14400 * 256) ((l.take (min (l.length / 256) 14400 * 256)).map bv)) w) := by
 refine zin 15 Tryz.func7 ?_
 refine xq 9 (congrArg (Value.int .i64) (show (IntKind.i64.wrap (Int.tdiv (↑l.length : Int) 256) : Int) = (↑(l.length / 256) : Int) from quo_nat l.length 256 (by omega) (by decide))) ?_
 refine xq 0 (congrArg (Value.int .i64) (show (if (14400 : Int) < (↑(l.length / 256) : Int) then (14400 : Int) else (↑(l.length / 256) : Int) : Int) = (↑(min (l.length / 256) 14400) : Int) from min_cast (l.length / 256) 14400)) ?_
 refine xwm 7 ((↑(min (l.length / 256) 14400) : Int) * 256) (↑((min (l.length / 256) 14400) * 256) : Int) ?_
 refine xsH 0 (fun _ _ _ _ zo zx zy V => run_sliceH (k := ((min (l.length / 256) 14400) * 256)) (b := a) (n := l.length) (c := c) (i := (↑((min (l.length / 256) 14400) * 256) : Int)) (ki := .i64) zo zx zy rfl (by omega) Tryz.underlying22 (by kernel_rfl) V) ?_
 refine xc 0 (args := #[.slice a ((min (l.length / 256) 14400) * 256) c]) (clone_bytesN a (min (l.length / 256) 14400 * 256) c (l.take (min (l.length / 256) 14400 * 256)) _ (by simp; omega) ((h.take rfl _ (by omega)).below (Below.refl w.heap.size _)) (by omega)) ?_
 rintro _ W1 ⟨_, rfl, hb1, ho⟩
 have hs1 := Nat.le_refl w.heap.size
 have ho'1 := own_mono ho hs1
 unfold OwnB at ho'1
 rw [show (l.take (min (l.length / 256) 14400 * 256)).length = min (l.length / 256) 14400 * 256 by simp; omega] at ho'1
 obtain ⟨pd, cd, rfl⟩ := (own_sl ho'1).slice
 refine xa 1 [.slice pd (min (l.length / 256) 14400 * 256) cd] 56 fun b2 W2 n2 => ?_
 have hB := Bl.next hb1 n2.below
 have g2 := n2.ge hb1
 have ho'2 := own_below ho'1 n2.below
 exact xe 4 (.pointer (some ⟨b2, 0, none⟩)) ⟨_, rfl, hB, _, _, _, rfl, g2, n2.blk, ho'2⟩
set_option maxRecDepth 100000 in
set_option maxHeartbeats 1000000 in
theorem image_block (b g : Nat) (n c k : Nat) (w : World) (hk : Blk w b [.slice (some ⟨g, 0, none⟩) n c] 56) (hn : n ≤ 100000000) (hc : n ≤ c) (hkn : k < n / 256) :
    Calls Tryz.prog 157 #[.pointer (some ⟨b, 0, none⟩), .int .i64 (↑k : Int)] w (Ret (.tuple #[.slice (some ⟨g, k * 256, none⟩) 256 256, .int .i64 0]) w) := by
 refine zin 33 Tryz.func157 ?_
 refine xgk 21 [13, 14] (show (decide ((↑k : Int) < (0 : Int)) : Bool) = false from decide_eq_false (by omega)) ?_
 refine xr 2 (args := #[.pointer (some ⟨b, 0, none⟩)]) (image_Blocks b _ n c _ (hk.below (Below.refl w.heap.size _)) hn) fun W2 hb2 => ?_
 refine xk 5 (show (decide ((↑k : Int) ≥ (↑(n / 256) : Int)) : Bool) = false from decide_eq_false (by omega)) ?_
 refine xwm 6 ((↑k : Int) * 256) (↑(k * 256) : Int) ?_
 refine xwm 1 ((↑k : Int) + 1) (↑(k + 1) : Int) ?_
 refine xwm 0 ((↑(k + 1) : Int) * 256) (↑((k + 1) * 256) : Int) ?_
 have hk'1 := hk.below hb2
 refine xb 9 0 hk'1 ?_
 refine xs3 3 (fun _ _ _ _ _ _ zo zx zy zz zm V => run_slice3 (k := (k * 256)) (h := ((k + 1) * 256)) (b := g) (off := 0) (n := n) (c := c) (i := (↑(k * 256) : Int)) (ki := .i64) (j := (↑((k + 1) * 256) : Int)) (kj := .i64) (j2 := (↑((k + 1) * 256) : Int)) (kj2 := .i64) 1 (k * 256) 256 zo zx zy rfl zz rfl zm rfl (by omega) (by omega) (by omega) (by omega) Tryz.underlying22 (by kernel_rfl) V) ?_
 exact xe 5 (.tuple #[.slice (some ⟨g, (k * 256), none⟩) 256 256, .int .i64 0]) ⟨rfl, hb2⟩
end Go.Proofs.YthlakkdgcgkcdaaGreatDoor
namespace Go.Proofs.YthlakkdgcgkcdaaGreatDoor
open Go.RowKit Go.Extern.Stop Go.Stop Go.Extern
set_option linter.unusedVariables false
attribute [local irreducible] wpList wpAnyH Code.wp Oper.wp Go

theorem IntsN.elem {w : World} {b : Option Addr} {n c : Nat} {l : List Int} (h : Sl w (.slice b n c) n (l.map (Value.int .i64))) (hl : l.length = n) {k : Nat} (hk : k < n) : b.isSome = true ∧ w.cell? (elemAddr b (k * 1)) = some (.int .i64 (l.getD k 0)) := by
  subst hl; exact Ints.elem h hk
theorem Only.mono {T T' : List TypeId} {w w' : World} (h : Only T w w') (hT : ∀ t, T'.contains t = false → T.contains t = false) : Only T' w w' := fun k cs t fr hk ht => h k cs t fr hk (hT t ht)
end Go.Proofs.YthlakkdgcgkcdaaGreatDoor
namespace Go.Proofs.YthlakkdgcgkcdaaGreatDoor
open Go.RowKit Go.Extern.Stop Go.Stop Go.Extern
set_option linter.unusedVariables false
attribute [local irreducible] wpList wpAnyH Code.wp Oper.wp Go

set_option maxRecDepth 100000 in
set_option maxHeartbeats 1000000 in
theorem node_Width1l (w : World) :
    Calls Tryz.prog 135 #[.int .i64 1, .bool true] w (Ret (.int .i64 4) w) := by
 refine zin 31 Tryz.func135 ?_
 exact xe 94 (.int .i64 4) ⟨rfl, (Below.refl w.heap.size _)⟩
set_option maxRecDepth 100000 in
set_option maxHeartbeats 1000000 in
theorem node_Max1l (w : World) :
    Calls Tryz.prog 127 #[.int .i64 1, .bool true] w (Ret (.int .i64 18) w) := by
 refine zin 16 Tryz.func127 ?_
 refine xr 9 (args := #[.int .i64 1, .bool true]) (node_Width1l _) fun W1 hb1 => ?_
 exact xe 24 (.int .i64 18) ⟨rfl, hb1⟩
set_option maxRecDepth 100000 in
set_option maxHeartbeats 1000000 in
theorem node_Width1i (w : World) :
    Calls Tryz.prog 135 #[.int .i64 1, .bool false] w (Ret (.int .i64 4) w) := by
 refine zin 31 Tryz.func135 ?_
 exact xe 41 (.int .i64 4) ⟨rfl, (Below.refl w.heap.size _)⟩
set_option maxRecDepth 100000 in
set_option maxHeartbeats 1000000 in
theorem node_Max1i (w : World) :
    Calls Tryz.prog 127 #[.int .i64 1, .bool false] w (Ret (.int .i64 18) w) := by
 refine zin 16 Tryz.func127 ?_
 refine xr 9 (args := #[.int .i64 1, .bool false]) (node_Width1i _) fun W1 hb1 => ?_
 exact xe 24 (.int .i64 18) ⟨rfl, hb1⟩
set_option maxRecDepth 100000 in
set_option maxHeartbeats 1000000 in
theorem node_Width2l (w : World) :
    Calls Tryz.prog 135 #[.int .i64 2, .bool true] w (Ret (.int .i64 8) w) := by
 refine zin 31 Tryz.func135 ?_
 exact xe 101 (.int .i64 8) ⟨rfl, (Below.refl w.heap.size _)⟩
set_option maxRecDepth 100000 in
set_option maxHeartbeats 1000000 in
theorem node_Max2l (w : World) :
    Calls Tryz.prog 127 #[.int .i64 2, .bool true] w (Ret (.int .i64 12) w) := by
 refine zin 16 Tryz.func127 ?_
 refine xr 9 (args := #[.int .i64 2, .bool true]) (node_Width2l _) fun W1 hb1 => ?_
 exact xe 24 (.int .i64 12) ⟨rfl, hb1⟩
set_option maxRecDepth 100000 in
set_option maxHeartbeats 1000000 in
theorem node_Width2i (w : World) :
    Calls Tryz.prog 135 #[.int .i64 2, .bool false] w (Ret (.int .i64 4) w) := by
 refine zin 31 Tryz.func135 ?_
 exact xe 41 (.int .i64 4) ⟨rfl, (Below.refl w.heap.size _)⟩
set_option maxRecDepth 100000 in
set_option maxHeartbeats 1000000 in
theorem node_Max2i (w : World) :
    Calls Tryz.prog 127 #[.int .i64 2, .bool false] w (Ret (.int .i64 18) w) := by
 refine zin 16 Tryz.func127 ?_
 refine xr 9 (args := #[.int .i64 2, .bool false]) (node_Width2i _) fun W1 hb1 => ?_
 exact xe 24 (.int .i64 18) ⟨rfl, hb1⟩
set_option maxRecDepth 100000 in
set_option maxHeartbeats 1000000 in
theorem node_Width3l (w : World) :
    Calls Tryz.prog 135 #[.int .i64 3, .bool true] w (Ret (.int .i64 24) w) := by
 refine zin 31 Tryz.func135 ?_
 exact xe 93 (.int .i64 24) ⟨rfl, (Below.refl w.heap.size _)⟩
set_option maxRecDepth 100000 in
set_option maxHeartbeats 1000000 in
theorem node_Max3l (w : World) :
    Calls Tryz.prog 127 #[.int .i64 3, .bool true] w (Ret (.int .i64 6) w) := by
 refine zin 16 Tryz.func127 ?_
 refine xr 9 (args := #[.int .i64 3, .bool true]) (node_Width3l _) fun W1 hb1 => ?_
 exact xe 24 (.int .i64 6) ⟨rfl, hb1⟩
set_option maxRecDepth 100000 in
set_option maxHeartbeats 1000000 in
theorem node_Width3i (w : World) :
    Calls Tryz.prog 135 #[.int .i64 3, .bool false] w (Ret (.int .i64 4) w) := by
 refine zin 31 Tryz.func135 ?_
 exact xe 41 (.int .i64 4) ⟨rfl, (Below.refl w.heap.size _)⟩
set_option maxRecDepth 100000 in
set_option maxHeartbeats 1000000 in
theorem node_Max3i (w : World) :
    Calls Tryz.prog 127 #[.int .i64 3, .bool false] w (Ret (.int .i64 18) w) := by
 refine zin 16 Tryz.func127 ?_
 refine xr 9 (args := #[.int .i64 3, .bool false]) (node_Width3i _) fun W1 hb1 => ?_
 exact xe 24 (.int .i64 18) ⟨rfl, hb1⟩
set_option maxRecDepth 100000 in
set_option maxHeartbeats 1000000 in
theorem node_Width4l (w : World) :
    Calls Tryz.prog 135 #[.int .i64 4, .bool true] w (Ret (.int .i64 16) w) := by
 refine zin 31 Tryz.func135 ?_
 exact xe 98 (.int .i64 16) ⟨rfl, (Below.refl w.heap.size _)⟩
set_option maxRecDepth 100000 in
set_option maxHeartbeats 1000000 in
theorem node_Max4l (w : World) :
    Calls Tryz.prog 127 #[.int .i64 4, .bool true] w (Ret (.int .i64 9) w) := by
 refine zin 16 Tryz.func127 ?_
 refine xr 9 (args := #[.int .i64 4, .bool true]) (node_Width4l _) fun W1 hb1 => ?_
 exact xe 24 (.int .i64 9) ⟨rfl, hb1⟩
set_option maxRecDepth 100000 in
set_option maxHeartbeats 1000000 in
theorem node_Width4i (w : World) :
    Calls Tryz.prog 135 #[.int .i64 4, .bool false] w (Ret (.int .i64 4) w) := by
 refine zin 31 Tryz.func135 ?_
 exact xe 41 (.int .i64 4) ⟨rfl, (Below.refl w.heap.size _)⟩
set_option maxRecDepth 100000 in
set_option maxHeartbeats 1000000 in
theorem node_Max4i (w : World) :
    Calls Tryz.prog 127 #[.int .i64 4, .bool false] w (Ret (.int .i64 18) w) := by
 refine zin 16 Tryz.func127 ?_
 refine xr 9 (args := #[.int .i64 4, .bool false]) (node_Width4i _) fun W1 hb1 => ?_
 exact xe 24 (.int .i64 18) ⟨rfl, hb1⟩
set_option maxRecDepth 100000 in
set_option maxHeartbeats 1000000 in
theorem node_Width5l (w : World) :
    Calls Tryz.prog 135 #[.int .i64 5, .bool true] w (Ret (.int .i64 4) w) := by
 refine zin 31 Tryz.func135 ?_
 exact xe 94 (.int .i64 4) ⟨rfl, (Below.refl w.heap.size _)⟩
set_option maxRecDepth 100000 in
set_option maxHeartbeats 1000000 in
theorem node_Max5l (w : World) :
    Calls Tryz.prog 127 #[.int .i64 5, .bool true] w (Ret (.int .i64 18) w) := by
 refine zin 16 Tryz.func127 ?_
 refine xr 9 (args := #[.int .i64 5, .bool true]) (node_Width5l _) fun W1 hb1 => ?_
 exact xe 24 (.int .i64 18) ⟨rfl, hb1⟩
set_option maxRecDepth 100000 in
set_option maxHeartbeats 1000000 in
theorem node_Width5i (w : World) :
    Calls Tryz.prog 135 #[.int .i64 5, .bool false] w (Ret (.int .i64 4) w) := by
 refine zin 31 Tryz.func135 ?_
 exact xe 41 (.int .i64 4) ⟨rfl, (Below.refl w.heap.size _)⟩
set_option maxRecDepth 100000 in
set_option maxHeartbeats 1000000 in
theorem node_Max5i (w : World) :
    Calls Tryz.prog 127 #[.int .i64 5, .bool false] w (Ret (.int .i64 18) w) := by
 refine zin 16 Tryz.func127 ?_
 refine xr 9 (args := #[.int .i64 5, .bool false]) (node_Width5i _) fun W1 hb1 => ?_
 exact xe 24 (.int .i64 18) ⟨rfl, hb1⟩
/-- the bytes of a value -/
def widN (t : Int) (leaf : Bool) : Nat := if leaf = false then 4 else if t = 2 then 8 else if t = 3 then 24 else if t = 4 then 16 else 4
/-- the entries of a full node -/
def maxN (t : Int) (leaf : Bool) : Nat := if leaf = false then 18 else if t = 2 then 12 else if t = 3 then 6 else if t = 4 then 9 else 18
theorem node_Width (t : Int) (leaf : Bool) (h1 : 1 ≤ t) (h2 : t ≤ 5) (w : World) : Calls Tryz.prog 135 #[.int .i64 t, .bool leaf] w (Ret (.int .i64 (widN t leaf : Int)) w) := by
  obtain rfl | rfl | rfl | rfl | rfl : t = 1 ∨ t = 2 ∨ t = 3 ∨ t = 4 ∨ t = 5 := by omega
  all_goals cases leaf
  · exact node_Width1i w
  · exact node_Width1l w
  · exact node_Width2i w
  · exact node_Width2l w
  · exact node_Width3i w
  · exact node_Width3l w
  · exact node_Width4i w
  · exact node_Width4l w
  · exact node_Width5i w
  · exact node_Width5l w
theorem node_Max (t : Int) (leaf : Bool) (h1 : 1 ≤ t) (h2 : t ≤ 5) (w : World) : Calls Tryz.prog 127 #[.int .i64 t, .bool leaf] w (Ret (.int .i64 (maxN t leaf : Int)) w) := by
  obtain rfl | rfl | rfl | rfl | rfl : t = 1 ∨ t = 2 ∨ t = 3 ∨ t = 4 ∨ t = 5 := by omega
  all_goals cases leaf
  · exact node_Max1i w
  · exact node_Max1l w
  · exact node_Max2i w
  · exact node_Max2l w
  · exact node_Max3i w
  · exact node_Max3l w
  · exact node_Max4i w
  · exact node_Max4l w
  · exact node_Max5i w
  · exact node_Max5l w
theorem maxN_pos (t : Int) (leaf : Bool) : 1 ≤ maxN t leaf ∧ maxN t leaf ≤ 18 := by unfold maxN; repeat' split
                                                                                    all_goals decide
def lenOf : Value → Nat
  | .slice _ n _ => n
  | _ => 0
def nv (n : Nat) : Value := .int .i64 (n : Int)
/-- a slice of numbers -/
theorem nv_elem {w : World} {b : Option Addr} {n c : Nat} {l : List Nat} (h : Sl w (.slice b n c) n (l.map nv)) (hl : l.length = n) {k : Nat} (hk : k < n) : b.isSome = true ∧ w.cell? (elemAddr b (k * 1)) = some (.int .i64 ((l.getD k 0 : Nat) : Int)) := by
  have e : l.map nv = (l.map fun x : Nat => (x : Int)).map (Value.int .i64) := by simp [nv]
  rw [e] at h
  have := IntsN.elem h (by simpa using hl) hk
  rw [show (l.map fun x : Nat => (x : Int)).getD k 0 = ((l.getD k 0 : Nat) : Int) by simp [List.getD, List.getElem?_eq_getElem (show k < l.length by omega)]] at this
  exact this
theorem take_sum {L : List Nat} {k : Nat} (h : k < L.length) : (L.take (k + 1)).sum = (L.take k).sum + L.getD k 0 := by
  rw [List.take_add_one, List.sum_append]; simp [List.getD, List.getElem?_eq_getElem h]
theorem take_le {L : List Nat} (k : Nat) : (L.take k).sum ≤ L.sum := by
  conv => rhs; rw [← List.take_append_drop k L, List.sum_append]
  omega
end Go.Proofs.YthlakkdgcgkcdaaGreatDoor
namespace Go.Proofs.YthlakkdgcgkcdaaGreatDoor
open Go.RowKit Go.Extern.Stop Go.Stop Go.Extern
set_option linter.unusedVariables false
section
variable {P : Program} {Q : Exit → Act → World → Prop} {a : Act} {w : World} {K : Act → World → Prop}
/-- a slice of one-cell elements, cut to its head -/
theorem Sl.head {b : Option Addr} {n c : Nat} {xs : List Value} (h : Sl w (.slice b n c) n xs) (hn : xs.length = n) (m : Nat) (hm : m ≤ n) : Sl w (.slice b m c) m (xs.take m) := by
  rcases h with ⟨a', c', h1, h2, h3⟩ | ⟨b', off, cap, h1, h2, h3, h4⟩
  · obtain rfl : m = 0 := by omega
    simp only [Value.slice.injEq] at h1
    exact .inl ⟨b, c, rfl, rfl, by simp⟩
  · simp only [Value.slice.injEq] at h1
    obtain ⟨rfl, _, rfl⟩ := h1
    refine .inr ⟨b', off, c, rfl, by omega, h3, fun j x hj => h4 j x ?_⟩
    have hjm : j < m := by have := (List.getElem?_eq_some_iff.1 hj).1; simp at this; omega
    rwa [List.getElem?_take_of_lt hjm] at hj
/-- a string, its bytes a list -/
def sv (l : List UInt8) : Value := .string ⟨l.toArray⟩
theorem Strs.elem {b : Option Addr} {n c : Nat} {V : List (List UInt8)} (h : Sl w (.slice b n c) n (V.map sv)) (hl : V.length = n) {k : Nat} (hk : k < n) : b.isSome = true ∧ w.cell? (elemAddr b (k * 1)) = some (.string ⟨(V.getD k []).toArray⟩) := by
  rcases h with ⟨a', c', h1, h2, h3⟩ | ⟨b', off, cap, h1, h2, h3, h4⟩
  · omega
  · simp only [Value.slice.injEq] at h1
    obtain ⟨rfl, _, rfl⟩ := h1
    refine ⟨rfl, ?_⟩
    have := h4 k (sv (V.getD k [])) (by simp [List.getD, List.getElem?_eq_getElem (show k < V.length by omega)])
    rw [Nat.mul_one]
    show w.cell? ((⟨b', off, none⟩ : Addr).add k) = _
    rw [Addr.add_mid]
    exact this
end
end Go.Proofs.YthlakkdgcgkcdaaGreatDoor
namespace Go.Proofs.YthlakkdgcgkcdaaGreatDoor
open Go.RowKit Go.Extern.Stop Go.Stop Go.Extern
set_option linter.unusedVariables false
attribute [local irreducible] wpList wpAnyH Code.wp Oper.wp Go

theorem Sl.cap {w : World} {b : Option Addr} {n c : Nat} {xs : List Value} (h : Sl w (.slice b n c) n xs) : n ≤ c := by
  rcases h with ⟨a', c', h1, h2, _⟩ | ⟨b', off, cap, h1, h2, _, _⟩
  · omega
  · simp only [Value.slice.injEq] at h1; omega
theorem widN_bd (t : Int) (leaf : Bool) : 4 ≤ widN t leaf ∧ widN t leaf ≤ 24 := by
  unfold widN
  repeat' split
  all_goals decide
theorem fitN (t : Int) (leaf : Bool) : 12 + maxN t leaf * 8 + maxN t leaf * widN t leaf ≤ 244 := by
  unfold widN maxN
  repeat' split
  all_goals decide
end Go.Proofs.YthlakkdgcgkcdaaGreatDoor
namespace Go.Proofs.YthlakkdgcgkcdaaGreatDoor
open Go.RowKit Go.Extern.Stop Go.Stop Go.Extern
set_option linter.unusedVariables false
attribute [local irreducible] wpList wpAnyH Code.wp Oper.wp Go

set_option maxRecDepth 100000 in
set_option maxHeartbeats 1000000 in
theorem Pack_4 (g : Nat) (n : Int) (h0 : 0 ≤ n) (hb : n < 4294967296) (w : World) (hk : Blk w g [.int .i64 4, .int .i64 n] 236) :
    Calls Tryz.prog 131 #[.slice (some ⟨g, 0, none⟩) 1 1] w (RetS (fun w' r => ∃ p c, r = .tuple #[.slice p 4 c, .int .i64 0] ∧ w'.ownsRow w.heap.size 5 1 (.slice p 4 c) 4 ((leB n 4).map bv)) w) := by
 refine zin 32 Tryz.func131 ?_
 refine xu 20 2 ?_
 refine xlv 14 hk.rp ?_
 refine xa 0 [.int .i64 0, .int .i64 0] 236 fun b1 W1 n1 => ?_
 have d1_g := n1.ne hk
 refine xsv 0 n1.blk [.int .i64 4, .int .i64 n] fun W2 u2 k2 => ?_
 have g1 := n1.ge (Below.refl w.heap.size _)
 refine xb 6 0 k2 ?_
 refine xr 0 (args := #[.int .i64 4]) (known_4 _) fun W3 hb3 => ?_
 have k2'1 := k2.below hb3
 refine xb 10 1 k2'1 ?_
 refine xb 1 0 k2'1 ?_
 refine xr 0 (args := #[.int .i64 n, .int .i64 4]) (fits_4 (n) (h0) (hb) _) fun W4 hb4 => ?_
 have k2'2 := k2'1.below hb4
 refine xb 9 1 k2'2 ?_
 refine xb 1 0 k2'2 ?_
 refine xc 0 (args := #[.int .i64 n, .int .i64 4]) (bytes_4 (n) (h0) _) ?_
 rintro _ W5 ⟨_, rfl, hb5, h2_0⟩
 have hs5 := (Bl.next (Bl.next (u2.below n1.below g1) hb3) hb4).size
 have h2_0'1 := own_mono h2_0 hs5
 unfold OwnB at h2_0'1
 rw [leB_len] at h2_0'1
 obtain ⟨p2_0, c2_0, rfl⟩ := (own_sl h2_0'1).slice
 have o6 := World.ownsRow_nil W5 w.heap.size 5 1
 have hB := Bl.next (Bl.next (Bl.next (u2.below n1.below g1) hb3) hb4) hb5
 refine xbi 0 fun _ _ _ _ zJ zQ zo zx zy zK => op_app (m := 4) (news := (leB (n) 4).map bv) (.int .u8 0) 1 1 (4) ((leB (n) 4).map bv) zo Tryz.underlying22 (by kernel_rfl) rfl (by decide) zx o6 zy (own_sl h2_0'1) (by simp [leB_len]) (bv_one _) (by unfold maxLen; omega) (by omega) hB.size (by rfl) (by simp) fun p7 c7 W7 o7 hg7 hb7 => ?_
 refine zK _ _ ?_
 have hB'1 := hB.trans hb7
 exact xe 29 (.tuple #[.slice p7 4 c7, .int .i64 0]) ⟨_, rfl, hB'1, _, _, rfl, o7⟩
set_option maxRecDepth 100000 in
set_option maxHeartbeats 1000000 in
theorem Pack_8 (g : Nat) (n : Int) (h0 : 0 ≤ n) (w : World) (hk : Blk w g [.int .i64 8, .int .i64 n] 236) :
    Calls Tryz.prog 131 #[.slice (some ⟨g, 0, none⟩) 1 1] w (RetS (fun w' r => ∃ p c, r = .tuple #[.slice p 8 c, .int .i64 0] ∧ w'.ownsRow w.heap.size 5 1 (.slice p 8 c) 8 ((leB n 8).map bv)) w) := by
 refine zin 32 Tryz.func131 ?_
 refine xu 20 2 ?_
 refine xlv 14 hk.rp ?_
 refine xa 0 [.int .i64 0, .int .i64 0] 236 fun b1 W1 n1 => ?_
 have d1_g := n1.ne hk
 refine xsv 0 n1.blk [.int .i64 8, .int .i64 n] fun W2 u2 k2 => ?_
 have g1 := n1.ge (Below.refl w.heap.size _)
 refine xb 6 0 k2 ?_
 refine xr 0 (args := #[.int .i64 8]) (known_8 _) fun W3 hb3 => ?_
 have k2'1 := k2.below hb3
 refine xb 10 1 k2'1 ?_
 refine xb 1 0 k2'1 ?_
 refine xr 0 (args := #[.int .i64 n, .int .i64 8]) (fits_8 (n) (h0) _) fun W4 hb4 => ?_
 have k2'2 := k2'1.below hb4
 refine xb 9 1 k2'2 ?_
 refine xb 1 0 k2'2 ?_
 refine xc 0 (args := #[.int .i64 n, .int .i64 8]) (bytes_8 (n) (h0) _) ?_
 rintro _ W5 ⟨_, rfl, hb5, h2_0⟩
 have hs5 := (Bl.next (Bl.next (u2.below n1.below g1) hb3) hb4).size
 have h2_0'1 := own_mono h2_0 hs5
 unfold OwnB at h2_0'1
 rw [leB_len] at h2_0'1
 obtain ⟨p2_0, c2_0, rfl⟩ := (own_sl h2_0'1).slice
 have o6 := World.ownsRow_nil W5 w.heap.size 5 1
 have hB := Bl.next (Bl.next (Bl.next (u2.below n1.below g1) hb3) hb4) hb5
 refine xbi 0 fun _ _ _ _ zJ zQ zo zx zy zK => op_app (m := 8) (news := (leB (n) 8).map bv) (.int .u8 0) 1 1 (8) ((leB (n) 8).map bv) zo Tryz.underlying22 (by kernel_rfl) rfl (by decide) zx o6 zy (own_sl h2_0'1) (by simp [leB_len]) (bv_one _) (by unfold maxLen; omega) (by omega) hB.size (by rfl) (by simp) fun p7 c7 W7 o7 hg7 hb7 => ?_
 refine zK _ _ ?_
 have hB'1 := hB.trans hb7
 exact xe 29 (.tuple #[.slice p7 8 c7, .int .i64 0]) ⟨_, rfl, hB'1, _, _, rfl, o7⟩
end Go.Proofs.YthlakkdgcgkcdaaGreatDoor
namespace Go.Proofs.YthlakkdgcgkcdaaGreatDoor
open Go.RowKit Go.Extern.Stop Go.Stop Go.Extern
set_option linter.unusedVariables false
attribute [local irreducible] wpList wpAnyH Code.wp Oper.wp Go

/-- an entry: its key, its value, its block -/
abbrev Ent := Int × List UInt8 × Int
def entD : Ent := (0, [], 0)
def entC (x : Ent) : List Value := [.int .i64 x.1, .string ⟨x.2.1.toArray⟩, .int .i64 x.2.2]
theorem entC_len (x : Ent) : (entC x).length = 3 := rfl
end Go.Proofs.YthlakkdgcgkcdaaGreatDoor
namespace Go.Proofs.YthlakkdgcgkcdaaGreatDoor
open Go.RowKit Go.Extern.Stop Go.Stop Go.Extern
set_option linter.unusedVariables false
attribute [local irreducible] wpList wpAnyH Code.wp Oper.wp Go

theorem run_bstr {P : Program} {a : Act} {o : Oper} {src dst e : TypeId} {x : Operand} {b : Option Addr} {n c : Nat} {l : List UInt8} {w : World} (ho : o.op = .convert src dst x) (hx : a.eval x = .slice b n c) (h : Bys w (.slice b n c) l) (hl : l.length = n)
    (hs : P.underlying src = some (.slice e)) (he : P.underlying e = some (.int .u8)) (hd : P.underlying dst = some .string) : (execOp a.eval o).run P w = .ok (.value (.string ⟨l.toArray⟩)) w := by
  have hr : (convert src dst (.slice b n c)).run P w = .ok (.string ⟨l.toArray⟩) w := by
    subst hl
    rcases Sl.at h with hn | ⟨g, off, rfl, hc⟩
    · obtain rfl : l = [] := by simpa using hn
      cases b with
      | none => rw [run_convert_bytes_string w src dst e none _ c hs he hd]; rfl
      | some p => exact run_convert_bytes_back w src dst e p c [] hs he hd (fun j hj => by simp at hj)
    · exact run_convert_bytes_back w src dst e _ c l hs he hd (fun j hj => by rw [Addr.add_mid]; exact hc j _ (by simp [List.getElem?_eq_getElem hj, bv]))
  simp only [execOp, ho, hx, Sem.run_bind, hr]; rfl
theorem own_someN {w : World} {base n c size : Nat} {e : TypeId} {p : Option Addr} {xs : List Value} (h : w.ownsRow base e size (.slice p n c) n xs) (hn : 0 < n) : ∃ g, p = some ⟨g, 0, none⟩ ∧ n ≤ c := by
  rcases h.2 with ⟨_, h0⟩ | ⟨g, cap, cur, hv, _, _, hc, _⟩
  · omega
  · simp only [Value.slice.injEq] at hv; exact ⟨g, hv.1, by omega⟩
theorem Bys.cap {w : World} {a : Option Addr} {n c : Nat} {l : List UInt8} (h : Bys w (.slice a n c) l) (hl : l.length = n) : n ≤ c := by
  rcases h with ⟨a', c', h1, h2, _⟩ | ⟨b, off, cap, h1, h2, _, _⟩
  · omega
  · simp only [Value.slice.injEq] at h1; omega
end Go.Proofs.YthlakkdgcgkcdaaGreatDoor
namespace Go.Proofs.YthlakkdgcgkcdaaGreatDoor
open Go.RowKit Go.Extern.Stop Go.Stop Go.Extern
set_option linter.unusedVariables false
attribute [local irreducible] wpList wpAnyH Code.wp Oper.wp Go

theorem Sts.cut {α : Type} {f : α → List Value} {m : Nat} {w : World} {b : Option Addr} {c : Nat} {l : List α} (hm : ∀ x, (f x).length = m) (h : Sts f w (.slice b l.length c) l) (k : Nat) (hk : k ≤ l.length) : Sts f w (.slice (cutA b k c m) (l.drop k).length (c - k)) (l.drop k) := by
  have hlen : (l.drop k).length = l.length - k := by simp
  have hcap := Sl.cap h
  by_cases hkn : k = l.length
  · refine .inl ⟨cutA b k c m, c - k, by rw [show (l.drop k).length = 0 by omega], by omega, ?_⟩
    rw [List.drop_eq_nil_of_le (by omega)]; rfl
  rcases h with ⟨a', c', h1, h2, h3⟩ | ⟨g, off, cap, h1, h2, h3, h4⟩
  · omega
  · simp only [Value.slice.injEq] at h1
    obtain ⟨rfl, _, rfl⟩ := h1
    refine .inr ⟨g, off + k * m, c - k, ?_, by omega, by omega, fun j x hj => ?_⟩
    · rw [cutA, if_neg (by omega)]; simp [Addr.add]
    · have hfl : (l.drop k).flatMap f = (l.flatMap f).drop (k * m) := by
        conv => rhs; rw [← List.take_append_drop k l, List.flatMap_append]
        rw [List.drop_left' (by rw [flat_length hm, List.length_take, Nat.min_eq_left hk])]
      rw [hfl, List.getElem?_drop] at hj
      have := h4 _ _ hj
      rwa [← Nat.add_assoc] at this
end Go.Proofs.YthlakkdgcgkcdaaGreatDoor
namespace Go.Proofs.YthlakkdgcgkcdaaGreatDoor
open Go.RowKit Go.Extern.Stop Go.Stop Go.Extern
set_option linter.unusedVariables false
attribute [local irreducible] wpList wpAnyH Code.wp Oper.wp Go

/-- how many blocks of counts so many counts need -/
def bmN (n : Nat) : Nat := (n + 959) / 960
def cntOk (n : Int) : Prop := 0 ≤ n ∧ n ≤ 2147483647
instance (n : Int) : Decidable (cntOk n) := by unfold cntOk; infer_instance
/-- small counts -/
def Small (l : List Int) : Prop := ∀ n ∈ l, 0 ≤ n ∧ n ≤ 3
/-- a count at a place, of the first i counts -/
def atI (l : List Int) (i j : Nat) : Int := if j < i then l.getD j 0 else 0
def g4 (l : List Int) (i k : Nat) : Int := atI l i (4 * k) + 4 * atI l i (4 * k + 1) + 16 * atI l i (4 * k + 2) + 64 * atI l i (4 * k + 3)
def g4B (l : List Int) (i k : Nat) : UInt8 := UInt8.ofNat (g4 l i k).toNat
/-- a block of counts, of which the first i stand there -/
def bitsT (l : List Int) (i : Nat) : List UInt8 := leB l.length 4 ++ (List.range 240).map (g4B l i)
theorem bitsT_len (l : List Int) (i : Nat) : (bitsT l i).length = 244 := by simp [bitsT, leB_len]
def bitsB (l : List Int) : List UInt8 := bitsT l l.length
def freeK (l : List Int) (k : Nat) : Nat := ((l.take k).filter fun n => n == 0).length
def freeN (l : List Int) : Nat := freeK l l.length
def firstN (l : List Int) : Nat := l.findIdx fun n => n == 0
theorem freeK_succ {l : List Int} {k : Nat} (h : k < l.length) : freeK l (k + 1) = freeK l k + (if l.getD k 0 = 0 then 1 else 0) := by
  unfold freeK
  rw [List.take_succ_eq_append_getElem h, List.filter_append, List.length_append]
  simp only [List.getD, List.getElem?_eq_getElem h, Option.getD_some]
  by_cases e : l[k] = 0 <;> simp [e]
theorem freeK_le (l : List Int) (k : Nat) : freeK l k ≤ k := Nat.le_trans (List.length_filter_le _ _) (by simp; omega)
theorem firstN_at {l : List Int} {i : Nat} (h : i < l.length) (h0 : l.getD i 0 = 0) (hp : ∀ j, j < i → l.getD j 0 ≠ 0) : firstN l = i := by
  unfold firstN
  refine (List.findIdx_eq h).2 ⟨?_, fun j hj => ?_⟩
  · rw [List.getD, List.getElem?_eq_getElem h] at h0; simpa using h0
  · have := hp j hj
    rw [List.getD, List.getElem?_eq_getElem (by omega)] at this; simpa using this
theorem firstN_none {l : List Int} (hp : ∀ j, j < l.length → l.getD j 0 ≠ 0) : firstN l = l.length := by
  unfold firstN
  rw [List.findIdx_eq_length]
  intro n hn
  obtain ⟨k, hk, rfl⟩ := List.getElem_of_mem hn
  have := hp k hk
  rw [List.getD, List.getElem?_eq_getElem hk] at this; simpa using this
theorem atI_bd {l : List Int} (h : Small l) (i j : Nat) : 0 ≤ atI l i j ∧ atI l i j ≤ 3 := by
  unfold atI
  split
  · by_cases hj : j < l.length
    · rw [show l.getD j 0 = l[j] from by simp [List.getD, hj]]; exact h _ (List.getElem_mem hj)
    · rw [show l.getD j 0 = 0 from by simp [List.getD, Nat.le_of_not_lt hj]]; omega
  · omega
theorem getI_bd {l : List Int} (h : Small l) (j : Nat) : 0 ≤ l.getD j 0 ∧ l.getD j 0 ≤ 3 := by
  have := atI_bd h (j + 1) j
  unfold atI at this
  rwa [if_pos (by omega)] at this
/-- rows of counts, each of its own -/
def lstV (gs : List (Nat × Nat)) (L : List (List Int)) (i : Nat) : Value := .slice (some ⟨(gs.getD i (0, 0)).1, 0, none⟩) (L.getD i []).length (gs.getD i (0, 0)).2
structure Lists (w : World) (base : Nat) (v : Value) (gs : List (Nat × Nat)) (L : List (List Int)) : Prop where
  row : w.ownsRow base 30 1 v L.length ((List.range L.length).map (lstV gs L))
  each : ∀ i, i < L.length → w.ownsRow base 3 1 (lstV gs L i) (L.getD i []).length ((L.getD i []).map (Value.int .i64))
theorem Lists.below {w W : World} {base : Nat} {v : Value} {gs : List (Nat × Nat)} {L : List (List Int)} (h : Lists w base v gs L) (hb : Below w.heap.size w W) : Lists W base v gs L := ⟨own_below h.row hb, fun i hi => own_below (h.each i hi) hb⟩
theorem Lists.only {T : List TypeId} {w W : World} {base : Nat} {v : Value} {gs : List (Nat × Nat)} {L : List (List Int)} (h : Lists w base v gs L) (hO : Only T w W) (hT : T.contains 30 = false ∧ T.contains 3 = false) : Lists W base v gs L := ⟨own_only h.row hO hT.1, fun i hi => own_only (h.each i hi) hO hT.2⟩
theorem Lists.elem {w : World} {base : Nat} {p : Option Addr} {n c : Nat} {gs : List (Nat × Nat)} {L : List (List Int)} (h : Lists w base (.slice p n c) gs L) (hn : L.length = n) {k : Nat} (hk : k < n) : p.isSome = true ∧ w.cell? (elemAddr p (k * 1)) = some (lstV gs L k) := by
  subst hn
  rw [Nat.mul_one]
  exact Sl.elem (own_sl h.row) (by simp [hk])
theorem Lists.mono {w : World} {base base' : Nat} {v : Value} {gs : List (Nat × Nat)} {L : List (List Int)} (h : Lists w base' v gs L) (hb : base ≤ base') : Lists w base v gs L := ⟨own_mono h.row hb, fun i hi => own_mono (h.each i hi) hb⟩
end Go.Proofs.YthlakkdgcgkcdaaGreatDoor
namespace Go.Proofs.YthlakkdgcgkcdaaGreatDoor
open Go.RowKit Go.Extern.Stop Go.Stop Go.Extern
set_option linter.unusedVariables false
attribute [local irreducible] wpList wpAnyH Code.wp Oper.wp Go

/-- the number of w bytes from k on, the lowest first -/
def rawN (l : List UInt8) : Nat → Nat → Nat
  | _, 0 => 0
  | k, w + 1 => (l.getD k 0).toNat + 256 * rawN l (k + 1) w
theorem rawN_lt (l : List UInt8) : ∀ (w k : Nat), rawN l k w < 256 ^ w
  | 0, k => by simp [rawN]
  | w + 1, k => by
    have := rawN_lt l w (k + 1)
    have h := (l.getD k 0).toNat_lt
    rw [rawN, Nat.pow_succ]; omega
theorem rawN_lt7 (l : List UInt8) (k w : Nat) (hw : w ≤ 7) : rawN l k w < 72057594037927936 := Nat.lt_of_lt_of_le (rawN_lt l w k) (by rw [show (72057594037927936 : Nat) = 256 ^ 7 from rfl]; exact Nat.pow_le_pow_right (by decide) hw)
theorem rawN_lt4 (l : List UInt8) (k w : Nat) (hw : w ≤ 4) : rawN l k w < 4294967296 := Nat.lt_of_lt_of_le (rawN_lt l w k) (by rw [show (4294967296 : Nat) = 256 ^ 4 from rfl]; exact Nat.pow_le_pow_right (by decide) hw)
theorem u64_step {n b : Nat} (hn : n < 72057594037927936) (hb : b < 256) : IntKind.u64.wrap (↑(BitVec.ofInt 64 (IntKind.u64.wrap ((n : Int) * 2 ^ 8)) ||| BitVec.ofInt 64 (b : Int)).toNat : Int) = ((b + 256 * n : Nat) : Int) := by
  have h1 : IntKind.u64.wrap ((n : Int) * 2 ^ 8) = ((n * 2 ^ 8 : Nat) : Int) := by
    rw [show (n : Int) * 2 ^ 8 = ((n * 2 ^ 8 : Nat) : Int) by omega]; exact IntWalk.u64_in _ (by constructor <;> omega)
  rw [h1, BitVec.ofInt_natCast, BitVec.ofInt_natCast, BitVec.toNat_or, BitVec.toNat_ofNat, BitVec.toNat_ofNat, Nat.mod_eq_of_lt (by omega), Nat.mod_eq_of_lt (by omega)]
  rw [← Nat.shiftLeft_eq, ← Nat.shiftLeft_add_eq_or_of_lt (by exact hb : b < 2 ^ 8), Nat.shiftLeft_eq, IntWalk.u64_in _ (by constructor <;> omega)]
  congr 1; omega
theorem u64_nat {n : Nat} (h : n < 18446744073709551616) : IntKind.u64.wrap (n : Int) = (n : Int) := IntWalk.u64_in _ (by constructor <;> omega)
theorem there_ok (a : Option Addr) (m c k w : Nat) (hw : w = 1 ∨ w = 2 ∨ w = 4 ∨ w = 8) (hk : k + w ≤ m) (hm : m ≤ 100000000) (W : World) :
    Calls Tryz.prog 168 #[.slice a m c, .int .i64 (↑k : Int), .int .i64 (↑w : Int)] W (Ret (.int .i64 0) W) := by
  rcases hw with rfl | rfl | rfl | rfl
  · exact there_1 a m c k hk hm W
  · exact there_2 a m c k hk hm W
  · exact there_4 a m c k hk hm W
  · exact there_8 a m c k hk hm W
set_option maxRecDepth 100000 in
set_option maxHeartbeats 2000000 in
theorem Get_ok (a : Option Addr) (c k w : Nat) (l : List UInt8) (W : World) (hw : w = 1 ∨ w = 2 ∨ w = 4 ∨ w = 8) (hk : k + w ≤ l.length) (hl : l.length ≤ 100000000) (h : Bys W (.slice a l.length c) l) (hq : rawN l k w < 9223372036854775808) :
    Calls Tryz.prog 115 #[.slice a l.length c, .int .i64 (↑k : Int), .int .i64 (↑w : Int)] W (Ret (.tuple #[.int .i64 (rawN l k w : Int), .int .i64 0]) W) := by
 refine zin 38 Tryz.func115 ?_
 refine xr 12 (args := #[.slice a l.length c, .int .i64 (↑k : Int), .int .i64 (↑w : Int)]) (there_ok a l.length c k w hw hk hl _) fun W1 hb1 => ?_
 refine xw 21 ((↑w : Int) - 1) ?_
 refine zl 4 38 (fun zm zkv V => ∃ (j r : Nat), zkv = [(0, .slice a l.length c), (1, .int .i64 (↑k : Int)), (6, .int .i64 0), (7, .int .i64 0), (9, .int .u64 (↑(rawN l (k + j) r) : Int)), (10, .int .i64 ((↑j : Int) - 1))] ∧ zm = (((↑j : Int) - 1) + 1).toNat ∧ Below W.heap.size W V ∧ j + r = w) ⟨w, 0, rfl, rfl, hb1, by omega⟩ ?_
 rintro _ _ W2 ⟨j, r, rfl, rfl, hB_2, hjr⟩ J2 hJ2 r2
 refine xid 7 ((↑j : Int) - 1 ≥ (0 : Int)) (fun hc3 => ?_) (fun hc3 => ?_)
 · refine xq 10 (congrArg (Value.int .i64) (show IntKind.i64.wrap ((↑k : Int) + ((↑j : Int) - 1)) = (↑(k + (j - 1)) : Int) from (show IntKind.i64.wrap ((↑k : Int) + ((↑j : Int) - 1)) = ((↑k : Int) + ((↑j : Int) - 1)) from by first | exact IntWalk.i64_in _ (by omega) | (simp only [IntKind.wrap]; omega)).trans (by omega))) ?_
   refine xx 0 _ l.length (k + (j - 1)) 1 (Bys.elem h (k := (k + (j - 1))) (by omega)).1 ?_
   refine xl 0 ((Bys.elem (h.below hB_2) (k := (k + (j - 1))) (by omega)).2) ?_
   refine xq 0 (congrArg (Value.int .u64) (show (IntKind.u64.wrap (↑(l.getD (k + (j - 1)) 0).toNat : Int) : Int) = (↑(l.getD (k + (j - 1)) 0).toNat : Int) from u64_nat (by have := (l.getD (k + (j - 1)) 0).toNat_lt; omega))) ?_
   refine xq 0 (congrArg (Value.int .u64) (show (IntKind.u64.wrap (↑(BitVec.ofInt 64 (IntKind.u64.wrap ((↑(rawN l (k + j) r) : Int) * 2 ^ 8)) ||| BitVec.ofInt 64 (↑(l.getD (k + (j - 1)) 0).toNat : Int)).toNat : Int) : Int) = (↑(rawN l (k + (j - 1)) (r + 1)) : Int) from (u64_step (rawN_lt7 l (k + j) r (by omega)) (l.getD (k + (j - 1)) 0).toNat_lt).trans (congrArg (fun x : Nat => (x : Int)) (by rw [rawN, show k + (j - 1) + 1 = k + j by omega])))) ?_
   refine xq 6 (congrArg (Value.int .i64) (show IntKind.i64.wrap ((↑j : Int) - 1 - 1) = ((↑(j - 1 : Nat) : Int) - 1) from (show IntKind.i64.wrap ((↑j : Int) - 1 - 1) = ((↑j : Int) - 1 - 1) from by first | exact IntWalk.i64_in _ (by omega) | (simp only [IntKind.wrap]; omega)).trans (by omega))) ?_
   exact ze 2 (hJ2 _ _ _ ⟨j - 1, r + 1, rfl, rfl, hB_2, by omega⟩ (by omega))
 refine xk 12 (show (decide ((↑(rawN l (k + j) r) : Int) ≥ (9223372036854775808 : Int)) : Bool) = false from by rw [(show rawN l (k + j) r = rawN l k w from by rw [show j = 0 by omega, show r = w by omega]; rfl)]; exact decide_eq_false (by omega)) ?_
 refine xq 5 (congrArg (Value.int .i64) (show (IntKind.i64.wrap (↑(rawN l (k + j) r) : Int) : Int) = (↑(rawN l k w) : Int) from by rw [(show rawN l (k + j) r = rawN l k w from by rw [show j = 0 by omega, show r = w by omega]; rfl)]; exact i64_nat hq)) ?_
 exact xe 5 (.tuple #[.int .i64 (↑(rawN l k w) : Int), .int .i64 0]) ⟨rfl, hB_2⟩
set_option maxRecDepth 100000 in
set_option maxHeartbeats 2000000 in
theorem Get_big (a : Option Addr) (c k w : Nat) (l : List UInt8) (W : World) (hw : w = 1 ∨ w = 2 ∨ w = 4 ∨ w = 8) (hk : k + w ≤ l.length) (hl : l.length ≤ 100000000) (h : Bys W (.slice a l.length c) l) (hq : ¬ rawN l k w < 9223372036854775808) :
    Calls Tryz.prog 115 #[.slice a l.length c, .int .i64 (↑k : Int), .int .i64 (↑w : Int)] W (Ret (.tuple #[.int .i64 0, .int .i64 2]) W) := by
 refine zin 38 Tryz.func115 ?_
 refine xr 12 (args := #[.slice a l.length c, .int .i64 (↑k : Int), .int .i64 (↑w : Int)]) (there_ok a l.length c k w hw hk hl _) fun W1 hb1 => ?_
 refine xw 21 ((↑w : Int) - 1) ?_
 refine zl 4 38 (fun zm zkv V => ∃ (j r : Nat), zkv = [(0, .slice a l.length c), (1, .int .i64 (↑k : Int)), (6, .int .i64 0), (7, .int .i64 0), (9, .int .u64 (↑(rawN l (k + j) r) : Int)), (10, .int .i64 ((↑j : Int) - 1))] ∧ zm = (((↑j : Int) - 1) + 1).toNat ∧ Below W.heap.size W V ∧ j + r = w) ⟨w, 0, rfl, rfl, hb1, by omega⟩ ?_
 rintro _ _ W2 ⟨j, r, rfl, rfl, hB_2, hjr⟩ J2 hJ2 r2
 refine xid 7 ((↑j : Int) - 1 ≥ (0 : Int)) (fun hc3 => ?_) (fun hc3 => ?_)
 · refine xq 10 (congrArg (Value.int .i64) (show IntKind.i64.wrap ((↑k : Int) + ((↑j : Int) - 1)) = (↑(k + (j - 1)) : Int) from (show IntKind.i64.wrap ((↑k : Int) + ((↑j : Int) - 1)) = ((↑k : Int) + ((↑j : Int) - 1)) from by first | exact IntWalk.i64_in _ (by omega) | (simp only [IntKind.wrap]; omega)).trans (by omega))) ?_
   refine xx 0 _ l.length (k + (j - 1)) 1 (Bys.elem h (k := (k + (j - 1))) (by omega)).1 ?_
   refine xl 0 ((Bys.elem (h.below hB_2) (k := (k + (j - 1))) (by omega)).2) ?_
   refine xq 0 (congrArg (Value.int .u64) (show (IntKind.u64.wrap (↑(l.getD (k + (j - 1)) 0).toNat : Int) : Int) = (↑(l.getD (k + (j - 1)) 0).toNat : Int) from u64_nat (by have := (l.getD (k + (j - 1)) 0).toNat_lt; omega))) ?_
   refine xq 0 (congrArg (Value.int .u64) (show (IntKind.u64.wrap (↑(BitVec.ofInt 64 (IntKind.u64.wrap ((↑(rawN l (k + j) r) : Int) * 2 ^ 8)) ||| BitVec.ofInt 64 (↑(l.getD (k + (j - 1)) 0).toNat : Int)).toNat : Int) : Int) = (↑(rawN l (k + (j - 1)) (r + 1)) : Int) from (u64_step (rawN_lt7 l (k + j) r (by omega)) (l.getD (k + (j - 1)) 0).toNat_lt).trans (congrArg (fun x : Nat => (x : Int)) (by rw [rawN, show k + (j - 1) + 1 = k + j by omega])))) ?_
   refine xq 6 (congrArg (Value.int .i64) (show IntKind.i64.wrap ((↑j : Int) - 1 - 1) = ((↑(j - 1 : Nat) : Int) - 1) from (show IntKind.i64.wrap ((↑j : Int) - 1 - 1) = ((↑j : Int) - 1 - 1) from by first | exact IntWalk.i64_in _ (by omega) | (simp only [IntKind.wrap]; omega)).trans (by omega))) ?_
   exact ze 2 (hJ2 _ _ _ ⟨j - 1, r + 1, rfl, rfl, hB_2, by omega⟩ (by omega))
 refine xk 12 (show (decide ((↑(rawN l (k + j) r) : Int) ≥ (9223372036854775808 : Int)) : Bool) = true from by rw [(show rawN l (k + j) r = rawN l k w from by rw [show j = 0 by omega, show r = w by omega]; rfl)]; exact decide_eq_true (by omega)) ?_
 exact xe 8 (.tuple #[.int .i64 0, .int .i64 2]) ⟨rfl, hB_2⟩
/-- the numbers of these widths, one behind the other, from a place on -/
def unpL (l : List UInt8) : Nat → List Nat → List Nat
  | _, [] => []
  | k, w :: r => rawN l k w :: unpL l (k + w) r
theorem unpL_len (l : List UInt8) : ∀ (ws : List Nat) (k : Nat), (unpL l k ws).length = ws.length
  | [], k => rfl
  | w :: r, k => by simp [unpL, unpL_len l r]
theorem unpL_snoc (l : List UInt8) (w : Nat) : ∀ (ws : List Nat) (k : Nat), unpL l k (ws ++ [w]) = unpL l k ws ++ [rawN l (k + ws.sum) w]
  | [], k => by simp [unpL]
  | x :: r, k => by simp [unpL, unpL_snoc l w r, Nat.add_assoc]
theorem unpL_get (l : List UInt8) : ∀ (ws : List Nat) (k i : Nat), i < ws.length → (unpL l k ws).getD i 0 = rawN l (k + (ws.take i).sum) (ws.getD i 0)
  | [], k, i, h => by simp at h
  | w :: r, k, 0, h => by simp [unpL]
  | w :: r, k, i + 1, h => by
    have := unpL_get l r (k + w) i (by simpa using h)
    simp only [List.getD_eq_getElem?_getD] at this ⊢
    simp [unpL, this, Nat.add_assoc]
theorem take_snoc {ws : List Nat} {i : Nat} (h : i < ws.length) : ws.take (i + 1) = ws.take i ++ [ws.getD i 0] := by
  rw [List.take_succ_eq_append_getElem h]; simp [List.getD, h]
theorem take_sum_le {ws : List Nat} {i : Nat} (h : i < ws.length) : (ws.take i).sum + ws.getD i 0 ≤ ws.sum := by
  have h1 := take_sum h; have h2 := take_le (L := ws) (i + 1); omega
def getV (l : List UInt8) (k w : Nat) : Int := if rawN l k w < 9223372036854775808 then (rawN l k w : Int) else 0
def getE (l : List UInt8) (k w : Nat) : Int := if rawN l k w < 9223372036854775808 then 0 else 2
theorem getE_zero {l : List UInt8} {k w : Nat} (h : getE l k w = 0) : rawN l k w < 9223372036854775808 := by unfold getE at h; split at h; assumption; cases h
theorem getE_two {l : List UInt8} {k w : Nat} (h : getE l k w ≠ 0) : ¬ rawN l k w < 9223372036854775808 ∧ getE l k w = 2 := by unfold getE at h ⊢; split at h; exact absurd rfl h; rename_i h2; exact ⟨h2, if_neg h2⟩
theorem getE_ok {l : List UInt8} {k w : Nat} (h : rawN l k w < 9223372036854775808) : getE l k w = 0 := if_pos h
theorem getV_ok {l : List UInt8} {k w : Nat} (h : rawN l k w < 9223372036854775808) : getV l k w = (rawN l k w : Int) := if_pos h
theorem Get_gen (a : Option Addr) (c k w : Nat) (l : List UInt8) (W : World) (hw : w = 1 ∨ w = 2 ∨ w = 4 ∨ w = 8) (hk : k + w ≤ l.length) (hl : l.length ≤ 100000000) (h : Bys W (.slice a l.length c) l) :
    Calls Tryz.prog 115 #[.slice a l.length c, .int .i64 (↑k : Int), .int .i64 (↑w : Int)] W (Ret (.tuple #[.int .i64 (getV l k w), .int .i64 (getE l k w)]) W) := by
  by_cases hq : rawN l k w < 9223372036854775808
  · rw [getV_ok hq, getE_ok hq]; exact Get_ok a c k w l W hw hk hl h hq
  · rw [getV, getE, if_neg hq, if_neg hq]; exact Get_big a c k w l W hw hk hl h hq
set_option maxRecDepth 100000 in
set_option maxHeartbeats 2000000 in
theorem Unpack_ok (a : Option Addr) (c : Nat) (l : List UInt8) (aw : Option Addr) (cw : Nat) (ws : List Nat) (W : World) (hk : ∀ i, i < ws.length → ws.getD i 0 = 1 ∨ ws.getD i 0 = 2 ∨ ws.getD i 0 = 4 ∨ ws.getD i 0 = 8) (hs : ws.sum ≤ l.length) (hl : l.length ≤ 100000000) (hw : ws.length ≤ 1000) (h : Bys W (.slice a l.length c) l) (hws : Sl W (.slice aw ws.length cw) ws.length (ws.map nv)) (hq : ∀ i, i < ws.length → (unpL l 0 ws).getD i 0 < 9223372036854775808) :
    Calls Tryz.prog 93 #[.slice a l.length c, .slice aw ws.length cw] W (RetS (fun w' r => ∃ p c, r = .tuple #[.slice p ws.length c, .int .i64 0] ∧ w'.ownsRow W.heap.size 3 1 (.slice p ws.length c) ws.length ((unpL l 0 ws).map nv)) W) := by
 refine zin 37 Tryz.func93 ?_
 have hB := Below.refl W.heap.size W
 refine zl 25 37 (fun zm zkv V => ∃ (i : Nat) (p : Option Addr) (c2 : Nat), zkv = [(0, .slice a l.length c), (6, .slice p i c2), (7, .int .i64 (↑(ws.take i).sum : Int)), (12, .slice aw ws.length cw), (13, .int .i64 (↑ws.length : Int)), (14, .int .i64 (↑i : Int))] ∧ zm = ws.length - ((↑i : Int)).toNat ∧ Below W.heap.size W V ∧ V.ownsRow W.heap.size 3 1 (.slice p i c2) i ((unpL l 0 (ws.take i)).map nv) ∧ i ≤ ws.length) ⟨0, _, _, rfl, rfl, hB, World.ownsRow_nil _ _ _ _, Nat.zero_le _⟩ ?_
 rintro _ _ W1 ⟨i, p, c2, rfl, rfl, hB_1, ho, hi⟩ J1 hJ1 r1
 have hts : i < ws.length → (ws.take i).sum + ws.getD i 0 ≤ ws.sum := take_sum_le
 have hui : i < ws.length → (unpL l 0 ws).getD i 0 = rawN l (ws.take i).sum (ws.getD i 0) := fun h => by rw [unpL_get l ws 0 i h, Nat.zero_add]
 refine xid 6 ((↑i : Int) < (↑ws.length : Int)) (fun hc2 => ?_) (fun hc2 => ?_)
 · refine xx 6 _ ws.length i 1 (nv_elem hws rfl (k := i) (by omega)).1 ?_
   refine xl 0 ((nv_elem (hws.below hB_1) rfl (k := i) (by omega)).2) ?_
   refine xr 8 (args := #[.slice a l.length c, .int .i64 (↑(ws.take i).sum : Int), .int .i64 (↑(ws.getD i 0) : Int)]) (Get_gen a c (ws.take i).sum (ws.getD i 0) l _ (hk i (by omega)) (by omega) hl (h.below hB_1)) fun W3 hb3 => ?_
   refine xk 14 (show (((getE l (ws.take i).sum (ws.getD i 0)) != (0 : Int)) : Bool) = false from by rw [getE_ok (by rw [← hui (by omega)]; exact hq i (by omega))]; rfl) ?_
   refine xbs 6 1 [.int .i64 (getV l (ws.take i).sum (ws.getD i 0))] 3 fun b4 W4 n4 => ?_
   have ho'1 := own_below ho hb3
   have r4_ho := own_ne ho'1 n4
   have ho'2 := own_below ho'1 n4.below
   have hB'1 := Bl.next (Bl.next hB_1 hb3) n4.below
   refine xbi 0 fun _ _ _ _ zJ zQ zo zx zy zK => op_app (m := 1) (news := [.int .i64 (getV l (ws.take i).sum (ws.getD i 0))]) (.int .i64 0) 1 8 (i + 1) ((unpL l 0 (ws.take (i + 1))).map nv) zo Tryz.underlying30 (by kernel_rfl) rfl (by decide) zx ho'2 zy (n4.blk.sl 1 1 (by decide) (by decide)) rfl (by simp [Value.oneCell']) (by unfold maxLen; omega) (by omega) hB'1.size (by rfl) (by rw [take_snoc (by omega), unpL_snoc, Nat.zero_add, List.map_append]; simp only [List.map_cons, List.map_nil, nv]; rw [getV_ok (by rw [← hui (by omega)]; exact hq i (by omega))]) fun p5 c5 W5 o5 hg5 hb5 => ?_
   refine zK _ _ ?_
   refine xwm 6 ((↑(ws.take i).sum : Int) + (↑(ws.getD i 0) : Int)) (↑((ws.take i).sum + (ws.getD i 0)) : Int) ?_
   refine xwm 5 ((↑i : Int) + 1) (↑(i + 1) : Int) ?_
   refine xv1 2 7 (show (.int .i64 (↑((ws.take i).sum + (ws.getD i 0)) : Int) : Value) = .int .i64 (↑(ws.take (i + 1)).sum : Int) from by rw [take_snoc (by omega), List.sum_append]; simp) ?_
   have hB'2 := hB'1.trans hb5
   exact ze 0 (hJ1 _ _ _ ⟨i + 1, _, _, rfl, rfl, hB'2, o5, by omega⟩ (by omega))
 refine xe 13 (.tuple #[.slice p i c2, .int .i64 0]) ?_
 obtain rfl : i = ws.length := by omega
 rw [List.take_length] at ho
 exact ⟨_, rfl, hB_1, _, _, rfl, ho⟩
set_option maxRecDepth 100000 in
set_option maxHeartbeats 2000000 in
theorem Unpack_bad (a : Option Addr) (c : Nat) (l : List UInt8) (aw : Option Addr) (cw : Nat) (ws : List Nat) (W : World) (hk : ∀ i, i < ws.length → ws.getD i 0 = 1 ∨ ws.getD i 0 = 2 ∨ ws.getD i 0 = 4 ∨ ws.getD i 0 = 8) (hs : ws.sum ≤ l.length) (hl : l.length ≤ 100000000) (hw : ws.length ≤ 1000) (h : Bys W (.slice a l.length c) l) (hws : Sl W (.slice aw ws.length cw) ws.length (ws.map nv)) (hq : ¬ ∀ i, i < ws.length → (unpL l 0 ws).getD i 0 < 9223372036854775808) :
    Calls Tryz.prog 93 #[.slice a l.length c, .slice aw ws.length cw] W (Ret (.tuple #[.slice none 0 0, .int .i64 2]) W) := by
 refine zin 37 Tryz.func93 ?_
 have hB := Below.refl W.heap.size W
 refine zl 25 37 (fun zm zkv V => ∃ (i : Nat) (p : Option Addr) (c2 : Nat), zkv = [(0, .slice a l.length c), (6, .slice p i c2), (7, .int .i64 (↑(ws.take i).sum : Int)), (12, .slice aw ws.length cw), (13, .int .i64 (↑ws.length : Int)), (14, .int .i64 (↑i : Int))] ∧ zm = ws.length - ((↑i : Int)).toNat ∧ Below W.heap.size W V ∧ V.ownsRow W.heap.size 3 1 (.slice p i c2) i ((unpL l 0 (ws.take i)).map nv) ∧ i ≤ ws.length ∧ (∀ j, j < i → (unpL l 0 ws).getD j 0 < 9223372036854775808)) ⟨0, _, _, rfl, rfl, hB, World.ownsRow_nil _ _ _ _, Nat.zero_le _, ?_⟩ ?_
 · exact fun j hj => absurd hj (by omega)
 rintro _ _ W1 ⟨i, p, c2, rfl, rfl, hB_1, ho, hi, hall⟩ J1 hJ1 r1
 have hts : i < ws.length → (ws.take i).sum + ws.getD i 0 ≤ ws.sum := take_sum_le
 have hui : i < ws.length → (unpL l 0 ws).getD i 0 = rawN l (ws.take i).sum (ws.getD i 0) := fun h => by rw [unpL_get l ws 0 i h, Nat.zero_add]
 refine xid 6 ((↑i : Int) < (↑ws.length : Int)) (fun hc2 => ?_) (fun hc2 => ?_)
 · refine xx 6 _ ws.length i 1 (nv_elem hws rfl (k := i) (by omega)).1 ?_
   refine xl 0 ((nv_elem (hws.below hB_1) rfl (k := i) (by omega)).2) ?_
   refine xr 8 (args := #[.slice a l.length c, .int .i64 (↑(ws.take i).sum : Int), .int .i64 (↑(ws.getD i 0) : Int)]) (Get_gen a c (ws.take i).sum (ws.getD i 0) l _ (hk i (by omega)) (by omega) hl (h.below hB_1)) fun W3 hb3 => ?_
   refine xin 14 (getE l (ws.take i).sum (ws.getD i 0)) (0 : Int) (fun hc4 => ?_) (fun hc4 => ?_)
   · have hgr := getE_two hc4
     have hB'1 := Bl.next hB_1 hb3
     refine xe 14 (.tuple #[.slice none 0 0, .int .i64 (getE l (ws.take i).sum (ws.getD i 0))]) ?_
     rw [hgr.2]; exact ⟨rfl, hB'1⟩
   have hgr := getE_zero hc4
   refine xbs 6 1 [.int .i64 (getV l (ws.take i).sum (ws.getD i 0))] 3 fun b5 W5 n5 => ?_
   have ho'1 := own_below ho hb3
   have r5_ho := own_ne ho'1 n5
   have ho'2 := own_below ho'1 n5.below
   have hB'2 := Bl.next (Bl.next hB_1 hb3) n5.below
   refine xbi 0 fun _ _ _ _ zJ zQ zo zx zy zK => op_app (m := 1) (news := [.int .i64 (getV l (ws.take i).sum (ws.getD i 0))]) (.int .i64 0) 1 8 (i + 1) ((unpL l 0 (ws.take (i + 1))).map nv) zo Tryz.underlying30 (by kernel_rfl) rfl (by decide) zx ho'2 zy (n5.blk.sl 1 1 (by decide) (by decide)) rfl (by simp [Value.oneCell']) (by unfold maxLen; omega) (by omega) hB'2.size (by rfl) (by rw [take_snoc (by omega), unpL_snoc, Nat.zero_add, List.map_append]; simp only [List.map_cons, List.map_nil, nv]; rw [getV_ok hgr]) fun p6 c6 W6 o6 hg6 hb6 => ?_
   refine zK _ _ ?_
   refine xwm 6 ((↑(ws.take i).sum : Int) + (↑(ws.getD i 0) : Int)) (↑((ws.take i).sum + (ws.getD i 0)) : Int) ?_
   refine xwm 5 ((↑i : Int) + 1) (↑(i + 1) : Int) ?_
   refine xv1 2 7 (show (.int .i64 (↑((ws.take i).sum + (ws.getD i 0)) : Int) : Value) = .int .i64 (↑(ws.take (i + 1)).sum : Int) from by rw [take_snoc (by omega), List.sum_append]; simp) ?_
   have hB'3 := hB'2.trans hb6
   exact ze 0 (hJ1 _ _ _ ⟨i + 1, _, _, rfl, rfl, hB'3, o6, by omega, fun j hj => (Nat.lt_or_ge j i).elim (fun q => hall j q) (fun q => by obtain rfl : j = i := (by omega); rw [hui (by omega)]; exact hgr)⟩ (by omega))
 refine xe 13 (.tuple #[.slice p i c2, .int .i64 0]) ?_
 exact absurd (fun j hj => hall j (by omega)) hq
end Go.Proofs.YthlakkdgcgkcdaaGreatDoor
namespace Go.Proofs.YthlakkdgcgkcdaaGreatDoor
open Go.RowKit
set_option linter.unusedVariables false
theorem loop_eq (bs : ByteArray) (i : Nat) (r : List UInt8) : ByteArray.toList.loop bs i r = r.reverse ++ bs.data.toList.drop i := by
  have hs : bs.data.toList.length = bs.size := by rw [Array.length_toList]; rfl
  rw [ByteArray.toList.loop]
  split
  · rename_i h
    have h' : i < bs.data.toList.length := by omega
    rw [loop_eq bs (i + 1) _, List.drop_eq_getElem_cons h']
    have e : bs.get! i = bs.data.toList[i] := by
      have h2 : i < bs.data.size := by rw [← Array.length_toList]; exact h'
      show bs.data[i]! = _
      rw [getElem!_pos bs.data i h2]; simp
    rw [e]; simp
  · rename_i h
    rw [List.drop_eq_nil_of_le (by omega)]; simp
termination_by bs.size - i
theorem str_list (a : List UInt8) : (⟨a.toArray⟩ : ByteArray).toList = a := by
  unfold ByteArray.toList; rw [loop_eq]; simp
theorem str_beq (a b : List UInt8) : ((⟨a.toArray⟩ : ByteArray).toList == (⟨b.toArray⟩ : ByteArray).toList) = (a == b) := by rw [str_list, str_list]
theorem byte_at_raw (l : List UInt8) : ∀ (w k i : Nat), i < w → rawN l k w / 256 ^ i % 256 = (l.getD (k + i) 0).toNat
  | 0, k, i, h => absurd h (by omega)
  | w + 1, k, 0, _ => by
    have := (l.getD k 0).toNat_lt
    rw [rawN]; simp only [Nat.pow_zero, Nat.div_one, Nat.add_zero]; omega
  | w + 1, k, i + 1, h => by
    have := (l.getD k 0).toNat_lt
    have ih := byte_at_raw l w (k + 1) i (by omega)
    rw [rawN, Nat.pow_succ, Nat.mul_comm (256 ^ i) 256, ← Nat.div_div_eq_div_mul, show ((l.getD k 0).toNat + 256 * rawN l (k + 1) w) / 256 = rawN l (k + 1) w by omega, ih, show k + 1 + i = k + (i + 1) by omega]
/-- the bytes of a number that was read are the bytes that were read -/
theorem leB_raw {l : List UInt8} {k w : Nat} (h : k + w ≤ l.length) : leB (rawN l k w : Int) w = (l.drop k).take w := by
  apply List.ext_getElem
  · simp [leB_len]; omega
  intro i h1 h2
  have hw : i < w := by simpa [leB_len] using h1
  have e := byte_at_raw l w k i hw
  apply UInt8.toNat_inj.1
  simp only [leB, List.getElem_map, List.getElem_range, byteAt, Int.toNat_natCast, UInt8.toNat_ofNat', List.getElem_take, List.getElem_drop]
  have e2 : l.getD (k + i) 0 = l[k + i]'(by omega) := by simp [List.getD, show k + i < l.length by omega]
  rw [e2] at e
  rw [← e]
theorem leB_inj {m n w : Nat} (hm : m < 256 ^ w) (hn : n < 256 ^ w) (h : leB (m : Int) w = leB (n : Int) w) : m = n := by
  have e : ∀ i, i < w → m / 256 ^ i % 256 = n / 256 ^ i % 256 := fun i hi => by
    have := congrArg (fun l => (l.getD i 0).toNat) h
    simpa [leB, byteAt, List.getD, List.getElem?_range hi, UInt8.toNat_ofNat'] using this
  clear h
  induction w generalizing m n with
  | zero => simp at hm hn; omega
  | succ w ih =>
    have h0 := e 0 (by omega)
    have h1 : m / 256 = n / 256 := ih (by rw [Nat.pow_succ] at hm; omega) (by rw [Nat.pow_succ] at hn; omega) fun i hi => by
      have := e (i + 1) (by omega)
      rw [Nat.pow_succ, Nat.mul_comm (256 ^ i) 256, ← Nat.div_div_eq_div_mul, ← Nat.div_div_eq_div_mul] at this
      exact this
    simp only [Nat.pow_zero, Nat.div_one] at h0
    omega
theorem not_t {b : Bool} (h : (!b) = true) : b = false := by simpa using h
theorem not_f {b : Bool} (h : (!b) = false) : b = true := by simpa using h
end Go.Proofs.YthlakkdgcgkcdaaGreatDoor
namespace Go.Proofs.YthlakkdgcgkcdaaGreatDoor
open Go.RowKit Go.Extern.Stop Go.Stop Go.Extern
set_option linter.unusedVariables false
attribute [local irreducible] wpList wpAnyH Code.wp Oper.wp Go

section
variable {P : Program} {a : Act}
/-- a cut of a slice at both bounds -/
theorem run_sliceLHA {o : Oper} {t e : TypeId} {x y y2 : Operand} {b : Option Addr} {n k h c : Nat} {i j : Int} {ki kj : IntKind} (size : Nat) (ho : o.op = .slice t x (some y) (some y2) none) (hx : a.eval x = .slice b n c) (hy : a.eval y = .int ki i) (hi : i = (k : Int)) (hy2 : a.eval y2 = .int kj j) (hj : j = (h : Int)) (hk : k ≤ h) (hc : h ≤ c)
    (ht : P.underlying t = some (.slice e)) (hs : (P.info? e).map (·.size) = some size) (w : World) : (execOp a.eval o).run P w = .ok (.value (.slice (cutA b k c size) (h - k) (c - k))) w := by
  cases hq : P.info? e with
  | none => simp [hq] at hs
  | some q =>
    have hj' : q.size = size := by simpa [hq] using hs
    subst hi hj
    have h1 : (0 : Int) ≤ (k : Int) := by omega
    have h2 : (0 : Int) ≤ (h : Int) := by omega
    have h3 : (k : Int) ≤ (h : Int) := by omega
    have h4 : (h : Int) ≤ (c : Int) := by omega
    by_cases h5 : c = k
    · simp_all [execOp, Instr.sliceAt, Instr.slice, Instr.sliceBounds, Instr.sliceBound, asIntOf, run_underlying ht, sizeOf, typeInfo, cutA]
    · simp_all [execOp, Instr.sliceAt, Instr.slice, Instr.sliceBounds, Instr.sliceBound, asIntOf, run_underlying ht, sizeOf, typeInfo, cutA]
end
theorem Bys.cut {w : World} {b : Option Addr} {n c : Nat} {l : List UInt8} (h : Bys w (.slice b n c) l) (hl : l.length = n) (k m : Nat) (hk : k ≤ m) (hm : m ≤ n) : Bys w (.slice (cutA b k c 1) (m - k) (c - k)) ((l.drop k).take (m - k)) := by
  have hlen : ((l.drop k).take (m - k)).length = m - k := by simp; omega
  have hcap := Bys.cap h hl
  rcases h with ⟨a', c', h1, h2, h3⟩ | ⟨g, off, cap, h1, h2, h3, h4⟩
  · obtain rfl : k = 0 := by omega
    obtain rfl : m = 0 := by omega
    refine .inl ⟨cutA b 0 c 1, c - 0, ?_, by simp, by simp⟩
    simp
  · simp only [Value.slice.injEq] at h1
    obtain ⟨rfl, _, rfl⟩ := h1
    by_cases hz : m - k = 0
    · refine .inl ⟨cutA (some ⟨g, off, none⟩) k c 1, c - k, by rw [hz], by omega, ?_⟩
      rw [hz]; rfl
    · refine .inr ⟨g, off + k * 1, c - k, ?_, by omega, by omega, fun j x hj => ?_⟩
      · rw [cutA, if_neg (by omega), hlen]; simp [Addr.add]
      · rw [List.getElem?_map, List.getElem?_take] at hj
        split at hj
        · rw [List.getElem?_drop] at hj
          have := h4 (k + j) x (by rw [List.getElem?_map]; exact hj)
          rwa [Nat.mul_one, Nat.add_assoc]
        · cases hj
/-- whether all bytes are 0 -/
def zeroB (l : List UInt8) : Bool := l.all (· == 0)
theorem zeroB_true {l : List UInt8} (h : ∀ j, j < l.length → l.getD j 0 = 0) : zeroB l = true := by
  unfold zeroB
  rw [List.all_eq_true]
  intro x hx
  obtain ⟨j, hj, rfl⟩ := List.mem_iff_getElem.1 hx
  have := h j hj
  simpa [List.getD, hj] using this
theorem zeroB_false {l : List UInt8} {j : Nat} (hj : j < l.length) (h : ((l.getD j 0).toNat : Int) ≠ 0) : zeroB l = false := by
  unfold zeroB
  rw [List.all_eq_false]
  refine ⟨l[j], List.getElem_mem hj, ?_⟩
  intro h2
  apply h
  have : l[j] = 0 := by simpa using h2
  simp [List.getD, hj, this]
theorem byte_zero {x : UInt8} (h : (x.toNat : Int) = 0) : x = 0 := by
  have h1 : x.toNat = 0 := by omega
  exact UInt8.toNat_inj.1 (by rw [h1]; rfl)
set_option maxRecDepth 100000 in
set_option maxHeartbeats 1000000 in
theorem zero_1 (n : Int) (w : World) :
    Calls Tryz.prog 170 #[.int .u8 n] w (Ret (.bool (n != 0)) w) := by
 refine zin 5 Tryz.func170 ?_
 exact xe 13 (.bool (n != (0 : Int))) ⟨rfl, (Below.refl w.heap.size _)⟩
set_option maxRecDepth 100000 in
set_option maxHeartbeats 2000000 in
theorem indexZero (a : Option Addr) (c : Nat) (l : List UInt8) (w : World) (hl : l.length ≤ 100000000) (h : Bys w (.slice a l.length c) l) :
    Calls Tryz.prog 198 #[.slice a l.length c, .func (.func 170) #[] #[]] w (fun e w' => (zeroB l = true ∧ e = .returned (.int .i64 (-1)) ∧ Below w.heap.size w w') ∨ (zeroB l = false ∧ ∃ i : Nat, e = .returned (.int .i64 (i : Int)) ∧ Below w.heap.size w w')) := by
 refine zin 19 Tryz.func198 ?_
 have hB := Below.refl w.heap.size w
 refine zl 14 19 (fun zm zkv V => ∃ (i : Nat), zkv = [(0, .slice a l.length c), (1, .func (.func 170) #[] #[]), (7, .int .i64 (↑l.length : Int)), (8, .int .i64 (↑i : Int))] ∧ zm = l.length - ((↑i : Int)).toNat ∧ Below w.heap.size w V ∧ i ≤ l.length ∧ (∀ j, j < i → l.getD j 0 = 0)) ⟨0, rfl, rfl, hB, Nat.zero_le _, ?_⟩ ?_
 · exact fun j hj => absurd hj (by omega)
 rintro _ _ W1 ⟨i, rfl, rfl, hB_1, hi, hz⟩ J1 hJ1 r1
 refine xid 6 ((↑i : Int) < (↑l.length : Int)) (fun hc2 => ?_) (fun hc2 => ?_)
 · refine xx 15 _ l.length i 1 (Bys.elem h (k := i) (by omega)).1 ?_
   refine xl 0 ((Bys.elem (h.below hB_1) (k := i) (by omega)).2) ?_
   refine xr 0 (args := #[.int .u8 (↑(l.getD i 0).toNat : Int)]) (zero_1 (↑(l.getD i 0).toNat : Int) _) fun W3 hb3 => ?_
   refine xin 2 (↑(l.getD i 0).toNat : Int) (0 : Int) (fun hc4 => ?_) (fun hc4 => ?_)
   · have hB'1 := Bl.next hB_1 hb3
     exact xe 12 (.int .i64 (↑i : Int)) (.inr ⟨zeroB_false (j := i) (by omega) (by assumption), _, rfl, hB'1⟩)
   refine xwm 4 ((↑i : Int) + 1) (↑(i + 1) : Int) ?_
   have hB'2 := Bl.next hB_1 hb3
   exact ze 2 (hJ1 _ _ _ ⟨i + 1, rfl, rfl, hB'2, by omega, fun j hj => (Nat.lt_or_ge j i).elim (hz j) (fun q => by obtain rfl : j = i := (by omega); exact byte_zero (by assumption))⟩ (by omega))
 exact xe 11 (.int .i64 (-1)) (.inl ⟨zeroB_true (fun j hj => hz j (by omega)), rfl, hB_1⟩)
set_option maxRecDepth 100000 in
set_option maxHeartbeats 1000000 in
theorem containsZero (a : Option Addr) (c : Nat) (l : List UInt8) (w : World) (hl : l.length ≤ 100000000) (h : Bys w (.slice a l.length c) l) :
    Calls Tryz.prog 169 #[.slice a l.length c, .func (.func 170) #[] #[]] w (Ret (.bool (!zeroB l)) w) := by
 refine zin 9 Tryz.func169 ?_
 refine xc 9 (args := #[.slice a l.length c, .func (.func 170) #[] #[]]) (indexZero a c l _ hl (h.below (Below.refl w.heap.size _))) ?_
 rintro e W1 hq1
 rcases hq1 with ⟨hz, rfl, hb1⟩ | ⟨hz, i0, rfl, hb1⟩
 · refine xe 5 (.bool false) ?_
   rw [hz]; exact ⟨rfl, hb1⟩
 refine xe 5 (.bool (decide ((↑i0 : Int) ≥ (0 : Int)))) ?_
 rw [hz, show decide ((↑i0 : Int) ≥ (0 : Int)) = true from decide_eq_true (by omega)]; exact ⟨rfl, hb1⟩
set_option maxRecDepth 100000 in
set_option maxHeartbeats 1000000 in
theorem code_Zero (a : Option Addr) (c : Nat) (l : List UInt8) (w : World) (hl : l.length ≤ 100000000) (h : Bys w (.slice a l.length c) l) :
    Calls Tryz.prog 116 #[.slice a l.length c] w (Ret (.bool (zeroB l)) w) := by
 refine zin 6 Tryz.func116 ?_
 refine xr 8 (args := #[.slice a l.length c, .func (.func 170) #[] #[]]) (containsZero a c l _ hl (h.below (Below.refl w.heap.size _))) fun W1 hb1 => ?_
 refine xe 5 (.bool (!(!zeroB l))) ?_
 rw [Bool.not_not]; exact ⟨rfl, hb1⟩
/-- a kind and a number that may be -/
def knownB (kind no : Int) : Bool := decide (1 ≤ kind ∧ kind ≤ 4 ∧ 0 ≤ no ∧ no < 14400)
set_option maxRecDepth 100000 in
set_option maxHeartbeats 1000000 in
theorem seal_knownB (kind no : Int) (w : World) :
    Calls Tryz.prog 160 #[.int .i64 kind, .int .i64 no] w (Ret (.bool (knownB kind no)) w) := by
 refine zin 19 Tryz.func160 ?_
 refine xg 10 [6, 7] (decide (kind ≥ (1 : Int))) (fun hc1 => ?_) (fun hc1 => ?_)
 · have hc1 := of_decide_eq_true hc1
   refine xg 4 [9, 10, 11] (decide (kind ≤ (4 : Int))) (fun hc2 => ?_) (fun hc2 => ?_)
   · have hc2 := of_decide_eq_true hc2
     refine xg 4 [13, 14, 15] (decide (no ≥ (0 : Int))) (fun hc3 => ?_) (fun hc3 => ?_)
     · have hc3 := of_decide_eq_true hc3
       exact xe 7 (.bool (decide (no < (14400 : Int)))) ⟨by rw [show knownB kind no = decide (no < 14400) from decide_eq_decide.2 ⟨fun h => h.2.2.2, fun h => ⟨by omega, by omega, by omega, h⟩⟩], (Below.refl w.heap.size _)⟩
     have hc3 := of_decide_eq_false hc3
     exact xe 7 (.bool false) ⟨by rw [show knownB kind no = false from decide_eq_false (by omega)], (Below.refl w.heap.size _)⟩
   have hc2 := of_decide_eq_false hc2
   exact xe 11 (.bool false) ⟨by rw [show knownB kind no = false from decide_eq_false (by omega)], (Below.refl w.heap.size _)⟩
 have hc1 := of_decide_eq_false hc1
 exact xe 15 (.bool false) ⟨by rw [show knownB kind no = false from decide_eq_false (by omega)], (Below.refl w.heap.size _)⟩
set_option maxRecDepth 100000 in
set_option maxHeartbeats 1000000 in
theorem seal_told (a : Option Addr) (c k w : Nat) (l : List UInt8) (W : World) (hw : w = 1 ∨ w = 2 ∨ w = 4) (hk : k + w ≤ l.length) (hl : l.length ≤ 100000000) (h : Bys W (.slice a l.length c) l) :
    Calls Tryz.prog 163 #[.slice a l.length c, .int .i64 (↑k : Int), .int .i64 (↑w : Int)] W (Ret (.int .i64 (rawN l k w : Int)) W) := by
 refine zin 17 Tryz.func163 ?_
 refine xr 10 (args := #[.slice a l.length c, .int .i64 (↑k : Int), .int .i64 (↑w : Int)]) (Get_ok a c k w l _ (by omega) hk hl (h.below (Below.refl W.heap.size _)) (by have := rawN_lt4 l k w (by omega); omega)) fun W1 hb1 => ?_
 exact xe 14 (.int .i64 (↑(rawN l k w) : Int)) ⟨rfl, hb1⟩
theorem seal_toldN (a : Option Addr) (n c k w : Nat) (ki wi : Int) (l : List UInt8) (W : World) (hn : l.length = n) (hki : ki = (k : Int)) (hwi : wi = (w : Int)) (hw : w = 1 ∨ w = 2 ∨ w = 4) (hk : k + w ≤ n) (hl : n ≤ 100000000) (h : Bys W (.slice a n c) l) :
    Calls Tryz.prog 163 #[.slice a n c, .int .i64 ki, .int .i64 wi] W (Ret (.int .i64 (rawN l k w : Int)) W) := by
  subst hn hki hwi; exact seal_told a c k w l W hw hk hl h
/-- what Open asks, in order -/
def askB (kind no : Int) (l : List UInt8) : Nat → Bool
  | 0 => !knownB kind no
  | 1 => (l.length : Int) != 256
  | 2 => (rawN l 252 4 : Int) != (sumB l kind : Int)
  | 3 => (rawN l 0 4 : Int) != no
  | 4 => (rawN l 4 2 : Int) != kind
  | _ => (rawN l 6 2 : Int) != 0
/-- the number of the first that is so; 0: none -/
def openE (kind no : Int) (l : List UInt8) : Int :=
  if askB kind no l 0 then 1 else if askB kind no l 1 then 7 else if askB kind no l 2 then 4 else if askB kind no l 3 then 5 else if askB kind no l 4 then 6 else if askB kind no l 5 then 7 else 0
theorem ask1 {kind no : Int} {l : List UInt8} (h : askB kind no l 1 = false) : l.length = 256 := by
  have : (l.length : Int) = 256 := eq_of_bne_false h
  omega
set_option maxRecDepth 100000 in
set_option maxHeartbeats 1000000 in
theorem open_1 (kind no : Int) (w : World) (l : List UInt8) (bk : Nat) (kk : Blk w bk [.int .i64 kind] 3) (bn : Nat) (kn : Blk w bn [.int .i64 no] 3) :
    Calls Tryz.prog 159 #[.pointer (some ⟨bk, 0, none⟩), .pointer (some ⟨bn, 0, none⟩)] w (Ret (.bool (askB kind no l 0)) w) := by
 refine zin 7 Tryz.func159 ?_
 refine xb 7 0 kk ?_
 refine xb 0 0 kn ?_
 refine xr 0 (args := #[.int .i64 kind, .int .i64 no]) (seal_knownB kind no _) fun W1 hb1 => ?_
 exact xe 5 (.bool (!(knownB kind no))) ⟨rfl, hb1⟩
set_option maxRecDepth 100000 in
set_option maxHeartbeats 1000000 in
theorem open_2 (kind no : Int) (w : World) (bb : Nat) (a : Option Addr) (c : Nat) (l : List UInt8) (kb : Blk w bb [.slice a l.length c] 22) :
    Calls Tryz.prog 161 #[.pointer (some ⟨bb, 0, none⟩)] w (Ret (.bool (askB kind no l 1)) w) := by
 refine zin 5 Tryz.func161 ?_
 refine xb 7 0 kb ?_
 exact xe 6 (.bool ((↑l.length : Int) != (256 : Int))) ⟨rfl, (Below.refl w.heap.size _)⟩
theorem seal_sumN (kind : Int) (a : Option Addr) (c n : Nat) (l : List UInt8) (w : World) (hn : l.length = n) (h256 : n = 256) (hc : 256 ≤ c) (h : Bys w (.slice a n c) l) :
    Calls Tryz.prog 164 #[.slice a n c, .int .i64 kind] w (Ret (.int .i64 (sumB l kind : Int)) w) := by
  subst h256; exact seal_sum kind a c l w hn hc h
set_option maxRecDepth 100000 in
set_option maxHeartbeats 1000000 in
theorem open_3 (kind no : Int) (w : World) (bb : Nat) (a : Option Addr) (c : Nat) (l : List UInt8) (kb : Blk w bb [.slice a l.length c] 22) (bk : Nat) (kk : Blk w bk [.int .i64 kind] 3) (hl : l.length = 256) (hc : 256 ≤ c) (h : Bys w (.slice a l.length c) l) :
    Calls Tryz.prog 162 #[.pointer (some ⟨bb, 0, none⟩), .pointer (some ⟨bk, 0, none⟩)] w (Ret (.bool (askB kind no l 2)) w) := by
 refine zin 9 Tryz.func162 ?_
 refine xd 6 .z ?_
 have kb'1 := kb.below (below_drew w)
 refine xb (.e [] 0) 0 kb'1 ?_
 refine xb (.e [] 2) 0 kb'1 ?_
 have kk'1 := kk.below (below_drew w)
 refine xb (.e [] 3) 0 kk'1 ?_
 have hB := (below_drew w)
 refine xr (.o [] 1) (args := #[.slice a l.length c, .int .i64 252, .int .i64 4]) (seal_toldN a l.length c 252 4 252 4 l _ rfl rfl rfl (by decide) (by omega) (by omega) (h.below hB)) fun W1 hb1 => ?_
 have hB'1 := Bl.next hB hb1
 refine xr (.o [] 4) (args := #[.slice a l.length c, .int .i64 kind]) (seal_sumN kind a c l.length l _ rfl hl hc (h.below hB'1)) fun W2 hb2 => ?_
 have hB'2 := Bl.next hB'1 hb2
 exact xe (.r [5, 6] 3) (.bool ((↑(rawN l 252 4) : Int) != (↑(sumB l kind) : Int))) ⟨rfl, hB'2⟩
set_option maxRecDepth 100000 in
set_option maxHeartbeats 1000000 in
theorem open_4 (kind no : Int) (w : World) (bb : Nat) (a : Option Addr) (c : Nat) (l : List UInt8) (kb : Blk w bb [.slice a l.length c] 22) (bn : Nat) (kn : Blk w bn [.int .i64 no] 3) (hl : l.length = 256) (hc : 256 ≤ c) (h : Bys w (.slice a l.length c) l) :
    Calls Tryz.prog 165 #[.pointer (some ⟨bb, 0, none⟩), .pointer (some ⟨bn, 0, none⟩)] w (Ret (.bool (askB kind no l 3)) w) := by
 refine zin 7 Tryz.func165 ?_
 refine xd 6 .z ?_
 have kb'1 := kb.below (below_drew w)
 refine xb (.e [] 0) 0 kb'1 ?_
 have kn'1 := kn.below (below_drew w)
 refine xb (.e [] 2) 0 kn'1 ?_
 have hB := (below_drew w)
 refine xr (.o [] 1) (args := #[.slice a l.length c, .int .i64 0, .int .i64 4]) (seal_toldN a l.length c 0 4 0 4 l _ rfl rfl rfl (by decide) (by omega) (by omega) (h.below hB)) fun W1 hb1 => ?_
 have hB'1 := Bl.next hB hb1
 exact xe (.r [3, 4] 3) (.bool ((↑(rawN l 0 4) : Int) != no)) ⟨rfl, hB'1⟩
set_option maxRecDepth 100000 in
set_option maxHeartbeats 1000000 in
theorem open_5 (kind no : Int) (w : World) (bb : Nat) (a : Option Addr) (c : Nat) (l : List UInt8) (kb : Blk w bb [.slice a l.length c] 22) (bk : Nat) (kk : Blk w bk [.int .i64 kind] 3) (hl : l.length = 256) (hc : 256 ≤ c) (h : Bys w (.slice a l.length c) l) :
    Calls Tryz.prog 166 #[.pointer (some ⟨bb, 0, none⟩), .pointer (some ⟨bk, 0, none⟩)] w (Ret (.bool (askB kind no l 4)) w) := by
 refine zin 7 Tryz.func166 ?_
 refine xd 6 .z ?_
 have kb'1 := kb.below (below_drew w)
 refine xb (.e [] 0) 0 kb'1 ?_
 have kk'1 := kk.below (below_drew w)
 refine xb (.e [] 2) 0 kk'1 ?_
 have hB := (below_drew w)
 refine xr (.o [] 1) (args := #[.slice a l.length c, .int .i64 4, .int .i64 2]) (seal_toldN a l.length c 4 2 4 2 l _ rfl rfl rfl (by decide) (by omega) (by omega) (h.below hB)) fun W1 hb1 => ?_
 have hB'1 := Bl.next hB hb1
 exact xe (.r [3, 4] 3) (.bool ((↑(rawN l 4 2) : Int) != kind)) ⟨rfl, hB'1⟩
set_option maxRecDepth 100000 in
set_option maxHeartbeats 1000000 in
theorem open_6 (kind no : Int) (w : World) (bb : Nat) (a : Option Addr) (c : Nat) (l : List UInt8) (kb : Blk w bb [.slice a l.length c] 22) (hl : l.length = 256) (hc : 256 ≤ c) (h : Bys w (.slice a l.length c) l) :
    Calls Tryz.prog 167 #[.pointer (some ⟨bb, 0, none⟩)] w (Ret (.bool (askB kind no l 5)) w) := by
 refine zin 5 Tryz.func167 ?_
 refine xb 7 0 kb ?_
 refine xr 0 (args := #[.slice a l.length c, .int .i64 6, .int .i64 2]) (seal_toldN a l.length c 6 2 6 2 l _ rfl rfl rfl (by decide) (by omega) (by omega) (h.below (Below.refl w.heap.size _))) fun W1 hb1 => ?_
 exact xe 5 (.bool ((↑(rawN l 6 2) : Int) != (0 : Int))) ⟨rfl, hb1⟩
/-- what Open hands back -/
def OpenP (kind no : Int) (l : List UInt8) (w : World) (e : Ending) (w' : World) : Prop :=
  (openE kind no l ≠ 0 ∧ e = .returned (.tuple #[.slice none 0 0, .int .i64 (openE kind no l)]) ∧ Below w.heap.size w w') ∨
  (openE kind no l = 0 ∧ ∃ p c, e = .returned (.tuple #[.slice p 244 c, .int .i64 0]) ∧ Below w.heap.size w w' ∧ w'.ownsRow w.heap.size 5 1 (.slice p 244 c) 244 (((l.drop 8).take 244).map bv))
set_option maxRecDepth 100000 in
set_option maxHeartbeats 4000000 in
theorem seal_Open (kind no : Int) (a : Option Addr) (c : Nat) (l : List UInt8) (w : World) (h : Bys w (.slice a l.length c) l) :
    Calls Tryz.prog 114 #[.slice a l.length c, .int .i64 kind, .int .i64 no] w (OpenP kind no l w) := by
 have hcap := h.cap rfl
 refine zin 39 Tryz.func114 ?_
 refine xa 2 [.slice a l.length c] 22 fun b1 W1 n1 => ?_
 refine xa 0 [.int .i64 kind] 3 fun b2 W2 n2 => ?_
 refine xa 0 [.int .i64 no] 3 fun b3 W3 n3 => ?_
 have d3_b2 := n3.ne n2.blk
 refine xbs 18 6 [.func (.func 159) #[] #[.pointer (some ⟨b2, 0, none⟩), .pointer (some ⟨b3, 0, none⟩)], .int .i64 1, .func (.func 161) #[] #[.pointer (some ⟨b1, 0, none⟩)], .int .i64 7, .func (.func 162) #[] #[.pointer (some ⟨b1, 0, none⟩), .pointer (some ⟨b2, 0, none⟩)], .int .i64 4, .func (.func 165) #[] #[.pointer (some ⟨b1, 0, none⟩), .pointer (some ⟨b3, 0, none⟩)], .int .i64 5, .func (.func 166) #[] #[.pointer (some ⟨b1, 0, none⟩), .pointer (some ⟨b2, 0, none⟩)], .int .i64 6, .func (.func 167) #[] #[.pointer (some ⟨b1, 0, none⟩)], .int .i64 7] 270 fun b4 W4 n4 => ?_
 refine xu 12 7 ?_
 refine xlv 14 (n4.blk.rpp 0 2) ?_
 refine xa 0 [.nilFunc, .int .i64 0] 270 fun b5 W5 n5 => ?_
 have d5_b4 := n5.ne n4.blk
 refine xsv 0 n5.blk [.func (.func 159) #[] #[.pointer (some ⟨b2, 0, none⟩), .pointer (some ⟨b3, 0, none⟩)], .int .i64 1] fun W6 u6 k6 => ?_
 have g5 := n5.ge (Bl.next (Bl.next (Bl.next n1.below n2.below) n3.below) n4.below)
 refine xb 5 0 k6 ?_
 have k2'1 := u6.blkT (((n2.blk.below n3.below).below n4.below).below n5.below) n5.blk (by decide)
 have k3 := u6.blkT ((n3.blk.below n4.below).below n5.below) n5.blk (by decide)
 refine xr 0 (args := #[.pointer (some ⟨b2, 0, none⟩), .pointer (some ⟨b3, 0, none⟩)]) (open_1 kind no _ l b2 k2'1 b3 k3) fun W7 hb7 => ?_
 refine xi 2 (askB kind no l 0) (fun hc8 => ?_) (fun hc8 => ?_)
 · have hk1 := hc8
   refine xd 1 .z ?_
   have k6'1 := (k6.below hb7).below (below_drew W7)
   refine xb (.e [0] 1) 1 k6'1 ?_
   have hB := Bl.next (Bl.next (u6.below (Bl.next (Bl.next (Bl.next (Bl.next n1.below n2.below) n3.below) n4.below) n5.below) g5) hb7) (below_drew W7)
   refine xe (.r [2, 3] 8) (.tuple #[.slice none 0 0, .int .i64 1]) ?_
   have he : openE kind no l = 1 := by simp [openE, hk1]
   exact .inl ⟨by rw [he]; decide, by rw [he], hB⟩
 have hk1 := hc8
 have k4'1 := (u6.blk (n4.blk.below n5.below) (Ne.symm (Ne.symm d5_b4))).below hb7
 refine xlv 22 (k4'1.rpp 2 2) ?_
 refine xa 0 [.nilFunc, .int .i64 0] 270 fun b9 W9 n9 => ?_
 have d9_b4 := n9.ne k4'1
 have k6'2 := k6.below hb7
 have d9_b5 := n9.ne k6'2
 refine xsv 0 n9.blk [.func (.func 161) #[] #[.pointer (some ⟨b1, 0, none⟩)], .int .i64 7] fun W10 u10 k10 => ?_
 have g9 := n9.ge (Bl.next (u6.below (Bl.next (Bl.next (Bl.next (Bl.next n1.below n2.below) n3.below) n4.below) n5.below) g5) hb7)
 refine xb 5 0 k10 ?_
 have k1 := u10.blkT (((u6.blkT ((((n1.blk.below n2.below).below n3.below).below n4.below).below n5.below) n5.blk (by decide)).below hb7).below n9.below) n9.blk (by decide)
 refine xr 0 (args := #[.pointer (some ⟨b1, 0, none⟩)]) (open_2 kind no _ b1 a c l k1) fun W11 hb11 => ?_
 refine xi 2 (askB kind no l 1) (fun hc12 => ?_) (fun hc12 => ?_)
 · have hk2 := hc12
   refine xd 1 .z ?_
   have k10'1 := (k10.below hb11).below (below_drew W11)
   refine xb (.e [0] 1) 1 k10'1 ?_
   have hB := Bl.next (Bl.next (u10.below (Bl.next (Bl.next (u6.below (Bl.next (Bl.next (Bl.next (Bl.next n1.below n2.below) n3.below) n4.below) n5.below) g5) hb7) n9.below) g9) hb11) (below_drew W11)
   refine xe (.r [2, 3] 8) (.tuple #[.slice none 0 0, .int .i64 7]) ?_
   have he : openE kind no l = 7 := by simp [openE, hk1, hk2]
   exact .inl ⟨by rw [he]; decide, by rw [he], hB⟩
 have hk2 := hc12
 have hl256 := ask1 hk2
 have k4'2 := (u10.blk (k4'1.below n9.below) (Ne.symm (Ne.symm d9_b4))).below hb11
 refine xlv 22 (k4'2.rpp 4 2) ?_
 refine xa 0 [.nilFunc, .int .i64 0] 270 fun b13 W13 n13 => ?_
 have d13_b4 := n13.ne k4'2
 have k6'3 := (u10.blk (k6'2.below n9.below) (Ne.symm (Ne.symm d9_b5))).below hb11
 have d13_b5 := n13.ne k6'3
 have k10'2 := k10.below hb11
 have d13_b9 := n13.ne k10'2
 have hB := Bl.next (u10.below (Bl.next (Bl.next (u6.below (Bl.next (Bl.next (Bl.next (Bl.next n1.below n2.below) n3.below) n4.below) n5.below) g5) hb7) n9.below) g9) hb11
 refine xsv 0 n13.blk [.func (.func 162) #[] #[.pointer (some ⟨b1, 0, none⟩), .pointer (some ⟨b2, 0, none⟩)], .int .i64 4] fun W14 u14 k14 => ?_
 have g13 := n13.ge hB
 refine xb 5 0 k14 ?_
 have k1'1 := u14.blkT ((k1.below hb11).below n13.below) n13.blk (by decide)
 have k2'2 := u14.blkT (((u10.blkT ((k2'1.below hb7).below n9.below) n9.blk (by decide)).below hb11).below n13.below) n13.blk (by decide)
 have hB'1 := u14.below (Bl.next hB n13.below) g13
 refine xr 0 (args := #[.pointer (some ⟨b1, 0, none⟩), .pointer (some ⟨b2, 0, none⟩)]) (open_3 kind no _ b1 a c l k1'1 b2 k2'2 (ask1 hk2) (by have := ask1 hk2; have := h.cap rfl; omega) (h.below hB'1)) fun W15 hb15 => ?_
 refine xi 2 (askB kind no l 2) (fun hc16 => ?_) (fun hc16 => ?_)
 · have hk3 := hc16
   refine xd 1 .z ?_
   have k14'1 := (k14.below hb15).below (below_drew W15)
   refine xb (.e [0] 1) 1 k14'1 ?_
   have hB'2 := Bl.next (Bl.next hB'1 hb15) (below_drew W15)
   refine xe (.r [2, 3] 8) (.tuple #[.slice none 0 0, .int .i64 4]) ?_
   have he : openE kind no l = 4 := by simp [openE, hk1, hk2, hk3]
   exact .inl ⟨by rw [he]; decide, by rw [he], hB'2⟩
 have hk3 := hc16
 have k4'3 := (u14.blk (k4'2.below n13.below) (Ne.symm (Ne.symm d13_b4))).below hb15
 refine xlv 22 (k4'3.rpp 6 2) ?_
 refine xa 0 [.nilFunc, .int .i64 0] 270 fun b17 W17 n17 => ?_
 have d17_b4 := n17.ne k4'3
 have k6'4 := (u14.blk (k6'3.below n13.below) (Ne.symm (Ne.symm d13_b5))).below hb15
 have d17_b5 := n17.ne k6'4
 have k10'3 := (u14.blk (k10'2.below n13.below) (Ne.symm (Ne.symm d13_b9))).below hb15
 have d17_b9 := n17.ne k10'3
 have k14'2 := k14.below hb15
 have d17_b13 := n17.ne k14'2
 refine xsv 0 n17.blk [.func (.func 165) #[] #[.pointer (some ⟨b1, 0, none⟩), .pointer (some ⟨b3, 0, none⟩)], .int .i64 5] fun W18 u18 k18 => ?_
 have g17 := n17.ge (Bl.next hB'1 hb15)
 refine xb 5 0 k18 ?_
 have k1'2 := u18.blkT ((k1'1.below hb15).below n17.below) n17.blk (by decide)
 have k3'1 := u18.blkT (((u14.blkT (((u10.blkT ((k3.below hb7).below n9.below) n9.blk (by decide)).below hb11).below n13.below) n13.blk (by decide)).below hb15).below n17.below) n17.blk (by decide)
 have hB'3 := u18.below (Bl.next (Bl.next hB'1 hb15) n17.below) g17
 refine xr 0 (args := #[.pointer (some ⟨b1, 0, none⟩), .pointer (some ⟨b3, 0, none⟩)]) (open_4 kind no _ b1 a c l k1'2 b3 k3'1 (ask1 hk2) (by have := ask1 hk2; have := h.cap rfl; omega) (h.below hB'3)) fun W19 hb19 => ?_
 refine xi 2 (askB kind no l 3) (fun hc20 => ?_) (fun hc20 => ?_)
 · have hk4 := hc20
   refine xd 1 .z ?_
   have k18'1 := (k18.below hb19).below (below_drew W19)
   refine xb (.e [0] 1) 1 k18'1 ?_
   have hB'4 := Bl.next (Bl.next hB'3 hb19) (below_drew W19)
   refine xe (.r [2, 3] 8) (.tuple #[.slice none 0 0, .int .i64 5]) ?_
   have he : openE kind no l = 5 := by simp [openE, hk1, hk2, hk3, hk4]
   exact .inl ⟨by rw [he]; decide, by rw [he], hB'4⟩
 have hk4 := hc20
 have k4'4 := (u18.blk (k4'3.below n17.below) (Ne.symm (Ne.symm d17_b4))).below hb19
 refine xlv 22 (k4'4.rpp 8 2) ?_
 refine xa 0 [.nilFunc, .int .i64 0] 270 fun b21 W21 n21 => ?_
 have d21_b4 := n21.ne k4'4
 have k6'5 := (u18.blk (k6'4.below n17.below) (Ne.symm (Ne.symm d17_b5))).below hb19
 have d21_b5 := n21.ne k6'5
 have k10'4 := (u18.blk (k10'3.below n17.below) (Ne.symm (Ne.symm d17_b9))).below hb19
 have d21_b9 := n21.ne k10'4
 have k14'3 := (u18.blk (k14'2.below n17.below) (Ne.symm (Ne.symm d17_b13))).below hb19
 have d21_b13 := n21.ne k14'3
 have k18'2 := k18.below hb19
 have d21_b17 := n21.ne k18'2
 refine xsv 0 n21.blk [.func (.func 166) #[] #[.pointer (some ⟨b1, 0, none⟩), .pointer (some ⟨b2, 0, none⟩)], .int .i64 6] fun W22 u22 k22 => ?_
 have g21 := n21.ge (Bl.next hB'3 hb19)
 refine xb 5 0 k22 ?_
 have k1'3 := u22.blkT ((k1'2.below hb19).below n21.below) n21.blk (by decide)
 have k2'3 := u22.blkT (((u18.blkT ((k2'2.below hb15).below n17.below) n17.blk (by decide)).below hb19).below n21.below) n21.blk (by decide)
 have hB'5 := u22.below (Bl.next (Bl.next hB'3 hb19) n21.below) g21
 refine xr 0 (args := #[.pointer (some ⟨b1, 0, none⟩), .pointer (some ⟨b2, 0, none⟩)]) (open_5 kind no _ b1 a c l k1'3 b2 k2'3 (ask1 hk2) (by have := ask1 hk2; have := h.cap rfl; omega) (h.below hB'5)) fun W23 hb23 => ?_
 refine xi 2 (askB kind no l 4) (fun hc24 => ?_) (fun hc24 => ?_)
 · have hk5 := hc24
   refine xd 1 .z ?_
   have k22'1 := (k22.below hb23).below (below_drew W23)
   refine xb (.e [0] 1) 1 k22'1 ?_
   have hB'6 := Bl.next (Bl.next hB'5 hb23) (below_drew W23)
   refine xe (.r [2, 3] 8) (.tuple #[.slice none 0 0, .int .i64 6]) ?_
   have he : openE kind no l = 6 := by simp [openE, hk1, hk2, hk3, hk4, hk5]
   exact .inl ⟨by rw [he]; decide, by rw [he], hB'6⟩
 have hk5 := hc24
 have k4'5 := (u22.blk (k4'4.below n21.below) (Ne.symm (Ne.symm d21_b4))).below hb23
 refine xlv 22 (k4'5.rpp 10 2) ?_
 refine xa 0 [.nilFunc, .int .i64 0] 270 fun b25 W25 n25 => ?_
 have d25_b4 := n25.ne k4'5
 have k6'6 := (u22.blk (k6'5.below n21.below) (Ne.symm (Ne.symm d21_b5))).below hb23
 have d25_b5 := n25.ne k6'6
 have k10'5 := (u22.blk (k10'4.below n21.below) (Ne.symm (Ne.symm d21_b9))).below hb23
 have d25_b9 := n25.ne k10'5
 have k14'4 := (u22.blk (k14'3.below n21.below) (Ne.symm (Ne.symm d21_b13))).below hb23
 have d25_b13 := n25.ne k14'4
 have k18'3 := (u22.blk (k18'2.below n21.below) (Ne.symm (Ne.symm d21_b17))).below hb23
 have d25_b17 := n25.ne k18'3
 have k22'2 := k22.below hb23
 have d25_b21 := n25.ne k22'2
 refine xsv 0 n25.blk [.func (.func 167) #[] #[.pointer (some ⟨b1, 0, none⟩)], .int .i64 7] fun W26 u26 k26 => ?_
 have g25 := n25.ge (Bl.next hB'5 hb23)
 refine xb 5 0 k26 ?_
 have k1'4 := u26.blkT ((k1'3.below hb23).below n25.below) n25.blk (by decide)
 have hB'7 := u26.below (Bl.next (Bl.next hB'5 hb23) n25.below) g25
 refine xr 0 (args := #[.pointer (some ⟨b1, 0, none⟩)]) (open_6 kind no _ b1 a c l k1'4  (ask1 hk2) (by have := ask1 hk2; have := h.cap rfl; omega) (h.below hB'7)) fun W27 hb27 => ?_
 refine xi 2 (askB kind no l 5) (fun hc28 => ?_) (fun hc28 => ?_)
 · have hk6 := hc28
   refine xd 1 .z ?_
   have k26'1 := (k26.below hb27).below (below_drew W27)
   refine xb (.e [0] 1) 1 k26'1 ?_
   have hB'8 := Bl.next (Bl.next hB'7 hb27) (below_drew W27)
   refine xe (.r [2, 3] 8) (.tuple #[.slice none 0 0, .int .i64 7]) ?_
   have he : openE kind no l = 7 := by simp [openE, hk1, hk2, hk3, hk4, hk5, hk6]
   exact .inl ⟨by rw [he]; decide, by rw [he], hB'8⟩
 have hk6 := hc28
 have k1'5 := k1'4.below hb27
 refine xb 22 0 k1'5 ?_
 refine xsB 0 (fun _ _ _ _ _ zo zx zy zz V => run_sliceLHA (k := 8) (h := 252) (b := a) (n := l.length) (c := c) (i := 8) (ki := .i64) (j := 252) (kj := .i64) 1 zo zx zy rfl zz rfl (by omega) (by omega) Tryz.underlying22 (by kernel_rfl) V) ?_
 have hB'9 := Bl.next hB'7 hb27
 refine xc 0 (args := #[.slice (cutA a 8 c 1) 244 (c - 8)]) (clone_bytesN (cutA a 8 c 1) 244 (c - 8) ((l.drop 8).take 244) _ (by have := ask1 hk2; simp; omega) ((Bys.cut h rfl 8 252 (by decide) (by have := ask1 hk2; omega)).below hB'9) (by decide)) ?_
 rintro _ W29 ⟨_, rfl, hb29, ho⟩
 have hs29 := (Bl.next hB'7 hb27).size
 have ho'1 := own_mono ho hs29
 unfold OwnB at ho'1
 rw [show ((l.drop 8).take 244).length = 244 from by have := ask1 hk2; simp; omega] at ho'1
 obtain ⟨p, c3, rfl⟩ := (own_sl ho'1).slice
 have hB'10 := Bl.next hB'9 hb29
 exact xe 5 (.tuple #[.slice p 244 c3, .int .i64 0]) (.inr ⟨by simp [openE, hk1, hk2, hk3, hk4, hk5, hk6], _, _, rfl, hB'10, ho'1⟩)
end Go.Proofs.YthlakkdgcgkcdaaGreatDoor
namespace Go.Proofs.YthlakkdgcgkcdaaGreatDoor
open Go.RowKit Go.Extern.Stop Go.Stop Go.Extern
set_option linter.unusedVariables false
attribute [local irreducible] wpList wpAnyH Code.wp Oper.wp Go

def widG (t : Int) (leaf : Bool) : Nat := if 1 ≤ t ∧ t ≤ 5 then widN t leaf else 0
def maxG (t : Int) (leaf : Bool) : Nat := if 1 ≤ t ∧ t ≤ 5 then maxN t leaf else 0
theorem fitG (t : Int) (leaf : Bool) : 12 + maxG t leaf * 8 + maxG t leaf * widG t leaf ≤ 244 := by
  unfold maxG widG; split
  · exact fitN t leaf
  · decide
theorem maxG_le (t : Int) (leaf : Bool) : maxG t leaf ≤ 18 := by
  unfold maxG; split
  · exact (maxN_pos t leaf).2
  · decide
theorem widG_le (t : Int) (leaf : Bool) : widG t leaf ≤ 24 := by
  unfold widG; split
  · exact (widN_bd t leaf).2
  · decide
set_option maxRecDepth 100000 in
set_option maxHeartbeats 1000000 in
theorem node_Width_out (t : Int) (leaf : Bool) (w : World) (h : ¬ (1 ≤ t ∧ t ≤ 5)) :
    Calls Tryz.prog 135 #[.int .i64 t, .bool leaf] w (Ret (.int .i64 0) w) := by
 refine zin 31 Tryz.func135 ?_
 refine xg 17 [8, 9] (decide (t < (1 : Int))) (fun hc1 => ?_) (fun hc1 => ?_)
 · have hc1 := of_decide_eq_true hc1
   exact xe 15 (.int .i64 0) ⟨rfl, (Below.refl w.heap.size _)⟩
 have hc1 := of_decide_eq_false hc1
 refine xk 6 (show (decide (t > (5 : Int)) : Bool) = true from decide_eq_true (by omega)) ?_
 exact xe 8 (.int .i64 0) ⟨rfl, (Below.refl w.heap.size _)⟩
theorem node_WidthG (t : Int) (leaf : Bool) (w : World) : Calls Tryz.prog 135 #[.int .i64 t, .bool leaf] w (Ret (.int .i64 (widG t leaf : Int)) w) := by
  unfold widG
  by_cases h : 1 ≤ t ∧ t ≤ 5
  · rw [if_pos h]; exact node_Width t leaf h.1 h.2 w
  · rw [if_neg h]; exact node_Width_out t leaf w h
set_option maxRecDepth 100000 in
set_option maxHeartbeats 1000000 in
theorem node_Max_out (t : Int) (leaf : Bool) (w : World) (h : ¬ (1 ≤ t ∧ t ≤ 5)) :
    Calls Tryz.prog 127 #[.int .i64 t, .bool leaf] w (Ret (.int .i64 0) w) := by
 refine zin 16 Tryz.func127 ?_
 refine xr 9 (args := #[.int .i64 t, .bool leaf]) (node_Width_out t leaf _ h) fun W1 hb1 => ?_
 exact xe 18 (.int .i64 0) ⟨rfl, hb1⟩
theorem node_MaxG (t : Int) (leaf : Bool) (w : World) : Calls Tryz.prog 127 #[.int .i64 t, .bool leaf] w (Ret (.int .i64 (maxG t leaf : Int)) w) := by
  unfold maxG
  by_cases h : 1 ≤ t ∧ t ≤ 5
  · rw [if_pos h]; exact node_Max t leaf h.1 h.2 w
  · rw [if_neg h]; exact node_Max_out t leaf w h
/-- a key's number, by the last of the keys ahead -/
def keyR (L : List Int) (i : Nat) (k : Int) : Int := if k < 0 ∨ 281474976710655 < k then 2 else if 0 < i ∧ k ≤ L.getD (i - 1) 0 then 8 else 0
/-- the head of a node's bytes -/
def nodT (l : List UInt8) : Int := (rawN l 1 1 : Int)
def nodL (l : List UInt8) : Bool := (rawN l 0 1 : Int) == (1 : Int)
def nodC (l : List UInt8) : Nat := rawN l 2 2
def nodW (l : List UInt8) : Nat := widG (nodT l) (nodL l)
def nodM (l : List UInt8) : Nat := maxG (nodT l) (nodL l)
def shapeB (l : List UInt8) : Bool := decide (rawN l 0 1 ≤ 1 ∧ nodW l ≠ 0 ∧ rawN l 2 2 ≤ nodM l ∧ rawN l 4 2 = nodW l ∧ rawN l 6 2 = nodM l ∧ rawN l 8 4 = 0 ∧ (rawN l 0 1 = 1 ∨ 0 < rawN l 2 2))
def ShapeP (l : List UInt8) (w : World) (e : Ending) (w' : World) : Prop :=
  (shapeB l = false ∧ ∃ a b c, e = .returned (.tuple #[.agg #[.int .i64 a, .bool b, .slice none 0 0, .slice none 0 0], .int .i64 c, .bool false]) ∧ Below w.heap.size w w') ∨
  (shapeB l = true ∧ e = .returned (.tuple #[.agg #[.int .i64 (nodT l), .bool (nodL l), .slice none 0 0, .slice none 0 0], .int .i64 (nodC l : Int), .bool true]) ∧ Below w.heap.size w w')
theorem Unpack_okN (a : Option Addr) (n c : Nat) (l : List UInt8) (aw : Option Addr) (cw m : Nat) (ws : List Nat) (xs : List Nat) (W : World) (hn : l.length = n) (hm : ws.length = m) (hx : unpL l 0 ws = xs) (hk : ∀ i, i < ws.length → ws.getD i 0 = 1 ∨ ws.getD i 0 = 2 ∨ ws.getD i 0 = 4 ∨ ws.getD i 0 = 8) (hs : ws.sum ≤ n) (hl : n ≤ 100000000) (hw : ws.length ≤ 1000) (h : Bys W (.slice a n c) l) (hws : Sl W (.slice aw m cw) m (ws.map nv)) (hq : ∀ i, i < ws.length → (unpL l 0 ws).getD i 0 < 9223372036854775808) :
    Calls Tryz.prog 93 #[.slice a n c, .slice aw m cw] W (RetS (fun w' r => ∃ p c, r = .tuple #[.slice p m c, .int .i64 0] ∧ w'.ownsRow W.heap.size 3 1 (.slice p m c) m (xs.map nv)) W) := by
  subst hn hm hx; exact Unpack_ok a c l aw cw ws W hk hs hl hw h hws hq
def head6 (l : List UInt8) : List Nat := [rawN l 0 1, rawN l 1 1, rawN l 2 2, rawN l 4 2, rawN l 6 2, rawN l 8 4]
theorem head6_bd (l : List UInt8) (i : Nat) (hi : i < 6) : (unpL l 0 [1, 1, 2, 2, 2, 4]).getD i 0 < 9223372036854775808 := by
  have h1 := rawN_lt4 l 0 1 (by decide)
  have h2 := rawN_lt4 l 1 1 (by decide)
  have h3 := rawN_lt4 l 2 2 (by decide)
  have h4 := rawN_lt4 l 4 2 (by decide)
  have h5 := rawN_lt4 l 6 2 (by decide)
  have h6 := rawN_lt4 l 8 4 (by decide)
  obtain rfl | rfl | rfl | rfl | rfl | rfl : i = 0 ∨ i = 1 ∨ i = 2 ∨ i = 3 ∨ i = 4 ∨ i = 5 := by omega
  all_goals simp [unpL]
  all_goals omega
set_option maxRecDepth 100000 in
set_option maxHeartbeats 4000000 in
theorem node_shape (a : Option Addr) (c : Nat) (l : List UInt8) (w : World) (hl : l.length = 244) (h : Bys w (.slice a 244 c) l) :
    Calls Tryz.prog 216 #[.slice a 244 c] w (ShapeP l w) := by
 refine zin 92 Tryz.func216 ?_
 refine xa 2 [.int .i64 0, .bool false, .slice none 0 0, .slice none 0 0] 188 fun b1 W1 n1 => ?_
 refine xbs 18 6 [.int .i64 1, .int .i64 1, .int .i64 2, .int .i64 2, .int .i64 2, .int .i64 4] 3 fun b2 W2 n2 => ?_
 have hB := Bl.next n1.below n2.below
 refine xc 0 (args := #[.slice a 244 c, .slice (some ⟨b2, 0, none⟩) 6 6]) (Unpack_okN a 244 c l (some ⟨b2, 0, none⟩) 6 6 [1, 1, 2, 2, 2, 4] (head6 l) _ hl rfl rfl (by decide) (by decide) (by decide) (by decide) (h.below hB) (n2.blk.sl 6 6 (by decide) (by decide)) (head6_bd l)) ?_
 rintro _ W3 ⟨_, rfl, hb3, p5, c5, rfl, h5⟩
 have hs3 := (Bl.next n1.below n2.below).size
 refine xd 8 (.t w.heap.size [188]) ?_
 have h5'1 := own_below (own_mono h5 hs3) (below_drew W3)
 refine xx (.e [0] 1) _ 6 1 1 (nv_elem (l := head6 l) (own_sl h5'1) rfl (k := 1) (by decide)).1 ?_
 refine xlt (.e [] 2) (.t w.heap.size [188]) (fun V hV => (nv_elem (l := head6 l) (own_sl (own_only h5'1 hV.2 (by decide))) rfl (k := 1) (by decide)).2) ?_
 refine xx (.e [3] 4) _ 6 0 1 (nv_elem (l := head6 l) (own_sl h5'1) rfl (k := 0) (by decide)).1 ?_
 refine xlt (.e [] 5) (.t w.heap.size [188]) (fun V hV => (nv_elem (l := head6 l) (own_sl (own_only h5'1 hV.2 (by decide))) rfl (k := 0) (by decide)).2) ?_
 refine xa (.o [6, 7] 8) [.int .i64 0, .bool false, .slice none 0 0, .slice none 0 0] 188 fun b4 W4 n4 => ?_
 have k1 := ((n1.blk.below n2.below).below hb3).below (below_drew W3)
 have d4_b1 := n4.ne k1
 have g4 := n4.ge (Bl.next (Bl.next hB hb3) (below_drew W3))
 refine ysv (.o [] 9) n4.blk [.int .i64 (↑(rawN l 1 1) : Int), .bool ((↑(rawN l 0 1) : Int) == (1 : Int)), .slice none 0 0, .slice none 0 0] (.t w.heap.size [188]) fun W5 u5 k5 => ⟨(sft_upd u5 n4.blk g4 (by decide)), ?_⟩
 have h5'2 := u5.own2 (own_below h5'1 n4.below) n4.blk (by decide)
 refine xx 6 _ 6 0 1 (nv_elem (l := head6 l) (own_sl h5'2) rfl (k := 0) (by decide)).1 ?_
 refine xl 0 ((nv_elem (l := head6 l) (own_sl h5'2) rfl (k := 0) (by decide)).2) ?_
 refine xg 2 [32, 33] (decide ((↑(rawN l 0 1) : Int) > (1 : Int))) (fun hc6 => ?_) (fun hc6 => ?_)
 · have hc6 := of_decide_eq_true hc6
   have k1'1 := u5.blk (k1.below n4.below) (Ne.symm (Ne.symm d4_b1))
   refine xsv 13 k1'1 [.int .i64 0, .bool false, .slice none 0 0, .slice none 0 0] fun W7 u7 k7 => ?_
   have g1 := n1.ge (Below.refl w.heap.size _)
   have hB'1 := u7.below (u5.below (Bl.next (Bl.next (Bl.next hB hb3) (below_drew W3)) n4.below) g4) g1
   exact xec 6 k7 (.tuple #[.agg #[.int .i64 0, .bool false, .slice none 0 0, .slice none 0 0], .int .i64 0, .bool false]) (.inl ⟨decide_eq_false (by omega), _, _, _, rfl, hB'1⟩)
 have hc6 := of_decide_eq_false hc6
 refine xb 1 0 k5 ?_
 refine xb 1 1 k5 ?_
 refine xr 0 (args := #[.int .i64 (↑(rawN l 1 1) : Int), .bool ((↑(rawN l 0 1) : Int) == (1 : Int))]) (node_WidthG (nodT l) (nodL l) _) fun W8 hb8 => ?_
 refine xie 4 (↑(nodW l) : Int) (0 : Int) (fun hc9 => ?_) (fun hc9 => ?_)
 · have k1'2 := (u5.blk (k1.below n4.below) (Ne.symm (Ne.symm d4_b1))).below hb8
   refine xsv 3 k1'2 [.int .i64 0, .bool false, .slice none 0 0, .slice none 0 0] fun W10 u10 k10 => ?_
   have g1 := n1.ge (Below.refl w.heap.size _)
   have hB'2 := u10.below (Bl.next (u5.below (Bl.next (Bl.next (Bl.next hB hb3) (below_drew W3)) n4.below) g4) hb8) g1
   exact xec 6 k10 (.tuple #[.agg #[.int .i64 0, .bool false, .slice none 0 0, .slice none 0 0], .int .i64 0, .bool false]) (.inl ⟨decide_eq_false (by omega), _, _, _, rfl, hB'2⟩)
 refine xd 3 .z ?_
 have k5'1 := (k5.below hb8).below (below_drew W8)
 refine xb (.e [0] 1) 0 k5'1 ?_
 refine xb (.e [2] 3) 1 k5'1 ?_
 refine xb (.e [5] 6) 0 k5'1 ?_
 refine xb (.e [7] 8) 1 k5'1 ?_
 refine xr (.o [] 4) (args := #[.int .i64 (↑(rawN l 1 1) : Int), .bool ((↑(rawN l 0 1) : Int) == (1 : Int))]) (node_WidthG (nodT l) (nodL l) _) fun W11 hb11 => ?_
 refine xr (.o [] 9) (args := #[.int .i64 (↑(rawN l 1 1) : Int), .bool ((↑(rawN l 0 1) : Int) == (1 : Int))]) (node_MaxG (nodT l) (nodL l) _) fun W12 hb12 => ?_
 have h5'3 := own_below (own_below (own_below (own_below h5'2 hb8) (below_drew W8)) hb11) hb12
 refine xx (.r [10, 11] 5) _ 6 2 1 (nv_elem (l := head6 l) (own_sl h5'3) rfl (k := 2) (by decide)).1 ?_
 refine xl 0 ((nv_elem (l := head6 l) (own_sl h5'3) rfl (k := 2) (by decide)).2) ?_
 refine xg 3 [56, 57] (decide ((↑(rawN l 2 2) : Int) ≤ (↑(nodM l) : Int))) (fun hc13 => ?_) (fun hc13 => ?_)
 · have hc13 := of_decide_eq_true hc13
   refine xx 1 _ 6 3 1 (nv_elem (l := head6 l) (own_sl h5'3) rfl (k := 3) (by decide)).1 ?_
   refine xl 0 ((nv_elem (l := head6 l) (own_sl h5'3) rfl (k := 3) (by decide)).2) ?_
   refine xg 4 [62, 63, 64] ((↑(rawN l 4 2) : Int) == (↑(nodW l) : Int)) (fun hc14 => ?_) (fun hc14 => ?_)
   · have hc14 := eq_of_beq hc14
     refine xx 1 _ 6 4 1 (nv_elem (l := head6 l) (own_sl h5'3) rfl (k := 4) (by decide)).1 ?_
     refine xl 0 ((nv_elem (l := head6 l) (own_sl h5'3) rfl (k := 4) (by decide)).2) ?_
     refine xg 4 [69, 70, 71] ((↑(rawN l 6 2) : Int) == (↑(nodM l) : Int)) (fun hc15 => ?_) (fun hc15 => ?_)
     · have hc15 := eq_of_beq hc15
       refine xx 1 _ 6 5 1 (nv_elem (l := head6 l) (own_sl h5'3) rfl (k := 5) (by decide)).1 ?_
       refine xl 0 ((nv_elem (l := head6 l) (own_sl h5'3) rfl (k := 5) (by decide)).2) ?_
       refine xg 3 [75, 76, 77] ((↑(rawN l 8 4) : Int) == (0 : Int)) (fun hc16 => ?_) (fun hc16 => ?_)
       · have hc16 := eq_of_beq hc16
         have k5'2 := (k5'1.below hb11).below hb12
         refine xb 1 1 k5'2 ?_
         refine xg 1 [27, 37, 45, 50, 79, 80] ((↑(rawN l 0 1) : Int) == (1 : Int)) (fun hc17 => ?_) (fun hc17 => ?_)
         · have hc17 := eq_of_beq hc17
           refine xd 10 (.t w.heap.size [188]) ?_
           have h5'4 := own_below h5'3 (below_drew W12)
           refine xx (.e [1] 2) _ 6 2 1 (nv_elem (l := head6 l) (own_sl h5'4) rfl (k := 2) (by decide)).1 ?_
           refine xlt (.e [] 3) (.t w.heap.size [188]) (fun V hV => (nv_elem (l := head6 l) (own_sl (own_only h5'4 hV.2 (by decide))) rfl (k := 2) (by decide)).2) ?_
           have k5'3 := k5'2.below (below_drew W12)
           refine xlv (.o [4] 0) k5'3.rp ?_
           have k1'3 := (((((u5.blk (k1.below n4.below) (Ne.symm (Ne.symm d4_b1))).below hb8).below (below_drew W8)).below hb11).below hb12).below (below_drew W12)
           have g1 := n1.ge (Below.refl w.heap.size _)
           refine ysv (.o [] 5) k1'3 [.int .i64 (↑(rawN l 1 1) : Int), .bool ((↑(rawN l 0 1) : Int) == (1 : Int)), .slice none 0 0, .slice none 0 0] (.t w.heap.size [188]) fun W18 u18 k18 => ⟨(sft_upd u18 k1'3 g1 (by decide)), ?_⟩
           have hB'3 := u18.below (Bl.next (Bl.next (Bl.next (Bl.next (Bl.next (u5.below (Bl.next (Bl.next (Bl.next hB hb3) (below_drew W3)) n4.below) g4) hb8) (below_drew W8)) hb11) hb12) (below_drew W12)) g1
           exact xec (.r [6, 7] 3) k18 (.tuple #[.agg #[.int .i64 (↑(rawN l 1 1) : Int), .bool ((↑(rawN l 0 1) : Int) == (1 : Int)), .slice none 0 0, .slice none 0 0], .int .i64 (↑(rawN l 2 2) : Int), .bool true]) (.inr ⟨decide_eq_true (by omega), rfl, hB'3⟩)
         have hc17 := ne_of_beq_false hc17
         refine xx 1 _ 6 2 1 (nv_elem (l := head6 l) (own_sl h5'3) rfl (k := 2) (by decide)).1 ?_
         refine xl 0 ((nv_elem (l := head6 l) (own_sl h5'3) rfl (k := 2) (by decide)).2) ?_
         refine xd 7 (.t w.heap.size [188]) ?_
         have h5'5 := own_below h5'3 (below_drew W12)
         refine xx (.e [1] 2) _ 6 2 1 (nv_elem (l := head6 l) (own_sl h5'5) rfl (k := 2) (by decide)).1 ?_
         refine xlt (.e [] 3) (.t w.heap.size [188]) (fun V hV => (nv_elem (l := head6 l) (own_sl (own_only h5'5 hV.2 (by decide))) rfl (k := 2) (by decide)).2) ?_
         have k5'4 := k5'2.below (below_drew W12)
         refine xlv (.o [4] 0) k5'4.rp ?_
         have k1'4 := (((((u5.blk (k1.below n4.below) (Ne.symm (Ne.symm d4_b1))).below hb8).below (below_drew W8)).below hb11).below hb12).below (below_drew W12)
         have g1 := n1.ge (Below.refl w.heap.size _)
         refine ysv (.o [] 5) k1'4 [.int .i64 (↑(rawN l 1 1) : Int), .bool ((↑(rawN l 0 1) : Int) == (1 : Int)), .slice none 0 0, .slice none 0 0] (.t w.heap.size [188]) fun W19 u19 k19 => ⟨(sft_upd u19 k1'4 g1 (by decide)), ?_⟩
         have hB'4 := u19.below (Bl.next (Bl.next (Bl.next (Bl.next (Bl.next (u5.below (Bl.next (Bl.next (Bl.next hB hb3) (below_drew W3)) n4.below) g4) hb8) (below_drew W8)) hb11) hb12) (below_drew W12)) g1
         refine xec (.r [6, 7] 3) k19 (.tuple #[.agg #[.int .i64 (↑(rawN l 1 1) : Int), .bool ((↑(rawN l 0 1) : Int) == (1 : Int)), .slice none 0 0, .slice none 0 0], .int .i64 (↑(rawN l 2 2) : Int), .bool (decide ((↑(rawN l 2 2) : Int) > (0 : Int)))]) ?_
         rcases Bool.eq_false_or_eq_true (decide ((↑(rawN l 2 2) : Int) > (0 : Int))) with hq | hq
         · have hq2 := of_decide_eq_true hq
           rw [hq]; exact .inr ⟨decide_eq_true (by omega), rfl, hB'4⟩
         · have hq2 := of_decide_eq_false hq
           rw [hq]; exact .inl ⟨decide_eq_false (by omega), _, _, _, rfl, hB'4⟩
       have hc16 := ne_of_beq_false hc16
       refine xd 13 (.t w.heap.size [188]) ?_
       have h5'6 := own_below h5'3 (below_drew W12)
       refine xx (.e [1] 2) _ 6 2 1 (nv_elem (l := head6 l) (own_sl h5'6) rfl (k := 2) (by decide)).1 ?_
       refine xlt (.e [] 3) (.t w.heap.size [188]) (fun V hV => (nv_elem (l := head6 l) (own_sl (own_only h5'6 hV.2 (by decide))) rfl (k := 2) (by decide)).2) ?_
       have k5'5 := ((k5'1.below hb11).below hb12).below (below_drew W12)
       refine xlv (.o [4] 0) k5'5.rp ?_
       have k1'5 := (((((u5.blk (k1.below n4.below) (Ne.symm (Ne.symm d4_b1))).below hb8).below (below_drew W8)).below hb11).below hb12).below (below_drew W12)
       have g1 := n1.ge (Below.refl w.heap.size _)
       refine ysv (.o [] 5) k1'5 [.int .i64 (↑(rawN l 1 1) : Int), .bool ((↑(rawN l 0 1) : Int) == (1 : Int)), .slice none 0 0, .slice none 0 0] (.t w.heap.size [188]) fun W20 u20 k20 => ⟨(sft_upd u20 k1'5 g1 (by decide)), ?_⟩
       have hB'5 := u20.below (Bl.next (Bl.next (Bl.next (Bl.next (Bl.next (u5.below (Bl.next (Bl.next (Bl.next hB hb3) (below_drew W3)) n4.below) g4) hb8) (below_drew W8)) hb11) hb12) (below_drew W12)) g1
       exact xec (.r [6, 7] 3) k20 (.tuple #[.agg #[.int .i64 (↑(rawN l 1 1) : Int), .bool ((↑(rawN l 0 1) : Int) == (1 : Int)), .slice none 0 0, .slice none 0 0], .int .i64 (↑(rawN l 2 2) : Int), .bool false]) (.inl ⟨decide_eq_false (by omega), _, _, _, rfl, hB'5⟩)
     have hc15 := ne_of_beq_false hc15
     refine xd 19 (.t w.heap.size [188]) ?_
     have h5'7 := own_below h5'3 (below_drew W12)
     refine xx (.e [1] 2) _ 6 2 1 (nv_elem (l := head6 l) (own_sl h5'7) rfl (k := 2) (by decide)).1 ?_
     refine xlt (.e [] 3) (.t w.heap.size [188]) (fun V hV => (nv_elem (l := head6 l) (own_sl (own_only h5'7 hV.2 (by decide))) rfl (k := 2) (by decide)).2) ?_
     have k5'6 := ((k5'1.below hb11).below hb12).below (below_drew W12)
     refine xlv (.o [4] 0) k5'6.rp ?_
     have k1'6 := (((((u5.blk (k1.below n4.below) (Ne.symm (Ne.symm d4_b1))).below hb8).below (below_drew W8)).below hb11).below hb12).below (below_drew W12)
     have g1 := n1.ge (Below.refl w.heap.size _)
     refine ysv (.o [] 5) k1'6 [.int .i64 (↑(rawN l 1 1) : Int), .bool ((↑(rawN l 0 1) : Int) == (1 : Int)), .slice none 0 0, .slice none 0 0] (.t w.heap.size [188]) fun W21 u21 k21 => ⟨(sft_upd u21 k1'6 g1 (by decide)), ?_⟩
     have hB'6 := u21.below (Bl.next (Bl.next (Bl.next (Bl.next (Bl.next (u5.below (Bl.next (Bl.next (Bl.next hB hb3) (below_drew W3)) n4.below) g4) hb8) (below_drew W8)) hb11) hb12) (below_drew W12)) g1
     exact xec (.r [6, 7] 3) k21 (.tuple #[.agg #[.int .i64 (↑(rawN l 1 1) : Int), .bool ((↑(rawN l 0 1) : Int) == (1 : Int)), .slice none 0 0, .slice none 0 0], .int .i64 (↑(rawN l 2 2) : Int), .bool false]) (.inl ⟨decide_eq_false (by omega), _, _, _, rfl, hB'6⟩)
   have hc14 := ne_of_beq_false hc14
   refine xd 26 (.t w.heap.size [188]) ?_
   have h5'8 := own_below h5'3 (below_drew W12)
   refine xx (.e [1] 2) _ 6 2 1 (nv_elem (l := head6 l) (own_sl h5'8) rfl (k := 2) (by decide)).1 ?_
   refine xlt (.e [] 3) (.t w.heap.size [188]) (fun V hV => (nv_elem (l := head6 l) (own_sl (own_only h5'8 hV.2 (by decide))) rfl (k := 2) (by decide)).2) ?_
   have k5'7 := ((k5'1.below hb11).below hb12).below (below_drew W12)
   refine xlv (.o [4] 0) k5'7.rp ?_
   have k1'7 := (((((u5.blk (k1.below n4.below) (Ne.symm (Ne.symm d4_b1))).below hb8).below (below_drew W8)).below hb11).below hb12).below (below_drew W12)
   have g1 := n1.ge (Below.refl w.heap.size _)
   refine ysv (.o [] 5) k1'7 [.int .i64 (↑(rawN l 1 1) : Int), .bool ((↑(rawN l 0 1) : Int) == (1 : Int)), .slice none 0 0, .slice none 0 0] (.t w.heap.size [188]) fun W22 u22 k22 => ⟨(sft_upd u22 k1'7 g1 (by decide)), ?_⟩
   have hB'7 := u22.below (Bl.next (Bl.next (Bl.next (Bl.next (Bl.next (u5.below (Bl.next (Bl.next (Bl.next hB hb3) (below_drew W3)) n4.below) g4) hb8) (below_drew W8)) hb11) hb12) (below_drew W12)) g1
   exact xec (.r [6, 7] 3) k22 (.tuple #[.agg #[.int .i64 (↑(rawN l 1 1) : Int), .bool ((↑(rawN l 0 1) : Int) == (1 : Int)), .slice none 0 0, .slice none 0 0], .int .i64 (↑(rawN l 2 2) : Int), .bool false]) (.inl ⟨decide_eq_false (by omega), _, _, _, rfl, hB'7⟩)
 have hc13 := of_decide_eq_false hc13
 refine xd 33 (.t w.heap.size [188]) ?_
 have h5'9 := own_below h5'3 (below_drew W12)
 refine xx (.e [1] 2) _ 6 2 1 (nv_elem (l := head6 l) (own_sl h5'9) rfl (k := 2) (by decide)).1 ?_
 refine xlt (.e [] 3) (.t w.heap.size [188]) (fun V hV => (nv_elem (l := head6 l) (own_sl (own_only h5'9 hV.2 (by decide))) rfl (k := 2) (by decide)).2) ?_
 have k5'8 := ((k5'1.below hb11).below hb12).below (below_drew W12)
 refine xlv (.o [4] 0) k5'8.rp ?_
 have k1'8 := (((((u5.blk (k1.below n4.below) (Ne.symm (Ne.symm d4_b1))).below hb8).below (below_drew W8)).below hb11).below hb12).below (below_drew W12)
 have g1 := n1.ge (Below.refl w.heap.size _)
 refine ysv (.o [] 5) k1'8 [.int .i64 (↑(rawN l 1 1) : Int), .bool ((↑(rawN l 0 1) : Int) == (1 : Int)), .slice none 0 0, .slice none 0 0] (.t w.heap.size [188]) fun W23 u23 k23 => ⟨(sft_upd u23 k1'8 g1 (by decide)), ?_⟩
 have hB'8 := u23.below (Bl.next (Bl.next (Bl.next (Bl.next (Bl.next (u5.below (Bl.next (Bl.next (Bl.next hB hb3) (below_drew W3)) n4.below) g4) hb8) (below_drew W8)) hb11) hb12) (below_drew W12)) g1
 exact xec (.r [6, 7] 3) k23 (.tuple #[.agg #[.int .i64 (↑(rawN l 1 1) : Int), .bool ((↑(rawN l 0 1) : Int) == (1 : Int)), .slice none 0 0, .slice none 0 0], .int .i64 (↑(rawN l 2 2) : Int), .bool false]) (.inl ⟨decide_eq_false (by omega), _, _, _, rfl, hB'8⟩)
set_option maxRecDepth 100000 in
set_option maxHeartbeats 1000000 in
theorem node_keyG (a : Option Addr) (i c : Nat) (L : List Int) (k : Int) (w : World) (hL : L.length = i) (h : Sl w (.slice a i c) i (L.map (Value.int .i64))) (hi : i ≤ 1000) :
    Calls Tryz.prog 202 #[.slice a i c, .int .i64 k] w (Ret (.int .i64 (keyR L i k)) w) := by
 refine zin 26 Tryz.func202 ?_
 refine xg 12 [7, 8] (decide (k < (0 : Int))) (fun hc1 => ?_) (fun hc1 => ?_)
 · have hc1 := of_decide_eq_true hc1
   exact xe 15 (.int .i64 2) ⟨by rw [show keyR L i k = 2 from by unfold keyR; rw [if_pos (by omega)]], (Below.refl w.heap.size _)⟩
 have hc1 := of_decide_eq_false hc1
 refine xid 6 (k > (281474976710655 : Int)) (fun hc2 => ?_) (fun hc2 => ?_)
 · exact xe 8 (.int .i64 2) ⟨by rw [show keyR L i k = 2 from by unfold keyR; rw [if_pos (by omega)]], (Below.refl w.heap.size _)⟩
 refine xg 6 [15, 16] (decide ((↑i : Int) > (0 : Int))) (fun hc3 => ?_) (fun hc3 => ?_)
 · have hc3 := of_decide_eq_true hc3
   refine xwm 3 ((↑i : Int) - 1) (↑(i - 1) : Int) ?_
   refine xx 0 _ i (i - 1) 1 (IntsN.elem h hL (k := (i - 1)) (by omega)).1 ?_
   refine xl 0 ((IntsN.elem h hL (k := (i - 1)) (by omega)).2) ?_
   refine xid 6 ((L.getD (i - 1) 0) ≥ k) (fun hc4 => ?_) (fun hc4 => ?_)
   · exact xe 8 (.int .i64 8) ⟨by rw [show keyR L i k = 8 from by unfold keyR; rw [if_neg (by omega), if_pos (by omega)]], (Below.refl w.heap.size _)⟩
   exact xe 9 (.int .i64 0) ⟨by rw [show keyR L i k = 0 from by unfold keyR; rw [if_neg (by omega), if_neg (by omega)]], (Below.refl w.heap.size _)⟩
 have hc3 := of_decide_eq_false hc3
 exact xe 22 (.int .i64 0) ⟨by rw [show keyR L i k = 0 from by unfold keyR; rw [if_neg (by omega), if_neg (by omega)]], (Below.refl w.heap.size _)⟩
def keyN (l : List UInt8) (i : Nat) : Nat := rawN l (12 + i * 8) 8
def keysI (l : List UInt8) (n : Nat) : List Int := (List.range n).map fun i => (keyN l i : Int)
theorem keysI_len (l : List UInt8) (n : Nat) : (keysI l n).length = n := by simp [keysI]
theorem keysI_snoc (l : List UInt8) (n : Nat) : keysI l (n + 1) = keysI l n ++ [(keyN l n : Int)] := by simp [keysI, List.range_succ]
theorem keysI_get (l : List UInt8) {n i : Nat} (h : i < n) : (keysI l n).getD i 0 = (keyN l i : Int) := by simp [keysI, List.getD, List.getElem?_range h]
def valN (l : List UInt8) (i : Nat) : List UInt8 := (l.drop (12 + nodM l * 8 + i * nodW l)).take (nodW l)
def valsL (l : List UInt8) (n : Nat) : List (List UInt8) := (List.range n).map (valN l)
theorem valsL_len (l : List UInt8) (n : Nat) : (valsL l n).length = n := by simp [valsL]
theorem valsL_snoc (l : List UInt8) (n : Nat) : valsL l (n + 1) = valsL l n ++ [valN l n] := by simp [valsL, List.range_succ]
theorem valsL_get (l : List UInt8) {n i : Nat} (h : i < n) : (valsL l n).getD i [] = valN l i := by simp [valsL, List.getD, List.getElem?_range h]
def keyE (l : List UInt8) (i : Nat) : Int := if 281474976710655 < keyN l i then 2 else if 0 < i ∧ keyN l i ≤ keyN l (i - 1) then 8 else 0
def keysErr (l : List UInt8) : Nat → Int
  | 0 => 0
  | i + 1 => if keysErr l i ≠ 0 then keysErr l i else keyE l i
theorem keysErr_stop {l : List UInt8} {i : Nat} (h : keysErr l i ≠ 0) : ∀ n, i ≤ n → keysErr l n = keysErr l i
  | 0, h2 => by obtain rfl : i = 0 := by omega
                rfl
  | n + 1, h2 => by
    by_cases e : i = n + 1
    · rw [e]
    · have ih := keysErr_stop h n (by omega)
      rw [keysErr, if_pos (by rw [ih]; exact h), ih]
theorem keysErr_at {l : List UInt8} {i n : Nat} (h : keysErr l i = 0) (he : keyE l i ≠ 0) (hi : i < n) : keysErr l n = keyE l i := by
  have e : keysErr l (i + 1) = keyE l i := by rw [keysErr, if_neg (by rw [h]; decide)]
  rw [keysErr_stop (by rw [e]; exact he) n hi, e]
theorem keysErr_next {l : List UInt8} {i : Nat} (h : keysErr l i = 0) (he : keyE l i = 0) : keysErr l (i + 1) = 0 := by rw [keysErr, if_neg (by rw [h]; decide), he]
theorem keyE_R {l : List UInt8} {i : Nat} : keyR (keysI l i) i (keyN l i : Int) = keyE l i := by
  unfold keyR keyE
  by_cases h : 281474976710655 < keyN l i
  · rw [if_pos (by omega), if_pos h]
  · rw [if_neg (by omega), if_neg h]
    by_cases h2 : 0 < i
    · rw [keysI_get l (show i - 1 < i by omega)]
      by_cases h3 : keyN l i ≤ keyN l (i - 1)
      · rw [if_pos (by omega), if_pos (by omega)]
      · rw [if_neg (by omega), if_neg (by omega)]
    · rw [if_neg (by omega), if_neg (by omega)]
def node0 (l : List UInt8) : Nat := 12 + nodC l * 8
def node1 (l : List UInt8) : Nat := 12 + nodM l * 8
def node2 (l : List UInt8) : Nat := node1 l + nodC l * nodW l
def nodeZ (l : List UInt8) : Bool := zeroB ((l.drop (node0 l)).take (node1 l - node0 l)) && zeroB ((l.drop (node2 l)).take (244 - node2 l))
def nodeE (l : List UInt8) : Int := if shapeB l then (if nodeZ l then keysErr l (nodC l) else 7) else 7
def NodeP (l : List UInt8) (w : World) (e : Ending) (w' : World) : Prop :=
  (nodeE l ≠ 0 ∧ e = .returned (.tuple #[.agg #[.int .i64 0, .bool false, .slice none 0 0, .slice none 0 0], .int .i64 (nodeE l)]) ∧ Below w.heap.size w w') ∨
  (nodeE l = 0 ∧ ∃ kp kc vp vc, e = .returned (.tuple #[.agg #[.int .i64 (nodT l), .bool (nodL l), .slice kp (nodC l) kc, .slice vp (nodC l) vc], .int .i64 0]) ∧ Below w.heap.size w w' ∧
    w'.ownsRow w.heap.size 3 1 (.slice kp (nodC l) kc) (nodC l) ((keysI l (nodC l)).map (Value.int .i64)) ∧ w'.ownsRow w.heap.size 9 1 (.slice vp (nodC l) vc) (nodC l) ((valsL l (nodC l)).map sv))
theorem node_shapeP {l : List UInt8} (h : shapeB l = true) : nodC l ≤ nodM l := (of_decide_eq_true h).2.2.1
theorem code_ZeroN (a : Option Addr) (n c : Nat) (l : List UInt8) (w : World) (hn : l.length = n) (hl : n ≤ 100000000) (h : Bys w (.slice a n c) l) : Calls Tryz.prog 116 #[.slice a n c] w (Ret (.bool (zeroB l)) w) := by
  subst hn; exact code_Zero a c l w hl h
theorem valN_bys {a : Option Addr} {c i : Nat} {l : List UInt8} {w : World} (h : Bys w (.slice a 244 c) l) (hl : l.length = 244) (hb : 12 + nodM l * 8 + (i + 1) * nodW l ≤ 244) (hi : (i + 1) * nodW l = i * nodW l + nodW l) :
    Bys w (.slice (cutA a (12 + nodM l * 8 + i * nodW l) c 1) (12 + nodM l * 8 + (i + 1) * nodW l - (12 + nodM l * 8 + i * nodW l)) (c - (12 + nodM l * 8 + i * nodW l))) (valN l i) := by
  have := Bys.cut h hl (12 + nodM l * 8 + i * nodW l) (12 + nodM l * 8 + (i + 1) * nodW l) (by omega) hb
  rw [show 12 + nodM l * 8 + (i + 1) * nodW l - (12 + nodM l * 8 + i * nodW l) = nodW l by omega] at this ⊢
  exact this
theorem valN_lenN {i : Nat} {l : List UInt8} (hl : l.length = 244) (hb : 12 + nodM l * 8 + (i + 1) * nodW l ≤ 244) (hi : (i + 1) * nodW l = i * nodW l + nodW l) : (valN l i).length = 12 + nodM l * 8 + (i + 1) * nodW l - (12 + nodM l * 8 + i * nodW l) := by
  unfold valN; simp only [List.length_take, List.length_drop]; omega
def GetP (l : List UInt8) (k w : Nat) (W : World) (e : Ending) (w' : World) : Prop :=
  (rawN l k w < 9223372036854775808 ∧ e = .returned (.tuple #[.int .i64 (rawN l k w : Int), .int .i64 0]) ∧ Below W.heap.size W w') ∨ (¬ rawN l k w < 9223372036854775808 ∧ e = .returned (.tuple #[.int .i64 0, .int .i64 2]) ∧ Below W.heap.size W w')
theorem Get_P (a : Option Addr) (n c k w : Nat) (l : List UInt8) (W : World) (hn : l.length = n) (hw : w = 1 ∨ w = 2 ∨ w = 4 ∨ w = 8) (hk : k + w ≤ n) (hl : n ≤ 100000000) (h : Bys W (.slice a n c) l) (wi : Int) (hwi : wi = (w : Int)) :
    Calls Tryz.prog 115 #[.slice a n c, .int .i64 (↑k : Int), .int .i64 wi] W (GetP l k w W) := by
  subst hn hwi
  by_cases hq : rawN l k w < 9223372036854775808
  · refine (Get_ok a c k w l W hw hk hl h hq).mono ?_
    rintro e V ⟨rfl, hb⟩; exact .inl ⟨hq, rfl, hb⟩
  · refine (Get_big a c k w l W hw hk hl h hq).mono ?_
    rintro e V ⟨rfl, hb⟩; exact .inr ⟨hq, rfl, hb⟩
theorem node_keyP (l : List UInt8) (a : Option Addr) (i c : Nat) (w : World) (h : Sl w (.slice a i c) i ((keysI l i).map (Value.int .i64))) (hi : i ≤ 1000) :
    Calls Tryz.prog 202 #[.slice a i c, .int .i64 (↑(keyN l i) : Int)] w (fun e w' => (keyE l i = 0 ∧ e = .returned (.int .i64 0) ∧ Below w.heap.size w w') ∨ (keyE l i ≠ 0 ∧ e = .returned (.int .i64 (keyE l i)) ∧ Below w.heap.size w w')) := by
  refine (node_keyG a i c (keysI l i) (keyN l i) w (keysI_len l i) h hi).mono ?_
  rintro e W ⟨rfl, hb⟩
  rw [keyE_R]
  by_cases hz : keyE l i = 0
  · exact .inl ⟨hz, by rw [hz], hb⟩
  · exact .inr ⟨hz, rfl, hb⟩
set_option maxRecDepth 100000 in
set_option maxHeartbeats 4000000 in
theorem node_Read (a : Option Addr) (c : Nat) (l : List UInt8) (w : World) (hl : l.length = 244) (h : Bys w (.slice a 244 c) l) :
    Calls Tryz.prog 207 #[.slice a 244 c] w (NodeP l w) := by
 have hcap := Bys.cap h hl
 refine zin 104 Tryz.func207 ?_
 refine xa 2 [.int .i64 0, .bool false, .slice none 0 0, .slice none 0 0] 188 fun b1 W1 n1 => ?_
 refine xc 6 (args := #[.slice a 244 c]) (node_shape a c l _ hl (h.below n1.below)) ?_
 rintro e W2 hq2
 rcases hq2 with ⟨hs, t0, l0, c0, rfl, hb2⟩ | ⟨hs, rfl, hb2⟩
 · refine xa 4 [.int .i64 0, .bool false, .slice none 0 0, .slice none 0 0] 188 fun b3 W3 n3 => ?_
   have k1 := n1.blk.below hb2
   have d3_b1 := n3.ne k1
   refine xsv 0 n3.blk [.int .i64 t0, .bool l0, .slice none 0 0, .slice none 0 0] fun W4 u4 k4 => ?_
   have g3 := n3.ge (Bl.next n1.below hb2)
   have k1'1 := u4.blk (k1.below n3.below) (Ne.symm (Ne.symm d3_b1))
   refine xsv 15 k1'1 [.int .i64 0, .bool false, .slice none 0 0, .slice none 0 0] fun W5 u5 k5 => ?_
   have g1 := n1.ge (Below.refl w.heap.size _)
   have hB'1 := u5.below (u4.below (Bl.next (Bl.next n1.below hb2) n3.below) g3) g1
   refine xec 5 k5 (.tuple #[.agg #[.int .i64 0, .bool false, .slice none 0 0, .slice none 0 0], .int .i64 7]) ?_
   have he : nodeE l = 7 := by unfold nodeE; simp [hs]
   exact .inl ⟨by rw [he]; decide, by rw [he], hB'1⟩
 have hcm := node_shapeP hs
 have hfit := fitG (nodT l) (nodL l)
 have hmle := maxG_le (nodT l) (nodL l)
 have hwle := widG_le (nodT l) (nodL l)
 change 12 + nodM l * 8 + nodM l * nodW l ≤ 244 at hfit
 change nodM l ≤ 18 at hmle
 change nodW l ≤ 24 at hwle
 have hcw : nodC l * nodW l ≤ nodM l * nodW l := Nat.mul_le_mul_right _ hcm
 refine xa 4 [.int .i64 0, .bool false, .slice none 0 0, .slice none 0 0] 188 fun b6 W6 n6 => ?_
 have k1 := n1.blk.below hb2
 have d6_b1 := n6.ne k1
 refine xsv 0 n6.blk [.int .i64 (nodT l), .bool (nodL l), .slice none 0 0, .slice none 0 0] fun W7 u7 k7 => ?_
 have g6 := n6.ge (Bl.next n1.below hb2)
 refine xd 15 .z ?_
 have k7'1 := k7.below (below_drew W7)
 refine xb (.e [0] 1) 0 k7'1 ?_
 refine xb (.e [2] 3) 1 k7'1 ?_
 refine xb (.e [5] 6) 0 k7'1 ?_
 refine xb (.e [7] 8) 1 k7'1 ?_
 refine xr (.o [] 4) (args := #[.int .i64 (nodT l), .bool (nodL l)]) (node_WidthG (nodT l) (nodL l) _) fun W8 hb8 => ?_
 refine xr (.o [] 9) (args := #[.int .i64 (nodT l), .bool (nodL l)]) (node_MaxG (nodT l) (nodL l) _) fun W9 hb9 => ?_
 refine xwm (.r [10, 11] 5) ((↑(nodM l) : Int) * 8) (↑((nodM l) * 8) : Int) ?_
 refine xwm 0 (12 + (↑((nodM l) * 8) : Int)) (↑(12 + ((nodM l) * 8)) : Int) ?_
 refine xwm 8 ((↑(nodC l) : Int) * 8) (↑((nodC l) * 8) : Int) ?_
 refine xwm 0 (12 + (↑((nodC l) * 8) : Int)) (↑(12 + ((nodC l) * 8)) : Int) ?_
 refine xsB 1 (fun _ _ _ _ _ zo zx zy zz V => run_sliceLHA (k := (12 + ((nodC l) * 8))) (h := (12 + ((nodM l) * 8))) (b := a) (n := 244) (c := c) (i := (↑(12 + ((nodC l) * 8)) : Int)) (ki := .i64) (j := (↑(12 + ((nodM l) * 8)) : Int)) (kj := .i64) 1 zo zx zy rfl zz rfl (by omega) (by omega) Tryz.underlying22 (by kernel_rfl) V) ?_
 have hB'2 := Bl.next (Bl.next (Bl.next (u7.below (Bl.next (Bl.next n1.below hb2) n6.below) g6) (below_drew W7)) hb8) hb9
 refine xr 0 (args := #[.slice (cutA a (12 + ((nodC l) * 8)) c 1) ((12 + ((nodM l) * 8)) - (12 + ((nodC l) * 8))) (c - (12 + ((nodC l) * 8)))]) (code_ZeroN (cutA a (12 + ((nodC l) * 8)) c 1) ((12 + ((nodM l) * 8)) - (12 + ((nodC l) * 8))) (c - (12 + ((nodC l) * 8))) _ _ (by simp; omega) (by omega) ((Bys.cut h hl (12 + ((nodC l) * 8)) (12 + ((nodM l) * 8)) (by omega) (by omega)).below hB'2)) fun W10 hb10 => ?_
 refine xg 2 [42, 43] (!(zeroB ((l.drop (node0 l)).take (node1 l - node0 l)))) (fun hc11 => ?_) (fun hc11 => ?_)
 · have hz1 : zeroB ((l.drop (node0 l)).take (node1 l - node0 l)) = false := by simpa using hc11
   have k1'2 := ((((u7.blk (k1.below n6.below) (Ne.symm (Ne.symm d6_b1))).below (below_drew W7)).below hb8).below hb9).below hb10
   refine xsv 16 k1'2 [.int .i64 0, .bool false, .slice none 0 0, .slice none 0 0] fun W12 u12 k12 => ?_
   have g1 := n1.ge (Below.refl w.heap.size _)
   have hB'3 := u12.below (Bl.next hB'2 hb10) g1
   refine xec 5 k12 (.tuple #[.agg #[.int .i64 0, .bool false, .slice none 0 0, .slice none 0 0], .int .i64 7]) ?_
   have he : nodeE l = 7 := by unfold nodeE; simp [hs, nodeZ, hz1]
   exact .inl ⟨by rw [he]; decide, by rw [he], hB'3⟩
 have hz1 : zeroB ((l.drop (node0 l)).take (node1 l - node0 l)) = true := by simpa using hc11
 refine xwm 4 ((↑(nodC l) : Int) * (↑(nodW l) : Int)) (↑((nodC l) * (nodW l)) : Int) ?_
 refine xwm 0 ((↑(12 + ((nodM l) * 8)) : Int) + (↑((nodC l) * (nodW l)) : Int)) (↑((12 + ((nodM l) * 8)) + ((nodC l) * (nodW l))) : Int) ?_
 refine xsL 0 (fun _ _ _ _ zo zx zy V => run_sliceLA (k := ((12 + ((nodM l) * 8)) + ((nodC l) * (nodW l)))) (b := a) (n := 244) (c := c) (i := (↑((12 + ((nodM l) * 8)) + ((nodC l) * (nodW l))) : Int)) (ki := .i64) 1 zo zx zy rfl (by omega) Tryz.underlying22 (by kernel_rfl) V) ?_
 have hB'4 := Bl.next hB'2 hb10
 refine xr 0 (args := #[.slice (cutA a ((12 + ((nodM l) * 8)) + ((nodC l) * (nodW l))) c 1) (244 - ((12 + ((nodM l) * 8)) + ((nodC l) * (nodW l)))) (c - ((12 + ((nodM l) * 8)) + ((nodC l) * (nodW l))))]) (code_ZeroN (cutA a ((12 + ((nodM l) * 8)) + ((nodC l) * (nodW l))) c 1) (244 - ((12 + ((nodM l) * 8)) + ((nodC l) * (nodW l)))) (c - ((12 + ((nodM l) * 8)) + ((nodC l) * (nodW l)))) _ _ (by simp; omega) (by omega) ((Bys.cut h hl (12 + ((nodM l) * 8) + ((nodC l) * (nodW l))) 244 (by omega) (by omega)).below hB'4)) fun W13 hb13 => ?_
 refine xi 4 (!(zeroB ((l.drop (node2 l)).take (244 - node2 l)))) (fun hc14 => ?_) (fun hc14 => ?_)
 · have hz2 : zeroB ((l.drop (node2 l)).take (244 - node2 l)) = false := by simpa using hc14
   have k1'3 := (((((u7.blk (k1.below n6.below) (Ne.symm (Ne.symm d6_b1))).below (below_drew W7)).below hb8).below hb9).below hb10).below hb13
   refine xsv 3 k1'3 [.int .i64 0, .bool false, .slice none 0 0, .slice none 0 0] fun W15 u15 k15 => ?_
   have g1 := n1.ge (Below.refl w.heap.size _)
   have hB'5 := u15.below (Bl.next hB'4 hb13) g1
   refine xec 5 k15 (.tuple #[.agg #[.int .i64 0, .bool false, .slice none 0 0, .slice none 0 0], .int .i64 7]) ?_
   have he : nodeE l = 7 := by unfold nodeE; simp [hs, nodeZ, hz1, hz2]
   exact .inl ⟨by rw [he]; decide, by rw [he], hB'5⟩
 have hz2 : zeroB ((l.drop (node2 l)).take (244 - node2 l)) = true := by simpa using hc14
 have hnz : nodeZ l = true := by unfold nodeZ; rw [hz1, hz2]; rfl
 have hB'6 := Bl.next hB'4 hb13
 have k1'4 := (((((u7.blk (k1.below n6.below) (Ne.symm (Ne.symm d6_b1))).below (below_drew W7)).below hb8).below hb9).below hb10).below hb13
 have k7'2 := (((k7'1.below hb8).below hb9).below hb10).below hb13
 refine zl 10 104 (fun zm zkv V => ∃ (i : Nat) (kp : Option Addr) (kc : Nat) (vp : Option Addr) (vc : Nat), zkv = [(0, .slice a 244 c), (2, .pointer (some ⟨b1, 0, none⟩)), (4, .pointer (some ⟨b6, 0, none⟩)), (7, .int .i64 (↑(nodW l) : Int)), (9, .int .i64 (↑(12 + ((nodM l) * 8)) : Int)), (55, .int .i64 (↑(nodC l) : Int)), (56, .int .i64 (↑i : Int))] ∧ zm = nodC l - ((↑i : Int)).toNat ∧ Below w.heap.size w V ∧ Blk V b1 ([.int .i64 0, .bool false, .slice none 0 0, .slice none 0 0]) 188 ∧ Blk V b6 ([.int .i64 (nodT l), .bool (nodL l), .slice kp i kc, .slice vp i vc]) 188 ∧ V.ownsRow w.heap.size 3 1 (.slice kp i kc) i ((keysI l i).map (Value.int .i64)) ∧ V.ownsRow w.heap.size 9 1 (.slice vp i vc) i ((valsL l i).map sv) ∧ i ≤ nodC l ∧ keysErr l i = 0) ⟨0, none, 0, none, 0, rfl, rfl, hB'6, k1'4, k7'2, World.ownsRow_nil _ _ _ _, World.ownsRow_nil _ _ _ _, Nat.zero_le _, rfl⟩ ?_
 rintro _ _ W16 ⟨i, kp, kc, vp, vc, rfl, rfl, hB_16, k16_b1, k16_b6, hK, hV, hi, hz⟩ J16 hJ16 r16
 have hiw : (i + 1) * nodW l = i * nodW l + nodW l := Nat.succ_mul i (nodW l)
 have hiw2 : i < nodC l → (i + 1) * nodW l ≤ nodM l * nodW l := fun hh => Nat.mul_le_mul_right _ (by omega)
 refine xid 6 ((↑i : Int) < (↑(nodC l) : Int)) (fun hc17 => ?_) (fun hc17 => ?_)
 · refine xwm 14 ((↑i : Int) * 8) (↑(i * 8) : Int) ?_
   refine xwm 0 (12 + (↑(i * 8) : Int)) (↑(12 + (i * 8)) : Int) ?_
   refine xc 0 (args := #[.slice a 244 c, .int .i64 (↑(12 + (i * 8)) : Int), .int .i64 8]) (Get_P a 244 c (12 + (i * 8)) 8 l _ hl (by decide) (by omega) (by decide) (h.below hB_16) 8 rfl) ?_
   rintro e W18 hq18
   rcases hq18 with ⟨hgk, rfl, hb18⟩ | ⟨hgk, rfl, hb18⟩
   · have k16_b6'1 := k16_b6.below hb18
     refine xb 17 2 k16_b6'1 ?_
     have hK'1 := own_below hK hb18
     refine xc 1 (args := #[.slice kp i kc, .int .i64 (↑(keyN l i) : Int)]) (node_keyP l kp i kc _ (own_sl hK'1) (by omega)) ?_
     rintro e W19 hq19
     rcases hq19 with ⟨hz0, rfl, hb19⟩ | ⟨hz0, rfl, hb19⟩
     · have k16_b6'2 := k16_b6'1.below hb19
       refine xb 16 2 k16_b6'2 ?_
       refine xbs 1 1 [.int .i64 (↑(keyN l i) : Int)] 3 fun b20 W20 n20 => ?_
       have hK'2 := own_below hK'1 hb19
       have r20_hK := own_ne hK'2 n20
       have hK'3 := own_below hK'2 n20.below
       have hB'7 := Bl.next (Bl.next (Bl.next hB_16 hb18) hb19) n20.below
       refine xbi 0 fun _ _ _ _ zJ zQ zo zx zy zK => op_app (m := 1) (news := [.int .i64 (↑(keyN l i) : Int)]) (.int .i64 0) 1 8 (i + 1) ((keysI l (i + 1)).map (Value.int .i64)) zo Tryz.underlying30 (by kernel_rfl) rfl (by decide) zx hK'3 zy (n20.blk.sl 1 1 (by decide) (by decide)) rfl (by simp [Value.oneCell']) (by unfold maxLen; omega) (by omega) hB'7.size (by rfl) (by rw [keysI_snoc, List.map_append]; rfl) fun p21 c21 W21 o21 hg21 hb21 => ?_
       refine zK _ _ ?_
       have k16_b6'3 := (k16_b6'2.below n20.below).grown hg21 hK'3 (by decide)
       refine xs 1 k16_b6'3 [.int .i64 (nodT l), .bool (nodL l), .slice p21 (i + 1) c21, .slice vp i vc] fun W22 u22 k22 => ?_
       refine xd 2 (.t w.heap.size [9, 188]) ?_
       refine xwm (.e [0, 2, 3, 4, 5] 6) ((↑i : Int) * (↑(nodW l) : Int)) (↑(i * (nodW l)) : Int) ?_
       refine xwm (.e [] 7) ((↑(12 + ((nodM l) * 8)) : Int) + (↑(i * (nodW l)) : Int)) (↑((12 + ((nodM l) * 8)) + (i * (nodW l))) : Int) ?_
       refine xwm (.e [8, 9] 10) ((↑i : Int) + 1) (↑(i + 1) : Int) ?_
       refine xwm (.e [11] 12) ((↑(i + 1) : Int) * (↑(nodW l) : Int)) (↑((i + 1) * (nodW l)) : Int) ?_
       refine xwm (.e [] 13) ((↑(12 + ((nodM l) * 8)) : Int) + (↑((i + 1) * (nodW l)) : Int)) (↑((12 + ((nodM l) * 8)) + ((i + 1) * (nodW l))) : Int) ?_
       refine xsB (.e [] 14) (fun _ _ _ _ _ zo zx zy zz V => run_sliceLHA (k := ((12 + ((nodM l) * 8)) + (i * (nodW l)))) (h := ((12 + ((nodM l) * 8)) + ((i + 1) * (nodW l)))) (b := a) (n := 244) (c := c) (i := (↑((12 + ((nodM l) * 8)) + (i * (nodW l))) : Int)) (ki := .i64) (j := (↑((12 + ((nodM l) * 8)) + ((i + 1) * (nodW l))) : Int)) (kj := .i64) 1 zo zx zy rfl zz rfl (by omega) (by omega) Tryz.underlying22 (by kernel_rfl) V) ?_
       have hV'1 := own_below (u22.own2 (own_grown (own_below (own_below (own_below hV hb18) hb19) n20.below) hg21 hK'3 (by decide)) k16_b6'3 (by decide)) (below_drew W22)
       have hB'8 := Bl.next (u22.below (hB'7.trans hb21) g6) (below_drew W22)
       refine xcvt (.e [] 15) (.t w.heap.size [9, 188]) (fun _ _ _ zo zx V hV'1 => run_bstr zo zx ((valN_bys h hl (by omega) hiw).below (sft_keep hB'8 hV'1 (Nat.le_refl _))) (valN_lenN hl (by omega) hiw) Tryz.underlying22 Tryz.underlying5 Tryz.underlying9) ?_
       refine xm2 0 1 16 ?_ ?_
       · have k22'1 := k22.below (below_drew W22)
         refine xb 0 3 k22'1 ?_
         refine xbs (.o [] 16) 1 [.string ⟨(valN l i).toArray⟩] 9 fun b23 W23 n23 => ?_
         have r23_hV := own_ne hV'1 n23
         have hV'2 := own_below hV'1 n23.below
         have hB'9 := Bl.next hB'8 n23.below
         refine ybi (.o [] 17) (.t w.heap.size [9, 188]) fun _ _ _ _ zJ zQ zo zx zy zK => op_app (m := 1) (news := [.string ⟨(valN l i).toArray⟩]) (.string ⟨#[]⟩) 1 16 (i + 1) ((valsL l (i + 1)).map sv) zo Tryz.underlying57 (by kernel_rfl) rfl (by decide) zx hV'2 zy (n23.blk.sl 1 1 (by decide) (by decide)) rfl (by simp [Value.oneCell']) (by unfold maxLen; omega) (by omega) hB'9.size (by rfl) (by rw [valsL_snoc, List.map_append]; rfl) fun p24 c24 W24 o24 hg24 hb24 => ?_
         refine zK _ _ (sft_grown hb24 hg24 hV'2 (by decide)) ?_
         have k22'2 := (k22'1.below n23.below).grown hg24 hV'2 (by decide)
         refine ys (.o [18] 19) k22'2 [.int .i64 (nodT l), .bool (nodL l), .slice p21 (i + 1) c21, .slice p24 (i + 1) c24] (.t w.heap.size [9, 188]) fun W25 u25 k25 => ⟨(sft_upd u25 k22'2 g6 (by decide)), ?_⟩
         refine xwm 4 ((↑i : Int) + 1) (↑(i + 1) : Int) ?_
         have hB'10 := u25.below (hB'9.trans hb24) g6
         have k16_b1'1 := u25.blk ((((u22.blk ((((k16_b1.below hb18).below hb19).below n20.below).grown hg21 hK'3 (by decide)) (Ne.symm (Ne.symm d6_b1))).below (below_drew W22)).below n23.below).grown hg24 hV'2 (by decide)) (Ne.symm (Ne.symm d6_b1))
         have o21'1 := u25.own2 (own_grown (own_below (own_below (u22.own2 o21 k16_b6'3 (by decide)) (below_drew W22)) n23.below) hg24 hV'2 (by decide)) k22'2 (by decide)
         have o24'1 := u25.own2 o24 k22'2 (by decide)
         exact ze 2 (hJ16 _ _ _ ⟨i + 1, _, _, _, _, rfl, rfl, hB'10, k16_b1'1, k25, o21'1, o24'1, by omega, keysErr_next hz hz0⟩ (by omega))
       refine xbs 0 1 [.string ⟨(valN l i).toArray⟩] 9 fun b26 W26 n26 => ?_
       have r26_hV := own_ne hV'1 n26
       have k22'3 := (k22.below (below_drew W22)).below n26.below
       refine xb (.o [] 1) 3 k22'3 ?_
       have hV'3 := own_below hV'1 n26.below
       have hB'11 := Bl.next hB'8 n26.below
       refine ybi (.o [] 17) (.t w.heap.size [9, 188]) fun _ _ _ _ zJ zQ zo zx zy zK => op_app (m := 1) (news := [.string ⟨(valN l i).toArray⟩]) (.string ⟨#[]⟩) 1 16 (i + 1) ((valsL l (i + 1)).map sv) zo Tryz.underlying57 (by kernel_rfl) rfl (by decide) zx hV'3 zy (n26.blk.sl 1 1 (by decide) (by decide)) rfl (by simp [Value.oneCell']) (by unfold maxLen; omega) (by omega) hB'11.size (by rfl) (by rw [valsL_snoc, List.map_append]; rfl) fun p27 c27 W27 o27 hg27 hb27 => ?_
       refine zK _ _ (sft_grown hb27 hg27 hV'3 (by decide)) ?_
       have k22'4 := k22'3.grown hg27 hV'3 (by decide)
       refine ys (.o [18] 19) k22'4 [.int .i64 (nodT l), .bool (nodL l), .slice p21 (i + 1) c21, .slice p27 (i + 1) c27] (.t w.heap.size [9, 188]) fun W28 u28 k28 => ⟨(sft_upd u28 k22'4 g6 (by decide)), ?_⟩
       refine xwm 4 ((↑i : Int) + 1) (↑(i + 1) : Int) ?_
       have hB'12 := u28.below (hB'11.trans hb27) g6
       have k16_b1'2 := u28.blk ((((u22.blk ((((k16_b1.below hb18).below hb19).below n20.below).grown hg21 hK'3 (by decide)) (Ne.symm (Ne.symm d6_b1))).below (below_drew W22)).below n26.below).grown hg27 hV'3 (by decide)) (Ne.symm (Ne.symm d6_b1))
       have o21'2 := u28.own2 (own_grown (own_below (own_below (u22.own2 o21 k16_b6'3 (by decide)) (below_drew W22)) n26.below) hg27 hV'3 (by decide)) k22'4 (by decide)
       have o27'1 := u28.own2 o27 k22'4 (by decide)
       exact ze 2 (hJ16 _ _ _ ⟨i + 1, _, _, _, _, rfl, rfl, hB'12, k16_b1'2, k28, o21'2, o27'1, by omega, keysErr_next hz hz0⟩ (by omega))
     refine xk 10 (show (((keyE l i) != (0 : Int)) : Bool) = true from bne_iff_ne.2 hz0) ?_
     have k16_b1'3 := (k16_b1.below hb18).below hb19
     refine xsv 4 k16_b1'3 [.int .i64 0, .bool false, .slice none 0 0, .slice none 0 0] fun W29 u29 k29 => ?_
     have g1 := n1.ge (Below.refl w.heap.size _)
     have hB'13 := u29.below (Bl.next (Bl.next hB_16 hb18) hb19) g1
     refine xec 10 k29 (.tuple #[.agg #[.int .i64 0, .bool false, .slice none 0 0, .slice none 0 0], .int .i64 (keyE l i)]) ?_
     have he : nodeE l = keyE l i := by unfold nodeE; rw [if_pos hs, if_pos hnz, keysErr_at hz hz0 (by omega)]
     exact .inl ⟨by rw [he]; exact hz0, by rw [he], hB'13⟩
   have k16_b1'4 := k16_b1.below hb18
   refine xsv 29 k16_b1'4 [.int .i64 0, .bool false, .slice none 0 0, .slice none 0 0] fun W30 u30 k30 => ?_
   have g1 := n1.ge (Below.refl w.heap.size _)
   have hB'14 := u30.below (Bl.next hB_16 hb18) g1
   refine xec 10 k30 (.tuple #[.agg #[.int .i64 0, .bool false, .slice none 0 0, .slice none 0 0], .int .i64 2]) ?_
   have hke : keyE l i = 2 := by unfold keyE; rw [if_pos (by unfold keyN; omega)]
   have he : nodeE l = 2 := by unfold nodeE; rw [if_pos hs, if_pos hnz, keysErr_at hz (by rw [hke]; decide) (by omega), hke]
   exact .inl ⟨by rw [he]; decide, by rw [he], hB'14⟩
 refine xlv 7 k16_b6.rp ?_
 refine xsv 0 k16_b1 [.int .i64 (nodT l), .bool (nodL l), .slice kp i kc, .slice vp i vc] fun W31 u31 k31 => ?_
 have g1 := n1.ge (Below.refl w.heap.size _)
 have hB'15 := u31.below hB_16 g1
 have hK'4 := u31.own2 hK k16_b1 (by decide)
 have hV'4 := u31.own2 hV k16_b1 (by decide)
 refine xec 4 k31 (.tuple #[.agg #[.int .i64 (nodT l), .bool (nodL l), .slice kp i kc, .slice vp i vc], .int .i64 0]) ?_
 obtain rfl : i = nodC l := by omega
 exact .inr ⟨by unfold nodeE; rw [if_pos hs, if_pos hnz, hz], _, _, _, _, rfl, hB'15, hK'4, hV'4⟩
end Go.Proofs.YthlakkdgcgkcdaaGreatDoor
namespace Go.Proofs.YthlakkdgcgkcdaaGreatDoor
open Go.RowKit Go.Extern.Stop Go.Stop Go.Extern
set_option linter.unusedVariables false
section
variable {P : Program} {a : Act} {w : World} {K : Act → World → Prop} {Q : Exit → Act → World → Prop}
theorem elemAddr_own (g k : Nat) : elemAddr (some ⟨g, 0, none⟩) (k * 1) = ⟨g, k, none⟩ := by
  simp [elemAddr, Addr.add]; exact fun h => h.symm
theorem op_storeRow {o : Oper} {t e : TypeId} {x y : Operand} {g n c k base : Nat} {xs : List Value} {v : Value} (ho : o.op = .store t x y) (hx : a.eval x = .pointer (some (elemAddr (some ⟨g, 0, none⟩) (k * 1)))) (hy : a.eval y = v)
    (hi : (P.info? t).map (·.size) = some 1) (h1 : v.oneCell' = true) (hown : w.ownsRow base e 1 (.slice (some ⟨g, 0, none⟩) n c) n xs) (hk : k < n)
    (h : ∀ W, Upd w g W → W.ownsRow base e 1 (.slice (some ⟨g, 0, none⟩) n c) n (xs.set k v) → K (a.put o.dst undef) W) : o.wp P a w K Q := by
  obtain ⟨hl, h2⟩ := hown
  rcases h2 with ⟨h2, _⟩ | ⟨g', cap, cur, hv, hg, hh, hc, hm, hsz, htk⟩
  · cases h2
  · simp only [Value.slice.injEq, Option.some.injEq, Addr.mk.injEq] at hv
    obtain ⟨⟨rfl, _⟩, _, rfl⟩ := hv
    have hb : Blk w g cur.toList e := by unfold Blk; simpa using hh
    rw [elemAddr_own] at hx
    refine op_store ho hx hy hi h1 hb (by simp; omega) fun W hu hW => h W hu ⟨by simpa using hl, .inr ⟨g, c, (cur.toList.set k v).toArray, rfl, hg, hW, hc, hm, by simpa using hsz, ?_⟩⟩
    rw [← htk]
    simp [List.take_set]
end
section
variable {P : Program} {ops : Array Oper} {Q : Exit → Act → World → Prop} {a a' : Act} {w : World} {S : World → Prop} {md : Region.Mode} {L L' : Array Bool} {fuel : Nat}
end
theorem own_ge {w : World} {base e size g n c : Nat} {xs : List Value} (h : w.ownsRow base e size (.slice (some ⟨g, 0, none⟩) n c) n xs) : base ≤ g := (h.lt g rfl).1
theorem own_blk {w : World} {base e size g n c : Nat} {xs : List Value} (h : w.ownsRow base e size (.slice (some ⟨g, 0, none⟩) n c) n xs) : ∃ cs, Blk w g cs e := by
  rcases h.2 with ⟨h2, _⟩ | ⟨g', cap, cur, hv, hg, hh, _⟩
  · cases h2
  · simp only [Value.slice.injEq, Option.some.injEq, Addr.mk.injEq] at hv
    obtain ⟨⟨rfl, _⟩, _⟩ := hv
    exact ⟨cur.toList, by unfold Blk; simpa using hh⟩
theorem own_blk_ne {w : World} {base e size g n c b : Nat} {t : TypeId} {xs cs : List Value} (k : Blk w b cs t) (h : w.ownsRow base e size (.slice (some ⟨g, 0, none⟩) n c) n xs) (hne : t ≠ e) : b ≠ g := by
  rintro rfl
  obtain ⟨cs', k'⟩ := own_blk h
  have h1 : w.heap[b]? = some (.cells cs.toArray t (0, 0)) := k
  rw [show w.heap[b]? = some (.cells cs'.toArray e (0, 0)) from k'] at h1
  simp only [Option.some.injEq, Obj.cells.injEq] at h1
  exact hne h1.2.1.symm
end Go.Proofs.YthlakkdgcgkcdaaGreatDoor
namespace Go.Proofs.YthlakkdgcgkcdaaGreatDoor
open Go.RowKit Go.Extern.Stop Go.Stop Go.Extern
set_option linter.unusedVariables false
attribute [local irreducible] wpList wpAnyH Code.wp Oper.wp Go

theorem op_strBytes {P : Program} {a : Act} {w : World} {K : Act → World → Prop} {Q : Exit → Act → World → Prop} {o : Oper} {src dst e : TypeId} {x : Operand} (l : List UInt8) (ho : o.op = .convert src dst x) (hx : a.eval x = .string ⟨l.toArray⟩)
    (hs : P.underlying src = some .string) (hd : P.underlying dst = some (.slice e)) (he : P.underlying e = some (.int .u8)) (hl : l.length ≤ 1000000)
    (k : ∀ b c W, Below w.heap.size w W → Bys W (.slice (some ⟨b, 0, none⟩) l.length c) l → K (a.put o.dst (.slice (some ⟨b, 0, none⟩) l.length c)) W) : o.wp P a w K Q := by
  have hr := run_bytes_of_string (P := P) w src dst e ⟨l.toArray⟩ hs hd he
  have hsz : (⟨l.toArray⟩ : ByteArray).size = l.length := by simp [ByteArray.size]
  rw [hsz] at hr
  obtain ⟨W1, hW1⟩ : ∃ W1, W1 = w.drew.alloc (.cells (bytesRow ⟨l.toArray⟩ (grownCap w l.length 0 e)) e ((bytesRow ⟨l.toArray⟩ (grownCap w l.length 0 e)).size, (bytesRow ⟨l.toArray⟩ (grownCap w l.length 0 e)).size + 1)) := ⟨_, rfl⟩
  rw [← hW1] at hr
  have h2 : (execOp a.eval o).run P w = .ok (.value (.slice (some ⟨w.heap.size, 0, none⟩) l.length (grownCap w l.length 0 e))) W1 := by
    simp only [execOp, ho, hx, Sem.run_bind, hr]; rfl
  refine op_val h2 (k _ _ _ (by rw [hW1]; exact (below_drew w).trans (show Below w.drew.heap.size w.drew _ from Bl.box w.drew _)) (.inr ⟨w.heap.size, 0, _, rfl, grownCap_ge w l.length 0 e, grownCap_le_maxLen w l.length 0 e (by unfold maxLen; omega), fun j y hj => ?_⟩))
  have hjl : j < l.length := by have := (List.getElem?_eq_some_iff.1 hj).1; simpa using this
  have hb := bytesRow_at ⟨l.toArray⟩ (grownCap w l.length 0 e) j (by simpa using hjl)
  have hy : y = .int .u8 ((l.toArray[j]'(by simpa using hjl)).toNat : Int) := by
    rw [List.getElem?_map, List.getElem?_eq_getElem hjl] at hj
    simp only [Option.map_some, Option.some.injEq] at hj
    rw [← hj]; rfl
  have hh : W1.heap[w.heap.size]? = some (.cells (bytesRow ⟨l.toArray⟩ (grownCap w l.length 0 e)) e ((bytesRow ⟨l.toArray⟩ (grownCap w l.length 0 e)).size, (bytesRow ⟨l.toArray⟩ (grownCap w l.length 0 e)).size + 1)) := by rw [hW1]; exact heap_alloc_new w.drew _
  rw [hy]
  simp [World.cell?, hh, hb]
/-- a root's number, by the four bytes of a value -/
def rootE (s : List UInt8) : Int := if s.length = 4 then (if 1 ≤ rawN s 0 4 ∧ rawN s 0 4 ≤ 14399 then 0 else 2) else 7
def rootN (s : List UInt8) : Nat := if rootE s = 0 then rawN s 0 4 else 0
theorem loop_len (bs : ByteArray) (i : Nat) (r : List UInt8) (h : i ≤ bs.size) : (ByteArray.toList.loop bs i r).length = r.length + (bs.size - i) := by
  rw [ByteArray.toList.loop]
  split
  · rename_i h2
    rw [loop_len bs (i + 1) _ (by omega)]
    simp; omega
  · simp; omega
termination_by bs.size - i
theorem toList_len (bs : ByteArray) : bs.toList.length = bs.size := by
  unfold ByteArray.toList; rw [loop_len _ _ _ (Nat.zero_le _)]; simp
theorem four_ne (n : Int) : ((⟨(leB n 4).toArray⟩ : ByteArray).toList == (⟨#[]⟩ : ByteArray).toList) = false := by
  cases hq : ((⟨(leB n 4).toArray⟩ : ByteArray).toList == (⟨#[]⟩ : ByteArray).toList) with
  | false => rfl
  | true =>
    have e := congrArg List.length (eq_of_beq hq)
    rw [toList_len, toList_len] at e
    simp [ByteArray.size, leB_len] at e
set_option maxRecDepth 100000 in
set_option maxHeartbeats 1000000 in
theorem value_rootR (w : World) :
    Calls Tryz.prog 185 #[] w (RetS (fun w' r => ∃ b, r = .slice (some ⟨b, 0, none⟩) 1 1 ∧ w.heap.size ≤ b ∧ Blk w' b [.int .i64 4, .int .i64 1, .int .i64 14399] 176) w) := by
 refine zin 3 Tryz.func185 ?_
 refine xbs 8 1 [.int .i64 4, .int .i64 1, .int .i64 14399] 176 fun b1 W1 n1 => ?_
 have g1 := n1.ge (Below.refl w.heap.size _)
 exact xe 4 (.slice (some ⟨b1, 0, none⟩) 1 1) ⟨_, rfl, n1.below, _, rfl, g1, n1.blk⟩
set_option maxRecDepth 100000 in
set_option maxHeartbeats 1000000 in
theorem value_putR (gl : Nat) (an : Option Addr) (cn : Nat) (n : Int) (w : World) (hl : Blk w gl [.int .i64 4, .int .i64 1, .int .i64 14399] 176) (hn : Sl w (.slice an 1 cn) 1 [.int .i64 n]) (h1 : 1 ≤ n) (h2 : n ≤ 14399) :
    Calls Tryz.prog 87 #[.slice (some ⟨gl, 0, none⟩) 1 1, .slice an 1 cn] w (Ret (.string ⟨(leB n 4).toArray⟩) w) := by
 have hlo := h1
 have hhi := h2
 clear h2
 refine zin 51 Tryz.func87 ?_
 refine xu 19 2 ?_
 refine xlv 15 hl.rp ?_
 refine xa 0 [.int .i64 0, .int .i64 0, .int .i64 0] 176 fun b1 W1 n1 => ?_
 have d1_gl := n1.ne hl
 refine xsv 1 n1.blk [.int .i64 4, .int .i64 1, .int .i64 14399] fun W2 u2 k2 => ?_
 have g1 := n1.ge (Below.refl w.heap.size _)
 refine xd 4 .z ?_
 refine xx (.e [0, 1] 2) _ 1 0 1 (Ints.elem (l := [n]) hn (k := 0) (by simp)).1 ?_
 have hB := Bl.next (u2.below n1.below g1) (below_drew W2)
 refine xl (.e [] 3) ((Ints.elem (l := [n]) (hn.below hB) (k := 0) (by simp)).2) ?_
 have k2'1 := k2.below (below_drew W2)
 refine xb (.e [4] 5) 1 k2'1 ?_
 refine xgk (.b [6, 7]) [23, 24] (show (decide (n < (1 : Int)) : Bool) = false from decide_eq_false (by omega)) ?_
 refine xx (.e [8, 9] 10) _ 1 0 1 (Ints.elem (l := [n]) hn (k := 0) (by simp)).1 ?_
 refine xl (.e [] 11) ((Ints.elem (l := [n]) (hn.below hB) (k := 0) (by simp)).2) ?_
 refine xb (.e [12] 13) 2 k2'1 ?_
 refine xk (.r [14, 15] 2) (show (decide (n > (14399 : Int)) : Bool) = false from decide_eq_false (by omega)) ?_
 refine xd 3 .z ?_
 have k2'2 := k2'1.below (below_drew W2.drew)
 refine xb (.e [0] 1) 0 k2'2 ?_
 refine xx (.e [2, 3] 4) _ 1 0 1 (Ints.elem (l := [n]) hn (k := 0) (by simp)).1 ?_
 have hB'1 := Bl.next hB (below_drew W2.drew)
 refine xl (.e [] 5) ((Ints.elem (l := [n]) (hn.below hB'1) (k := 0) (by simp)).2) ?_
 refine xbs (.o [6] 7) 1 [.int .i64 4, .int .i64 n] 236 fun b4 W4 n4 => ?_
 have g4 := n4.ge hB'1
 refine yc (.o [] 8) (args := #[.slice (some ⟨b4, 0, none⟩) 1 1]) .z (Pack_4 b4 n (by omega) (by omega) _ n4.blk) ?_
 rintro _ W5 ⟨_, rfl, hb5, p2, c2, rfl, h2⟩
 have hs5 := (Bl.next hB'1 n4.below).size
 refine ⟨hb5, ?_⟩
 have o6 := World.ownsRow_nil W5 w.heap.size 5 1
 have h2'1 := own_mono h2 hs5
 have hB'2 := Bl.next (Bl.next hB'1 n4.below) hb5
 refine xbi (.r [9, 10, 11, 12, 13] 5) fun _ _ _ _ zJ zQ zo zx zy zK => op_app (m := 4) (news := (leB n 4).map bv) (.int .u8 0) 1 1 (4) ((leB n 4).map bv) zo Tryz.underlying22 (by kernel_rfl) rfl (by decide) zx o6 zy (own_sl h2'1) (by simp [leB_len]) (bv_one _) (by unfold maxLen; omega) (by omega) hB'2.size (by rfl) (by simp) fun p7 c7 W7 o7 hg7 hb7 => ?_
 refine zK _ _ ?_
 refine xcv0 24 (fun _ _ _ zo zx => run_bstr zo zx (bys_of (own_sl o7) (leB_len _ _)) (leB_len _ _) Tryz.underlying22 Tryz.underlying5 Tryz.underlying9) ?_
 have hB'3 := hB'2.trans hb7
 exact xe 4 (.string ⟨(leB n 4).toArray⟩) ⟨rfl, hB'3⟩
set_option maxRecDepth 100000 in
set_option maxHeartbeats 1000000 in
theorem value_putX (gl : Nat) (an : Option Addr) (cn : Nat) (n : Int) (w : World) (hl : Blk w gl [.int .i64 4, .int .i64 1, .int .i64 14399] 176) (hn : Sl w (.slice an 1 cn) 1 [.int .i64 n]) (h : ¬ (1 ≤ n ∧ n ≤ 14399)) :
    Calls Tryz.prog 87 #[.slice (some ⟨gl, 0, none⟩) 1 1, .slice an 1 cn] w (Ret (.string ⟨#[]⟩) w) := by
 refine zin 51 Tryz.func87 ?_
 refine xu 19 2 ?_
 refine xlv 15 hl.rp ?_
 refine xa 0 [.int .i64 0, .int .i64 0, .int .i64 0] 176 fun b1 W1 n1 => ?_
 have d1_gl := n1.ne hl
 refine xsv 1 n1.blk [.int .i64 4, .int .i64 1, .int .i64 14399] fun W2 u2 k2 => ?_
 have g1 := n1.ge (Below.refl w.heap.size _)
 refine xd 4 .z ?_
 refine xx (.e [0, 1] 2) _ 1 0 1 (Ints.elem (l := [n]) hn (k := 0) (by simp)).1 ?_
 have hB := Bl.next (u2.below n1.below g1) (below_drew W2)
 refine xl (.e [] 3) ((Ints.elem (l := [n]) (hn.below hB) (k := 0) (by simp)).2) ?_
 have k2'1 := k2.below (below_drew W2)
 refine xb (.e [4] 5) 1 k2'1 ?_
 refine xg (.b [6, 7]) [23, 24] (decide (n < (1 : Int))) (fun hc3 => ?_) (fun hc3 => ?_)
 · have hc3 := of_decide_eq_true hc3
   exact xe (.r [8, 9, 10, 11, 12, 13, 14, 15] 15) (.string ⟨#[]⟩) ⟨rfl, hB⟩
 have hc3 := of_decide_eq_false hc3
 refine xx (.e [8, 9] 10) _ 1 0 1 (Ints.elem (l := [n]) hn (k := 0) (by simp)).1 ?_
 refine xl (.e [] 11) ((Ints.elem (l := [n]) (hn.below hB) (k := 0) (by simp)).2) ?_
 refine xb (.e [12] 13) 2 k2'1 ?_
 refine xk (.r [14, 15] 2) (show (decide (n > (14399 : Int)) : Bool) = true from decide_eq_true (by omega)) ?_
 exact xe 12 (.string ⟨#[]⟩) ⟨rfl, hB⟩
set_option maxRecDepth 100000 in
set_option maxHeartbeats 1000000 in
theorem value_read_len (gl : Nat) (s : List UInt8) (w : World) (hl : Blk w gl [.int .i64 4, .int .i64 1, .int .i64 14399] 176) (hs : s.length ≤ 1000) (h4 : s.length ≠ 4) :
    Calls Tryz.prog 58 #[.slice (some ⟨gl, 0, none⟩) 1 1, .string ⟨s.toArray⟩] w (RetS (fun w' r => ∃ p c, r = .tuple #[.slice p 1 c, .int .i64 7] ∧ w'.ownsRow w.heap.size 3 1 (.slice p 1 c) 1 [.int .i64 0]) w) := by
 refine zin 54 Tryz.func58 ?_
 refine xu 25 2 ?_
 refine xlv 14 hl.rp ?_
 refine xa 0 [.int .i64 0, .int .i64 0, .int .i64 0] 176 fun b1 W1 n1 => ?_
 have d1_gl := n1.ne hl
 refine xsv 0 n1.blk [.int .i64 4, .int .i64 1, .int .i64 14399] fun W2 u2 k2 => ?_
 have g1 := n1.ge (Below.refl w.heap.size _)
 refine xb 6 0 k2 ?_
 refine xbs 0 1 [.int .i64 4] 3 fun b3 W3 n3 => ?_
 have o4 := World.ownsRow_nil W3 w.heap.size 3 1
 have hB := Bl.next (u2.below n1.below g1) n3.below
 refine xbi 0 fun _ _ _ _ zJ zQ zo zx zy zK => op_app (m := 1) (news := [.int .i64 4]) (.int .i64 0) 1 8 (1) ([Value.int .i64 4]) zo Tryz.underlying30 (by kernel_rfl) rfl (by decide) zx o4 zy (n3.blk.sl 1 1 (by decide) (by decide)) rfl (by simp [Value.oneCell']) (by unfold maxLen; omega) (by omega) hB.size (by rfl) (by rfl) fun p5 c5 W5 o5 hg5 hb5 => ?_
 refine zK _ _ ?_
 have k2'1 := (k2.below n3.below).grown hg5 o4 (by decide)
 refine xb 6 0 k2'1 ?_
 refine xk 31 (show (((↑s.length : Int) != (4 : Int)) : Bool) = true from bne_iff_ne.2 (by omega)) ?_
 refine xmk 4 fun _ _ _ _ zJ zQ zo zx zy zK => op_make 1 (.int .i64 0) 1 8 [Value.int .i64 0] zo zx zy Tryz.underlying30 (by kernel_rfl) rfl (by omega) (by omega) (rfl) fun b6 W6 n6 => ?_
 have hB'1 := hB.trans hb5
 have g6 := n6.ge hB'1
 have r6_o5 := own_ne o5 n6
 refine zK _ _ ?_
 have hB'2 := Bl.next hB'1 n6.below
 have o6 := own_of_blk (size := 1) (n := 1) n6.blk g6 (rfl) (by unfold maxLen; omega)
 exact xe 6 (.tuple #[.slice (some ⟨b6, 0, none⟩) 1 1, .int .i64 7]) ⟨_, rfl, hB'2, _, _, rfl, o6⟩
set_option maxRecDepth 100000 in
set_option maxHeartbeats 1000000 in
theorem value_read_ok (gl : Nat) (s : List UInt8) (w : World) (hl : Blk w gl [.int .i64 4, .int .i64 1, .int .i64 14399] 176) (hs : s.length ≤ 1000) (h4 : s.length = 4) (h1 : 1 ≤ rawN s 0 4) (h2 : rawN s 0 4 ≤ 14399) :
    Calls Tryz.prog 58 #[.slice (some ⟨gl, 0, none⟩) 1 1, .string ⟨s.toArray⟩] w (RetS (fun w' r => ∃ p c, r = .tuple #[.slice p 1 c, .int .i64 0] ∧ w'.ownsRow w.heap.size 3 1 (.slice p 1 c) 1 [.int .i64 (↑(rawN s 0 4) : Int)]) w) := by
 refine zin 54 Tryz.func58 ?_
 refine xu 25 2 ?_
 refine xlv 14 hl.rp ?_
 refine xa 0 [.int .i64 0, .int .i64 0, .int .i64 0] 176 fun b1 W1 n1 => ?_
 have d1_gl := n1.ne hl
 refine xsv 0 n1.blk [.int .i64 4, .int .i64 1, .int .i64 14399] fun W2 u2 k2 => ?_
 have g1 := n1.ge (Below.refl w.heap.size _)
 refine xb 6 0 k2 ?_
 refine xbs 0 1 [.int .i64 4] 3 fun b3 W3 n3 => ?_
 have o4 := World.ownsRow_nil W3 w.heap.size 3 1
 have hB := Bl.next (u2.below n1.below g1) n3.below
 refine xbi 0 fun _ _ _ _ zJ zQ zo zx zy zK => op_app (m := 1) (news := [.int .i64 4]) (.int .i64 0) 1 8 (1) ([Value.int .i64 4]) zo Tryz.underlying30 (by kernel_rfl) rfl (by decide) zx o4 zy (n3.blk.sl 1 1 (by decide) (by decide)) rfl (by simp [Value.oneCell']) (by unfold maxLen; omega) (by omega) hB.size (by rfl) (by rfl) fun p5 c5 W5 o5 hg5 hb5 => ?_
 refine zK _ _ ?_
 have k2'1 := (k2.below n3.below).grown hg5 o4 (by decide)
 refine xb 6 0 k2'1 ?_
 refine xk 31 (show (((↑s.length : Int) != (4 : Int)) : Bool) = false from by rw [h4]; rfl) ?_
 refine xcf 5 fun _ _ _ zJ zQ zo zx zK => op_strBytes s zo zx Tryz.underlying9 Tryz.underlying22 Tryz.underlying5 (by omega) ?_
 intro bz cz W6 hb6 hbz
 refine zK _ _ ?_
 have o5'1 := own_below o5 hb6
 refine xc 1 (args := #[.slice (some ⟨bz, 0, none⟩) s.length cz, .slice p5 1 c5]) (Unpack_okN (some ⟨bz, 0, none⟩) s.length cz s p5 c5 1 [4] [rawN s 0 4] _ rfl rfl rfl (by decide) (by simp; omega) (by omega) (by decide) hbz (own_sl o5'1) (fun i hi => by obtain rfl : i = 0 := (by simpa using hi); have := rawN_lt4 s 0 4 (by decide); simp [unpL]; omega)) ?_
 rintro _ W7 ⟨_, rfl, hb7, p5, c5, rfl, h5⟩
 have hs7 := (Bl.next (hB.trans hb5) hb6).size
 have hl'1 := ((((u2.blk (hl.below n1.below) (Ne.symm (Ne.symm d1_gl))).below n3.below).grown hg5 o4 (by decide)).below hb6).below hb7
 have h5'1 := own_mono h5 hs7
 refine xr 15 (args := #[.slice (some ⟨gl, 0, none⟩) 1 1, .slice p5 1 c5]) (value_putR gl p5 c5 (↑(rawN s 0 4) : Int) _ hl'1 (own_sl h5'1) (by omega) (by omega)) fun W8 hb8 => ?_
 refine xk 4 (show (((⟨(leB (↑(rawN s 0 4) : Int) 4).toArray⟩ : ByteArray).toList == (⟨#[]⟩ : ByteArray).toList) : Bool) = false from four_ne _) ?_
 have hB'1 := Bl.next (Bl.next (Bl.next (hB.trans hb5) hb6) hb7) hb8
 have h5'2 := own_below h5'1 hb8
 exact xe 10 (.tuple #[.slice p5 1 c5, .int .i64 0]) ⟨_, rfl, hB'1, _, _, rfl, h5'2⟩
set_option maxRecDepth 100000 in
set_option maxHeartbeats 1000000 in
theorem value_read_bad (gl : Nat) (s : List UInt8) (w : World) (hl : Blk w gl [.int .i64 4, .int .i64 1, .int .i64 14399] 176) (hs : s.length ≤ 1000) (h4 : s.length = 4) (h1 : ¬ (1 ≤ (rawN s 0 4 : Int) ∧ (rawN s 0 4 : Int) ≤ 14399)) :
    Calls Tryz.prog 58 #[.slice (some ⟨gl, 0, none⟩) 1 1, .string ⟨s.toArray⟩] w (RetS (fun w' r => ∃ p c, r = .tuple #[.slice p 1 c, .int .i64 2] ∧ w'.ownsRow w.heap.size 3 1 (.slice p 1 c) 1 [.int .i64 0]) w) := by
 refine zin 54 Tryz.func58 ?_
 refine xu 25 2 ?_
 refine xlv 14 hl.rp ?_
 refine xa 0 [.int .i64 0, .int .i64 0, .int .i64 0] 176 fun b1 W1 n1 => ?_
 have d1_gl := n1.ne hl
 refine xsv 0 n1.blk [.int .i64 4, .int .i64 1, .int .i64 14399] fun W2 u2 k2 => ?_
 have g1 := n1.ge (Below.refl w.heap.size _)
 refine xb 6 0 k2 ?_
 refine xbs 0 1 [.int .i64 4] 3 fun b3 W3 n3 => ?_
 have o4 := World.ownsRow_nil W3 w.heap.size 3 1
 have hB := Bl.next (u2.below n1.below g1) n3.below
 refine xbi 0 fun _ _ _ _ zJ zQ zo zx zy zK => op_app (m := 1) (news := [.int .i64 4]) (.int .i64 0) 1 8 (1) ([Value.int .i64 4]) zo Tryz.underlying30 (by kernel_rfl) rfl (by decide) zx o4 zy (n3.blk.sl 1 1 (by decide) (by decide)) rfl (by simp [Value.oneCell']) (by unfold maxLen; omega) (by omega) hB.size (by rfl) (by rfl) fun p5 c5 W5 o5 hg5 hb5 => ?_
 refine zK _ _ ?_
 have k2'1 := (k2.below n3.below).grown hg5 o4 (by decide)
 refine xb 6 0 k2'1 ?_
 refine xk 31 (show (((↑s.length : Int) != (4 : Int)) : Bool) = false from by rw [h4]; rfl) ?_
 refine xcf 5 fun _ _ _ zJ zQ zo zx zK => op_strBytes s zo zx Tryz.underlying9 Tryz.underlying22 Tryz.underlying5 (by omega) ?_
 intro bz cz W6 hb6 hbz
 refine zK _ _ ?_
 have o5'1 := own_below o5 hb6
 refine xc 1 (args := #[.slice (some ⟨bz, 0, none⟩) s.length cz, .slice p5 1 c5]) (Unpack_okN (some ⟨bz, 0, none⟩) s.length cz s p5 c5 1 [4] [rawN s 0 4] _ rfl rfl rfl (by decide) (by simp; omega) (by omega) (by decide) hbz (own_sl o5'1) (fun i hi => by obtain rfl : i = 0 := (by simpa using hi); have := rawN_lt4 s 0 4 (by decide); simp [unpL]; omega)) ?_
 rintro _ W7 ⟨_, rfl, hb7, p5, c5, rfl, h5⟩
 have hs7 := (Bl.next (hB.trans hb5) hb6).size
 have hl'1 := ((((u2.blk (hl.below n1.below) (Ne.symm (Ne.symm d1_gl))).below n3.below).grown hg5 o4 (by decide)).below hb6).below hb7
 have h5'1 := own_mono h5 hs7
 refine xr 15 (args := #[.slice (some ⟨gl, 0, none⟩) 1 1, .slice p5 1 c5]) (value_putX gl p5 c5 (↑(rawN s 0 4) : Int) _ hl'1 (own_sl h5'1) (by omega)) fun W8 hb8 => ?_
 refine xmk 9 fun _ _ _ _ zJ zQ zo zx zy zK => op_make 1 (.int .i64 0) 1 8 [Value.int .i64 0] zo zx zy Tryz.underlying30 (by kernel_rfl) rfl (by omega) (by omega) (rfl) fun b9 W9 n9 => ?_
 have hB'1 := Bl.next (Bl.next (Bl.next (hB.trans hb5) hb6) hb7) hb8
 have g9 := n9.ge hB'1
 have o5'2 := own_below (own_below o5'1 hb7) hb8
 have r9_o5 := own_ne o5'2 n9
 have h5'2 := own_below h5'1 hb8
 have r9_h5 := own_ne h5'2 n9
 refine zK _ _ ?_
 have hB'2 := Bl.next hB'1 n9.below
 have o9 := own_of_blk (size := 1) (n := 1) n9.blk g9 (rfl) (by unfold maxLen; omega)
 exact xe 6 (.tuple #[.slice (some ⟨b9, 0, none⟩) 1 1, .int .i64 2]) ⟨_, rfl, hB'2, _, _, rfl, o9⟩
theorem value_readR (gl : Nat) (s : List UInt8) (w : World) (hl : Blk w gl [.int .i64 4, .int .i64 1, .int .i64 14399] 176) (hs : s.length ≤ 1000) : Calls Tryz.prog 58 #[.slice (some ⟨gl, 0, none⟩) 1 1, .string ⟨s.toArray⟩] w (RetS (fun w' r => ∃ p c, r = .tuple #[.slice p 1 c, .int .i64 (rootE s)] ∧ w'.ownsRow w.heap.size 3 1 (.slice p 1 c) 1 [.int .i64 (rootN s : Int)]) w) := by
  by_cases h4 : s.length = 4
  · by_cases h1 : 1 ≤ rawN s 0 4 ∧ rawN s 0 4 ≤ 14399
    · have he : rootE s = 0 := by unfold rootE; rw [if_pos h4, if_pos h1]
      rw [he, rootN, if_pos he]
      exact value_read_ok gl s w hl hs h4 h1.1 h1.2
    · have he : rootE s = 2 := by unfold rootE; rw [if_pos h4, if_neg h1]
      rw [he, rootN, if_neg (by rw [he]; decide)]
      exact value_read_bad gl s w hl hs h4 (by omega)
  · have he : rootE s = 7 := by unfold rootE; rw [if_neg h4]
    rw [he, rootN, if_neg (by rw [he]; decide)]
    exact value_read_len gl s w hl hs h4
set_option maxRecDepth 100000 in
set_option maxHeartbeats 1000000 in
theorem value_ReadRoot (s : List UInt8) (w : World) (hs : s.length ≤ 1000) :
    Calls Tryz.prog 191 #[.string ⟨s.toArray⟩] w (Ret (.tuple #[.int .i64 (rootN s : Int), .int .i64 (rootE s)]) w) := by
 refine zin 16 Tryz.func191 ?_
 refine xc 8 (args := #[]) (value_rootR _) ?_
 rintro _ W1 ⟨_, rfl, hb1, gl, rfl, gg, kl⟩
 refine xc 1 (args := #[.slice (some ⟨gl, 0, none⟩) 1 1, .string ⟨s.toArray⟩]) (value_readR gl s _ kl hs) ?_
 rintro _ W2 ⟨_, rfl, hb2, p5, c5, rfl, h5⟩
 have h5'1 := own_mono h5 hb1.size
 refine xx 10 _ 1 0 1 (Ints.elem (l := [(rootN s : Int)]) (own_sl h5'1) (k := 0) (by simp)).1 ?_
 refine xl 0 ((Ints.elem (l := [(rootN s : Int)]) (own_sl h5'1) (k := 0) (by simp)).2) ?_
 have hB := Bl.next hb1 hb2
 exact xe 6 (.tuple #[.int .i64 (↑(rootN s) : Int), .int .i64 (rootE s)]) ⟨rfl, hB⟩
end Go.Proofs.YthlakkdgcgkcdaaGreatDoor
namespace Go.Proofs.YthlakkdgcgkcdaaGreatDoor
open Go.RowKit Go.Extern.Stop Go.Stop Go.Extern
set_option linter.unusedVariables false
attribute [local irreducible] wpList wpAnyH Code.wp Oper.wp Go

/-- a part of a value: its width, from where to where -/
abbrev Part := Nat × Int × Int
def partC (p : Part) : List Value := [.int .i64 (p.1 : Int), .int .i64 p.2.1, .int .i64 p.2.2]
theorem partC_len (p : Part) : (partC p).length = 3 := rfl
def part0 : Part := (4, 0, 0)
/-- parts whose numbers have room -/
def PartsOk (ps : List Part) : Prop := ps.length ≤ 1000 ∧ ∀ i, i < ps.length → ((ps.getD i part0).1 = 4 ∨ (ps.getD i part0).1 = 8) ∧ 0 ≤ (ps.getD i part0).2.1 ∧ (ps.getD i part0).2.2 < 9223372036854775808 ∧ ((ps.getD i part0).1 = 4 → (ps.getD i part0).2.2 < 4294967296)
def inP (p : Part) (n : Int) : Bool := decide (p.2.1 ≤ n ∧ n ≤ p.2.2)
def allIn (ps : List Part) (N : List Int) (k : Nat) : Bool := (List.range k).all fun i => inP (ps.getD i part0) (N.getD i 0)
theorem allIn_succ (ps : List Part) (N : List Int) (k : Nat) : allIn ps N (k + 1) = (allIn ps N k && inP (ps.getD k part0) (N.getD k 0)) := by simp [allIn, List.range_succ]
theorem allIn_stop {ps : List Part} {N : List Int} {i k : Nat} (hi : i < k) (h : inP (ps.getD i part0) (N.getD i 0) = false) : allIn ps N k = false := by
  unfold allIn
  rw [List.all_eq_false]
  exact ⟨i, List.mem_range.2 hi, by rw [h]; decide⟩
def putL (ps : List Part) (N : List Int) (k : Nat) : List UInt8 := (List.range k).flatMap fun i => leB (N.getD i 0) (ps.getD i part0).1
theorem putL_succ (ps : List Part) (N : List Int) (k : Nat) : putL ps N (k + 1) = putL ps N k ++ leB (N.getD k 0) (ps.getD k part0).1 := by simp [putL, List.range_succ]
def wids (ps : List Part) (k : Nat) : List Nat := (List.range k).map fun i => (ps.getD i part0).1
theorem wids_succ (ps : List Part) (k : Nat) : wids ps (k + 1) = wids ps k ++ [(ps.getD k part0).1] := by simp [wids, List.range_succ]
theorem wids_len (ps : List Part) (k : Nat) : (wids ps k).length = k := by simp [wids]
theorem wids_get (ps : List Part) {k i : Nat} (h : i < k) : (wids ps k).getD i 0 = (ps.getD i part0).1 := by simp [wids, List.getD, List.getElem?_range h]
theorem putL_len (ps : List Part) (N : List Int) (k : Nat) : (putL ps N k).length = (wids ps k).sum := by
  induction k with
  | zero => rfl
  | succ k ih => rw [putL_succ, wids_succ, List.length_append, leB_len, ih]; simp
theorem Pack_48 (g w : Nat) (n : Int) (W : World) (hw : w = 4 ∨ w = 8) (h0 : 0 ≤ n) (hb : w = 4 → n < 4294967296) (hk : Blk W g [.int .i64 (w : Int), .int .i64 n] 236) : Calls Tryz.prog 131 #[.slice (some ⟨g, 0, none⟩) 1 1] W (RetS (fun w' r => ∃ p c, r = .tuple #[.slice p w c, .int .i64 0] ∧ w'.ownsRow W.heap.size 5 1 (.slice p w c) w ((leB n w).map bv)) W) := by
  rcases hw with rfl | rfl
  · exact Pack_4 g n h0 (hb rfl) W hk
  · exact Pack_8 g n h0 W hk
def ValPutP (ps : List Part) (N : List Int) (w : World) (e : Ending) (w' : World) : Prop :=
  (allIn ps N ps.length = false ∧ e = .returned (.string ⟨#[]⟩) ∧ Below w.heap.size w w') ∨ (allIn ps N ps.length = true ∧ e = .returned (.string ⟨(putL ps N ps.length).toArray⟩) ∧ Below w.heap.size w w')
set_option maxRecDepth 100000 in
set_option maxHeartbeats 4000000 in
theorem value_putG (ps : List Part) (N : List Int) (gl gn : Option Addr) (cl cn : Nat) (w : World) (hps : PartsOk ps) (hNl : N.length = ps.length) (hP : Sts partC w (.slice gl ps.length cl) ps) (hN : Sl w (.slice gn ps.length cn) ps.length (N.map (Value.int .i64))) :
    Calls Tryz.prog 87 #[.slice gl ps.length cl, .slice gn ps.length cn] w (ValPutP ps N w) := by
 have hpl := hps.1
 refine zin 51 Tryz.func87 ?_
 have hB := Below.refl w.heap.size w
 refine zl 19 51 (fun zm zkv V => ∃ (i m : Nat) (q : Option Addr) (d : Nat), zkv = [(1, .slice gn ps.length cn), (5, .slice q m d), (10, .slice gl ps.length cl), (11, .int .i64 (↑ps.length : Int)), (12, .int .i64 (↑i : Int))] ∧ zm = ps.length - ((↑i : Int)).toNat ∧ Below w.heap.size w V ∧ V.ownsRow w.heap.size 5 1 (.slice q m d) m ((putL ps N i).map bv) ∧ i ≤ ps.length ∧ m = (wids ps i).sum ∧ m ≤ i * 8 ∧ allIn ps N i = true) ⟨0, 0, _, _, rfl, rfl, hB, World.ownsRow_nil _ _ _ _, Nat.zero_le _, rfl, Nat.zero_le _, rfl⟩ ?_
 rintro _ _ W1 ⟨i, m, q, d, rfl, rfl, hB_1, ho, hi, hm, hm2, hall⟩ J1 hJ1 r1
 refine xid 6 ((↑i : Int) < (↑ps.length : Int)) (fun hc2 => ?_) (fun hc2 => ?_)
 · refine xx 7 _ ps.length i 3 (Sts.cell hP partC_len part0 (k := i) (i := 0) (by omega) rfl).1 ?_
   refine xlv 0 (Sts.rp (k := i) (hP.below hB_1) partC_len part0 (by omega) (by decide)) ?_
   refine xa 0 [.int .i64 0, .int .i64 0, .int .i64 0] 176 fun b3 W3 n3 => ?_
   have g3 := n3.ge hB_1
   refine xsv 1 n3.blk [.int .i64 (↑(ps.getD i part0).1 : Int), .int .i64 ((ps.getD i part0).2.1), .int .i64 ((ps.getD i part0).2.2)] fun W4 u4 k4 => ?_
   refine xd 4 .z ?_
   refine xx (.e [0, 1] 2) _ ps.length i 1 (IntsN.elem hN hNl (k := i) (by omega)).1 ?_
   have hB'1 := Bl.next (u4.below (Bl.next hB_1 n3.below) g3) (below_drew W4)
   refine xl (.e [] 3) ((IntsN.elem (hN.below hB'1) hNl (k := i) (by omega)).2) ?_
   have k4'1 := k4.below (below_drew W4)
   refine xb (.e [4] 5) 1 k4'1 ?_
   refine xg (.b [6, 7]) [23, 24] (decide ((N.getD i 0) < (ps.getD i part0).2.1)) (fun hc5 => ?_) (fun hc5 => ?_)
   · have hc5 := of_decide_eq_true hc5
     exact xe (.r [8, 9, 10, 11, 12, 13, 14, 15] 15) (.string ⟨#[]⟩) (.inl ⟨allIn_stop (i := i) (by omega) (decide_eq_false (by omega)), rfl, hB'1⟩)
   have hc5 := of_decide_eq_false hc5
   refine xx (.e [8, 9] 10) _ ps.length i 1 (IntsN.elem hN hNl (k := i) (by omega)).1 ?_
   refine xl (.e [] 11) ((IntsN.elem (hN.below hB'1) hNl (k := i) (by omega)).2) ?_
   refine xb (.e [12] 13) 2 k4'1 ?_
   refine xid (.r [14, 15] 2) ((N.getD i 0) > (ps.getD i part0).2.2) (fun hc6 => ?_) (fun hc6 => ?_)
   · exact xe 12 (.string ⟨#[]⟩) (.inl ⟨allIn_stop (i := i) (by omega) (decide_eq_false (by omega)), rfl, hB'1⟩)
   refine xd 3 .z ?_
   have k4'2 := k4'1.below (below_drew W4.drew)
   refine xb (.e [0] 1) 0 k4'2 ?_
   refine xx (.e [2, 3] 4) _ ps.length i 1 (IntsN.elem hN hNl (k := i) (by omega)).1 ?_
   have hB'2 := Bl.next hB'1 (below_drew W4.drew)
   refine xl (.e [] 5) ((IntsN.elem (hN.below hB'2) hNl (k := i) (by omega)).2) ?_
   refine xbs (.o [6] 7) 1 [.int .i64 (↑(ps.getD i part0).1 : Int), .int .i64 (N.getD i 0)] 236 fun b7 W7 n7 => ?_
   have g7 := n7.ge hB'2
   refine yc (.o [] 8) (args := #[.slice (some ⟨b7, 0, none⟩) 1 1]) .z (Pack_48 b7 (ps.getD i part0).1 (N.getD i 0) _ (hps.2 i (by omega)).1 (by have := (hps.2 i (by omega)).2.1; omega) (fun q => by have := (hps.2 i (by omega)).2.2.2 q; omega) n7.blk) ?_
   rintro _ W8 ⟨_, rfl, hb8, p2, c2, rfl, h2⟩
   have hs8 := (Bl.next hB'2 n7.below).size
   refine ⟨hb8, ?_⟩
   have ho'1 := own_below (own_below (own_below (own_below (u4.own2 (own_below ho n3.below) n3.blk (by decide)) (below_drew W4)) (below_drew W4.drew)) n7.below) hb8
   have h2'1 := own_mono h2 hs8
   have hB'3 := Bl.next (Bl.next hB'2 n7.below) hb8
   refine xbi (.r [9, 10, 11, 12, 13] 5) fun _ _ _ _ zJ zQ zo zx zy zK => op_app (m := (ps.getD i part0).1) (news := (leB (N.getD i 0) (ps.getD i part0).1).map bv) (.int .u8 0) 1 1 ((m + (ps.getD i part0).1)) (((putL ps N (i + 1)).map bv)) zo Tryz.underlying22 (by kernel_rfl) rfl (by decide) zx ho'1 zy (own_sl h2'1) (by simp [leB_len]) (bv_one _) (by unfold maxLen; have := (hps.2 i (by omega)).1; omega) (by have := (hps.2 i (by omega)).1; omega) hB'3.size (by rfl) (by rw [putL_succ, List.map_append]) fun px9 cx9 W9 o9 hg9 hb9 => ?_
   refine zK _ _ ?_
   refine xwm 5 ((↑i : Int) + 1) (↑(i + 1) : Int) ?_
   have hB'4 := hB'3.trans hb9
   exact ze 2 (hJ1 _ _ _ ⟨i + 1, _, _, _, rfl, rfl, hB'4, o9, by omega, by rw [wids_succ, hm]; simp, by have := (hps.2 i (by omega)).1; omega, by rw [allIn_succ, hall]; exact decide_eq_true ⟨by omega, by omega⟩⟩ (by omega))
 refine xcv0 8 (fun _ _ _ zo zx => run_bstr zo zx (bys_of (own_sl ho) (by rw [putL_len]; exact hm.symm)) (by rw [putL_len]; exact hm.symm) Tryz.underlying22 Tryz.underlying5 Tryz.underlying9) ?_
 refine xe 4 (.string ⟨(putL ps N i).toArray⟩) ?_
 obtain rfl : i = ps.length := by omega
 exact .inr ⟨hall, rfl, hB_1⟩
/-- what stands in a value: the numbers, one behind the other -/
def rawsL (ps : List Part) (s : List UInt8) : List Nat := unpL s 0 (wids ps ps.length)
theorem rawsL_len (ps : List Part) (s : List UInt8) : (rawsL ps s).length = ps.length := by rw [rawsL, unpL_len, wids_len]
def readOk (ps : List Part) (s : List UInt8) : Bool := allIn ps ((rawsL ps s).map fun n : Nat => (n : Int)) ps.length
def readE (ps : List Part) (s : List UInt8) : Int := if s.length = (wids ps ps.length).sum then (if readOk ps s then 0 else 2) else 7
def readV (ps : List Part) (s : List UInt8) : List Nat := if readE ps s = 0 then rawsL ps s else List.replicate ps.length 0
theorem readV_len (ps : List Part) (s : List UInt8) : (readV ps s).length = ps.length := by
  unfold readV; split
  · exact rawsL_len ps s
  · simp
theorem readOk_lt {ps : List Part} {s : List UInt8} (hp : PartsOk ps) (h : readOk ps s = true) : ∀ i, i < (wids ps ps.length).length → (unpL s 0 (wids ps ps.length)).getD i 0 < 9223372036854775808 := by
  intro i hi
  rw [wids_len] at hi
  unfold readOk allIn at h
  rw [List.all_eq_true] at h
  have h1 := of_decide_eq_true (h i (List.mem_range.2 hi))
  have h2 := (hp.2 i hi).2.2.1
  rw [show ((rawsL ps s).map fun n : Nat => (n : Int)).getD i 0 = (((rawsL ps s).getD i 0 : Nat) : Int) by simp [List.getD, show i < (rawsL ps s).length by rw [rawsL_len]; exact hi]] at h1
  change (rawsL ps s).getD i 0 < _
  omega
theorem map_nv (l : List Nat) : l.map nv = (l.map fun n : Nat => (n : Int)).map (Value.int .i64) := by simp [nv]
theorem putL_ne {ps : List Part} {N : List Int} (hp : PartsOk ps) (h0 : 0 < ps.length) : ((⟨(putL ps N ps.length).toArray⟩ : ByteArray).toList == (⟨#[]⟩ : ByteArray).toList) = false := by
  rw [show (⟨#[]⟩ : ByteArray) = ⟨([] : List UInt8).toArray⟩ from rfl, str_beq]
  apply beq_false_of_ne
  intro q
  have h1 := congrArg List.length q
  obtain ⟨k, hk⟩ : ∃ k, ps.length = k + 1 := ⟨ps.length - 1, by omega⟩
  rw [hk, putL_succ, List.length_append, leB_len] at h1
  rw [List.length_nil] at h1
  have := (hp.2 k (by omega)).1
  omega
theorem zeros_nv (n : Nat) : zeros (Value.int .i64 0).cells.toList n = (List.replicate n 0).map nv := by
  rw [show (Value.int .i64 0).cells.toList = [Value.int .i64 0] from rfl, zeros, List.map_replicate]
  induction n with
  | zero => rfl
  | succ n ih => rw [List.replicate_succ, List.flatten_cons, ih, List.replicate_succ]; rfl
set_option maxRecDepth 100000 in
set_option maxHeartbeats 1000000 in
theorem value_readG_len (ps : List Part) (s : List UInt8) (gl : Option Addr) (cl : Nat) (w : World) (hps : PartsOk ps) (h0 : 0 < ps.length) (hs : s.length ≤ 100000) (hP : Sts partC w (.slice gl ps.length cl) ps) (hsl : s.length ≠ (wids ps ps.length).sum) :
    Calls Tryz.prog 58 #[.slice gl ps.length cl, .string ⟨s.toArray⟩] w (RetS (fun w' r => ∃ p c, r = .tuple #[.slice p ps.length c, .int .i64 (readE ps s)] ∧ w'.ownsRow w.heap.size 3 1 (.slice p ps.length c) ps.length ((readV ps s).map nv)) w) := by
 have hpl := hps.1
 refine zin 54 Tryz.func58 ?_
 have hB := Below.refl w.heap.size w
 refine zl 25 54 (fun zm zkv V => ∃ (i : Nat) (q : Option Addr) (d : Nat), zkv = [(0, .slice gl ps.length cl), (1, .string ⟨s.toArray⟩), (4, .slice none 0 0), (5, .int .i64 0), (6, .slice q i d), (7, .int .i64 (↑(wids ps i).sum : Int)), (12, .slice gl ps.length cl), (13, .int .i64 (↑ps.length : Int)), (14, .int .i64 (↑i : Int))] ∧ zm = ps.length - ((↑i : Int)).toNat ∧ Below w.heap.size w V ∧ V.ownsRow w.heap.size 3 1 (.slice q i d) i ((wids ps i).map nv) ∧ i ≤ ps.length ∧ (wids ps i).sum ≤ i * 8) ⟨0, _, _, rfl, rfl, hB, World.ownsRow_nil _ _ _ _, Nat.zero_le _, Nat.zero_le _⟩ ?_
 rintro _ _ W1 ⟨i, q, d, rfl, rfl, hB_1, ho, hi, hm2⟩ J1 hJ1 r1
 have hwd : i < ps.length → (ps.getD i part0).1 ≤ 8 := fun q => by have := (hps.2 i q).1; omega
 refine xid 6 ((↑i : Int) < (↑ps.length : Int)) (fun hc2 => ?_) (fun hc2 => ?_)
 · refine xx 6 _ ps.length i 3 (Sts.cell hP partC_len part0 (k := i) (i := 0) (by omega) rfl).1 ?_
   refine xlv 0 (Sts.rp (k := i) (hP.below hB_1) partC_len part0 (by omega) (by decide)) ?_
   refine xa 0 [.int .i64 0, .int .i64 0, .int .i64 0] 176 fun b3 W3 n3 => ?_
   have g3 := n3.ge hB_1
   refine xsv 0 n3.blk [.int .i64 (↑(ps.getD i part0).1 : Int), .int .i64 ((ps.getD i part0).2.1), .int .i64 ((ps.getD i part0).2.2)] fun W4 u4 k4 => ?_
   refine xb 6 0 k4 ?_
   refine xbs 0 1 [.int .i64 (↑(ps.getD i part0).1 : Int)] 3 fun b5 W5 n5 => ?_
   have hB'1 := u4.below (Bl.next hB_1 n3.below) g3
   have g5 := n5.ge hB'1
   have ho'1 := u4.own2 (own_below ho n3.below) n3.blk (by decide)
   have r5_ho := own_ne ho'1 n5
   have ho'2 := own_below ho'1 n5.below
   have hB'2 := Bl.next hB'1 n5.below
   refine xbi 0 fun _ _ _ _ zJ zQ zo zx zy zK => op_app (m := 1) (news := [.int .i64 (↑(ps.getD i part0).1 : Int)]) (.int .i64 0) 1 8 (i + 1) (((wids ps (i + 1)).map nv)) zo Tryz.underlying30 (by kernel_rfl) rfl (by decide) zx ho'2 zy (n5.blk.sl 1 1 (by decide) (by decide)) rfl (by simp [Value.oneCell']) (by unfold maxLen; omega) (by omega) hB'2.size (by rfl) (by rw [wids_succ, List.map_append]; rfl) fun px6 cx6 W6 o6 hg6 hb6 => ?_
   refine zK _ _ ?_
   have k4'1 := (k4.below n5.below).grown hg6 ho'2 (by decide)
   refine xb 6 0 k4'1 ?_
   refine xwm 0 ((↑(wids ps i).sum : Int) + (↑(ps.getD i part0).1 : Int)) (↑((wids ps i).sum + ((ps.getD i part0).1)) : Int) ?_
   refine xwm 5 ((↑i : Int) + 1) (↑(i + 1) : Int) ?_
   refine xv1 2 7 (show (.int .i64 (↑((wids ps i).sum + ((ps.getD i part0).1)) : Int) : Value) = .int .i64 (↑(wids ps (i + 1)).sum : Int) from by rw [wids_succ]; simp) ?_
   have hB'3 := hB'2.trans hb6
   exact ze 0 (hJ1 _ _ _ ⟨i + 1, _, _, rfl, rfl, hB'3, o6, by omega, by rw [wids_succ, List.sum_append, List.sum_cons, List.sum_nil]; have := hwd (by omega); omega⟩ (by omega))
 refine xk 14 (show (((↑s.length : Int) != (↑(wids ps i).sum : Int)) : Bool) = true from bne_iff_ne.2 (by rw [show i = ps.length by omega]; omega)) ?_
 refine xmk 4 fun _ _ _ _ zJ zQ zo zx zy zK => op_make ps.length (.int .i64 0) 1 8 ((List.replicate ps.length 0).map nv) zo zx zy Tryz.underlying30 (by kernel_rfl) rfl (by omega) (by omega) (zeros_nv _) fun b7 W7 n7 => ?_
 have g7 := n7.ge hB_1
 have r7_ho := own_ne ho n7
 refine zK _ _ ?_
 have hB'4 := Bl.next hB_1 n7.below
 have o7 := own_of_blk (size := 1) (n := ps.length) n7.blk g7 (by simp) (by unfold maxLen; omega)
 refine xe 6 (.tuple #[.slice (some ⟨b7, 0, none⟩) ps.length ps.length, .int .i64 7]) ?_
 have he : readE ps s = 7 := if_neg hsl
 exact ⟨_, rfl, hB'4, _, _, by rw [he], by rw [readV, if_neg (by rw [he]; decide)]; exact o7⟩
def UnpP (s : List UInt8) (ws : List Nat) (n : Nat) (W : World) (e : Ending) (w' : World) : Prop :=
  ((¬ ∀ i, i < ws.length → (unpL s 0 ws).getD i 0 < 9223372036854775808) ∧ e = .returned (.tuple #[.slice none 0 0, .int .i64 2]) ∧ Below W.heap.size W w') ∨
  ((∀ i, i < ws.length → (unpL s 0 ws).getD i 0 < 9223372036854775808) ∧ ∃ p c, e = .returned (.tuple #[.slice p n c, .int .i64 0]) ∧ Below W.heap.size W w' ∧ w'.ownsRow W.heap.size 3 1 (.slice p n c) n ((unpL s 0 ws).map nv))
theorem Unpack_P (a : Option Addr) (n c m : Nat) (s : List UInt8) (aw : Option Addr) (cw : Nat) (ws : List Nat) (W : World) (hn : s.length = n) (hm : ws.length = m) (hk : ∀ i, i < ws.length → ws.getD i 0 = 1 ∨ ws.getD i 0 = 2 ∨ ws.getD i 0 = 4 ∨ ws.getD i 0 = 8) (hs : ws.sum ≤ n) (hl : n ≤ 100000000) (hw : m ≤ 1000) (h : Bys W (.slice a n c) s) (hws : Sl W (.slice aw m cw) m (ws.map nv)) :
    Calls Tryz.prog 93 #[.slice a n c, .slice aw m cw] W (UnpP s ws m W) := by
  subst hn hm
  by_cases hq : ∀ i, i < ws.length → (unpL s 0 ws).getD i 0 < 9223372036854775808
  · refine (Unpack_ok a c s aw cw ws W hk hs hl hw h hws hq).mono ?_
    rintro e V ⟨_, rfl, hb, p, c2, rfl, ho⟩
    exact .inr ⟨hq, p, c2, rfl, hb, ho⟩
  · refine (Unpack_bad a c s aw cw ws W hk hs hl hw h hws hq).mono ?_
    rintro e V ⟨rfl, hb⟩
    exact .inl ⟨hq, rfl, hb⟩
theorem rawsI_len (ps : List Part) (s : List UInt8) (k : Nat) : ((unpL s 0 (wids ps k)).map fun n : Nat => (n : Int)).length = k := by rw [List.length_map, unpL_len, wids_len]
theorem value_putR2 (ps : List Part) (N : List Int) (gl gn : Option Addr) (cl cn n : Nat) (w : World) (hps : PartsOk ps) (hn : n = ps.length) (hNl : N.length = n) (hP : Sts partC w (.slice gl ps.length cl) ps) (hN : Sl w (.slice gn n cn) n (N.map (Value.int .i64))) :
    Calls Tryz.prog 87 #[.slice gl ps.length cl, .slice gn n cn] w (fun e w' => (allIn ps N n = false ∧ e = .returned (.string ⟨#[]⟩) ∧ Below w.heap.size w w') ∨ (allIn ps N n = true ∧ e = .returned (.string ⟨(putL ps N ps.length).toArray⟩) ∧ Below w.heap.size w w')) := by
  subst hn; exact value_putG ps N gl gn cl cn w hps hNl hP hN
set_option maxRecDepth 100000 in
set_option maxHeartbeats 4000000 in
theorem value_readG_in (ps : List Part) (s : List UInt8) (gl : Option Addr) (cl : Nat) (w : World) (hps : PartsOk ps) (h0 : 0 < ps.length) (hs : s.length ≤ 100000) (hP : Sts partC w (.slice gl ps.length cl) ps) (hsl : s.length = (wids ps ps.length).sum) :
    Calls Tryz.prog 58 #[.slice gl ps.length cl, .string ⟨s.toArray⟩] w (RetS (fun w' r => ∃ p c, r = .tuple #[.slice p ps.length c, .int .i64 (readE ps s)] ∧ w'.ownsRow w.heap.size 3 1 (.slice p ps.length c) ps.length ((readV ps s).map nv)) w) := by
 have hpl := hps.1
 refine zin 54 Tryz.func58 ?_
 have hB := Below.refl w.heap.size w
 refine zl 25 54 (fun zm zkv V => ∃ (i : Nat) (q : Option Addr) (d : Nat), zkv = [(0, .slice gl ps.length cl), (1, .string ⟨s.toArray⟩), (4, .slice none 0 0), (5, .int .i64 0), (6, .slice q i d), (7, .int .i64 (↑(wids ps i).sum : Int)), (12, .slice gl ps.length cl), (13, .int .i64 (↑ps.length : Int)), (14, .int .i64 (↑i : Int))] ∧ zm = ps.length - ((↑i : Int)).toNat ∧ Below w.heap.size w V ∧ V.ownsRow w.heap.size 3 1 (.slice q i d) i ((wids ps i).map nv) ∧ i ≤ ps.length ∧ (wids ps i).sum ≤ i * 8) ⟨0, _, _, rfl, rfl, hB, World.ownsRow_nil _ _ _ _, Nat.zero_le _, Nat.zero_le _⟩ ?_
 rintro _ _ W1 ⟨i, q, d, rfl, rfl, hB_1, ho, hi, hm2⟩ J1 hJ1 r1
 have hwd : i < ps.length → (ps.getD i part0).1 ≤ 8 := fun q => by have := (hps.2 i q).1; omega
 refine xid 6 ((↑i : Int) < (↑ps.length : Int)) (fun hc2 => ?_) (fun hc2 => ?_)
 · refine xx 6 _ ps.length i 3 (Sts.cell hP partC_len part0 (k := i) (i := 0) (by omega) rfl).1 ?_
   refine xlv 0 (Sts.rp (k := i) (hP.below hB_1) partC_len part0 (by omega) (by decide)) ?_
   refine xa 0 [.int .i64 0, .int .i64 0, .int .i64 0] 176 fun b3 W3 n3 => ?_
   have g3 := n3.ge hB_1
   refine xsv 0 n3.blk [.int .i64 (↑(ps.getD i part0).1 : Int), .int .i64 ((ps.getD i part0).2.1), .int .i64 ((ps.getD i part0).2.2)] fun W4 u4 k4 => ?_
   refine xb 6 0 k4 ?_
   refine xbs 0 1 [.int .i64 (↑(ps.getD i part0).1 : Int)] 3 fun b5 W5 n5 => ?_
   have hB'1 := u4.below (Bl.next hB_1 n3.below) g3
   have g5 := n5.ge hB'1
   have ho'1 := u4.own2 (own_below ho n3.below) n3.blk (by decide)
   have r5_ho := own_ne ho'1 n5
   have ho'2 := own_below ho'1 n5.below
   have hB'2 := Bl.next hB'1 n5.below
   refine xbi 0 fun _ _ _ _ zJ zQ zo zx zy zK => op_app (m := 1) (news := [.int .i64 (↑(ps.getD i part0).1 : Int)]) (.int .i64 0) 1 8 (i + 1) (((wids ps (i + 1)).map nv)) zo Tryz.underlying30 (by kernel_rfl) rfl (by decide) zx ho'2 zy (n5.blk.sl 1 1 (by decide) (by decide)) rfl (by simp [Value.oneCell']) (by unfold maxLen; omega) (by omega) hB'2.size (by rfl) (by rw [wids_succ, List.map_append]; rfl) fun px6 cx6 W6 o6 hg6 hb6 => ?_
   refine zK _ _ ?_
   have k4'1 := (k4.below n5.below).grown hg6 ho'2 (by decide)
   refine xb 6 0 k4'1 ?_
   refine xwm 0 ((↑(wids ps i).sum : Int) + (↑(ps.getD i part0).1 : Int)) (↑((wids ps i).sum + ((ps.getD i part0).1)) : Int) ?_
   refine xwm 5 ((↑i : Int) + 1) (↑(i + 1) : Int) ?_
   refine xv1 2 7 (show (.int .i64 (↑((wids ps i).sum + ((ps.getD i part0).1)) : Int) : Value) = .int .i64 (↑(wids ps (i + 1)).sum : Int) from by rw [wids_succ]; simp) ?_
   have hB'3 := hB'2.trans hb6
   exact ze 0 (hJ1 _ _ _ ⟨i + 1, _, _, rfl, rfl, hB'3, o6, by omega, by rw [wids_succ, List.sum_append, List.sum_cons, List.sum_nil]; have := hwd (by omega); omega⟩ (by omega))
 refine xk 14 (show (((↑s.length : Int) != (↑(wids ps i).sum : Int)) : Bool) = false from by rw [show i = ps.length by omega, hsl]; simp) ?_
 refine xcf 5 fun _ _ _ zJ zQ zo zx zK => op_strBytes s zo zx Tryz.underlying9 Tryz.underlying22 Tryz.underlying5 (by omega) ?_
 intro bz cz W7 hb7 hbz
 refine zK _ _ ?_
 have ho'3 := own_below ho hb7
 refine xc 1 (args := #[.slice (some ⟨bz, 0, none⟩) s.length cz, .slice q i d]) (Unpack_P (some ⟨bz, 0, none⟩) s.length cz i s q d (wids ps i) _ rfl (wids_len ps i) (fun j hj => by rw [wids_len] at hj; rw [wids_get ps hj]; have := (hps.2 j (by omega)).1; omega) (by rw [show i = ps.length by omega]; omega) (by omega) (by omega) hbz (own_sl ho'3)) ?_
 rintro e W8 hq8
 rcases hq8 with ⟨hq, rfl, hb8⟩ | ⟨hq, p5, c5, rfl, hb8, h5⟩
 · have hie : i = ps.length := by omega
   have hno : readOk ps s = false := by rw [← Bool.not_eq_true]; intro q; exact hq (by rw [hie]; exact readOk_lt hps q)
   refine xmk 25 fun _ _ _ _ zJ zQ zo zx zy zK => op_make ps.length (.int .i64 0) 1 8 ((List.replicate ps.length 0).map nv) zo zx zy Tryz.underlying30 (by kernel_rfl) rfl (by omega) (by omega) (zeros_nv _) fun b9 W9 n9 => ?_
   have hB'4 := Bl.next (Bl.next hB_1 hb7) hb8
   have g9 := n9.ge hB'4
   have ho'4 := own_below ho'3 hb8
   have r9_ho := own_ne ho'4 n9
   refine zK _ _ ?_
   have hB'5 := Bl.next hB'4 n9.below
   have o9 := own_of_blk (size := 1) (n := ps.length) n9.blk g9 (by simp) (by unfold maxLen; omega)
   refine xe 6 (.tuple #[.slice (some ⟨b9, 0, none⟩) ps.length ps.length, .int .i64 2]) ?_
   have he : readE ps s = 2 := by unfold readE; rw [if_pos hsl, if_neg (by rw [hno]; decide)]
   exact ⟨_, rfl, hB'5, _, _, by rw [he], by rw [readV, if_neg (by rw [he]; decide)]; exact o9⟩
 have hs8 := (Bl.next hB_1 hb7).size
 have hie : i = ps.length := by omega
 have h5'1 := own_mono h5 hs8
 have hN5 : Sl (W8) (.slice p5 i c5) i (((unpL s 0 (wids ps i)).map fun n : Nat => (n : Int)).map (Value.int .i64)) := by have q := own_sl h5'1; rw [map_nv] at q; exact q
 have hB'6 := Bl.next (Bl.next hB_1 hb7) hb8
 refine xc 15 (args := #[.slice gl ps.length cl, .slice p5 i c5]) (value_putR2 ps ((unpL s 0 (wids ps i)).map fun n : Nat => (n : Int)) gl p5 cl c5 i _ hps hie (rawsI_len ps s i) (hP.below hB'6) hN5) ?_
 rintro e W10 hq10
 rcases hq10 with ⟨hin, rfl, hb10⟩ | ⟨hin, rfl, hb10⟩
 · have hno : readOk ps s = false := by unfold readOk rawsL; rw [← hie]; exact hin
   refine xmk 9 fun _ _ _ _ zJ zQ zo zx zy zK => op_make ps.length (.int .i64 0) 1 8 ((List.replicate ps.length 0).map nv) zo zx zy Tryz.underlying30 (by kernel_rfl) rfl (by omega) (by omega) (zeros_nv _) fun b11 W11 n11 => ?_
   have hB'7 := Bl.next hB'6 hb10
   have g11 := n11.ge hB'7
   have ho'5 := own_below (own_below ho'3 hb8) hb10
   have r11_ho := own_ne ho'5 n11
   have h5'2 := own_below h5'1 hb10
   have r11_h5 := own_ne h5'2 n11
   refine zK _ _ ?_
   have hB'8 := Bl.next hB'7 n11.below
   have o11 := own_of_blk (size := 1) (n := ps.length) n11.blk g11 (by simp) (by unfold maxLen; omega)
   refine xe 6 (.tuple #[.slice (some ⟨b11, 0, none⟩) ps.length ps.length, .int .i64 2]) ?_
   have he : readE ps s = 2 := by unfold readE; rw [if_pos hsl, if_neg (by rw [hno]; decide)]
   exact ⟨_, rfl, hB'8, _, _, by rw [he], by rw [readV, if_neg (by rw [he]; decide)]; exact o11⟩
 have hyes : readOk ps s = true := by unfold readOk rawsL; rw [← hie]; exact hin
 refine xk 4 (show (((⟨(putL ps ((unpL s 0 (wids ps i)).map fun n : Nat => (n : Int)) ps.length).toArray⟩ : ByteArray).toList == (⟨#[]⟩ : ByteArray).toList) : Bool) = false from putL_ne hps h0) ?_
 have hB'9 := Bl.next hB'6 hb10
 have h5'3 := own_below h5'1 hb10
 refine xe 10 (.tuple #[.slice p5 i c5, .int .i64 0]) ?_
 have he : readE ps s = 0 := by unfold readE; rw [if_pos hsl, if_pos hyes]
 subst hie
 exact ⟨_, rfl, hB'9, _, _, by rw [he], by rw [readV, if_pos he]; exact h5'3⟩
theorem value_readG (ps : List Part) (s : List UInt8) (gl : Option Addr) (cl : Nat) (w : World) (hps : PartsOk ps) (h0 : 0 < ps.length) (hs : s.length ≤ 100000) (hP : Sts partC w (.slice gl ps.length cl) ps) :
    Calls Tryz.prog 58 #[.slice gl ps.length cl, .string ⟨s.toArray⟩] w (RetS (fun w' r => ∃ p c, r = .tuple #[.slice p ps.length c, .int .i64 (readE ps s)] ∧ w'.ownsRow w.heap.size 3 1 (.slice p ps.length c) ps.length ((readV ps s).map nv)) w) := by
  by_cases h : s.length = (wids ps ps.length).sum
  · exact value_readG_in ps s gl cl w hps h0 hs hP h
  · exact value_readG_len ps s gl cl w hps h0 hs hP h
end Go.Proofs.YthlakkdgcgkcdaaGreatDoor
namespace Go.Proofs.YthlakkdgcgkcdaaGreatDoor
open Go.RowKit Go.Extern.Stop Go.Stop Go.Extern
set_option linter.unusedVariables false
attribute [local irreducible] wpList wpAnyH Code.wp Oper.wp Go

def cntP : List Part := [(4, 3, 2147483647)]
theorem cntP_ok : PartsOk cntP := by
  refine ⟨by decide, fun i hi => ?_⟩
  have hi' : i < 1 := hi
  obtain rfl : i = 0 := by omega
  simp [cntP, List.getD]
/-- the places of the threes -/
def threes (F : List Int) : List Int := ((List.range F.length).filter fun k => F.getD k 0 == 3).map fun k : Nat => (k : Int)
theorem threes_snoc (F : List Int) (n : Int) : threes (F ++ [n]) = threes F ++ (if n = 3 then [(F.length : Int)] else []) := by
  unfold threes
  rw [List.length_append, List.length_singleton, List.range_succ, List.filter_append, List.map_append]
  congr 1
  · congr 1
    apply List.filter_congr
    intro k hk
    have hk' := List.mem_range.1 hk
    simp [List.getD, List.getElem?_append_left hk']
  · by_cases h : n = 3
    · simp [List.getD, h]
    · simp [List.getD, h]
theorem threes_mem {F : List Int} {k : Int} : k ∈ threes F ↔ 0 ≤ k ∧ F.getD k.toNat 0 = 3 := by
  unfold threes
  simp only [List.mem_map, List.mem_filter, List.mem_range, beq_iff_eq]
  constructor
  · rintro ⟨j, ⟨_, h⟩, rfl⟩; exact ⟨by omega, by simpa using h⟩
  · rintro ⟨h0, h⟩
    refine ⟨k.toNat, ⟨?_, h⟩, by omega⟩
    apply Nat.lt_of_not_le
    intro q
    rw [show F.getD k.toNat 0 = 0 from by simp [List.getD, q]] at h
    omega
theorem threes_nodup (F : List Int) : (threes F).Nodup := by
  unfold threes
  refine List.Pairwise.map _ (R := fun a b => a ≠ b) (fun a b h => by omega) ?_
  exact List.Pairwise.filter _ (List.nodup_range)
def jKey (E : List Ent) (i : Nat) : Int := (E.getD i entD).1
def jLast (E : List Ent) (i : Nat) : Int := if i = 0 then -1 else jKey E (i - 1)
def jVal (E : List Ent) (i : Nat) : Int := ((readV cntP (E.getD i entD).2.1).getD 0 0 : Nat)
/-- what is wrong with an entry -/
def jBad (F : List Int) (E : List Ent) (i : Nat) : Int :=
  if jKey E i ≤ jLast E i then 8 else if F.getD (jKey E i).toNat 0 ≠ 3 then 13 else readE cntP (E.getD i entD).2.1
def jOk (F : List Int) (E : List Ent) (i : Nat) : Prop := ∀ j, j < i → jBad F E j = 0
theorem jOk_next {F : List Int} {E : List Ent} {i : Nat} (h : jOk F E i) (h2 : jBad F E i = 0) : jOk F E (i + 1) := fun j hj => by
  by_cases e : j = i
  · subst e; exact h2
  · exact h j (by omega)
theorem jBad_ok {F : List Int} {E : List Ent} {i : Nat} (h : jBad F E i = 0) : jLast E i < jKey E i ∧ F.getD (jKey E i).toNat 0 = 3 ∧ readE cntP (E.getD i entD).2.1 = 0 := by
  unfold jBad at h
  by_cases h1 : jKey E i ≤ jLast E i
  · rw [if_pos h1] at h; omega
  · rw [if_neg h1] at h
    by_cases h2 : F.getD (jKey E i).toNat 0 = 3
    · rw [if_neg (fun q => q h2)] at h; exact ⟨by omega, h2, h⟩
    · rw [if_pos h2] at h; omega
theorem jOk_last {F : List Int} {E : List Ent} {i : Nat} (h : jOk F E i) : -1 ≤ jLast E i ∧ ∀ j, j < i → 0 ≤ jKey E j ∧ jKey E j ≤ jLast E i ∧ F.getD (jKey E j).toNat 0 = 3 := by
  induction i with
  | zero => exact ⟨by unfold jLast; rw [if_pos rfl]; exact Int.le_refl _, fun j hj => absurd hj (by omega)⟩
  | succ i ih =>
    obtain ⟨h1, h2⟩ := ih fun j hj => h j (by omega)
    have hb := jBad_ok (h i (by omega))
    have e : jLast E (i + 1) = jKey E i := by unfold jLast; rw [if_neg (by omega), Nat.add_sub_cancel]
    rw [e]
    refine ⟨by omega, fun j hj => ?_⟩
    by_cases q : j = i
    · subst q; exact ⟨by omega, Int.le_refl _, hb.2.1⟩
    · have := h2 j (by omega); exact ⟨this.1, by omega, this.2.2⟩
theorem jOk_inj {F : List Int} {E : List Ent} {i : Nat} (h : jOk F E i) : ∀ a b, a < b → b < i → jKey E a < jKey E b := fun a b hab hb => by
  have h1 := (jOk_last (i := b) fun j hj => h j (by omega)).2 a hab
  have h2 := jBad_ok (h b hb)
  omega
/-- the threes that no entry has told -/
def openL (F : List Int) (E : List Ent) (i : Nat) : List Int := (threes F).filter fun k => (List.range i).all fun j => jKey E j != k
theorem openL_zero (F : List Int) (E : List Ent) : openL F E 0 = threes F := by simp [openL]
theorem openL_nodup (F : List Int) (E : List Ent) (i : Nat) : (openL F E i).Nodup := List.Pairwise.filter _ (threes_nodup F)
theorem openL_mem {F : List Int} {E : List Ent} {i : Nat} {k : Int} : k ∈ openL F E i ↔ (0 ≤ k ∧ F.getD k.toNat 0 = 3) ∧ ∀ j, j < i → jKey E j ≠ k := by
  unfold openL
  rw [List.mem_filter, threes_mem]
  simp
/-- a key that is above the last one is open just if it is a three -/
theorem openL_at {F : List Int} {E : List Ent} {i : Nat} (h : jOk F E i) (hk : jLast E i < jKey E i) : jKey E i ∈ openL F E i ↔ F.getD (jKey E i).toNat 0 = 3 := by
  have hl := jOk_last h
  rw [openL_mem]
  constructor
  · exact fun q => q.1.2
  · exact fun q => ⟨⟨by omega, q⟩, fun j hj e => by have := hl.2 j hj; omega⟩
theorem openL_del (F : List Int) (E : List Ent) (i : Nat) : (openL F E i).erase (jKey E i) = openL F E (i + 1) := by
  rw [(openL_nodup F E i).erase_eq_filter]
  unfold openL
  rw [List.filter_filter]
  apply List.filter_congr
  intro k _
  have e : ([i].all fun j => jKey E j != k) = (k != jKey E i) := by
    show (jKey E i != k && true) = _
    rw [Bool.and_true, bne_comm]
  rw [List.range_succ, List.all_append, e]
  exact Bool.and_comm _ _
/-- which entry tells a place -/
def jFind (E : List Ent) (i k : Nat) : Option Nat := (List.range i).find? fun j => jKey E j == (k : Int)
theorem jFind_none {E : List Ent} {i k : Nat} (h : ∀ j, j < i → jKey E j ≠ (k : Int)) : jFind E i k = none := by
  unfold jFind
  rw [List.find?_eq_none]
  intro j hj
  have := h j (List.mem_range.1 hj)
  simpa using this
theorem jFind_some {E : List Ent} {i k j : Nat} (hj : j < i) (hk : jKey E j = (k : Int)) (hn : ∀ m, m < j → jKey E m ≠ (k : Int)) : jFind E i k = some j := by
  unfold jFind
  rw [List.find?_range_eq_some]
  exact ⟨by simpa using hk, List.mem_range.2 hj, fun m hm => by simpa using hn m hm⟩
def jOut (F : List Int) (E : List Ent) (i k : Nat) : Int := match jFind E i k with | some j => jVal E j | none => F.getD k 0
def outL (F : List Int) (E : List Ent) (i : Nat) : List Int := (List.range F.length).map (jOut F E i)
theorem outL_len (F : List Int) (E : List Ent) (i : Nat) : (outL F E i).length = F.length := by simp [outL]
theorem outL_get {F : List Int} {E : List Ent} {i k : Nat} (h : k < F.length) : (outL F E i).getD k 0 = jOut F E i k := by simp [outL, List.getD, List.getElem?_range h]
theorem outL_zero (F : List Int) (E : List Ent) : outL F E 0 = F := by
  apply List.ext_getElem (by rw [outL_len])
  intro k h1 h2
  simp [outL, jOut, jFind, List.getD, h2]
theorem jKey_lt {F : List Int} {E : List Ent} {i : Nat} (h : F.getD (jKey E i).toNat 0 = 3) : (jKey E i).toNat < F.length := by
  apply Nat.lt_of_not_le
  intro q
  rw [show F.getD (jKey E i).toNat 0 = 0 from by simp [List.getD, q]] at h
  omega
theorem jOut_next {F : List Int} {E : List Ent} {i k : Nat} (h : jOk F E (i + 1)) : jOut F E (i + 1) k = if jKey E i = (k : Int) then jVal E i else jOut F E i k := by
  have hin := jOk_inj h
  by_cases e : jKey E i = (k : Int)
  · rw [if_pos e]
    unfold jOut
    rw [jFind_some (by omega) e fun m hm => by have := hin m i hm (by omega); omega]
  · rw [if_neg e]
    unfold jOut jFind
    rw [List.range_succ, List.find?_append]
    have : List.find? (fun j => jKey E j == (k : Int)) [i] = none := by simp [e]
    rw [this]
    simp
theorem outL_set {F : List Int} {E : List Ent} {i : Nat} (h : jOk F E (i + 1)) : ((outL F E i).map (Value.int .i64)).set (jKey E i).toNat (.int .i64 (jVal E i)) = (outL F E (i + 1)).map (Value.int .i64) := by
  have hb := jBad_ok (h i (by omega))
  have hl := (jOk_last (i := i) fun j hj => h j (by omega)).1
  have hk := jKey_lt hb.2.1
  have r : ∀ (m k : Nat), k < F.length → ((outL F E m).map (Value.int .i64))[k]? = some (.int .i64 (jOut F E m k)) := fun m k hkl => by
    have g2 := outL_get (E := E) (i := m) hkl
    rw [show (outL F E m).getD k 0 = (outL F E m)[k]'(by rw [outL_len]; exact hkl) from by simp [List.getD, outL_len, hkl]] at g2
    rw [List.getElem?_map, List.getElem?_eq_getElem (by rw [outL_len]; exact hkl), Option.map_some, g2]
  apply List.ext_getElem?
  intro k
  by_cases hkl : k < F.length
  · rw [r _ _ hkl, jOut_next h]
    by_cases e : (jKey E i).toNat = k
    · subst e
      rw [List.getElem?_set_self (by simp [outL_len]; exact hk), if_pos (by omega)]
    · rw [List.getElem?_set_ne e, r _ _ hkl, if_neg (by omega)]
  · rw [List.getElem?_eq_none (by simp [outL_len]; omega), List.getElem?_eq_none (by simp [outL_len]; omega)]
/-- the number and the counts that Join tells -/
def joinO (F : List Int) (E : List Ent) : Int × List Int :=
  match (List.range E.length).find? (fun i => jBad F E i != 0) with
  | some i => (jBad F E i, [])
  | none => if openL F E E.length = [] then (0, outL F E E.length) else (13, [])
theorem joinO_bad {F : List Int} {E : List Ent} {i : Nat} (hi : i < E.length) (h : jOk F E i) (hb : jBad F E i ≠ 0) : joinO F E = (jBad F E i, []) := by
  unfold joinO
  rw [show (List.range E.length).find? (fun i => jBad F E i != 0) = some i from by
    rw [List.find?_range_eq_some]
    exact ⟨by simpa using hb, List.mem_range.2 hi, fun m hm => by simpa using h m hm⟩]
theorem joinO_all {F : List Int} {E : List Ent} (h : jOk F E E.length) : joinO F E = if openL F E E.length = [] then (0, outL F E E.length) else (13, []) := by
  unfold joinO
  rw [show (List.range E.length).find? (fun i => jBad F E i != 0) = none from by
    rw [List.find?_eq_none]
    intro i hi
    have := h i (List.mem_range.1 hi)
    simp [this]]
/-- rows of small counts, all full but the last -/
structure FormOk (L : List (List Int)) : Prop where
  len : ∀ i, i < L.length → 1 ≤ (L.getD i []).length ∧ (L.getD i []).length ≤ 960 ∧ (i + 1 < L.length → (L.getD i []).length = 960)
  small : ∀ i, i < L.length → Small (L.getD i [])
def flatL (L : List (List Int)) (i : Nat) : List Int := (L.take i).flatten
theorem flatL_next {L : List (List Int)} {i : Nat} (h : i < L.length) : flatL L (i + 1) = flatL L i ++ L.getD i [] := by
  unfold flatL
  rw [List.take_succ_eq_append_getElem h, List.flatten_append]
  simp [List.getD, h]
theorem flatL_len {L : List (List Int)} (h : FormOk L) : ∀ i, i ≤ L.length → (flatL L i).length ≤ i * 960
  | 0, _ => by simp [flatL]
  | i + 1, hi => by
    rw [flatL_next (by omega), List.length_append]
    have := flatL_len h i (by omega)
    have := (h.len i (by omega)).2.1
    omega
/-- the list with the first places told (as the document tells them) -/
def docL (F : List Int) (E : List Ent) (n k : Nat) : List Int := (outL F E n).take k ++ F.drop k
theorem docL_len {F : List Int} {E : List Ent} {n k : Nat} (h : k ≤ F.length) : (docL F E n k).length = F.length := by unfold docL; rw [List.length_append, List.length_take, List.length_drop, outL_len]; omega
theorem docL_zero (F : List Int) (E : List Ent) (n : Nat) : docL F E n 0 = F := by simp [docL]
theorem docL_all (F : List Int) (E : List Ent) (n : Nat) : docL F E n F.length = outL F E n := by unfold docL; rw [List.drop_length, List.append_nil, List.take_of_length_le (by rw [outL_len]; exact Nat.le_refl _)]
theorem docL_at {F : List Int} {E : List Ent} {n k : Nat} (h : k < F.length) : (docL F E n k).getD k 0 = F.getD k 0 := by
  unfold docL
  have hl : ((outL F E n).take k).length = k := by rw [List.length_take, outL_len]; omega
  simp only [List.getD]
  rw [List.getElem?_append_right (by omega), hl, Nat.sub_self, List.getElem?_drop, Nat.add_zero]
theorem docL_set {F : List Int} {E : List Ent} {n k : Nat} (h : k < F.length) : ((docL F E n k).map (Value.int .i64)).set k (.int .i64 (jOut F E n k)) = (docL F E n (k + 1)).map (Value.int .i64) := by
  unfold docL
  have hl : ((outL F E n).take k).length = k := by rw [List.length_take, outL_len]; omega
  have h9 : k < (outL F E n).length := by rw [outL_len]; exact h
  have g := outL_get (E := E) (i := n) h
  rw [show (outL F E n).getD k 0 = (outL F E n)[k] from by simp [List.getD, h9]] at g
  rw [List.take_succ_eq_append_getElem h9, List.drop_eq_getElem_cons h, g]
  simp only [List.map_append, List.map_cons, List.append_assoc]
  rw [List.set_append_right _ _ (by rw [List.length_map]; omega), List.length_map, hl, Nat.sub_self]
  rfl
theorem docL_keep {F : List Int} {E : List Ent} {n k : Nat} (h : k < F.length) (hk : jOut F E n k = F.getD k 0) : docL F E n k = docL F E n (k + 1) := by
  unfold docL
  have h9 : k < (outL F E n).length := by rw [outL_len]; exact h
  have g := outL_get (E := E) (i := n) h
  rw [show (outL F E n).getD k 0 = (outL F E n)[k] from by simp [List.getD, h9]] at g
  rw [List.take_succ_eq_append_getElem h9, List.drop_eq_getElem_cons h, g, hk]
  simp [List.getD, h]
theorem jOut_not {F : List Int} {E : List Ent} {n k : Nat} (h : jOk F E n) (hk : F.getD k 0 ≠ 3) : jOut F E n k = F.getD k 0 := by
  unfold jOut
  rw [jFind_none]
  intro j hj e
  have := (jOk_last h).2 j hj
  rw [e] at this
  exact hk (by simpa using this.2.2)
theorem open_ne {F : List Int} {E : List Ent} {n k : Nat} (hk : F.getD k 0 = 3) (hn : ∀ j, j < n → jKey E j ≠ (k : Int)) : openL F E n ≠ [] := fun e => by
  have : (k : Int) ∈ openL F E n := openL_mem.2 ⟨⟨by omega, by simpa using hk⟩, hn⟩
  rw [e] at this; cases this
theorem open_nil {F : List Int} {E : List Ent} {n : Nat} (h : ∀ k, k < F.length → F.getD k 0 = 3 → ∃ j, j < n ∧ jKey E j = (k : Int)) : openL F E n = [] := by
  rw [List.eq_nil_iff_forall_not_mem]
  intro k hk
  obtain ⟨⟨h0, h3⟩, hn⟩ := openL_mem.1 hk
  have hl : k.toNat < F.length := by
    apply Nat.lt_of_not_le
    intro q
    rw [show F.getD k.toNat 0 = 0 from by simp [List.getD, q]] at h3
    omega
  obtain ⟨j, hj, e⟩ := h k.toNat hl h3
  exact hn j hj (by omega)
end Go.Proofs.YthlakkdgcgkcdaaGreatDoor
namespace Go.Proofs.YthlakkdgcgkcdaaGreatDoor
open Go.RowKit Go.Extern.Stop Go.Stop Go.Extern
open Go.ChangeMaps (setBlock heap_setBlock_same heap_setBlock_other)
set_option linter.unusedVariables false
attribute [local irreducible] wpList wpAnyH Code.wp Oper.wp Go

def mapE (ks : List Int) : List (Value × Value) := ks.map fun k => (Value.int .i64 k, Value.bool true)
/-- block r is the map of these keys, each true -/
def MapI (W : World) (r : Nat) (ks : List Int) : Prop := ∃ es clock, W.heap[r]? = some (.map es clock) ∧ es.toList.map (fun e => (e.key, e.val)) = mapE ks
theorem MapI.lt {W : World} {r : Nat} {ks : List Int} (h : MapI W r ks) : r < W.heap.size := by
  obtain ⟨es, clock, h1, _⟩ := h
  exact (Array.getElem?_eq_some_iff.1 h1).1
theorem MapI.kept {w W : World} {r : Nat} {ks : List Int} (h : MapI w r ks) (hb : W.heap[r]? = w.heap[r]?) : MapI W r ks := by
  obtain ⟨es, clock, h1, h2⟩ := h
  exact ⟨es, clock, hb.trans h1, h2⟩
theorem MapI.below {w W : World} {r : Nat} {ks : List Int} (h : MapI w r ks) (hb : Below w.heap.size w W) : MapI W r ks := h.kept (hb.block r h.lt)
theorem MapI.ne_blk {w : World} {r b : Nat} {ks : List Int} {cs : List Value} {t : TypeId} (h : MapI w r ks) (k : Blk w b cs t) : r ≠ b := fun e => by
  subst e
  obtain ⟨es, clock, h1, _⟩ := h
  have : w.heap[r]? = some (.cells cs.toArray t (0, 0)) := k
  rw [h1] at this; cases this
theorem MapI.ne_own {w : World} {r base size n : Nat} {ks : List Int} {e : TypeId} {v : Value} {xs : List Value} (h : MapI w r ks) (k : w.ownsRow base e size v n xs) : some r ≠ v.ownBlock := fun q => by
  rcases k.2 with ⟨h2, _⟩ | ⟨g, cap, cur, hv, hg, hh, _⟩
  · subst h2; simp [Value.ownBlock] at q
  · subst hv
    simp only [Value.ownBlock, Option.some.injEq] at q
    subst q
    obtain ⟨es, clock, h1, _⟩ := h
    rw [h1] at hh; cases hh
theorem MapI.grown {w W : World} {r base size n : Nat} {ks : List Int} {e : TypeId} {v : Value} {xs : List Value} (h : MapI w r ks) (hg : w.grownBy W v.ownBlock) (k : w.ownsRow base e size v n xs) : MapI W r ks := h.kept (hg.block r h.lt (h.ne_own k))
theorem MapI.updRow {w W : World} {r b base size n c : Nat} {ks : List Int} {e : TypeId} {xs : List Value} (h : MapI w r ks) (u : Upd w b W) (k : w.ownsRow base e size (.slice (some ⟨b, 0, none⟩) n c) n xs) : MapI W r ks := h.kept (u.block r fun q => h.ne_own k (by simp [Value.ownBlock, q]))
theorem MapI.updBlk {w W : World} {r b : Nat} {ks : List Int} {cs : List Value} {t : TypeId} (h : MapI w r ks) (u : Upd w b W) (k : Blk w b cs t) : MapI W r ks := h.kept (u.block r (h.ne_blk k))
theorem own_map {w W : World} {r base size n : Nat} {ks : List Int} {e : TypeId} {v : Value} {xs : List Value} (k : w.ownsRow base e size v n xs) (h : MapI w r ks) (u : Upd w r W) : W.ownsRow base e size v n xs := u.own3 k fun j hj q => h.ne_own k (by rw [hj, q])
theorem blk_map {w W : World} {r b : Nat} {ks : List Int} {cs : List Value} {t : TypeId} (k : Blk w b cs t) (h : MapI w r ks) (u : Upd w r W) : Blk W b cs t := u.blk k (fun q => h.ne_blk k q.symm)
structure NewM (w : World) (r : Nat) (W : World) : Prop where
  at_ : r = w.heap.size
  below : Below w.heap.size w W
  map : MapI W r []
theorem NewM.ge {w W A : World} {r : Nat} (h : NewM w r W) (k : Below A.heap.size A w) : A.heap.size ≤ r := by have := k.size; have := h.at_; omega
theorem NewM.mk' (w : World) : NewM w w.heap.size (w.alloc (.map #[] 0)) := ⟨rfl, Bl.box _ _, #[], 0, World.alloc_heap_new w _, rfl⟩
/-- where a key stands -/
theorem findNow_int (k : Int) : ∀ (es : List MapEntry) (ks : List Int) (i : Nat), es.map (fun e => (e.key, e.val)) = mapE ks → Instr.findNow (.int .i64) (.int .i64 k) es i = some (if k ∈ ks then some (i + ks.idxOf k, .bool true) else none)
  | [], ks, i, h => by
    have : ks = [] := by simpa [mapE] using h.symm
    subst this; rfl
  | e :: es, [], i, h => by simp [mapE] at h
  | e :: es, k0 :: ks, i, h => by
    simp only [mapE, List.map_cons, List.cons.injEq, Prod.mk.injEq] at h
    obtain ⟨⟨h1, h2⟩, h3⟩ := h
    have ih := findNow_int k es ks (i + 1) h3
    by_cases q : k = k0
    · subst q
      simp [Instr.findNow, h1, h2, Instr.sameNow]
    · have hq : (k == k0) = false := by simpa using q
      simp only [Instr.findNow, h1, Instr.sameNow, if_true, hq, ih]
      by_cases m : k ∈ ks
      · rw [if_pos m, if_pos (List.mem_cons_of_mem _ m), List.idxOf_cons, show (k0 == k) = false from by simpa using fun z => q z.symm]
        simp; omega
      · rw [if_neg m, if_neg (by simp [q, m])]
theorem run_findKey {P : Program} {kt : TypeId} (hk : P.underlying kt = some (.int .i64)) (k : Int) {es : List MapEntry} {ks : List Int} (h : es.map (fun e => (e.key, e.val)) = mapE ks) (w : World) :
    (Instr.findKey kt (.int .i64 k) es).run P w = .ok (if k ∈ ks then some (ks.idxOf k, .bool true) else none) w := by
  simp only [Instr.findKey, Sem.run_bind, run_underlying hk, Result.andThen_ok, findNow_int k es ks 0 h, Nat.zero_add]
  rfl
theorem run_keyN {P : Program} {kt : TypeId} (hk : P.underlying kt = some (.int .i64)) (k : Int) (b : Bool) (n : Nat) (w : World) : (Instr.checkKey b (n + 1) kt (.int .i64 k)).run P w = .ok () w := by
  simp only [Instr.checkKey, Sem.run_bind, run_underlying hk, Result.andThen_ok]
  rfl
theorem run_keyOk {P : Program} {kt : TypeId} (hk : P.underlying kt = some (.int .i64)) (k : Int) (b : Bool) (w : World) : (Instr.checkKey b 10000 kt (.int .i64 k)).run P w = .ok () w := run_keyN hk k b 9999 w
variable {P : Program} {w : World}
theorem run_mapLook {t kt et : TypeId} {r : Nat} {ks : List Int} (ht : P.underlying t = some (.map kt et)) (hk : P.underlying kt = some (.int .i64)) (hz : (zeroValue et).run P w = .ok (.bool false) w) (h : MapI w r ks) (k : Int) :
    (Instr.lookup t (.map (some r)) (.int .i64 k) false).run P w = .ok (.bool (decide (k ∈ ks))) w := by
  obtain ⟨es, clock, h1, h2⟩ := h
  have hf := run_findKey (P := P) hk k h2 w
  by_cases m : k ∈ ks
  · rw [if_pos m] at hf
    simp [Instr.lookup, run_underlying ht, MapKept.run_getObj_map h1, run_keyOk hk, hf, Result.andThen, m]
  · rw [if_neg m] at hf
    simp [Instr.lookup, run_underlying ht, MapKept.run_getObj_map h1, run_keyOk hk, hf, hz, Result.andThen, m]
theorem upd_setBlock {r : Nat} {es : Array MapEntry} {c : Nat} (hb : w.heap[r]? = some (.map es c)) (o : Obj) : Upd w r (setBlock w r o) := ⟨rfl, rfl, rfl, by simp [setBlock], fun k hk => heap_setBlock_other hb _ hk⟩
theorem run_mapPut {t kt et : TypeId} {r : Nat} {ks : List Int} (ht : P.underlying t = some (.map kt et)) (hk : P.underlying kt = some (.int .i64)) (h : MapI w r ks) {k : Int} (hn : k ∉ ks) :
    ∃ W, (Instr.mapUpdate t (.map (some r)) (.int .i64 k) (.bool true)).run P w = .ok () W ∧ Upd w r W ∧ MapI W r (ks ++ [k]) := by
  obtain ⟨es, clock, h1, h2⟩ := h
  have hf := run_findKey (P := P) hk k h2 w
  rw [if_neg hn] at hf
  refine ⟨setBlock w r (.map (es.push ⟨.int .i64 k, .bool true, clock⟩) (clock + 1)), ?_, upd_setBlock h1 _, _, _, heap_setBlock_same h1 _, ?_⟩
  · simp [Instr.mapUpdate, run_underlying ht, MapKept.run_getObj_map h1, run_keyOk hk, hf, MapKept.run_setObj_map _ h1, Result.andThen, setBlock]
  · rw [Array.toList_push, List.map_append, h2]; simp [mapE]
theorem map_eraseIdxL {α β : Type} (f : α → β) : ∀ (l : List α) (i : Nat), (l.eraseIdx i).map f = (l.map f).eraseIdx i
  | [], i => by simp
  | a :: l, 0 => by simp
  | a :: l, i + 1 => by simp [map_eraseIdxL f l i]
theorem eraseIdx_erase (k : Int) (ks : List Int) (h : k ∈ ks) : ks.eraseIdx (ks.idxOf k) = ks.erase k := (List.erase_eq_eraseIdx_of_idxOf (w := rfl)).symm
theorem run_mapDel {t kt et ty : TypeId} {r : Nat} {ks : List Int} (ht : P.underlying t = some (.map kt et)) (hk : P.underlying kt = some (.int .i64)) (h : MapI w r ks) {k : Int} (hm : k ∈ ks) :
    ∃ W, (Builtin.delete_ #[t, kt] ty #[.map (some r), .int .i64 k]).run P w = .ok (.tuple #[]) W ∧ Upd w r W ∧ MapI W r (ks.erase k) := by
  obtain ⟨es, clock, h1, h2⟩ := h
  have hf := run_findKey (P := P) hk k h2 w
  rw [if_pos hm] at hf
  have hl : es.toList.length = ks.length := by have := congrArg List.length h2; simpa [mapE] using this
  have hlt : ks.idxOf k < es.size := by have := List.idxOf_lt_length_iff.2 hm; simp at hl; omega
  refine ⟨setBlock w r (.map (es.eraseIdxIfInBounds (ks.idxOf k)) clock), ?_, upd_setBlock h1 _, _, _, heap_setBlock_same h1 _, ?_⟩
  · simp [Builtin.delete_, run_underlying ht, MapKept.run_getObj_map h1, run_keyOk hk, hf, MapKept.run_setObj_map _ h1, Result.andThen, setBlock]
  · rw [← eraseIdx_erase k ks hm]
    have e : (es.eraseIdxIfInBounds (ks.idxOf k)).toList = es.toList.eraseIdx (ks.idxOf k) := by
      unfold Array.eraseIdxIfInBounds
      rw [dif_pos hlt]
      simp
    rw [e, map_eraseIdxL, h2]
    unfold mapE
    rw [map_eraseIdxL]
theorem run_mapLen {t kt et ty : TypeId} {r : Nat} {ks : List Int} (ht : P.underlying t = some (.map kt et)) (h : MapI w r ks) : (Builtin.len_ #[t] ty #[.map (some r)]).run P w = .ok (.int .i64 (ks.length : Int)) w := by
  obtain ⟨es, clock, h1, h2⟩ := h
  have hl : es.size = ks.length := by have := congrArg List.length h2; simpa [mapE] using this
  simp [Builtin.len_, run_underlying ht, MapKept.run_getObj_map h1, Result.andThen, goInt, hl]
/-! ### in a walk -/
inductive Zm
  | mm (t : TypeId)
  | lk (t : TypeId) (m k : Value)
  | mu (t : TypeId) (m k v : Value)
  | b1 (b : Builtin) (t : TypeId) (u : Value)
  | b2 (b : Builtin) (t t2 : TypeId) (u v : Value)
noncomputable def zmf (n : Nat) (kv : List (Nat × Value)) (o : Oper) : Option Zm := match o.op with
  | .makeMap t none => some (.mm t)
  | .lookup t x y false => some (.lk t (zev n kv x) (zev n kv y))
  | .mapUpdate t x y z => some (.mu t (zev n kv x) (zev n kv y) (zev n kv z))
  | .call c => match c.callee with
    | .builtin b => match c.args.toList, c.argTypes.toList with
      | [x], [t] => some (.b1 b t (zev n kv x))
      | [x, y], [t, t2] => some (.b2 b t t2 (zev n kv x) (zev n kv y))
      | _, _ => none
    | _ => none
  | _ => none
noncomputable def zm (s : Zs) : Option Zm := match zop s with
  | some o => zmf s.n s.kv o
  | none => none
def ZmOk (a : Act) (o : Oper) : Zm → Prop
  | .mm t => o.op = .makeMap t none
  | .lk t m k => ∃ x y, o.op = .lookup t x y false ∧ a.eval x = m ∧ a.eval y = k
  | .mu t m k v => ∃ x y z, o.op = .mapUpdate t x y z ∧ a.eval x = m ∧ a.eval y = k ∧ a.eval z = v
  | .b1 b t u => ∃ x, o.op = .call { callee := .builtin b, args := #[x], argTypes := #[t] } ∧ a.eval x = u
  | .b2 b t t2 u v => ∃ x y, o.op = .call { callee := .builtin b, args := #[x, y], argTypes := #[t, t2] } ∧ a.eval x = u ∧ a.eval y = v
theorem zmf_ok {n : Nat} {kv : List (Nat × Value)} {o : Oper} {k : Zm} (h : zmf n kv o = some k) : ZmOk (zact n kv) o k := by
  unfold zmf at h
  split at h
  · rename_i hop; cases h; exact hop
  · rename_i hop; cases h; exact ⟨_, _, hop, by rw [zact_eval], by rw [zact_eval]⟩
  · rename_i hop; cases h; exact ⟨_, _, _, hop, by rw [zact_eval], by rw [zact_eval], by rw [zact_eval]⟩
  · rename_i c hop
    split at h
    · rename_i b hb
      obtain ⟨cal, args, ts⟩ := c
      dsimp only at hb h
      subst hb
      split at h
      · rename_i x t h1 h2
        cases h
        have e1 : args = #[x] := by rw [← Array.toArray_toList (xs := args), h1]
        have e2 : ts = #[t] := by rw [← Array.toArray_toList (xs := ts), h2]
        subst e1 e2
        exact ⟨x, hop, by rw [zact_eval]⟩
      · rename_i x y t t2 h1 h2
        cases h
        have e1 : args = #[x, y] := by rw [← Array.toArray_toList (xs := args), h1]
        have e2 : ts = #[t, t2] := by rw [← Array.toArray_toList (xs := ts), h2]
        subst e1 e2
        exact ⟨x, y, hop, by rw [zact_eval], by rw [zact_eval]⟩
      · cases h
    · cases h
  · cases h
section
variable {P : Program} {fn : Func} {R : Ending → World → Prop} {w : World} {s : Zs}
theorem xmm (q : Zq) (t : TypeId) (k : ∀ r W, NewM w r W → Go P fn R (znx (zq P q s) (.map (some r))) W) (h : zm (zq P q s) = some (.mm t) := by kernel_rfl) (hz : zisops (zq P q s) = true := by kernel_rfl) : Go P fn R s w := by
  obtain ⟨o, ho, h⟩ := zop_of h
  have hop : o.op = .makeMap t none := zmf_ok h
  exact zq_sound q s (zgo ho (zisops_eff hz) fun K hK => op_val (v := .map (some w.heap.size)) (w' := w.alloc (.map #[] 0)) (by simp [execOp, hop, Instr.makeMap, newObj, Sem.run, Result.andThen]) (hK _ _ (zisops_rel hz) (k _ _ (NewM.mk' w))))
theorem xlk (q : Zq) {t kt et : TypeId} {r : Nat} {ks : List Int} {k : Int} (ht : P.underlying t = some (.map kt et)) (hk : P.underlying kt = some (.int .i64)) (hz0 : ∀ V, (zeroValue et).run P V = .ok (.bool false) V) (hM : MapI w r ks) (g : Go P fn R (znx (zq P q s) (.bool (decide (k ∈ ks)))) w)
    (h : zm (zq P q s) = some (.lk t (.map (some r)) (.int .i64 k)) := by kernel_rfl) (hz : zplain (zq P q s) = true := by kernel_rfl) : Go P fn R s w := by
  obtain ⟨o, ho, h⟩ := zop_of h
  obtain ⟨x, y, h1, h2, h3⟩ := zmf_ok h
  exact zq_sound q s (zgov ho (fun V hV => by
    have hr := run_mapLook (P := P) ht hk (hz0 V) (hM.below (zplain_rel hz hV)) k
    simp [execOp, h1, h2, h3, hr, Result.andThen]) g)
theorem xml (q : Zq) {t kt et : TypeId} {r : Nat} {ks : List Int} (ht : P.underlying t = some (.map kt et)) (hM : MapI w r ks) (g : Go P fn R (znx (zq P q s) (.int .i64 (ks.length : Int))) w)
    (h : zm (zq P q s) = some (.b1 .len t (.map (some r))) := by kernel_rfl) (hz : zplain (zq P q s) = true := by kernel_rfl) : Go P fn R s w := by
  obtain ⟨o, ho, h⟩ := zop_of h
  obtain ⟨x, h1, h2⟩ := zmf_ok h
  exact zq_sound q s (zgov ho (fun V hV => by
    have hr := run_mapLen (P := P) (ty := o.type) ht (hM.below (zplain_rel hz hV))
    simp [execOp, h1, resolve, invoke, builtin, h2, hr, Result.andThen]) g)
theorem op_skip {a : Act} {o : Oper} {K : Act → World → Prop} {Q : Exit → Act → World → Prop} {w' : World} (hv : (execOp a.eval o).run P w = .ok .skip w') (k : K (a.put o.dst undef) w') : o.wp P a w K Q := by
  simp only [Oper.wp, hv, Oper.upon]; exact k
theorem xmu (q : Zq) {t kt et : TypeId} {r : Nat} {ks : List Int} {k : Int} (ht : P.underlying t = some (.map kt et)) (hk : P.underlying kt = some (.int .i64)) (hM : MapI w r ks) (hn : k ∉ ks) (g : ∀ W, Upd w r W → MapI W r (ks ++ [k]) → Go P fn R (znx (zq P q s) undef) W)
    (h : zm (zq P q s) = some (.mu t (.map (some r)) (.int .i64 k) (.bool true)) := by kernel_rfl) (hz : zisops (zq P q s) = true := by kernel_rfl) : Go P fn R s w := by
  obtain ⟨o, ho, h⟩ := zop_of h
  obtain ⟨x, y, z, h1, h2, h3, h4⟩ := zmf_ok h
  obtain ⟨W, hr, hu, hm⟩ := run_mapPut (P := P) ht hk hM hn
  exact zq_sound q s (zgo ho (zisops_eff hz) fun K hK => op_skip (w' := W) (by simp [execOp, h1, h2, h3, h4, hr, Result.andThen]) (hK _ _ (zisops_rel hz) (g W hu hm)))
theorem xmd (q : Zq) {t kt et : TypeId} {r : Nat} {ks : List Int} {k : Int} (ht : P.underlying t = some (.map kt et)) (hk : P.underlying kt = some (.int .i64)) (hM : MapI w r ks) (hn : k ∈ ks) (g : ∀ W, Upd w r W → MapI W r (ks.erase k) → Go P fn R (znx (zq P q s) (.tuple #[])) W)
    (h : zm (zq P q s) = some (.b2 .delete t kt (.map (some r)) (.int .i64 k)) := by kernel_rfl) (hz : zisops (zq P q s) = true := by kernel_rfl) : Go P fn R s w := by
  obtain ⟨o, ho, h⟩ := zop_of h
  obtain ⟨x, y, h1, h2, h3⟩ := zmf_ok h
  obtain ⟨W, hr, hu, hm⟩ := run_mapDel (P := P) (ty := o.type) ht hk hM hn
  exact zq_sound q s (zgo ho (zisops_eff hz) fun K hK => op_val (v := .tuple #[]) (w' := W) (by simp [execOp, h1, resolve, invoke, builtin, h2, h3, hr, Result.andThen]) (hK _ _ (zisops_rel hz) (g W hu hm)))
end
end Go.Proofs.YthlakkdgcgkcdaaGreatDoor
namespace Go.Proofs.YthlakkdgcgkcdaaGreatDoor
open Go.RowKit
set_option linter.unusedVariables false

def hasB (lo hi k : Int) : Bool := decide (lo ≤ k ∧ k < hi)
def rightB (lo hi : Int) : Bool := decide (0 ≤ lo ∧ lo ≤ hi ∧ hi ≤ 281474976710656)
def SortP (l : List Int) : Prop := ∀ k, k < l.length → 1 ≤ k → l[k-1]?.getD 0 < l[k]?.getD 0
instance (l : List Int) : Decidable (SortP l) := by unfold SortP; infer_instance
def fitsI (lo hi : Int) (l : List Int) : Int :=
  if rightB lo hi then if SortP l then if ∀ k ∈ l, lo ≤ k ∧ k < hi then 0 else 9 else 8 else 1
@[go_sem] def spanV (lo hi : Int) : Value := .agg #[.int .i64 lo, .int .i64 hi]

theorem SortP.lt {l : List Int} (h : SortP l) : ∀ (j i : Nat), i < j → j < l.length → l[i]?.getD 0 < l[j]?.getD 0 := by
  intro j
  induction j with
  | zero => intro i h1; omega
  | succ j ih =>
    intro i h1 h2
    have h3 := h (j + 1) h2 (by omega)
    simp only [Nat.add_sub_cancel] at h3
    by_cases hij : i = j
    · subst hij; exact h3
    · exact Int.lt_trans (ih i (by omega) (by omega)) h3
theorem SortP.one (l : List Int) : SortP (l.take 1) := by
  intro k h1 h2; simp at h1; omega
theorem SortP.succ {l : List Int} {k : Nat} {x y : Int} (h : SortP (l.take k)) (hx : l[k-1]? = some x) (hy : l[k]? = some y) (hxy : x < y) : SortP (l.take (k + 1)) := by
  intro j h1 h2
  have hjk : j < k + 1 := by simp at h1; omega
  rw [List.getElem?_take, List.getElem?_take, if_pos (by omega), if_pos hjk]
  by_cases hj : j = k
  · subst hj; rw [hx, hy]; exact hxy
  · have := h j (by simp at h1 ⊢; omega) h2
    rw [List.getElem?_take, List.getElem?_take, if_pos (by omega), if_pos (by omega)] at this
    exact this
theorem fits_right {lo hi : Int} {l : List Int} (h : rightB lo hi = false) : fitsI lo hi l = 1 := by simp [fitsI, h]
theorem fits_order {lo hi : Int} {l : List Int} {k : Nat} {x y : Int} (h : rightB lo hi = true) (hk : 1 ≤ k) (hx : l[k-1]? = some x) (hy : l[k]? = some y) (hxy : y ≤ x) : fitsI lo hi l = 8 := by
  have hn : ¬ SortP l := fun hs => by
    have hlt : k < l.length := by rcases List.getElem?_eq_some_iff.1 hy with ⟨h, _⟩; exact h
    have := hs k hlt hk
    rw [hx, hy] at this
    simp at this; omega
  simp [fitsI, h, hn]
theorem fits_nil {lo hi : Int} (h : rightB lo hi = true) : fitsI lo hi [] = 0 := by
  have hs : SortP [] := fun k h1 => by simp at h1
  simp [fitsI, h, hs]
theorem SortP.all {l : List Int} {k : Nat} (h : SortP (l.take k)) (hk : l.length ≤ k) : SortP l := by rwa [List.take_of_length_le hk] at h
theorem hasB_iff {lo hi k : Int} : hasB lo hi k = true ↔ lo ≤ k ∧ k < hi := by simp [hasB]
theorem fits_in {lo hi : Int} {l : List Int} {x y : Int} (h : rightB lo hi = true) (hs : SortP l) (hx : l[0]? = some x) (hy : l[l.length - 1]? = some y) (ha : hasB lo hi x = true) (hb : hasB lo hi y = true) : fitsI lo hi l = 0 := by
  have hall : ∀ k ∈ l, lo ≤ k ∧ k < hi := by
    intro k hk
    obtain ⟨i, hi', rfl⟩ := List.mem_iff_getElem.1 hk
    rw [hasB_iff] at ha hb
    have e : l[i]? = some l[i] := by simp
    have h1 : x ≤ l[i] := by
      by_cases h0 : i = 0
      · subst h0; rw [hx] at e; injection e with e; omega
      · have := hs.lt i 0 (by omega) hi'
        rw [hx, e] at this; simp at this; omega
    have h2 : l[i] ≤ y := by
      by_cases h0 : i = l.length - 1
      · subst h0; rw [hy] at e; injection e with e; omega
      · have := hs.lt (l.length - 1) i (by omega) (by omega)
        rw [hy, e] at this; simp at this; omega
    omega
  simp only [fitsI, h, if_true, hs]
  rw [if_pos hall]
theorem fits_out {lo hi : Int} {l : List Int} {i : Nat} {x : Int} (h : rightB lo hi = true) (hs : SortP l) (hx : l[i]? = some x) (ha : hasB lo hi x = false) : fitsI lo hi l = 9 := by
  have hn : ¬ ∀ k ∈ l, lo ≤ k ∧ k < hi := fun hall => by
    have := hasB_iff.2 (hall x (List.mem_of_getElem? hx))
    rw [ha] at this; cases this
  simp only [fitsI, h, if_true, hs]
  rw [if_neg hn]

set_option maxHeartbeats 400000 in
theorem span_all (w : World) : Calls Tryz.prog 92 #[] w (Ret (spanV 0 281474976710656) w) := by
  go_enter Tryz.func92, Tryz.ntmps92
  go_wp2
  exact bodyPost_ret (v := spanV 0 281474976710656) (by simp [results, Tryz.results92, go_sem, spanV]) rfl ⟨rfl, Bl.box _ _⟩
set_option maxHeartbeats 400000 in
theorem span_has (lo hi k : Int) (w : World) : Calls Tryz.prog 209 #[spanV lo hi, .int .i64 k] w (Ret (.bool (hasB lo hi k)) w) := by
  unfold spanV
  go_enter Tryz.func209, Tryz.ntmps209
  go_wp2
  all_goals go_ret
  all_goals refine ⟨?_, Bl.box _ _⟩
  all_goals (unfold hasB; congr 2; simp; omega)
set_option maxHeartbeats 400000 in
theorem span_right (lo hi : Int) (w : World) : Calls Tryz.prog 208 #[spanV lo hi] w (Ret (.bool (rightB lo hi)) w) := by
  unfold spanV
  go_enter Tryz.func208, Tryz.ntmps208
  go_wp2_with fail
  refine (span_all _).mono ?_
  rintro e w' ⟨rfl, hb⟩
  have hz : w.heap.size < w'.heap.size := ltB hb (by simp)
  have h0 := getC hb (p := ⟨w.heap.size, 0, none⟩) (v := .int .i64 lo) (by simp [go_sem])
  have h1 := getC hb (p := ⟨w.heap.size, 1, none⟩) (v := .int .i64 hi) (by simp [go_sem])
  unfold spanV
  go_wp2_with fail
  all_goals go_ret
  all_goals refine ⟨?_, Bl.next (Bl.next (Bl.box w _) hb) (Bl.box _ _)⟩
  all_goals (unfold rightB; congr 2; simp [*]; try omega)

set_option maxHeartbeats 1000000 in
theorem span_fits (lo hi : Int) (v : Value) (l : List Int) (w : World) (hl : Ints w v l) :
    Calls Tryz.prog 189 #[spanV lo hi, v] w (Ret (.int .i64 (fitsI lo hi l)) w) := by
  by_cases hr : rightB lo hi = true
  case neg =>
    have hr' : rightB lo hi = false := by simpa using hr
    unfold spanV
    rcases hl with ⟨a0, c0, rfl, hl0, hl⟩ | ⟨b, off, cap, rfl, hcap, hmax, hc⟩
    all_goals
      go_enter Tryz.func189, Tryz.ntmps189
      go_wp2_with fail
      refine (span_right _ _ _).mono ?_
      rintro e w' ⟨rfl, hb⟩
      go_wp2_with fail
      go_ret
      exact ⟨by rw [fits_right hr']; rfl, Bl.next (Bl.box w _) hb⟩
  rcases hl with ⟨a0, c0, rfl, hl0, hl⟩ | ⟨b, off, cap, rfl, hcap, hmax, hc⟩
  · obtain rfl : l = [] := by simpa using hl
    unfold spanV
    go_enter Tryz.func189, Tryz.ntmps189
    go_wp2_with fail
    refine (span_right _ _ _).mono ?_
    rintro e w' ⟨rfl, hb⟩
    go_wp2_with fail
    go_loop [5] (fun i => i = .int .i64 1) (fun _ => 0)
    case atStart => exact rfl
    case round =>
      obtain rfl := hrel
      go_wp2_with fail
      refine wp_region_ext (by kernel_rfl) (by kernel_rfl) ?_
      repeat (go_big_quiet_step (fail))
      refine wpQuiet_nil ?_
      intro wx
      go_wp2_with fail
      go_ret
      exact ⟨by rw [fits_nil hr]; rfl, Bl.next (Bl.next (Bl.box w _) hb) wx.below⟩
  · unfold maxLen at hmax
    unfold spanV
    go_enter Tryz.func189, Tryz.ntmps189
    go_wp2_with fail
    refine (span_right _ _ _).mono ?_
    rintro e w' ⟨rfl, hb⟩
    have hz : w.heap.size < w'.heap.size := ltB hb (by simp)
    have h0 := getC hb (p := ⟨w.heap.size, 0, none⟩) (v := .int .i64 lo) (by simp [go_sem])
    have h1 := getC hb (p := ⟨w.heap.size, 1, none⟩) (v := .int .i64 hi) (by simp [go_sem])
    have hB := Bl.next (Bl.box w _) hb
    have HC := Lib.hid (fun j x (hj : l[j]? = some x) => getC hb (getA _ (hc j (.int .i64 x) (by simp [hj]))))
    clear hc hb
    go_wp2_with fail
    go_loopw [5] (fun i wr => ∃ k : Nat, 1 ≤ k ∧ i = .int .i64 k ∧ SortP (l.take k) ∧ Below w'.heap.size w' wr) (fun i _ => l.length - (intOf i).toNat)
    case atStart => exact ⟨1, by omega, rfl, SortP.one l, Below.refl _ _⟩
    case round =>
      obtain ⟨k, hk1, rfl, hs, hbr⟩ := hrel
      have HS := Lib.hid hs; clear hs
      by_cases hlt : k < l.length
      · obtain ⟨x, hx⟩ : ∃ x, l[k-1]? = some x := ⟨l[k-1], by simp⟩
        obtain ⟨y, hy⟩ : ∃ y, l[k]? = some y := ⟨l[k], by simp⟩
        have hcx := getC hbr (HC.out _ _ hx)
        have hcy := getC hbr (HC.out _ _ hy)
        have HX := Lib.hid hx; clear hx
        have HY := Lib.hid hy; clear hy
        go_wp2_with fail
        go_quiet (fail)
        go_wp2_with fail
        · go_ret
          exact ⟨by rw [fits_order hr hk1 HX.out HY.out (by assumption)]; rfl, Bl.next hB (Bl.drewN hbr _)⟩
        · go_roundw
          case rel => exact ⟨k + 1, by omega, by go_num, HS.out.succ HX.out HY.out (by assumption), Bl.drewN hbr _⟩
          case measure => simp [intOf]; omega
      · have hkk : l.length ≤ k := by omega
        by_cases h0l : l.length = 0
        · obtain rfl : l = [] := List.length_eq_zero_iff.mp h0l
          clear h0l
          go_wp2_with fail
          go_quiet (fail)
          go_wp2_with fail
          go_ret
          exact ⟨by rw [fits_nil hr]; rfl, Bl.next hB (Bl.drewN hbr _)⟩
        · obtain ⟨x, hx⟩ : ∃ x, l[0]? = some x := ⟨l[0], by simp⟩
          obtain ⟨y, hy⟩ : ∃ y, l[l.length-1]? = some y := ⟨l[l.length-1], by simp⟩
          have hpos : 0 < l.length := by omega
          have e0 : ∀ z : Ext wr, z.val.cell? ⟨w.heap.size, 0, none⟩ = some (.int .i64 lo) := fun z => z.get (getC hbr h0)
          have e1 : ∀ z : Ext wr, z.val.cell? ⟨w.heap.size, 1, none⟩ = some (.int .i64 hi) := fun z => z.get (getC hbr h1)
          have e2 : ∀ z : Ext wr, z.val.cell? ⟨b, off, none⟩ = some (.int .i64 x) := fun z => z.get (getC hbr (HC.out 0 _ hx))
          have e3 : ∀ z : Ext wr, z.val.cell? ⟨b, off + (l.length - 1), none⟩ = some (.int .i64 y) := fun z => z.get (getC hbr (HC.out _ _ hy))
          have HX := Lib.hid hx; clear hx
          have HY := Lib.hid hy; clear hy
          by_cases ha : hasB lo hi x = true
          · by_cases hb2 : hasB lo hi y = true
            · go_wp2_with fail
              refine wp_region_ext (by kernel_rfl) (by kernel_rfl) ?_
              repeat (go_big_quiet_step (exact Ret.ext (span_has _ _ _ _)))
              refine wpQuiet_nil ?_
              intro wx
              go_wp2_with fail
              go_ret
              exact ⟨by rw [fits_in hr (HS.out.all hkk) HX.out HY.out ha hb2]; rfl, Bl.next (Bl.next hB hbr) wx.below⟩
            · have hb2 : hasB lo hi y = false := by simpa using hb2
              go_wp2_with fail
              refine wp_region_ext (by kernel_rfl) (by kernel_rfl) ?_
              repeat (go_big_quiet_step (exact Ret.ext (span_has _ _ _ _)))
              refine wpQuiet_nil ?_
              intro wx
              go_wp2_with fail
              go_ret
              exact ⟨by rw [fits_out hr (HS.out.all hkk) HY.out hb2]; rfl, Bl.next (Bl.next hB hbr) wx.below⟩
          · have ha : hasB lo hi x = false := by simpa using ha
            go_wp2_with fail
            refine wp_region_ext (by kernel_rfl) (by kernel_rfl) ?_
            repeat (go_big_quiet_step (exact Ret.ext (span_has _ _ _ _)))
            refine wpQuiet_nil ?_
            intro wx
            go_wp2_with fail
            go_ret
            exact ⟨by rw [fits_out hr (HS.out.all hkk) HX.out ha]; rfl, Bl.next (Bl.next hB hbr) wx.below⟩
end Go.Proofs.YthlakkdgcgkcdaaGreatDoor
namespace Go.Proofs.YthlakkdgcgkcdaaGreatDoor
open Go.RowKit
set_option linter.unusedVariables false
attribute [local go_sem] Oper.semAt_some

/-- the children's spans -/
def partAt (hi : Int) (l : List Int) (i : Nat) : Int × Int := (l[i]?.getD 0, l[i+1]?.getD hi)
/-- what comes as number j: the child's number -/
def qOf {n : Nat} (j : Fin n) : Nat := n - 1 - j.val
def encE (hi : Int) (l : List Int) (j : Fin l.length) : Array Value := #[.int .i64 (qOf j : Int), spanV (partAt hi l (qOf j)).1 (partAt hi l (qOf j)).2]
theorem fin_take_succ {n k : Nat} (h : k < n) : (List.finRange n).take (k + 1) = (List.finRange n).take k ++ [⟨k, h⟩] := by
  rw [List.take_succ_eq_append_getElem (by simpa using h)]; simp
theorem fin_take_all (n : Nat) : (List.finRange n).take n = List.finRange n := List.take_of_length_le (by simp)
theorem fin_take_length {n k : Nat} (h : k ≤ n) : ((List.finRange n).take k).length = k := by simp [h]

set_option maxRecDepth 100000 in
set_option maxHeartbeats 2000000 in
theorem each1_in (l Bs Bk : Nat) (p : Nat → Prop) (hi : Int) (b off cap : Nat) (zs : List Int) (hlen : zs.length ≤ 9223372036854775807) (hb' : zs.length = 0 ∨ p b) (hBk : p Bk) (J Jx : List (Fin zs.length) → World → Prop)
    (hY : ∀ pre x W, J pre W → pre.length < zs.length → YieldAt Fence.wide 2 Tryz.prog l (encE hi zs x) W fun e W' =>
      (e = .returned (.bool true) ∧ J (pre ++ [x]) W' ∧ Keeps p W W') ∨ (e = .returned (.bool false) ∧ Jx (pre ++ [x]) W'))
    (W : World) (hc1 : W.cell? ⟨Bs, 1, none⟩ = some (.int .i64 hi)) (hck : W.cell? ⟨Bk, 0, none⟩ = some (.slice (some ⟨b, off, none⟩) zs.length cap))
    (hc : ∀ j x, zs[j]? = some x → W.cell? ⟨b, off + j, none⟩ = some (.int .i64 x)) (h0 : J [] W) :
    CallsIn Fence.wide 3 Tryz.prog 210 #[.func (.yield l) #[] #[], .pointer (some ⟨Bs, 0, none⟩), .pointer (some ⟨Bk, 0, none⟩)] W fun e W' => (∃ v, e = .returned v) ∧
      ((∃ ys, ys = List.finRange zs.length ∧ J ys W') ∨ (∃ pre, (∃ k, k ≤ zs.length ∧ pre = (List.finRange zs.length).take k) ∧ Jx pre W')) := by
  refine callsIn_of_wp Tryz.func210 rfl trivial ?_ rfl
  simp only [Tryz.ntmps210, List.size_toArray, List.length_cons, List.length_nil, Nat.reduceAdd, Nat.reduceSub, Array.replicate_succ, Array.replicate_zero, List.push_toArray, List.append_toArray, List.nil_append, List.cons_append]
  gi_wp2
  gi_loopw [4, 5] (fun h i wr => ∃ k : Nat, k ≤ zs.length ∧ i = .int .i64 ((zs.length : Int) - 1 - k) ∧ h = .int .i64 (zs[zs.length - k]?.getD hi) ∧ J ((List.finRange zs.length).take k) wr ∧ Keeps p W wr)
    (fun _ i _ => ((intOf i) + 1).toNat)
  case atStart => exact ⟨0, Nat.zero_le _, by simp, by simp, h0, Keeps.refl _ _⟩
  case round =>
    obtain ⟨k, hk, rfl, rfl, hJs, hnx⟩ := hrel
    generalize hhv : zs[zs.length - k]?.getD hi = hv
    by_cases hlt : k < zs.length
    · have hb : p b := hb'.resolve_left (by omega)
      obtain ⟨x, hx⟩ : ∃ x, zs[zs.length - 1 - k]? = some x := ⟨zs[zs.length - 1 - k], by simp⟩
      have hck' := (hnx.cell (a := ⟨Bk, 0, none⟩) hBk).trans hck
      have hcx := (hnx.cell (a := ⟨b, off + (zs.length - 1 - k), none⟩) hb).trans (hc _ _ hx)
      obtain ⟨q, hq⟩ : ∃ q : Nat, q = zs.length - 1 - k := ⟨_, rfl⟩
      have hqi : ((zs.length : Int) - 1 - k) = (q : Int) := by omega
      have hql : q < zs.length := by omega
      obtain ⟨fn, tmps, assign, body, hy, hR⟩ := hY _ ⟨k, hlt⟩ wr hJs (by rw [fin_take_length hk]; exact hlt)
      have hE : encE hi zs ⟨k, hlt⟩ = #[.int .i64 (q : Int), .agg #[.int .i64 x, .int .i64 hv]] := by
        have e0 : zs[q]? = some x := by rw [hq]; exact hx
        have e1 : q + 1 = zs.length - k := by omega
        have e2 : qOf (⟨k, hlt⟩ : Fin zs.length) = q := hq.symm
        simp only [encE, partAt, spanV, e2, e0, e1, hhv, Option.getD_some]
      rw [hE] at hy
      rw [← hq] at hcx
      rw [hqi]
      have HQ := Lib.hid hq; clear hq
      have HI := Lib.hid hqi; clear hqi
      have HX := Lib.hid hx; clear hx
      have HV := Lib.hid hhv; clear hhv
      have HE := Lib.hid hE; clear hE
      gi_wp2
      refine hR.mono ?_
      rintro e W3 (⟨rfl, hJ3, hk3⟩ | ⟨rfl, hJx3⟩)
      · have hck3 := (hk3.cell (a := ⟨Bk, 0, none⟩) hBk).trans hck'
        have hcx3 := (hk3.cell (a := ⟨b, off + q, none⟩) hb).trans hcx
        gi_wp2
        go_roundw
        case rel =>
          refine ⟨k + 1, by omega, ?_, ?_, by rw [fin_take_succ hlt]; exact hJ3, hnx.trans hk3⟩
          · exact congrArg (Value.int .i64) (by have := HI.out; omega)
          · have h1 : zs.length - (k + 1) = q := by have := HQ.out; omega
            have := HX.out
            rw [← HQ.out] at this
            rw [h1, this]; rfl
        case measure => simp [intOf]
      · gi_wp2
        refine bodyPost_ret (results_none rfl _ _ _) rfl ?_
        exact ⟨⟨_, rfl⟩, .inr ⟨_, ⟨k + 1, by omega, by rw [fin_take_succ hlt]⟩, hJx3⟩⟩
    · obtain rfl : k = zs.length := by omega
      have hneg : ((zs.length : Int) - 1 - zs.length) = -1 := by omega
      rw [hneg]
      clear hneg hhv
      rw [fin_take_all] at hJs
      have HJ := Lib.hid hJs; clear hJs
      gi_wp2
      go_end0
      exact ⟨⟨_, rfl⟩, .inl ⟨_, rfl, HJ.out⟩⟩

set_option maxRecDepth 100000 in
set_option maxHeartbeats 1000000 in
theorem each1_nil_in {α : Type} (l Bs Bk : Nat) (hi : Int) (J : List α → World → Prop) (W : World) (hc1 : W.cell? ⟨Bs, 1, none⟩ = some (.int .i64 hi)) {a0 : Option Addr} {c0 : Nat} (hck : W.cell? ⟨Bk, 0, none⟩ = some (.slice a0 0 c0)) (h0 : J [] W) :
    CallsIn Fence.wide 3 Tryz.prog 210 #[.func (.yield l) #[] #[], .pointer (some ⟨Bs, 0, none⟩), .pointer (some ⟨Bk, 0, none⟩)] W fun e W' => (∃ v, e = .returned v) ∧ J [] W' := by
  refine callsIn_of_wp Tryz.func210 rfl trivial ?_ rfl
  simp only [Tryz.ntmps210, List.size_toArray, List.length_cons, List.length_nil, Nat.reduceAdd, Nat.reduceSub, Array.replicate_succ, Array.replicate_zero, List.push_toArray, List.append_toArray, List.nil_append, List.cons_append]
  gi_wp2
  gi_loopw [4, 5] (fun _ i wr => i = .int .i64 (-1) ∧ J [] wr) (fun _ _ _ => 0)
  case atStart => exact ⟨rfl, h0⟩
  case round =>
    obtain ⟨rfl, hJs⟩ := hrel
    gi_wp2
    go_end0
    exact ⟨⟨_, rfl⟩, hJs⟩

theorem each_stops (Bs Bk : Nat) (p : Nat → Prop) (hi : Int) (v : Value) (zs : List Int) (w : World) (hp : ∀ b, p b → b < w.heap.size) (hk : p Bk) (hs : p Bs) (hlen : zs.length ≤ 9223372036854775807) (hv : Ints w v zs)
    (hvp : zs.length ≠ 0 → ∀ b off n cap, v = .slice (some ⟨b, off, none⟩) n cap → p b)
    (hc1 : w.cell? ⟨Bs, 1, none⟩ = some (.int .i64 hi)) (hck : w.cell? ⟨Bk, 0, none⟩ = some v) :
    SeqStopsK Fence.wide 3 Tryz.prog 210 #[.pointer (some ⟨Bs, 0, none⟩), .pointer (some ⟨Bk, 0, none⟩)] (encE hi zs) (Keeps p)
      (fun ys => ys = List.finRange zs.length) (fun pre => ∃ k, k ≤ zs.length ∧ pre = (List.finRange zs.length).take k) zs.length w := fun l J Jx W hW _ _ hY h0 => by
  have hc1' := getC hW hc1
  have hck' := getC hW hck
  rcases hv with ⟨a0, c0, rfl, h1, h2⟩ | ⟨b, off, cap, rfl, hcap, hmax, hcs⟩
  · obtain rfl : zs = [] := by simpa using h2
    exact (each1_nil_in l Bs Bk hi J W hc1' hck' h0).mono fun e W' ⟨he, hj⟩ => ⟨he, .inl ⟨_, rfl, hj⟩⟩
  · refine each1_in l Bs Bk p hi b off cap zs hlen ?_ hk J Jx hY W hc1' hck' (fun j x hj => getC hW (hcs j _ (by simp [hj]))) h0
    by_cases h : zs.length = 0
    · exact .inl h
    · exact .inr (hvp h _ _ _ _ rfl)

set_option maxHeartbeats 400000 in
theorem span_each (lo hi : Int) (a : Option Addr) (n c : Nat) (w : World) : Calls Tryz.prog 190 #[spanV lo hi, .slice a n c] w fun e w' =>
    e = .returned (.func (.func 210) #[] #[.pointer (some ⟨w.heap.size, 0, none⟩), .pointer (some ⟨w.heap.size + 1, 0, none⟩)]) ∧
    w' = (w.alloc (.cells #[.int .i64 lo, .int .i64 hi] 173)).alloc (.cells #[.slice a n c] 30) := by
  unfold spanV
  go_enter Tryz.func190, Tryz.ntmps190
  go_wp2
  go_ret
  exact ⟨rfl, rfl⟩
end Go.Proofs.YthlakkdgcgkcdaaGreatDoor
namespace Go.Proofs.YthlakkdgcgkcdaaGreatDoor
open Go.RowKit
set_option linter.unusedVariables false
attribute [local go_sem] Oper.semAt_some
def encB (l : List Int) (j : Fin l.length) : Array Value := #[.int .i64 (qOf j : Int), .int .i64 (l[qOf j]?.getD 0)]
set_option maxRecDepth 100000 in
set_option maxHeartbeats 2000000 in
theorem back1_in (l Bk : Nat) (p : Nat → Prop) (b off cap : Nat) (zs : List Int) (hlen : zs.length ≤ 9223372036854775807) (hb' : zs.length = 0 ∨ p b) (hBk : p Bk) (J Jx : List (Fin zs.length) → World → Prop)
    (hY : ∀ pre x W, J pre W → pre.length < zs.length → YieldAt Fence.wide 2 Tryz.prog l (encB zs x) W fun e W' =>
      (e = .returned (.bool true) ∧ J (pre ++ [x]) W' ∧ Keeps p W W') ∨ (e = .returned (.bool false) ∧ Jx (pre ++ [x]) W'))
    (W : World) (hck : W.cell? ⟨Bk, 0, none⟩ = some (.slice (some ⟨b, off, none⟩) zs.length cap))
    (hc : ∀ j x, zs[j]? = some x → W.cell? ⟨b, off + j, none⟩ = some (.int .i64 x)) (h0 : J [] W) :
    CallsIn Fence.wide 3 Tryz.prog 203 #[.func (.yield l) #[] #[], .pointer (some ⟨Bk, 0, none⟩)] W fun e W' => (∃ v, e = .returned v) ∧
      ((∃ ys, ys = List.finRange zs.length ∧ J ys W') ∨ (∃ pre, (∃ k, k ≤ zs.length ∧ pre = (List.finRange zs.length).take k) ∧ Jx pre W')) := by
  refine callsIn_of_wp Tryz.func203 rfl trivial ?_ rfl
  simp only [Tryz.ntmps203, List.size_toArray, List.length_cons, List.length_nil, Nat.reduceAdd, Nat.reduceSub, Array.replicate_succ, Array.replicate_zero, List.push_toArray, List.append_toArray, List.nil_append, List.cons_append]
  gi_wp2
  gi_loopw [3] (fun i wr => ∃ k : Nat, k ≤ zs.length ∧ i = .int .i64 ((zs.length : Int) - 1 - k) ∧ J ((List.finRange zs.length).take k) wr ∧ Keeps p W wr)
    (fun i _ => ((intOf i) + 1).toNat)
  case atStart => exact ⟨0, Nat.zero_le _, by simp, h0, Keeps.refl _ _⟩
  case round =>
    obtain ⟨k, hk, rfl, hJs, hnx⟩ := hrel
    by_cases hlt : k < zs.length
    · have hb : p b := hb'.resolve_left (by omega)
      obtain ⟨x, hx⟩ : ∃ x, zs[zs.length - 1 - k]? = some x := ⟨zs[zs.length - 1 - k], by simp⟩
      have hck' := (hnx.cell (a := ⟨Bk, 0, none⟩) hBk).trans hck
      have hcx := (hnx.cell (a := ⟨b, off + (zs.length - 1 - k), none⟩) hb).trans (hc _ _ hx)
      obtain ⟨q, hq⟩ : ∃ q : Nat, q = zs.length - 1 - k := ⟨_, rfl⟩
      have hqi : ((zs.length : Int) - 1 - k) = (q : Int) := by omega
      have hql : q < zs.length := by omega
      obtain ⟨fn, tmps, assign, body, hy, hR⟩ := hY _ ⟨k, hlt⟩ wr hJs (by rw [fin_take_length hk]; exact hlt)
      have hE : encB zs ⟨k, hlt⟩ = #[.int .i64 (q : Int), .int .i64 x] := by
        have e0 : zs[q]? = some x := by rw [hq]; exact hx
        have e2 : qOf (⟨k, hlt⟩ : Fin zs.length) = q := hq.symm
        simp only [encB, e2, e0, Option.getD_some]
      rw [hE] at hy
      rw [← hq] at hcx
      rw [hqi]
      have HQ := Lib.hid hq; clear hq
      have HI := Lib.hid hqi; clear hqi
      have HX := Lib.hid hx; clear hx
      have HE := Lib.hid hE; clear hE
      gi_wp2
      refine hR.mono ?_
      rintro e W3 (⟨rfl, hJ3, hk3⟩ | ⟨rfl, hJx3⟩)
      · gi_wp2
        go_roundw
        case rel =>
          refine ⟨k + 1, by omega, ?_, by rw [fin_take_succ hlt]; exact hJ3, hnx.trans hk3⟩
          exact congrArg (Value.int .i64) (by have := HI.out; omega)
        case measure => simp [intOf]
      · gi_wp2
        refine bodyPost_ret (results_none rfl _ _ _) rfl ?_
        exact ⟨⟨_, rfl⟩, .inr ⟨_, ⟨k + 1, by omega, by rw [fin_take_succ hlt]⟩, hJx3⟩⟩
    · obtain rfl : k = zs.length := by omega
      have hneg : ((zs.length : Int) - 1 - zs.length) = -1 := by omega
      rw [hneg]
      clear hneg
      rw [fin_take_all] at hJs
      have HJ := Lib.hid hJs; clear hJs
      gi_wp2
      go_end0
      exact ⟨⟨_, rfl⟩, .inl ⟨_, rfl, HJ.out⟩⟩
set_option maxRecDepth 100000 in
set_option maxHeartbeats 1000000 in
theorem back1_nil_in {α : Type} (l Bk : Nat) (J : List α → World → Prop) (W : World) {a0 : Option Addr} {c0 : Nat} (hck : W.cell? ⟨Bk, 0, none⟩ = some (.slice a0 0 c0)) (h0 : J [] W) :
    CallsIn Fence.wide 3 Tryz.prog 203 #[.func (.yield l) #[] #[], .pointer (some ⟨Bk, 0, none⟩)] W fun e W' => (∃ v, e = .returned v) ∧ J [] W' := by
  refine callsIn_of_wp Tryz.func203 rfl trivial ?_ rfl
  simp only [Tryz.ntmps203, List.size_toArray, List.length_cons, List.length_nil, Nat.reduceAdd, Nat.reduceSub, Array.replicate_succ, Array.replicate_zero, List.push_toArray, List.append_toArray, List.nil_append, List.cons_append]
  gi_wp2
  gi_loopw [3] (fun i wr => i = .int .i64 (-1) ∧ J [] wr) (fun _ _ => 0)
  case atStart => exact ⟨rfl, h0⟩
  case round =>
    obtain ⟨rfl, hJs⟩ := hrel
    gi_wp2
    go_end0
    exact ⟨⟨_, rfl⟩, hJs⟩
theorem back_stops (Bk : Nat) (p : Nat → Prop) (v : Value) (zs : List Int) (w : World) (hp : ∀ b, p b → b < w.heap.size) (hk : p Bk) (hlen : zs.length ≤ 9223372036854775807) (hv : Ints w v zs)
    (hvp : zs.length ≠ 0 → ∀ b off n cap, v = .slice (some ⟨b, off, none⟩) n cap → p b) (hck : w.cell? ⟨Bk, 0, none⟩ = some v) :
    SeqStopsK Fence.wide 3 Tryz.prog 203 #[.pointer (some ⟨Bk, 0, none⟩)] (encB zs) (Keeps p)
      (fun ys => ys = List.finRange zs.length) (fun pre => ∃ k, k ≤ zs.length ∧ pre = (List.finRange zs.length).take k) zs.length w := fun l J Jx W hW _ _ hY h0 => by
  have hck' := getC hW hck
  rcases hv with ⟨a0, c0, rfl, h1, h2⟩ | ⟨b, off, cap, rfl, hcap, hmax, hcs⟩
  · obtain rfl : zs = [] := by simpa using h2
    exact (back1_nil_in l Bk J W hck' h0).mono fun e W' ⟨he, hj⟩ => ⟨he, .inl ⟨_, rfl, hj⟩⟩
  · refine back1_in l Bk p b off cap zs hlen ?_ hk J Jx hY W hck' (fun j x hj => getC hW (hcs j _ (by simp [hj]))) h0
    by_cases h : zs.length = 0
    · exact .inl h
    · exact .inr (hvp h _ _ _ _ rfl)
end Go.Proofs.YthlakkdgcgkcdaaGreatDoor
