/- The statement BlockNobody, walked. -/
import Derived.Test.YtoiblgeheblddaaGreatDoorLives11
namespace Go.Proofs.YtoiblgeheblddaaGreatDoor
open Go.RowKit Go.Extern.Stop Go.Stop Go.Extern
set_option linter.unusedVariables false
attribute [local irreducible] wpList wpAnyH Code.wp Oper.wp

theorem blkN_WriteN (no kind : Int) (a : Option Addr) (n c : Nat) (li : List UInt8) (w : World) (hn : li.length = n) (h : Bys w (.slice a n c) li) :
    Calls Tryz.prog 8 #[.pointer none, .int .i64 no, .int .i64 kind, .slice a n c] w (RetS (fun w' r => ∃ b er, r = .iface 62 (.pointer (some ⟨b, 0, none⟩)) ∧ er ≠ 0 ∧ ErrV w' [some no] (some er) (.iface 62 (.pointer (some ⟨b, 0, none⟩)))) w) := by
  subst hn; exact blkN_Write no kind a c li w h
set_option maxRecDepth 100000 in
set_option maxHeartbeats 4000000 in
theorem blockNobody_law (no tree : Int) (a : Option Addr) (c : Nat) (li : List UInt8) (w : World) (h : Bys w (.slice a li.length c) li) (hg : ErrT w) :
    Calls Tryz.prog 3 #[.int .i64 no, .int .i64 tree, .slice a li.length c] w (Ret (.bool true) w) := by
  have hcap := h.cap rfl
  refine calls_of_wp Tryz.func3 rfl ?_
  refine g_fr ⟨#[.int .i64 no, .int .i64 tree, .slice a li.length c, undef, undef, undef, undef, undef, undef, undef, undef, undef, undef, undef, undef, undef, undef, undef, undef, undef, undef, undef, undef, undef, undef, undef, undef, undef, undef, undef, undef, undef, undef, undef, undef, undef, undef, undef, undef, undef, undef, undef, undef, undef, undef, undef, undef, undef, undef, undef, undef, undef, undef, undef, undef, undef, undef, undef, undef, undef, undef, undef, undef, undef, undef, undef, undef, undef, undef, undef, undef, undef, undef, undef, undef, undef, undef, undef, undef, undef, undef, undef, undef, undef], []⟩ (by kernel_rfl) ?_
  refine wp_seq ?_
  refine wp_region_lit ?_
  refine g_pv 1 [(6, .bool false)] (by kernel_rfl) ?_
  refine wpList_nil ?_
  refine wp_seq ?_
  refine wp_seq ?_
  refine wp_region_lit ?_
  refine g_pv 3 [(17, .slice a li.length c), (18, .int .i64 (↑li.length : Int)), (19, .bool (decide ((↑li.length : Int) > (600 : Int))))] (by kernel_rfl) ?_
  refine wpList_nil ?_
  refine wp_cond_split (t := decide ((↑li.length : Int) > (600 : Int))) (by kernel_rfl) (fun hc1 => ?_) (fun hc1 => ?_)
  · have hc1 := of_decide_eq_true hc1
    refine wp_region_lit ?_
    refine g_pv 1 [(20, .slice a li.length c)] (by kernel_rfl) ?_
    refine g_op (by kernel_rfl) (op_val (run_sliceH (k := 600) (b := a) (n := li.length) (c := c) (i := 600) (ki := .i64) rfl (by kernel_rfl) (by kernel_rfl) rfl (by omega) Tryz.underlying22 (by kernel_rfl) _) ?_)
    refine g_pv 1 [(2, .slice a 600 c)] (by kernel_rfl) ?_
    refine wpList_nil ?_
    refine wp_seq ?_
    refine wp_region_lit ?_
    refine g_op (by kernel_rfl) (op_call (lb := #[]) 4 #[.pointer none] rfl (by kernel_rfl) (fun _ _ => by kernel_rfl) (by kernel_rfl) ((blkN_Super _).mono ?_))
    rintro e W2 ⟨_, rfl, hb2, f1, rfl, e1⟩
    refine ⟨_, rfl, ?_⟩
    have hB := hb2
    refine g_pv 3 [(22, .tuple #[.agg #[.int .i64 0, .int .i64 0, .int .i64 0, .int .i64 0, .int .i64 0, .int .i64 0, .int .i64 0, .int .i64 0, .int .i64 0, .int .i64 0, .int .i64 0], .iface 62 (.pointer (some ⟨f1, 0, none⟩))]), (24, .agg #[.int .i64 0, .int .i64 0, .int .i64 0, .int .i64 0, .int .i64 0, .int .i64 0, .int .i64 0, .int .i64 0, .int .i64 0, .int .i64 0, .int .i64 0]), (25, .iface 62 (.pointer (some ⟨f1, 0, none⟩)))] (by kernel_rfl) ?_
    refine g_op (by kernel_rfl) (op_alloc [.int .i64 0, .int .i64 0, .int .i64 0, .int .i64 0, .int .i64 0, .int .i64 0, .int .i64 0, .int .i64 0, .int .i64 0, .int .i64 0, .int .i64 0] rfl (by kernel_rfl) ?_)
    intro b3 W3 n3
    have g3 := n3.ge hB
    replace hB := Bl.next hB n3.below
    replace e1 := e1.below n3.below
    have k3 := n3.blk
    refine g_op (by kernel_rfl) (op_storev (b := b3) (off := 0) [.int .i64 0, .int .i64 0, .int .i64 0, .int .i64 0, .int .i64 0, .int .i64 0, .int .i64 0, .int .i64 0, .int .i64 0, .int .i64 0, .int .i64 0] rfl (by kernel_rfl) (by kernel_rfl) (by kernel_rfl) (by first | decide | simp [Value.oneCell']) k3 (by first | decide | simp) ?_)
    intro W4 u4 k4
    change Blk _ _ [.int .i64 0, .int .i64 0, .int .i64 0, .int .i64 0, .int .i64 0, .int .i64 0, .int .i64 0, .int .i64 0, .int .i64 0, .int .i64 0, .int .i64 0] _ at k4
    replace hB := u4.below hB g3
    replace e1 := e1.upd u4 k3 (by decide)
    refine g_pv 1 [(8, .iface 62 (.pointer (some ⟨f1, 0, none⟩)))] (by kernel_rfl) ?_
    refine wpList_nil ?_
    refine wp_seq ?_
    refine wp_region_lit ?_
    refine g_pv 2 [(27, .int .i64 no), (28, .int .i64 tree)] (by kernel_rfl) ?_
    refine g_op (by kernel_rfl) (op_call (lb := #[]) 5 #[.pointer none, .int .i64 no, .int .i64 tree] rfl (by kernel_rfl) (fun _ _ => by kernel_rfl) (by kernel_rfl) ((blkN_Node no tree _).mono ?_))
    rintro e W5 ⟨_, rfl, hb5, f2, rfl, e2⟩
    refine ⟨_, rfl, ?_⟩
    replace hB := Bl.next hB hb5
    replace k4 := k4.below hb5
    replace e1 := e1.below hb5
    refine g_pv 3 [(26, .tuple #[.agg #[.int .i64 0, .bool false, .slice none 0 0, .slice none 0 0], .iface 62 (.pointer (some ⟨f2, 0, none⟩))]), (30, .agg #[.int .i64 0, .bool false, .slice none 0 0, .slice none 0 0]), (31, .iface 62 (.pointer (some ⟨f2, 0, none⟩)))] (by kernel_rfl) ?_
    refine g_op (by kernel_rfl) (op_alloc [.int .i64 0, .bool false, .slice none 0 0, .slice none 0 0] rfl (by kernel_rfl) ?_)
    intro b6 W6 n6
    have d6_b3 := n6.ne k4
    have g6 := n6.ge hB
    replace hB := Bl.next hB n6.below
    replace k4 := k4.below n6.below
    replace e1 := e1.below n6.below
    replace e2 := e2.below n6.below
    have k6 := n6.blk
    refine g_op (by kernel_rfl) (op_storev (b := b6) (off := 0) [.int .i64 0, .bool false, .slice none 0 0, .slice none 0 0] rfl (by kernel_rfl) (by kernel_rfl) (by kernel_rfl) (by first | decide | simp [Value.oneCell']) k6 (by first | decide | simp) ?_)
    intro W7 u7 k7
    change Blk _ _ [.int .i64 0, .bool false, .slice none 0 0, .slice none 0 0] _ at k7
    replace hB := u7.below hB g6
    replace k4 := u7.blk k4 (Ne.symm (Ne.symm d6_b3))
    replace e1 := e1.upd u7 k6 (by decide)
    replace e2 := e2.upd u7 k6 (by decide)
    refine g_pv 1 [(10, .iface 62 (.pointer (some ⟨f2, 0, none⟩)))] (by kernel_rfl) ?_
    refine wpList_nil ?_
    refine wp_seq ?_
    refine wp_region_lit ?_
    refine g_pv 1 [(33, .int .i64 no)] (by kernel_rfl) ?_
    refine g_op (by kernel_rfl) (op_call (lb := #[]) 6 #[.pointer none, .int .i64 no] rfl (by kernel_rfl) (fun _ _ => by kernel_rfl) (by kernel_rfl) ((blkN_Bits no _).mono ?_))
    rintro e W8 ⟨_, rfl, hb8, f3, rfl, e3⟩
    refine ⟨_, rfl, ?_⟩
    replace hB := Bl.next hB hb8
    replace k4 := k4.below hb8
    replace k7 := k7.below hb8
    replace e1 := e1.below hb8
    replace e2 := e2.below hb8
    refine g_pv 5 [(32, .tuple #[.slice none 0 0, .iface 62 (.pointer (some ⟨f3, 0, none⟩))]), (35, .slice none 0 0), (36, .iface 62 (.pointer (some ⟨f3, 0, none⟩))), (11, .slice none 0 0), (12, .iface 62 (.pointer (some ⟨f3, 0, none⟩)))] (by kernel_rfl) ?_
    refine wpList_nil ?_
    refine wp_seq ?_
    refine wp_region_lit ?_
    refine g_pv 1 [(38, .int .i64 no)] (by kernel_rfl) ?_
    refine g_op (by kernel_rfl) (op_call (lb := #[]) 7 #[.pointer none, .int .i64 no] rfl (by kernel_rfl) (fun _ _ => by kernel_rfl) (by kernel_rfl) ((blkN_Index no _).mono ?_))
    rintro e W9 ⟨_, rfl, hb9, f4, rfl, e4⟩
    refine ⟨_, rfl, ?_⟩
    replace hB := Bl.next hB hb9
    replace k4 := k4.below hb9
    replace k7 := k7.below hb9
    replace e1 := e1.below hb9
    replace e2 := e2.below hb9
    replace e3 := e3.below hb9
    refine g_pure 5 ⟨#[.int .i64 no, .int .i64 tree, .slice a 600 c, undef, undef, undef, .bool false, .pointer (some ⟨b3, 0, none⟩), .iface 62 (.pointer (some ⟨f1, 0, none⟩)), .pointer (some ⟨b6, 0, none⟩), .iface 62 (.pointer (some ⟨f2, 0, none⟩)), .slice none 0 0, .iface 62 (.pointer (some ⟨f3, 0, none⟩)), .slice none 0 0, .iface 62 (.pointer (some ⟨f4, 0, none⟩)), undef, undef, .slice a li.length c, .int .i64 (↑li.length : Int), .bool (decide ((↑li.length : Int) > (600 : Int))), .slice a li.length c, .slice a 600 c, .tuple #[.agg #[.int .i64 0, .int .i64 0, .int .i64 0, .int .i64 0, .int .i64 0, .int .i64 0, .int .i64 0, .int .i64 0, .int .i64 0, .int .i64 0, .int .i64 0], .iface 62 (.pointer (some ⟨f1, 0, none⟩))], .tuple #[.agg #[.int .i64 0, .int .i64 0, .int .i64 0, .int .i64 0, .int .i64 0, .int .i64 0, .int .i64 0, .int .i64 0, .int .i64 0, .int .i64 0, .int .i64 0], .iface 62 (.pointer (some ⟨f1, 0, none⟩))], .agg #[.int .i64 0, .int .i64 0, .int .i64 0, .int .i64 0, .int .i64 0, .int .i64 0, .int .i64 0, .int .i64 0, .int .i64 0, .int .i64 0, .int .i64 0], .iface 62 (.pointer (some ⟨f1, 0, none⟩)), .tuple #[.agg #[.int .i64 0, .bool false, .slice none 0 0, .slice none 0 0], .iface 62 (.pointer (some ⟨f2, 0, none⟩))], .int .i64 no, .int .i64 tree, .tuple #[.agg #[.int .i64 0, .bool false, .slice none 0 0, .slice none 0 0], .iface 62 (.pointer (some ⟨f2, 0, none⟩))], .agg #[.int .i64 0, .bool false, .slice none 0 0, .slice none 0 0], .iface 62 (.pointer (some ⟨f2, 0, none⟩)), .tuple #[.slice none 0 0, .iface 62 (.pointer (some ⟨f3, 0, none⟩))], .int .i64 no, .tuple #[.slice none 0 0, .iface 62 (.pointer (some ⟨f3, 0, none⟩))], .slice none 0 0, .iface 62 (.pointer (some ⟨f3, 0, none⟩)), .tuple #[.slice none 0 0, .iface 62 (.pointer (some ⟨f4, 0, none⟩))], .int .i64 no, .tuple #[.slice none 0 0, .iface 62 (.pointer (some ⟨f4, 0, none⟩))], .slice none 0 0, .iface 62 (.pointer (some ⟨f4, 0, none⟩)), undef, undef, undef, undef, undef, undef, undef, undef, undef, undef, undef, undef, undef, undef, undef, undef, undef, undef, undef, undef, undef, undef, undef, undef, undef, undef, undef, undef, undef, undef, undef, undef, undef, undef, undef, undef, undef, undef, undef, undef, undef, undef], []⟩ (by kernel_rfl) ?_
    refine wpList_nil ?_
    refine wp_seq ?_
    refine wp_region_lit ?_
    refine g_pv 2 [(42, .int .i64 no), (43, .slice a 600 c)] (by kernel_rfl) ?_
    refine g_op (by kernel_rfl) (op_call (lb := #[]) 8 #[.pointer none, .int .i64 no, .int .i64 2, .slice a 600 c] rfl (by kernel_rfl) (fun _ _ => by kernel_rfl) (by kernel_rfl) ((blkN_WriteN no 2 a 600 c (li.take 600) _ (by simp; omega) ((h.take rfl 600 (by omega)).below hB)).mono ?_))
    rintro e W10 ⟨_, rfl, hb10, f5, er, rfl, hne, e5⟩
    refine ⟨_, rfl, ?_⟩
    replace hB := Bl.next hB hb10
    replace k4 := k4.below hb10
    replace k7 := k7.below hb10
    replace e1 := e1.below hb10
    replace e2 := e2.below hb10
    replace e3 := e3.below hb10
    replace e4 := e4.below hb10
    refine g_pv 1 [(15, .iface 62 (.pointer (some ⟨f5, 0, none⟩)))] (by kernel_rfl) ?_
    refine wpList_nil ?_
    refine wp_seq ?_
    refine wp_region_lit ?_
    refine g_pv 1 [(45, .iface 62 (.pointer (some ⟨f2, 0, none⟩)))] (by kernel_rfl) ?_
    have hs11 : w.heap.size ≤ (W10).heap.size := hB.size
    refine g_op (by kernel_rfl) (op_call (lb := #[]) 9 #[.iface 62 (.pointer (some ⟨f2, 0, none⟩))] rfl (by kernel_rfl) (fun _ _ => by kernel_rfl) (by kernel_rfl) ((fault_Blocks (some 18) [some no] _ _ (by simp) e2).mono ?_))
    rintro e W11 ⟨_, rfl, hb11, h4⟩
    refine ⟨_, rfl, ?_⟩
    replace hB := Bl.next hB hb11
    replace k4 := k4.below hb11
    replace k7 := k7.below hb11
    replace e1 := e1.below hb11
    replace e2 := e2.below hb11
    replace e3 := e3.below hb11
    replace e4 := e4.below hb11
    replace h4 := own_mono h4 hs11
    replace h4 : W11.ownsRow _ 3 1 _ 1 [.int .i64 no] := h4
    obtain ⟨p4, c4, rfl⟩ := (own_sl h4).slice
    refine g_pv 1 [(16, .slice p4 1 c4)] (by kernel_rfl) ?_
    refine wpList_nil ?_
    refine wp_seq ?_
    refine wp_region_lit ?_
    refine g_pv 1 [(47, .iface 62 (.pointer (some ⟨f1, 0, none⟩)))] (by kernel_rfl) ?_
    refine g_op (by kernel_rfl) (op_call (lb := #[]) 10 #[.iface 62 (.pointer (some ⟨f1, 0, none⟩))] rfl (by kernel_rfl) (fun _ _ => by kernel_rfl) (by kernel_rfl) ((fault_Code (some 18) [some 0] _ _ (hg.below hB) e1).mono ?_))
    rintro e W12 ⟨rfl, hb12⟩
    refine ⟨_, rfl, ?_⟩
    replace hB := Bl.next hB hb12
    replace k4 := k4.below hb12
    replace k7 := k7.below hb12
    replace e1 := e1.below hb12
    replace e2 := e2.below hb12
    replace e3 := e3.below hb12
    replace e4 := e4.below hb12
    replace h4 := own_below h4 hb12
    refine g_pv 3 [(49, .bool true), (50, .bool true), (51, .iface 62 (.pointer (some ⟨f2, 0, none⟩)))] (by kernel_rfl) ?_
    refine g_op (by kernel_rfl) (op_call (lb := #[]) 10 #[.iface 62 (.pointer (some ⟨f2, 0, none⟩))] rfl (by kernel_rfl) (fun _ _ => by kernel_rfl) (by kernel_rfl) ((fault_Code (some 18) [some no] _ _ (hg.below hB) e2).mono ?_))
    rintro e W13 ⟨rfl, hb13⟩
    refine ⟨_, rfl, ?_⟩
    replace hB := Bl.next hB hb13
    replace k4 := k4.below hb13
    replace k7 := k7.below hb13
    replace e1 := e1.below hb13
    replace e2 := e2.below hb13
    replace e3 := e3.below hb13
    replace e4 := e4.below hb13
    replace h4 := own_below h4 hb13
    refine g_pv 4 [(53, .bool true), (54, .bool true), (55, .bool true), (56, .iface 62 (.pointer (some ⟨f3, 0, none⟩)))] (by kernel_rfl) ?_
    refine g_op (by kernel_rfl) (op_call (lb := #[]) 10 #[.iface 62 (.pointer (some ⟨f3, 0, none⟩))] rfl (by kernel_rfl) (fun _ _ => by kernel_rfl) (by kernel_rfl) ((fault_Code (some 18) [some no] _ _ (hg.below hB) e3).mono ?_))
    rintro e W14 ⟨rfl, hb14⟩
    refine ⟨_, rfl, ?_⟩
    replace hB := Bl.next hB hb14
    replace k4 := k4.below hb14
    replace k7 := k7.below hb14
    replace e1 := e1.below hb14
    replace e2 := e2.below hb14
    replace e3 := e3.below hb14
    replace e4 := e4.below hb14
    replace h4 := own_below h4 hb14
    refine g_pv 4 [(58, .bool true), (59, .bool true), (60, .bool true), (61, .iface 62 (.pointer (some ⟨f4, 0, none⟩)))] (by kernel_rfl) ?_
    refine g_op (by kernel_rfl) (op_call (lb := #[]) 10 #[.iface 62 (.pointer (some ⟨f4, 0, none⟩))] rfl (by kernel_rfl) (fun _ _ => by kernel_rfl) (by kernel_rfl) ((fault_Code (some 18) [some no] _ _ (hg.below hB) e4).mono ?_))
    rintro e W15 ⟨rfl, hb15⟩
    refine ⟨_, rfl, ?_⟩
    replace hB := Bl.next hB hb15
    replace k4 := k4.below hb15
    replace k7 := k7.below hb15
    replace e1 := e1.below hb15
    replace e2 := e2.below hb15
    replace e3 := e3.below hb15
    replace e4 := e4.below hb15
    replace h4 := own_below h4 hb15
    refine g_pure 13 ⟨#[.int .i64 no, .int .i64 tree, .slice a 600 c, undef, undef, undef, .bool false, .pointer (some ⟨b3, 0, none⟩), .iface 62 (.pointer (some ⟨f1, 0, none⟩)), .pointer (some ⟨b6, 0, none⟩), .iface 62 (.pointer (some ⟨f2, 0, none⟩)), .slice none 0 0, .iface 62 (.pointer (some ⟨f3, 0, none⟩)), .slice none 0 0, .iface 62 (.pointer (some ⟨f4, 0, none⟩)), .iface 62 (.pointer (some ⟨f5, 0, none⟩)), .slice p4 1 c4, .slice a li.length c, .int .i64 (↑li.length : Int), .bool (decide ((↑li.length : Int) > (600 : Int))), .slice a li.length c, .slice a 600 c, .tuple #[.agg #[.int .i64 0, .int .i64 0, .int .i64 0, .int .i64 0, .int .i64 0, .int .i64 0, .int .i64 0, .int .i64 0, .int .i64 0, .int .i64 0, .int .i64 0], .iface 62 (.pointer (some ⟨f1, 0, none⟩))], .tuple #[.agg #[.int .i64 0, .int .i64 0, .int .i64 0, .int .i64 0, .int .i64 0, .int .i64 0, .int .i64 0, .int .i64 0, .int .i64 0, .int .i64 0, .int .i64 0], .iface 62 (.pointer (some ⟨f1, 0, none⟩))], .agg #[.int .i64 0, .int .i64 0, .int .i64 0, .int .i64 0, .int .i64 0, .int .i64 0, .int .i64 0, .int .i64 0, .int .i64 0, .int .i64 0, .int .i64 0], .iface 62 (.pointer (some ⟨f1, 0, none⟩)), .tuple #[.agg #[.int .i64 0, .bool false, .slice none 0 0, .slice none 0 0], .iface 62 (.pointer (some ⟨f2, 0, none⟩))], .int .i64 no, .int .i64 tree, .tuple #[.agg #[.int .i64 0, .bool false, .slice none 0 0, .slice none 0 0], .iface 62 (.pointer (some ⟨f2, 0, none⟩))], .agg #[.int .i64 0, .bool false, .slice none 0 0, .slice none 0 0], .iface 62 (.pointer (some ⟨f2, 0, none⟩)), .tuple #[.slice none 0 0, .iface 62 (.pointer (some ⟨f3, 0, none⟩))], .int .i64 no, .tuple #[.slice none 0 0, .iface 62 (.pointer (some ⟨f3, 0, none⟩))], .slice none 0 0, .iface 62 (.pointer (some ⟨f3, 0, none⟩)), .tuple #[.slice none 0 0, .iface 62 (.pointer (some ⟨f4, 0, none⟩))], .int .i64 no, .tuple #[.slice none 0 0, .iface 62 (.pointer (some ⟨f4, 0, none⟩))], .slice none 0 0, .iface 62 (.pointer (some ⟨f4, 0, none⟩)), .int .i64 no, .slice a 600 c, .iface 62 (.pointer (some ⟨f5, 0, none⟩)), .iface 62 (.pointer (some ⟨f2, 0, none⟩)), .slice p4 1 c4, .iface 62 (.pointer (some ⟨f1, 0, none⟩)), .int .i64 18, .bool true, .bool true, .iface 62 (.pointer (some ⟨f2, 0, none⟩)), .int .i64 18, .bool true, .bool true, .bool true, .iface 62 (.pointer (some ⟨f3, 0, none⟩)), .int .i64 18, .bool true, .bool true, .bool true, .iface 62 (.pointer (some ⟨f4, 0, none⟩)), .int .i64 18, .bool true, .bool true, .bool true, .iface 62 (.pointer (some ⟨f5, 0, none⟩)), .bool true, .bool true, .bool true, .slice p4 1 c4, .int .i64 1, .bool true, .bool true, .bool true, .slice p4 1 c4, undef, undef, undef, undef, undef, undef, undef, undef], []⟩ (by kernel_rfl) ?_
    refine g_op (by kernel_rfl) (op_val (run_indexA (size := 1) (k := 0) (b := p4) (n := 1) (c := c4) (i := 0) (ki := .i64) rfl (by kernel_rfl) (by kernel_rfl) rfl (by omega) (Ints.elem (l := [no]) (own_sl h4) (k := 0) (by simp)).1 Tryz.underlying29 (by kernel_rfl) W15) ?_)
    refine g_op (by kernel_rfl) (op_load (elemAddr p4 (0 * 1)) (.int .i64 no) rfl (by kernel_rfl) (by kernel_rfl) (Ints.elem (l := [no]) (own_sl h4) (k := 0) (by simp)).2 ?_)
    refine g_pv 4 [(78, .int .i64 no), (79, .bool (no == no)), (80, .bool (no == no)), (81, .bool (no == no))] (by kernel_rfl) ?_
    have hc16 : ((no == no) : Bool) = true := by simp
    refine g_b [79, 80, 81] _ _ hc16 (by kernel_rfl) ?_
    refine g_op (by kernel_rfl) (op_call (lb := #[]) 11 #[] rfl (by kernel_rfl) (fun _ _ => by kernel_rfl) (by kernel_rfl) ((lives11 _).mono ?_))
    rintro e W17 ⟨rfl, hb17⟩
    refine ⟨_, rfl, ?_⟩
    replace hB := Bl.next hB hb17
    replace k4 := k4.below hb17
    replace k7 := k7.below hb17
    replace e1 := e1.below hb17
    replace e2 := e2.below hb17
    replace e3 := e3.below hb17
    replace e4 := e4.below hb17
    replace h4 := own_below h4 hb17
    refine g_pv 2 [(83, .bool true), (6, .bool true)] (by kernel_rfl) ?_
    refine wpList_nil ?_
    refine wp_ret ?_
    exact g_ret (.bool true) (by kernel_rfl) (by kernel_rfl) ⟨rfl, hB⟩
  · have hc1 := of_decide_eq_false hc1
    refine wp_skip ?_
    refine wp_seq ?_
    refine wp_region_lit ?_
    refine g_op (by kernel_rfl) (op_call (lb := #[]) 4 #[.pointer none] rfl (by kernel_rfl) (fun _ _ => by kernel_rfl) (by kernel_rfl) ((blkN_Super _).mono ?_))
    rintro e W18 ⟨_, rfl, hb18, f1, rfl, e1⟩
    refine ⟨_, rfl, ?_⟩
    have hB := hb18
    refine g_pv 3 [(22, .tuple #[.agg #[.int .i64 0, .int .i64 0, .int .i64 0, .int .i64 0, .int .i64 0, .int .i64 0, .int .i64 0, .int .i64 0, .int .i64 0, .int .i64 0, .int .i64 0], .iface 62 (.pointer (some ⟨f1, 0, none⟩))]), (24, .agg #[.int .i64 0, .int .i64 0, .int .i64 0, .int .i64 0, .int .i64 0, .int .i64 0, .int .i64 0, .int .i64 0, .int .i64 0, .int .i64 0, .int .i64 0]), (25, .iface 62 (.pointer (some ⟨f1, 0, none⟩)))] (by kernel_rfl) ?_
    refine g_op (by kernel_rfl) (op_alloc [.int .i64 0, .int .i64 0, .int .i64 0, .int .i64 0, .int .i64 0, .int .i64 0, .int .i64 0, .int .i64 0, .int .i64 0, .int .i64 0, .int .i64 0] rfl (by kernel_rfl) ?_)
    intro b19 W19 n19
    have g19 := n19.ge hB
    replace hB := Bl.next hB n19.below
    replace e1 := e1.below n19.below
    have k19 := n19.blk
    refine g_op (by kernel_rfl) (op_storev (b := b19) (off := 0) [.int .i64 0, .int .i64 0, .int .i64 0, .int .i64 0, .int .i64 0, .int .i64 0, .int .i64 0, .int .i64 0, .int .i64 0, .int .i64 0, .int .i64 0] rfl (by kernel_rfl) (by kernel_rfl) (by kernel_rfl) (by first | decide | simp [Value.oneCell']) k19 (by first | decide | simp) ?_)
    intro W20 u20 k20
    change Blk _ _ [.int .i64 0, .int .i64 0, .int .i64 0, .int .i64 0, .int .i64 0, .int .i64 0, .int .i64 0, .int .i64 0, .int .i64 0, .int .i64 0, .int .i64 0] _ at k20
    replace hB := u20.below hB g19
    replace e1 := e1.upd u20 k19 (by decide)
    refine g_pv 1 [(8, .iface 62 (.pointer (some ⟨f1, 0, none⟩)))] (by kernel_rfl) ?_
    refine wpList_nil ?_
    refine wp_seq ?_
    refine wp_region_lit ?_
    refine g_pv 2 [(27, .int .i64 no), (28, .int .i64 tree)] (by kernel_rfl) ?_
    refine g_op (by kernel_rfl) (op_call (lb := #[]) 5 #[.pointer none, .int .i64 no, .int .i64 tree] rfl (by kernel_rfl) (fun _ _ => by kernel_rfl) (by kernel_rfl) ((blkN_Node no tree _).mono ?_))
    rintro e W21 ⟨_, rfl, hb21, f2, rfl, e2⟩
    refine ⟨_, rfl, ?_⟩
    replace hB := Bl.next hB hb21
    replace k20 := k20.below hb21
    replace e1 := e1.below hb21
    refine g_pv 3 [(26, .tuple #[.agg #[.int .i64 0, .bool false, .slice none 0 0, .slice none 0 0], .iface 62 (.pointer (some ⟨f2, 0, none⟩))]), (30, .agg #[.int .i64 0, .bool false, .slice none 0 0, .slice none 0 0]), (31, .iface 62 (.pointer (some ⟨f2, 0, none⟩)))] (by kernel_rfl) ?_
    refine g_op (by kernel_rfl) (op_alloc [.int .i64 0, .bool false, .slice none 0 0, .slice none 0 0] rfl (by kernel_rfl) ?_)
    intro b22 W22 n22
    have d22_b19 := n22.ne k20
    have g22 := n22.ge hB
    replace hB := Bl.next hB n22.below
    replace k20 := k20.below n22.below
    replace e1 := e1.below n22.below
    replace e2 := e2.below n22.below
    have k22 := n22.blk
    refine g_op (by kernel_rfl) (op_storev (b := b22) (off := 0) [.int .i64 0, .bool false, .slice none 0 0, .slice none 0 0] rfl (by kernel_rfl) (by kernel_rfl) (by kernel_rfl) (by first | decide | simp [Value.oneCell']) k22 (by first | decide | simp) ?_)
    intro W23 u23 k23
    change Blk _ _ [.int .i64 0, .bool false, .slice none 0 0, .slice none 0 0] _ at k23
    replace hB := u23.below hB g22
    replace k20 := u23.blk k20 (Ne.symm (Ne.symm d22_b19))
    replace e1 := e1.upd u23 k22 (by decide)
    replace e2 := e2.upd u23 k22 (by decide)
    refine g_pv 1 [(10, .iface 62 (.pointer (some ⟨f2, 0, none⟩)))] (by kernel_rfl) ?_
    refine wpList_nil ?_
    refine wp_seq ?_
    refine wp_region_lit ?_
    refine g_pv 1 [(33, .int .i64 no)] (by kernel_rfl) ?_
    refine g_op (by kernel_rfl) (op_call (lb := #[]) 6 #[.pointer none, .int .i64 no] rfl (by kernel_rfl) (fun _ _ => by kernel_rfl) (by kernel_rfl) ((blkN_Bits no _).mono ?_))
    rintro e W24 ⟨_, rfl, hb24, f3, rfl, e3⟩
    refine ⟨_, rfl, ?_⟩
    replace hB := Bl.next hB hb24
    replace k20 := k20.below hb24
    replace k23 := k23.below hb24
    replace e1 := e1.below hb24
    replace e2 := e2.below hb24
    refine g_pv 5 [(32, .tuple #[.slice none 0 0, .iface 62 (.pointer (some ⟨f3, 0, none⟩))]), (35, .slice none 0 0), (36, .iface 62 (.pointer (some ⟨f3, 0, none⟩))), (11, .slice none 0 0), (12, .iface 62 (.pointer (some ⟨f3, 0, none⟩)))] (by kernel_rfl) ?_
    refine wpList_nil ?_
    refine wp_seq ?_
    refine wp_region_lit ?_
    refine g_pv 1 [(38, .int .i64 no)] (by kernel_rfl) ?_
    refine g_op (by kernel_rfl) (op_call (lb := #[]) 7 #[.pointer none, .int .i64 no] rfl (by kernel_rfl) (fun _ _ => by kernel_rfl) (by kernel_rfl) ((blkN_Index no _).mono ?_))
    rintro e W25 ⟨_, rfl, hb25, f4, rfl, e4⟩
    refine ⟨_, rfl, ?_⟩
    replace hB := Bl.next hB hb25
    replace k20 := k20.below hb25
    replace k23 := k23.below hb25
    replace e1 := e1.below hb25
    replace e2 := e2.below hb25
    replace e3 := e3.below hb25
    refine g_pure 5 ⟨#[.int .i64 no, .int .i64 tree, .slice a li.length c, undef, undef, undef, .bool false, .pointer (some ⟨b19, 0, none⟩), .iface 62 (.pointer (some ⟨f1, 0, none⟩)), .pointer (some ⟨b22, 0, none⟩), .iface 62 (.pointer (some ⟨f2, 0, none⟩)), .slice none 0 0, .iface 62 (.pointer (some ⟨f3, 0, none⟩)), .slice none 0 0, .iface 62 (.pointer (some ⟨f4, 0, none⟩)), undef, undef, .slice a li.length c, .int .i64 (↑li.length : Int), .bool (decide ((↑li.length : Int) > (600 : Int))), undef, undef, .tuple #[.agg #[.int .i64 0, .int .i64 0, .int .i64 0, .int .i64 0, .int .i64 0, .int .i64 0, .int .i64 0, .int .i64 0, .int .i64 0, .int .i64 0, .int .i64 0], .iface 62 (.pointer (some ⟨f1, 0, none⟩))], .tuple #[.agg #[.int .i64 0, .int .i64 0, .int .i64 0, .int .i64 0, .int .i64 0, .int .i64 0, .int .i64 0, .int .i64 0, .int .i64 0, .int .i64 0, .int .i64 0], .iface 62 (.pointer (some ⟨f1, 0, none⟩))], .agg #[.int .i64 0, .int .i64 0, .int .i64 0, .int .i64 0, .int .i64 0, .int .i64 0, .int .i64 0, .int .i64 0, .int .i64 0, .int .i64 0, .int .i64 0], .iface 62 (.pointer (some ⟨f1, 0, none⟩)), .tuple #[.agg #[.int .i64 0, .bool false, .slice none 0 0, .slice none 0 0], .iface 62 (.pointer (some ⟨f2, 0, none⟩))], .int .i64 no, .int .i64 tree, .tuple #[.agg #[.int .i64 0, .bool false, .slice none 0 0, .slice none 0 0], .iface 62 (.pointer (some ⟨f2, 0, none⟩))], .agg #[.int .i64 0, .bool false, .slice none 0 0, .slice none 0 0], .iface 62 (.pointer (some ⟨f2, 0, none⟩)), .tuple #[.slice none 0 0, .iface 62 (.pointer (some ⟨f3, 0, none⟩))], .int .i64 no, .tuple #[.slice none 0 0, .iface 62 (.pointer (some ⟨f3, 0, none⟩))], .slice none 0 0, .iface 62 (.pointer (some ⟨f3, 0, none⟩)), .tuple #[.slice none 0 0, .iface 62 (.pointer (some ⟨f4, 0, none⟩))], .int .i64 no, .tuple #[.slice none 0 0, .iface 62 (.pointer (some ⟨f4, 0, none⟩))], .slice none 0 0, .iface 62 (.pointer (some ⟨f4, 0, none⟩)), undef, undef, undef, undef, undef, undef, undef, undef, undef, undef, undef, undef, undef, undef, undef, undef, undef, undef, undef, undef, undef, undef, undef, undef, undef, undef, undef, undef, undef, undef, undef, undef, undef, undef, undef, undef, undef, undef, undef, undef, undef, undef], []⟩ (by kernel_rfl) ?_
    refine wpList_nil ?_
    refine wp_seq ?_
    refine wp_region_lit ?_
    refine g_pv 2 [(42, .int .i64 no), (43, .slice a li.length c)] (by kernel_rfl) ?_
    refine g_op (by kernel_rfl) (op_call (lb := #[]) 8 #[.pointer none, .int .i64 no, .int .i64 2, .slice a li.length c] rfl (by kernel_rfl) (fun _ _ => by kernel_rfl) (by kernel_rfl) ((blkN_WriteN no 2 a li.length c li _ rfl (h.below hB)).mono ?_))
    rintro e W26 ⟨_, rfl, hb26, f5, er, rfl, hne, e5⟩
    refine ⟨_, rfl, ?_⟩
    replace hB := Bl.next hB hb26
    replace k20 := k20.below hb26
    replace k23 := k23.below hb26
    replace e1 := e1.below hb26
    replace e2 := e2.below hb26
    replace e3 := e3.below hb26
    replace e4 := e4.below hb26
    refine g_pv 1 [(15, .iface 62 (.pointer (some ⟨f5, 0, none⟩)))] (by kernel_rfl) ?_
    refine wpList_nil ?_
    refine wp_seq ?_
    refine wp_region_lit ?_
    refine g_pv 1 [(45, .iface 62 (.pointer (some ⟨f2, 0, none⟩)))] (by kernel_rfl) ?_
    have hs27 : w.heap.size ≤ (W26).heap.size := hB.size
    refine g_op (by kernel_rfl) (op_call (lb := #[]) 9 #[.iface 62 (.pointer (some ⟨f2, 0, none⟩))] rfl (by kernel_rfl) (fun _ _ => by kernel_rfl) (by kernel_rfl) ((fault_Blocks (some 18) [some no] _ _ (by simp) e2).mono ?_))
    rintro e W27 ⟨_, rfl, hb27, h4⟩
    refine ⟨_, rfl, ?_⟩
    replace hB := Bl.next hB hb27
    replace k20 := k20.below hb27
    replace k23 := k23.below hb27
    replace e1 := e1.below hb27
    replace e2 := e2.below hb27
    replace e3 := e3.below hb27
    replace e4 := e4.below hb27
    replace h4 := own_mono h4 hs27
    replace h4 : W27.ownsRow _ 3 1 _ 1 [.int .i64 no] := h4
    obtain ⟨p4, c4, rfl⟩ := (own_sl h4).slice
    refine g_pv 1 [(16, .slice p4 1 c4)] (by kernel_rfl) ?_
    refine wpList_nil ?_
    refine wp_seq ?_
    refine wp_region_lit ?_
    refine g_pv 1 [(47, .iface 62 (.pointer (some ⟨f1, 0, none⟩)))] (by kernel_rfl) ?_
    refine g_op (by kernel_rfl) (op_call (lb := #[]) 10 #[.iface 62 (.pointer (some ⟨f1, 0, none⟩))] rfl (by kernel_rfl) (fun _ _ => by kernel_rfl) (by kernel_rfl) ((fault_Code (some 18) [some 0] _ _ (hg.below hB) e1).mono ?_))
    rintro e W28 ⟨rfl, hb28⟩
    refine ⟨_, rfl, ?_⟩
    replace hB := Bl.next hB hb28
    replace k20 := k20.below hb28
    replace k23 := k23.below hb28
    replace e1 := e1.below hb28
    replace e2 := e2.below hb28
    replace e3 := e3.below hb28
    replace e4 := e4.below hb28
    replace h4 := own_below h4 hb28
    refine g_pv 3 [(49, .bool true), (50, .bool true), (51, .iface 62 (.pointer (some ⟨f2, 0, none⟩)))] (by kernel_rfl) ?_
    refine g_op (by kernel_rfl) (op_call (lb := #[]) 10 #[.iface 62 (.pointer (some ⟨f2, 0, none⟩))] rfl (by kernel_rfl) (fun _ _ => by kernel_rfl) (by kernel_rfl) ((fault_Code (some 18) [some no] _ _ (hg.below hB) e2).mono ?_))
    rintro e W29 ⟨rfl, hb29⟩
    refine ⟨_, rfl, ?_⟩
    replace hB := Bl.next hB hb29
    replace k20 := k20.below hb29
    replace k23 := k23.below hb29
    replace e1 := e1.below hb29
    replace e2 := e2.below hb29
    replace e3 := e3.below hb29
    replace e4 := e4.below hb29
    replace h4 := own_below h4 hb29
    refine g_pv 4 [(53, .bool true), (54, .bool true), (55, .bool true), (56, .iface 62 (.pointer (some ⟨f3, 0, none⟩)))] (by kernel_rfl) ?_
    refine g_op (by kernel_rfl) (op_call (lb := #[]) 10 #[.iface 62 (.pointer (some ⟨f3, 0, none⟩))] rfl (by kernel_rfl) (fun _ _ => by kernel_rfl) (by kernel_rfl) ((fault_Code (some 18) [some no] _ _ (hg.below hB) e3).mono ?_))
    rintro e W30 ⟨rfl, hb30⟩
    refine ⟨_, rfl, ?_⟩
    replace hB := Bl.next hB hb30
    replace k20 := k20.below hb30
    replace k23 := k23.below hb30
    replace e1 := e1.below hb30
    replace e2 := e2.below hb30
    replace e3 := e3.below hb30
    replace e4 := e4.below hb30
    replace h4 := own_below h4 hb30
    refine g_pv 4 [(58, .bool true), (59, .bool true), (60, .bool true), (61, .iface 62 (.pointer (some ⟨f4, 0, none⟩)))] (by kernel_rfl) ?_
    refine g_op (by kernel_rfl) (op_call (lb := #[]) 10 #[.iface 62 (.pointer (some ⟨f4, 0, none⟩))] rfl (by kernel_rfl) (fun _ _ => by kernel_rfl) (by kernel_rfl) ((fault_Code (some 18) [some no] _ _ (hg.below hB) e4).mono ?_))
    rintro e W31 ⟨rfl, hb31⟩
    refine ⟨_, rfl, ?_⟩
    replace hB := Bl.next hB hb31
    replace k20 := k20.below hb31
    replace k23 := k23.below hb31
    replace e1 := e1.below hb31
    replace e2 := e2.below hb31
    replace e3 := e3.below hb31
    replace e4 := e4.below hb31
    replace h4 := own_below h4 hb31
    refine g_pure 13 ⟨#[.int .i64 no, .int .i64 tree, .slice a li.length c, undef, undef, undef, .bool false, .pointer (some ⟨b19, 0, none⟩), .iface 62 (.pointer (some ⟨f1, 0, none⟩)), .pointer (some ⟨b22, 0, none⟩), .iface 62 (.pointer (some ⟨f2, 0, none⟩)), .slice none 0 0, .iface 62 (.pointer (some ⟨f3, 0, none⟩)), .slice none 0 0, .iface 62 (.pointer (some ⟨f4, 0, none⟩)), .iface 62 (.pointer (some ⟨f5, 0, none⟩)), .slice p4 1 c4, .slice a li.length c, .int .i64 (↑li.length : Int), .bool (decide ((↑li.length : Int) > (600 : Int))), undef, undef, .tuple #[.agg #[.int .i64 0, .int .i64 0, .int .i64 0, .int .i64 0, .int .i64 0, .int .i64 0, .int .i64 0, .int .i64 0, .int .i64 0, .int .i64 0, .int .i64 0], .iface 62 (.pointer (some ⟨f1, 0, none⟩))], .tuple #[.agg #[.int .i64 0, .int .i64 0, .int .i64 0, .int .i64 0, .int .i64 0, .int .i64 0, .int .i64 0, .int .i64 0, .int .i64 0, .int .i64 0, .int .i64 0], .iface 62 (.pointer (some ⟨f1, 0, none⟩))], .agg #[.int .i64 0, .int .i64 0, .int .i64 0, .int .i64 0, .int .i64 0, .int .i64 0, .int .i64 0, .int .i64 0, .int .i64 0, .int .i64 0, .int .i64 0], .iface 62 (.pointer (some ⟨f1, 0, none⟩)), .tuple #[.agg #[.int .i64 0, .bool false, .slice none 0 0, .slice none 0 0], .iface 62 (.pointer (some ⟨f2, 0, none⟩))], .int .i64 no, .int .i64 tree, .tuple #[.agg #[.int .i64 0, .bool false, .slice none 0 0, .slice none 0 0], .iface 62 (.pointer (some ⟨f2, 0, none⟩))], .agg #[.int .i64 0, .bool false, .slice none 0 0, .slice none 0 0], .iface 62 (.pointer (some ⟨f2, 0, none⟩)), .tuple #[.slice none 0 0, .iface 62 (.pointer (some ⟨f3, 0, none⟩))], .int .i64 no, .tuple #[.slice none 0 0, .iface 62 (.pointer (some ⟨f3, 0, none⟩))], .slice none 0 0, .iface 62 (.pointer (some ⟨f3, 0, none⟩)), .tuple #[.slice none 0 0, .iface 62 (.pointer (some ⟨f4, 0, none⟩))], .int .i64 no, .tuple #[.slice none 0 0, .iface 62 (.pointer (some ⟨f4, 0, none⟩))], .slice none 0 0, .iface 62 (.pointer (some ⟨f4, 0, none⟩)), .int .i64 no, .slice a li.length c, .iface 62 (.pointer (some ⟨f5, 0, none⟩)), .iface 62 (.pointer (some ⟨f2, 0, none⟩)), .slice p4 1 c4, .iface 62 (.pointer (some ⟨f1, 0, none⟩)), .int .i64 18, .bool true, .bool true, .iface 62 (.pointer (some ⟨f2, 0, none⟩)), .int .i64 18, .bool true, .bool true, .bool true, .iface 62 (.pointer (some ⟨f3, 0, none⟩)), .int .i64 18, .bool true, .bool true, .bool true, .iface 62 (.pointer (some ⟨f4, 0, none⟩)), .int .i64 18, .bool true, .bool true, .bool true, .iface 62 (.pointer (some ⟨f5, 0, none⟩)), .bool true, .bool true, .bool true, .slice p4 1 c4, .int .i64 1, .bool true, .bool true, .bool true, .slice p4 1 c4, undef, undef, undef, undef, undef, undef, undef, undef], []⟩ (by kernel_rfl) ?_
    refine g_op (by kernel_rfl) (op_val (run_indexA (size := 1) (k := 0) (b := p4) (n := 1) (c := c4) (i := 0) (ki := .i64) rfl (by kernel_rfl) (by kernel_rfl) rfl (by omega) (Ints.elem (l := [no]) (own_sl h4) (k := 0) (by simp)).1 Tryz.underlying29 (by kernel_rfl) W31) ?_)
    refine g_op (by kernel_rfl) (op_load (elemAddr p4 (0 * 1)) (.int .i64 no) rfl (by kernel_rfl) (by kernel_rfl) (Ints.elem (l := [no]) (own_sl h4) (k := 0) (by simp)).2 ?_)
    refine g_pv 4 [(78, .int .i64 no), (79, .bool (no == no)), (80, .bool (no == no)), (81, .bool (no == no))] (by kernel_rfl) ?_
    have hc32 : ((no == no) : Bool) = true := by simp
    refine g_b [79, 80, 81] _ _ hc32 (by kernel_rfl) ?_
    refine g_op (by kernel_rfl) (op_call (lb := #[]) 11 #[] rfl (by kernel_rfl) (fun _ _ => by kernel_rfl) (by kernel_rfl) ((lives11 _).mono ?_))
    rintro e W33 ⟨rfl, hb33⟩
    refine ⟨_, rfl, ?_⟩
    replace hB := Bl.next hB hb33
    replace k20 := k20.below hb33
    replace k23 := k23.below hb33
    replace e1 := e1.below hb33
    replace e2 := e2.below hb33
    replace e3 := e3.below hb33
    replace e4 := e4.below hb33
    replace h4 := own_below h4 hb33
    refine g_pv 2 [(83, .bool true), (6, .bool true)] (by kernel_rfl) ?_
    refine wpList_nil ?_
    refine wp_ret ?_
    exact g_ret (.bool true) (by kernel_rfl) (by kernel_rfl) ⟨rfl, hB⟩
end Go.Proofs.YtoiblgeheblddaaGreatDoor

