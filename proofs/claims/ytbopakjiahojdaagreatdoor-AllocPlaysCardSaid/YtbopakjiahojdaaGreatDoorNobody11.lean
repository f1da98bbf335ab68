/- Package block at an image that is none, and the example of law 11. -/
import Derived.Test.YtbopakjiahojdaaGreatDoorSealOpen
import Derived.Test.YtbopakjiahojdaaGreatDoorAppZ
import Derived.Test.YtbopakjiahojdaaGreatDoorErrText
namespace Go.Proofs.YtbopakjiahojdaaGreatDoor
open Go.RowKit Go.Extern.Stop Go.Stop Go.Extern
set_option linter.unusedVariables false
attribute [local irreducible] wpList wpAnyH Code.wp Oper.wp

set_option maxRecDepth 100000 in
set_option maxHeartbeats 1000000 in
theorem readN_Node (b : Nat) (no : Int) (w : World) :
    Calls Tryz.prog 82 #[.pointer none, .int .i64 no, .int .i64 2, .func (.func 83) #[] #[.pointer (some ⟨b, 0, none⟩)]] w (RetS (fun w' r => ∃ b, r = .tuple #[.agg #[.int .i64 0, .bool false, .slice none 0 0, .slice none 0 0], .iface 133 (.pointer (some ⟨b, 0, none⟩))] ∧ ErrV w' [some no] (some 18) (.iface 133 (.pointer (some ⟨b, 0, none⟩)))) w) := by
  refine calls_of_wp Tryz.func82 rfl ?_
  refine g_fr ⟨#[.pointer none, .int .i64 no, .int .i64 2, .func (.func 83) #[] #[.pointer (some ⟨b, 0, none⟩)], undef, undef, undef, undef, undef, undef, undef, undef, undef, undef, undef, undef, undef, undef, undef, undef, undef, undef, undef, undef, undef, undef, undef, undef, undef, undef, undef, undef, undef, undef, undef, undef, undef, undef, undef, undef, undef, undef, undef, undef, undef, undef, undef, undef, undef, undef, undef, undef, undef, undef, undef, undef], []⟩ (by kernel_rfl) ?_
  refine wp_seq ?_
  refine wp_region_lit ?_
  refine g_op (by kernel_rfl) (op_alloc [.int .i64 0, .bool false, .slice none 0 0, .slice none 0 0] rfl (by kernel_rfl) ?_)
  intro b1 W1 n1
  have g1 := n1.ge (Below.refl w.heap.size _)
  have hB := n1.below
  have k1 := n1.blk
  refine g_pv 1 [(9, .nilIface)] (by kernel_rfl) ?_
  refine wpList_nil ?_
  refine wp_seq ?_
  refine wp_region_lit ?_
  refine g_op (by kernel_rfl) (op_alloc [.int .i64 0, .bool false, .slice none 0 0, .slice none 0 0] rfl (by kernel_rfl) ?_)
  intro b2 W2 n2
  have d2_b1 := n2.ne k1
  have g2 := n2.ge hB
  replace hB := Bl.next hB n2.below
  replace k1 := k1.below n2.below
  have k2 := n2.blk
  refine wpList_nil ?_
  refine wp_seq ?_
  refine wp_region_lit ?_
  refine g_pv 2 [(16, .pointer none), (17, .int .i64 no)] (by kernel_rfl) ?_
  refine g_op (by kernel_rfl) (op_call (lb := #[]) 107 #[.pointer none, .int .i64 no] rfl (by kernel_rfl) (fun _ _ => by kernel_rfl) (by kernel_rfl) ((image_Read_nilp no _).mono ?_))
  rintro e W3 ⟨_, rfl, hb3, vr, rfl⟩
  refine ⟨_, rfl, ?_⟩
  replace hB := Bl.next hB hb3
  replace k1 := k1.below hb3
  replace k2 := k2.below hb3
  refine g_pv 5 [(15, .tuple #[vr, .int .i64 18]), (19, vr), (20, .int .i64 18), (11, vr), (12, .int .i64 18)] (by kernel_rfl) ?_
  refine wpList_nil ?_
  refine wp_seq ?_
  refine wp_seq ?_
  refine wp_region_lit ?_
  refine g_pv 2 [(21, .int .i64 18), (22, .bool true)] (by kernel_rfl) ?_
  refine wpList_nil ?_
  refine wp_cond_true (by kernel_rfl) ?_
  refine wp_seq ?_
  replace hB := Bl.next hB (below_drew W3)
  replace k1 := k1.below (below_drew W3)
  replace k2 := k2.below (below_drew W3)
  refine h_reg (BelowBut (W3.drew) b1) 7 rfl #[false, false, false, false, false, false, false] rfl (by kernel_rfl) ((Below.refl _ _).but _) ?_
  intro hS4
  have hBd6 := hB
  have kd6_b1 := k1
  have kd6_b2 := k2
  refine h_loadv (b := b2) (off := 0) 0 6 rfl [.int .i64 0, .bool false, .slice none 0 0, .slice none 0 0] _ rfl (by kernel_rfl) (by kernel_rfl) (by kernel_rfl) (fun _ _ _ _ _ h => h) (by kernel_rfl) rfl (by kernel_rfl) Tryz.underlying87 rfl (by kernel_rfl) (fun V hV => (hV.blk kd6_b2 (Ne.symm d2_b1)).whole) hS4 ?_
  refine h_pv [1, 2, 3] 3 rfl #[true, true, true, true, false, false, false] [(24, .int .i64 no), (25, .int .i64 18), (26, .iface 40 (.int .i64 18))] (by kernel_rfl) (fun _ _ _ _ _ h => h) (by kernel_rfl) hS4 ?_
  refine h_one 4 2 rfl (by kernel_rfl) rfl (by kernel_rfl) (op_call (lb := #[]) 63 #[.int .i64 no, .iface 40 (.int .i64 18)] rfl (by kernel_rfl) (fun _ _ => by kernel_rfl) (by kernel_rfl) ((block_told no 18 _).mono ?_))
  rintro e W7 ⟨_, rfl, hb7, hv7⟩
  refine ⟨_, rfl, ?_⟩
  replace hB := Bl.next hB hb7
  replace k1 := k1.below hb7
  replace k2 := k2.below hb7
  rw [if_neg (by decide), if_neg (by decide)] at hv7
  have hq7 := hv7
  obtain ⟨bf7, vf7, rfl, _, _⟩ := hq7
  have hS8 : BelowBut (W3.drew) b1 (W7) := hS4.next hb7
  refine ⟨hS8, ?_⟩
  refine h_one 5 1 rfl (by kernel_rfl) rfl (by kernel_rfl) (op_storev (b := b1) (off := 0) [.int .i64 0, .bool false, .slice none 0 0, .slice none 0 0] rfl (by kernel_rfl) (by kernel_rfl) (by kernel_rfl) (by first | decide | simp [Value.oneCell']) k1 (by first | decide | simp) ?_)
  intro W9 u9 k9
  change Blk _ _ [.int .i64 0, .bool false, .slice none 0 0, .slice none 0 0] _ at k9
  replace hB := u9.below hB g1
  replace k2 := u9.blk k2 (Ne.symm d2_b1)
  replace hv7 := hv7.upd u9 k1 (by decide)
  have hS10 : BelowBut (W3.drew) b1 (W9) := hS8.upd u9
  refine ⟨hS10, ?_⟩
  refine h_pv [6] 0 rfl #[true, true, true, true, true, true, true] [(9, .iface 133 (.pointer (some ⟨bf7, 0, none⟩)))] (by kernel_rfl) (fun _ _ _ _ _ h => h) (by kernel_rfl) hS10 ?_
  refine h_done _ (by kernel_rfl) ?_
  refine wp_ret (then_ret ?_)
  exact g_ret (.tuple #[.agg #[.int .i64 0, .bool false, .slice none 0 0, .slice none 0 0], .iface 133 (.pointer (some ⟨bf7, 0, none⟩))]) (by kernel_rfl) (res_ct (d := _) (cs := [.int .i64 0, .bool false, .slice none 0 0, .slice none 0 0]) rfl (by kernel_rfl) (by kernel_rfl) k9.whole Tryz.underlying87 rfl (by kernel_rfl)) ⟨_, rfl, hB, _, rfl, hv7⟩
set_option maxRecDepth 100000 in
set_option maxHeartbeats 1000000 in
theorem readN_Bits (b : Nat) (no : Int) (w : World) :
    Calls Tryz.prog 85 #[.pointer none, .int .i64 no, .int .i64 3, .func (.func 86) #[] #[]] w (RetS (fun w' r => ∃ b, r = .tuple #[.slice none 0 0, .iface 133 (.pointer (some ⟨b, 0, none⟩))] ∧ ErrV w' [some no] (some 18) (.iface 133 (.pointer (some ⟨b, 0, none⟩)))) w) := by
  refine calls_of_wp Tryz.func85 rfl ?_
  refine g_fr ⟨#[.pointer none, .int .i64 no, .int .i64 3, .func (.func 86) #[] #[], undef, undef, undef, undef, undef, undef, undef, undef, undef, undef, undef, undef, undef, undef, undef, undef, undef, undef, undef, undef, undef, undef, undef, undef, undef, undef, undef, undef, undef, undef, undef, undef, undef, undef, undef, undef, undef, undef, undef, undef, undef, undef, undef, undef, undef, undef, undef, undef, undef, undef, undef, undef], []⟩ (by kernel_rfl) ?_
  refine wp_seq ?_
  refine wp_region_lit ?_
  refine g_pv 2 [(8, .slice none 0 0), (9, .nilIface)] (by kernel_rfl) ?_
  refine wpList_nil ?_
  refine wp_seq ?_
  refine wp_region_lit ?_
  refine g_pv 1 [(10, .slice none 0 0)] (by kernel_rfl) ?_
  refine wpList_nil ?_
  refine wp_seq ?_
  refine wp_region_lit ?_
  refine g_pv 2 [(16, .pointer none), (17, .int .i64 no)] (by kernel_rfl) ?_
  refine g_op (by kernel_rfl) (op_call (lb := #[]) 107 #[.pointer none, .int .i64 no] rfl (by kernel_rfl) (fun _ _ => by kernel_rfl) (by kernel_rfl) ((image_Read_nilp no _).mono ?_))
  rintro e W1 ⟨_, rfl, hb1, vr, rfl⟩
  refine ⟨_, rfl, ?_⟩
  have hB := hb1
  refine g_pv 5 [(15, .tuple #[vr, .int .i64 18]), (19, vr), (20, .int .i64 18), (11, vr), (12, .int .i64 18)] (by kernel_rfl) ?_
  refine wpList_nil ?_
  refine wp_seq ?_
  refine wp_seq ?_
  refine wp_region_lit ?_
  refine g_pv 2 [(21, .int .i64 18), (22, .bool true)] (by kernel_rfl) ?_
  refine wpList_nil ?_
  refine wp_cond_true (by kernel_rfl) ?_
  refine wp_seq ?_
  refine wp_region_lit ?_
  refine g_pv 4 [(23, .slice none 0 0), (24, .int .i64 no), (25, .int .i64 18), (26, .iface 40 (.int .i64 18))] (by kernel_rfl) ?_
  refine g_op (by kernel_rfl) (op_call (lb := #[]) 63 #[.int .i64 no, .iface 40 (.int .i64 18)] rfl (by kernel_rfl) (fun _ _ => by kernel_rfl) (by kernel_rfl) ((block_told no 18 _).mono ?_))
  rintro e W2 ⟨_, rfl, hb2, hv2⟩
  refine ⟨_, rfl, ?_⟩
  replace hB := Bl.next hB hb2
  rw [if_neg (by decide), if_neg (by decide)] at hv2
  have hq2 := hv2
  obtain ⟨bf2, vf2, rfl, _, _⟩ := hq2
  refine g_pv 2 [(8, .slice none 0 0), (9, .iface 133 (.pointer (some ⟨bf2, 0, none⟩)))] (by kernel_rfl) ?_
  refine wpList_nil ?_
  refine wp_ret (then_ret ?_)
  exact g_ret (.tuple #[.slice none 0 0, .iface 133 (.pointer (some ⟨bf2, 0, none⟩))]) (by kernel_rfl) (by kernel_rfl) ⟨_, rfl, hB, _, rfl, hv2⟩
set_option maxRecDepth 100000 in
set_option maxHeartbeats 1000000 in
theorem blkN_Node (no tree : Int) (w : World) :
    Calls Tryz.prog 59 #[.pointer none, .int .i64 no, .int .i64 tree] w (RetS (fun w' r => ∃ b, r = .tuple #[.agg #[.int .i64 0, .bool false, .slice none 0 0, .slice none 0 0], .iface 133 (.pointer (some ⟨b, 0, none⟩))] ∧ ErrV w' [some no] (some 18) (.iface 133 (.pointer (some ⟨b, 0, none⟩)))) w) := by
  refine calls_of_wp Tryz.func59 rfl ?_
  refine g_fr ⟨#[.pointer none, .int .i64 no, .int .i64 tree, undef, undef, undef, undef, undef, undef, undef, undef, undef, undef, undef], []⟩ (by kernel_rfl) ?_
  refine wp_seq ?_
  refine wp_region_lit ?_
  refine g_op (by kernel_rfl) (op_box [.int .i64 tree] rfl (by kernel_rfl) ?_)
  intro b1 W1 n1
  have g1 := n1.ge (Below.refl w.heap.size _)
  have hB := n1.below
  have k1 := n1.blk
  refine g_op (by kernel_rfl) (op_alloc [.int .i64 0, .bool false, .slice none 0 0, .slice none 0 0] rfl (by kernel_rfl) ?_)
  intro b2 W2 n2
  have d2_b1 := n2.ne k1
  have g2 := n2.ge hB
  replace hB := Bl.next hB n2.below
  replace k1 := k1.below n2.below
  have k2 := n2.blk
  refine g_pv 1 [(7, .nilIface)] (by kernel_rfl) ?_
  refine wpList_nil ?_
  refine wp_seq ?_
  refine wp_region_lit ?_
  refine g_pv 3 [(8, .pointer none), (9, .int .i64 no), (10, .func (.func 83) #[] #[.pointer (some ⟨b1, 0, none⟩)])] (by kernel_rfl) ?_
  refine g_op (by kernel_rfl) (op_call (lb := #[]) 82 #[.pointer none, .int .i64 no, .int .i64 2, .func (.func 83) #[] #[.pointer (some ⟨b1, 0, none⟩)]] rfl (by kernel_rfl) (fun _ _ => by kernel_rfl) (by kernel_rfl) ((readN_Node b1 no _).mono ?_))
  rintro e W3 ⟨_, rfl, hb3, bf, rfl, hv⟩
  refine ⟨_, rfl, ?_⟩
  replace hB := Bl.next hB hb3
  replace k1 := k1.below hb3
  replace k2 := k2.below hb3
  refine g_pv 2 [(12, .agg #[.int .i64 0, .bool false, .slice none 0 0, .slice none 0 0]), (13, .iface 133 (.pointer (some ⟨bf, 0, none⟩)))] (by kernel_rfl) ?_
  refine g_op (by kernel_rfl) (op_storev (b := b2) (off := 0) [.int .i64 0, .bool false, .slice none 0 0, .slice none 0 0] rfl (by kernel_rfl) (by kernel_rfl) (by kernel_rfl) (by first | decide | simp [Value.oneCell']) k2 (by first | decide | simp) ?_)
  intro W4 u4 k4
  change Blk _ _ [.int .i64 0, .bool false, .slice none 0 0, .slice none 0 0] _ at k4
  replace hB := u4.below hB g2
  replace k1 := u4.blk k1 (Ne.symm (Ne.symm d2_b1))
  replace hv := hv.upd u4 k2 (by decide)
  refine g_pv 1 [(7, .iface 133 (.pointer (some ⟨bf, 0, none⟩)))] (by kernel_rfl) ?_
  refine wpList_nil ?_
  refine wp_ret ?_
  exact g_ret (.tuple #[.agg #[.int .i64 0, .bool false, .slice none 0 0, .slice none 0 0], .iface 133 (.pointer (some ⟨bf, 0, none⟩))]) (by kernel_rfl) (res_ct (d := _) (cs := [.int .i64 0, .bool false, .slice none 0 0, .slice none 0 0]) rfl (by kernel_rfl) (by kernel_rfl) k4.whole Tryz.underlying87 rfl (by kernel_rfl)) ⟨_, rfl, hB, _, rfl, hv⟩
set_option maxRecDepth 100000 in
set_option maxHeartbeats 1000000 in
theorem blkN_Bits (no : Int) (w : World) :
    Calls Tryz.prog 60 #[.pointer none, .int .i64 no] w (RetS (fun w' r => ∃ b, r = .tuple #[.slice none 0 0, .iface 133 (.pointer (some ⟨b, 0, none⟩))] ∧ ErrV w' [some no] (some 18) (.iface 133 (.pointer (some ⟨b, 0, none⟩)))) w) := by
  refine calls_of_wp Tryz.func60 rfl ?_
  refine g_fr ⟨#[.pointer none, .int .i64 no, undef, undef, undef, undef, undef, undef, undef, undef, undef], []⟩ (by kernel_rfl) ?_
  refine wp_seq ?_
  refine wp_region_lit ?_
  refine g_pv 2 [(4, .slice none 0 0), (5, .nilIface)] (by kernel_rfl) ?_
  refine wpList_nil ?_
  refine wp_seq ?_
  refine wp_region_lit ?_
  refine g_pv 2 [(6, .pointer none), (7, .int .i64 no)] (by kernel_rfl) ?_
  refine g_op (by kernel_rfl) (op_call (lb := #[]) 85 #[.pointer none, .int .i64 no, .int .i64 3, .func (.func 86) #[] #[]] rfl (by kernel_rfl) (fun _ _ => by kernel_rfl) (by kernel_rfl) ((readN_Bits 0 no _).mono ?_))
  rintro e W1 ⟨_, rfl, hb1, bf, rfl, hv⟩
  refine ⟨_, rfl, ?_⟩
  have hB := hb1
  refine g_pv 4 [(9, .slice none 0 0), (10, .iface 133 (.pointer (some ⟨bf, 0, none⟩))), (4, .slice none 0 0), (5, .iface 133 (.pointer (some ⟨bf, 0, none⟩)))] (by kernel_rfl) ?_
  refine wpList_nil ?_
  refine wp_ret ?_
  exact g_ret (.tuple #[.slice none 0 0, .iface 133 (.pointer (some ⟨bf, 0, none⟩))]) (by kernel_rfl) (by kernel_rfl) ⟨_, rfl, hB, _, rfl, hv⟩
/-- the number that Seal hands back -/
def sealE (kind no : Int) (li : List UInt8) : Int := if knownB kind no then (if li.length ≤ 244 then 0 else 2) else 1
theorem knownB_all {kind no : Int} (h : knownB kind no = true) : 1 ≤ kind ∧ kind ≤ 4 ∧ 0 ≤ no ∧ no < 14400 := of_decide_eq_true h
set_option maxRecDepth 100000 in
set_option maxHeartbeats 1000000 in
theorem seal_Seal_bad (kind no : Int) (a : Option Addr) (c : Nat) (li : List UInt8) (w : World) (hk : knownB kind no = false) :
    Calls Tryz.prog 61 #[.int .i64 kind, .int .i64 no, .slice a li.length c] w (Ret (.tuple #[.slice none 0 0, .int .i64 1]) w) := by
  refine calls_of_wp Tryz.func61 rfl ?_
  refine g_fr ⟨#[.int .i64 kind, .int .i64 no, .slice a li.length c, undef, undef, undef, undef, undef, undef, undef, undef, undef, undef, undef, undef, undef, undef, undef, undef, undef, undef, undef, undef, undef, undef, undef, undef, undef, undef, undef, undef, undef, undef, undef, undef, undef, undef, undef, undef, undef, undef, undef, undef, undef, undef, undef, undef, undef, undef, undef, undef, undef, undef, undef], []⟩ (by kernel_rfl) ?_
  refine wp_seq ?_
  refine wp_region_lit ?_
  refine g_pv 2 [(6, .slice none 0 0), (7, .int .i64 0)] (by kernel_rfl) ?_
  refine wpList_nil ?_
  refine wp_seq ?_
  refine wp_seq ?_
  refine wp_region_lit ?_
  refine g_pv 2 [(11, .int .i64 kind), (12, .int .i64 no)] (by kernel_rfl) ?_
  refine g_op (by kernel_rfl) (op_call (lb := #[]) 87 #[.int .i64 kind, .int .i64 no] rfl (by kernel_rfl) (fun _ _ => by kernel_rfl) (by kernel_rfl) ((seal_knownB kind no _).mono ?_))
  rintro e W1 ⟨rfl, hb1⟩
  refine ⟨_, rfl, ?_⟩
  have hB := hb1
  refine g_pv 1 [(14, .bool (!(knownB kind no)))] (by kernel_rfl) ?_
  refine wpList_nil ?_
  refine wp_cond_split (t := !(knownB kind no)) (by kernel_rfl) (fun _ => ?_) (fun hh => absurd (hh.symm.trans (show (!(knownB kind no) : Bool) = true from by rw [hk]; rfl)) (by decide))
  refine wp_seq ?_
  refine wp_region_lit ?_
  refine g_pv 2 [(6, .slice none 0 0), (7, .int .i64 1)] (by kernel_rfl) ?_
  refine wpList_nil ?_
  refine wp_ret (then_ret ?_)
  exact g_ret (.tuple #[.slice none 0 0, .int .i64 1]) (by kernel_rfl) (by kernel_rfl) ⟨rfl, hB⟩
set_option maxRecDepth 100000 in
set_option maxHeartbeats 1000000 in
theorem seal_Seal_long (kind no : Int) (a : Option Addr) (c : Nat) (li : List UInt8) (w : World) (hk : knownB kind no = true) (hl : 244 < li.length) :
    Calls Tryz.prog 61 #[.int .i64 kind, .int .i64 no, .slice a li.length c] w (Ret (.tuple #[.slice none 0 0, .int .i64 2]) w) := by
  refine calls_of_wp Tryz.func61 rfl ?_
  refine g_fr ⟨#[.int .i64 kind, .int .i64 no, .slice a li.length c, undef, undef, undef, undef, undef, undef, undef, undef, undef, undef, undef, undef, undef, undef, undef, undef, undef, undef, undef, undef, undef, undef, undef, undef, undef, undef, undef, undef, undef, undef, undef, undef, undef, undef, undef, undef, undef, undef, undef, undef, undef, undef, undef, undef, undef, undef, undef, undef, undef, undef, undef], []⟩ (by kernel_rfl) ?_
  refine wp_seq ?_
  refine wp_region_lit ?_
  refine g_pv 2 [(6, .slice none 0 0), (7, .int .i64 0)] (by kernel_rfl) ?_
  refine wpList_nil ?_
  refine wp_seq ?_
  refine wp_seq ?_
  refine wp_region_lit ?_
  refine g_pv 2 [(11, .int .i64 kind), (12, .int .i64 no)] (by kernel_rfl) ?_
  refine g_op (by kernel_rfl) (op_call (lb := #[]) 87 #[.int .i64 kind, .int .i64 no] rfl (by kernel_rfl) (fun _ _ => by kernel_rfl) (by kernel_rfl) ((seal_knownB kind no _).mono ?_))
  rintro e W1 ⟨rfl, hb1⟩
  refine ⟨_, rfl, ?_⟩
  have hB := hb1
  refine g_pv 1 [(14, .bool (!(knownB kind no)))] (by kernel_rfl) ?_
  refine wpList_nil ?_
  refine wp_cond_split (t := !(knownB kind no)) (by kernel_rfl) (fun hh => absurd (hh.symm.trans (show (!(knownB kind no) : Bool) = false from by rw [hk]; rfl)) (by decide)) (fun _ => ?_)
  refine wp_skip ?_
  refine wp_seq ?_
  refine wp_seq ?_
  refine wp_region_lit ?_
  refine g_pv 3 [(15, .slice a li.length c), (16, .int .i64 (↑li.length : Int)), (17, .bool (decide ((↑li.length : Int) > (244 : Int))))] (by kernel_rfl) ?_
  refine wpList_nil ?_
  refine wp_cond_split (t := decide ((↑li.length : Int) > (244 : Int))) (by kernel_rfl) (fun _ => ?_) (fun hh => absurd (hh.symm.trans (show (decide ((↑li.length : Int) > (244 : Int)) : Bool) = true from decide_eq_true (by omega))) (by decide))
  refine wp_seq ?_
  refine wp_region_lit ?_
  refine g_pv 2 [(6, .slice none 0 0), (7, .int .i64 2)] (by kernel_rfl) ?_
  refine wpList_nil ?_
  refine wp_ret (then_ret ?_)
  exact g_ret (.tuple #[.slice none 0 0, .int .i64 2]) (by kernel_rfl) (by kernel_rfl) ⟨rfl, hB⟩
def SealP (kind no : Int) (li : List UInt8) (w : World) (e : Ending) (w' : World) : Prop :=
  (sealE kind no li ≠ 0 ∧ e = .returned (.tuple #[.slice none 0 0, .int .i64 (sealE kind no li)]) ∧ Below w.heap.size w w') ∨
  (sealE kind no li = 0 ∧ knownB kind no = true ∧ li.length ≤ 244 ∧ ∃ p c, e = .returned (.tuple #[.slice p 256 c, .int .i64 0]) ∧ Below w.heap.size w w' ∧ w'.ownsRow w.heap.size 5 1 (.slice p 256 c) 256 ((sealB kind no li).map bv))
theorem seal_SealG (kind no : Int) (a : Option Addr) (c : Nat) (li : List UInt8) (w : World) (h : Bys w (.slice a li.length c) li) :
    Calls Tryz.prog 61 #[.int .i64 kind, .int .i64 no, .slice a li.length c] w (SealP kind no li w) := by
  cases hk : knownB kind no with
  | false =>
    refine (seal_Seal_bad kind no a c li w hk).mono ?_
    rintro e W ⟨rfl, hb⟩
    have he : sealE kind no li = 1 := by simp [sealE, hk]
    exact .inl ⟨by rw [he]; decide, by rw [he], hb⟩
  | true =>
    by_cases hl : li.length ≤ 244
    · obtain ⟨h1, h2, h3, h4⟩ := knownB_all hk
      refine (seal_Seal kind no h1 h2 h3 h4 a c li w hl h).mono ?_
      rintro e W ⟨_, rfl, hb, p, c2, rfl, ho⟩
      exact .inr ⟨by simp [sealE, hk, hl], hk, hl, p, c2, rfl, hb, ho⟩
    · refine (seal_Seal_long kind no a c li w hk (by omega)).mono ?_
      rintro e W ⟨rfl, hb⟩
      have he : sealE kind no li = 2 := by simp [sealE, hk, hl]
      exact .inl ⟨by rw [he]; decide, by rw [he], hb⟩
set_option maxRecDepth 100000 in
set_option maxHeartbeats 1000000 in
theorem image_Write_nil (k : Int) (x : Value) (w : World) :
    Calls Tryz.prog 62 #[.pointer none, .int .i64 k, x] w (Ret (.int .i64 18) w) := by
  refine calls_of_wp Tryz.func62 rfl ?_
  refine g_fr ⟨#[.pointer none, .int .i64 k, x, undef, undef, undef, undef, undef, undef, undef, undef, undef, undef, undef, undef, undef, undef, undef, undef, undef, undef, undef, undef, undef], []⟩ (by kernel_rfl) ?_
  refine wp_seq ?_
  refine wp_region_lit ?_
  refine g_pv 1 [(6, .int .i64 0)] (by kernel_rfl) ?_
  refine wpList_nil ?_
  refine wp_seq ?_
  refine wp_region_lit ?_
  refine g_pv 2 [(10, .pointer none), (11, .int .i64 k)] (by kernel_rfl) ?_
  refine g_op (by kernel_rfl) (op_call (lb := #[]) 90 #[.pointer none, .int .i64 k] rfl (by kernel_rfl) (fun _ _ => by kernel_rfl) (by kernel_rfl) ((image_block_nil k _).mono ?_))
  rintro e W1 ⟨rfl, hb1⟩
  refine ⟨_, rfl, ?_⟩
  have hB := hb1
  refine g_pv 5 [(9, .tuple #[.slice none 0 0, .int .i64 18]), (13, .slice none 0 0), (14, .int .i64 18), (7, .slice none 0 0), (8, .int .i64 18)] (by kernel_rfl) ?_
  refine wpList_nil ?_
  refine wp_seq ?_
  refine wp_seq ?_
  refine wp_region_lit ?_
  refine g_pv 2 [(15, .int .i64 18), (16, .bool true)] (by kernel_rfl) ?_
  refine wpList_nil ?_
  refine wp_cond_true (by kernel_rfl) ?_
  refine wp_seq ?_
  refine wp_region_lit ?_
  refine g_pv 2 [(17, .int .i64 18), (6, .int .i64 18)] (by kernel_rfl) ?_
  refine wpList_nil ?_
  refine wp_ret (then_ret ?_)
  exact g_ret (.int .i64 18) (by kernel_rfl) (by kernel_rfl) ⟨rfl, hB⟩
set_option maxRecDepth 100000 in
set_option maxHeartbeats 1000000 in
theorem blkN_Write (no kind : Int) (a : Option Addr) (c : Nat) (li : List UInt8) (w : World) (h : Bys w (.slice a li.length c) li) :
    Calls Tryz.prog 34 #[.pointer none, .int .i64 no, .int .i64 kind, .slice a li.length c] w (RetS (fun w' r => ∃ b er, r = .iface 133 (.pointer (some ⟨b, 0, none⟩)) ∧ er ≠ 0 ∧ ErrV w' [some no] (some er) (.iface 133 (.pointer (some ⟨b, 0, none⟩)))) w) := by
  refine calls_of_wp Tryz.func34 rfl ?_
  refine g_fr ⟨#[.pointer none, .int .i64 no, .int .i64 kind, .slice a li.length c, undef, undef, undef, undef, undef, undef, undef, undef, undef, undef, undef, undef, undef, undef, undef, undef, undef, undef, undef, undef, undef, undef, undef, undef], []⟩ (by kernel_rfl) ?_
  refine wp_seq ?_
  refine wp_region_lit ?_
  refine g_pv 1 [(8, .nilIface)] (by kernel_rfl) ?_
  refine wpList_nil ?_
  refine wp_seq ?_
  refine wp_region_lit ?_
  refine g_pv 3 [(12, .int .i64 kind), (13, .int .i64 no), (14, .slice a li.length c)] (by kernel_rfl) ?_
  refine g_op (by kernel_rfl) (op_call (lb := #[]) 61 #[.int .i64 kind, .int .i64 no, .slice a li.length c] rfl (by kernel_rfl) (fun _ _ => by kernel_rfl) (by kernel_rfl) ((seal_SealG kind no a c li _ (h.below (Below.refl w.heap.size _))).mono ?_))
  rintro e W1 hq1
  rcases hq1 with ⟨hs, rfl, hb1⟩ | ⟨_, _, _, p2, c2, rfl, hb1, _⟩
  · refine ⟨_, rfl, ?_⟩
    have hB := hb1
    refine g_pv 5 [(11, .tuple #[.slice none 0 0, .int .i64 (sealE kind no li)]), (16, .slice none 0 0), (17, .int .i64 (sealE kind no li)), (9, .slice none 0 0), (10, .int .i64 (sealE kind no li))] (by kernel_rfl) ?_
    refine wpList_nil ?_
    refine wp_seq ?_
    refine wp_seq ?_
    refine wp_region_lit ?_
    refine g_pv 2 [(18, .int .i64 (sealE kind no li)), (19, .bool ((sealE kind no li) == (0 : Int)))] (by kernel_rfl) ?_
    refine wpList_nil ?_
    refine wp_cond_split (t := ((sealE kind no li) == (0 : Int))) (by kernel_rfl) (fun hh => absurd (hh.symm.trans (show (((sealE kind no li) == (0 : Int)) : Bool) = false from beq_false_of_ne hs)) (by decide)) (fun _ => ?_)
    refine wp_skip ?_
    refine wp_seq ?_
    refine wp_region_lit ?_
    refine g_pv 3 [(24, .int .i64 no), (25, .int .i64 (sealE kind no li)), (26, .iface 40 (.int .i64 (sealE kind no li)))] (by kernel_rfl) ?_
    refine g_op (by kernel_rfl) (op_call (lb := #[]) 63 #[.int .i64 no, .iface 40 (.int .i64 (sealE kind no li))] rfl (by kernel_rfl) (fun _ _ => by kernel_rfl) (by kernel_rfl) ((block_told no (sealE kind no li) _).mono ?_))
    rintro e W3 ⟨_, rfl, hb3, hv3⟩
    refine ⟨_, rfl, ?_⟩
    replace hB := Bl.next hB hb3
    rw [if_neg hs, if_neg hs] at hv3
    have hq3 := hv3
    obtain ⟨bf3, vf3, rfl, _, _⟩ := hq3
    refine g_pv 1 [(8, .iface 133 (.pointer (some ⟨bf3, 0, none⟩)))] (by kernel_rfl) ?_
    refine wpList_nil ?_
    refine wp_ret ?_
    exact g_ret (.iface 133 (.pointer (some ⟨bf3, 0, none⟩))) (by kernel_rfl) (by kernel_rfl) ⟨_, rfl, hB, _, _, rfl, hs, hv3⟩
  · refine ⟨_, rfl, ?_⟩
    have hB := hb1
    refine g_pv 5 [(11, .tuple #[.slice p2 256 c2, .int .i64 0]), (16, .slice p2 256 c2), (17, .int .i64 0), (9, .slice p2 256 c2), (10, .int .i64 0)] (by kernel_rfl) ?_
    refine wpList_nil ?_
    refine wp_seq ?_
    refine wp_seq ?_
    refine wp_region_lit ?_
    refine g_pv 2 [(18, .int .i64 0), (19, .bool true)] (by kernel_rfl) ?_
    refine wpList_nil ?_
    refine wp_cond_true (by kernel_rfl) ?_
    refine wp_region_lit ?_
    refine g_pv 3 [(20, .pointer none), (21, .int .i64 no), (22, .slice p2 256 c2)] (by kernel_rfl) ?_
    refine g_op (by kernel_rfl) (op_call (lb := #[]) 62 #[.pointer none, .int .i64 no, .slice p2 256 c2] rfl (by kernel_rfl) (fun _ _ => by kernel_rfl) (by kernel_rfl) ((image_Write_nil no _ _).mono ?_))
    rintro e W4 ⟨rfl, hb4⟩
    refine ⟨_, rfl, ?_⟩
    replace hB := Bl.next hB hb4
    refine g_pv 1 [(10, .int .i64 18)] (by kernel_rfl) ?_
    refine wpList_nil ?_
    refine wp_seq ?_
    refine wp_region_lit ?_
    refine g_pv 3 [(24, .int .i64 no), (25, .int .i64 18), (26, .iface 40 (.int .i64 18))] (by kernel_rfl) ?_
    refine g_op (by kernel_rfl) (op_call (lb := #[]) 63 #[.int .i64 no, .iface 40 (.int .i64 18)] rfl (by kernel_rfl) (fun _ _ => by kernel_rfl) (by kernel_rfl) ((block_told no 18 _).mono ?_))
    rintro e W5 ⟨_, rfl, hb5, hv5⟩
    refine ⟨_, rfl, ?_⟩
    replace hB := Bl.next hB hb5
    rw [if_neg (by decide), if_neg (by decide)] at hv5
    have hq5 := hv5
    obtain ⟨bf5, vf5, rfl, _, _⟩ := hq5
    refine g_pv 1 [(8, .iface 133 (.pointer (some ⟨bf5, 0, none⟩)))] (by kernel_rfl) ?_
    refine wpList_nil ?_
    refine wp_ret ?_
    exact g_ret (.iface 133 (.pointer (some ⟨bf5, 0, none⟩))) (by kernel_rfl) (by kernel_rfl) ⟨_, rfl, hB, _, _, rfl, (by decide), hv5⟩
end Go.Proofs.YtbopakjiahojdaaGreatDoor

