/- node.Width and node.Max at the five trees; package tall: over, Levels, Nodes, Sizes. -/
import Derived.Test.YtbopakjiahojdaaGreatDoorAlloc
namespace Go.Proofs.YtbopakjiahojdaaGreatDoor
open Go.RowKit Go.Extern.Stop Go.Stop Go.Extern
set_option linter.unusedVariables false
attribute [local irreducible] wpList wpAnyH Code.wp Oper.wp

set_option maxRecDepth 100000 in
set_option maxHeartbeats 1000000 in
theorem node_Width1l (w : World) :
    Calls Tryz.prog 67 #[.int .i64 1, .bool true] w (Ret (.int .i64 4) w) := by
  refine calls_of_wp Tryz.func67 rfl ?_
  refine g_fr ⟨#[.int .i64 1, .bool true, undef, undef, undef, undef, undef, undef, undef, undef, undef, undef, undef, undef, undef, undef, undef, undef, undef, undef, undef, undef, undef, undef, undef, undef, undef, undef, undef, undef, undef], []⟩ (by kernel_rfl) ?_
  refine wp_seq ?_
  refine wp_region_lit ?_
  refine g_pv 1 [(4, .int .i64 0)] (by kernel_rfl) ?_
  refine wpList_nil ?_
  refine wp_seq ?_
  refine wp_region_lit ?_
  refine g_pv 1 [(5, .int .i64 4)] (by kernel_rfl) ?_
  refine wpList_nil ?_
  refine wp_seq ?_
  refine wp_block ?_
  refine wp_seq ?_
  refine wp_region_lit ?_
  refine g_pv 7 [(7, .int .i64 1), (8, .bool false), (9, .bool false), (10, .int .i64 1), (11, .bool false), (12, .bool false), (6, .bool false)] (by kernel_rfl) ?_
  refine wpList_nil ?_
  refine wp_cond_false (by kernel_rfl) ?_
  refine wp_seq ?_
  refine wp_region_lit ?_
  refine g_pv 3 [(14, .bool true), (15, .bool false), (13, .bool false)] (by kernel_rfl) ?_
  refine wpList_nil ?_
  refine wp_cond_false (by kernel_rfl) ?_
  refine wp_skip ?_
  refine wp_seq ?_
  refine wp_seq ?_
  refine wp_region_lit ?_
  refine g_pv 1 [(17, .int .i64 1)] (by kernel_rfl) ?_
  refine wpList_nil ?_
  refine wp_block ?_
  refine wp_seq ?_
  refine wp_block ?_
  refine wp_seq ?_
  refine wp_block ?_
  refine wp_seq ?_
  refine wp_block ?_
  refine wp_seq ?_
  refine wp_seq ?_
  refine wp_seq ?_
  refine wp_region_lit ?_
  refine g_pv 2 [(19, .bool false), (18, .bool false)] (by kernel_rfl) ?_
  refine wpList_nil ?_
  refine wp_cond_false (by kernel_rfl) ?_
  refine wp_skip ?_
  refine wp_seq ?_
  refine wp_seq ?_
  refine wp_region_lit ?_
  refine g_pv 2 [(21, .bool false), (20, .bool false)] (by kernel_rfl) ?_
  refine wpList_nil ?_
  refine wp_cond_false (by kernel_rfl) ?_
  refine wp_skip ?_
  refine wp_seq ?_
  refine wp_region_lit ?_
  refine g_pv 2 [(23, .bool false), (22, .bool false)] (by kernel_rfl) ?_
  refine wpList_nil ?_
  refine wp_cond_false (by kernel_rfl) ?_
  refine wp_skip ?_
  refine wp_exit ?_
  refine inBlock_pass (by simp) ?_
  refine then_exit ?_
  refine inBlock_pass (by simp) ?_
  refine then_exit ?_
  refine inBlock_pass (by simp) ?_
  refine then_exit ?_
  refine inBlock_hit ?_
  refine wp_seq ?_
  refine wp_region_lit ?_
  refine g_pv 2 [(30, .int .i64 4), (4, .int .i64 4)] (by kernel_rfl) ?_
  refine wpList_nil ?_
  refine wp_ret ?_
  exact g_ret (.int .i64 4) (by kernel_rfl) (by kernel_rfl) ⟨rfl, (Below.refl w.heap.size _)⟩
set_option maxRecDepth 100000 in
set_option maxHeartbeats 1000000 in
theorem node_Max1l (w : World) :
    Calls Tryz.prog 70 #[.int .i64 1, .bool true] w (Ret (.int .i64 18) w) := by
  refine calls_of_wp Tryz.func70 rfl ?_
  refine g_fr ⟨#[.int .i64 1, .bool true, undef, undef, undef, undef, undef, undef, undef, undef, undef, undef, undef, undef, undef, undef], []⟩ (by kernel_rfl) ?_
  refine wp_seq ?_
  refine wp_region_lit ?_
  refine g_pv 1 [(4, .int .i64 0)] (by kernel_rfl) ?_
  refine wpList_nil ?_
  refine wp_seq ?_
  refine wp_region_lit ?_
  refine g_pv 2 [(6, .int .i64 1), (7, .bool true)] (by kernel_rfl) ?_
  refine g_op (by kernel_rfl) (op_call (lb := #[]) 67 #[.int .i64 1, .bool true] rfl (by kernel_rfl) (fun _ _ => by kernel_rfl) (by kernel_rfl) ((node_Width1l _).mono ?_))
  rintro e W1 ⟨rfl, hb1⟩
  refine ⟨_, rfl, ?_⟩
  have hB := hb1
  refine g_pv 1 [(5, .int .i64 4)] (by kernel_rfl) ?_
  refine wpList_nil ?_
  refine wp_seq ?_
  refine wp_seq ?_
  refine wp_region_lit ?_
  refine g_pv 2 [(9, .int .i64 4), (10, .bool false)] (by kernel_rfl) ?_
  refine wpList_nil ?_
  refine wp_cond_false (by kernel_rfl) ?_
  refine wp_skip ?_
  refine wp_seq ?_
  refine wp_region_lit ?_
  refine g_pv 6 [(11, .int .i64 4), (12, .int .i64 12), (13, .int .i64 19), (14, .int .i64 6), (15, .int .i64 18), (4, .int .i64 18)] (by kernel_rfl) ?_
  refine wpList_nil ?_
  refine wp_ret ?_
  exact g_ret (.int .i64 18) (by kernel_rfl) (by kernel_rfl) ⟨rfl, hB⟩
set_option maxRecDepth 100000 in
set_option maxHeartbeats 1000000 in
theorem node_Width1i (w : World) :
    Calls Tryz.prog 67 #[.int .i64 1, .bool false] w (Ret (.int .i64 4) w) := by
  refine calls_of_wp Tryz.func67 rfl ?_
  refine g_fr ⟨#[.int .i64 1, .bool false, undef, undef, undef, undef, undef, undef, undef, undef, undef, undef, undef, undef, undef, undef, undef, undef, undef, undef, undef, undef, undef, undef, undef, undef, undef, undef, undef, undef, undef], []⟩ (by kernel_rfl) ?_
  refine wp_seq ?_
  refine wp_region_lit ?_
  refine g_pv 1 [(4, .int .i64 0)] (by kernel_rfl) ?_
  refine wpList_nil ?_
  refine wp_seq ?_
  refine wp_region_lit ?_
  refine g_pv 1 [(5, .int .i64 4)] (by kernel_rfl) ?_
  refine wpList_nil ?_
  refine wp_seq ?_
  refine wp_block ?_
  refine wp_seq ?_
  refine wp_region_lit ?_
  refine g_pv 7 [(7, .int .i64 1), (8, .bool false), (9, .bool false), (10, .int .i64 1), (11, .bool false), (12, .bool false), (6, .bool false)] (by kernel_rfl) ?_
  refine wpList_nil ?_
  refine wp_cond_false (by kernel_rfl) ?_
  refine wp_seq ?_
  refine wp_region_lit ?_
  refine g_pv 3 [(14, .bool false), (15, .bool true), (13, .bool true)] (by kernel_rfl) ?_
  refine wpList_nil ?_
  refine wp_cond_true (by kernel_rfl) ?_
  refine wp_seq ?_
  refine wp_region_lit ?_
  refine g_pv 2 [(16, .int .i64 4), (4, .int .i64 4)] (by kernel_rfl) ?_
  refine wpList_nil ?_
  refine wp_ret (inBlock_ret (then_ret ?_))
  exact g_ret (.int .i64 4) (by kernel_rfl) (by kernel_rfl) ⟨rfl, (Below.refl w.heap.size _)⟩
set_option maxRecDepth 100000 in
set_option maxHeartbeats 1000000 in
theorem node_Max1i (w : World) :
    Calls Tryz.prog 70 #[.int .i64 1, .bool false] w (Ret (.int .i64 18) w) := by
  refine calls_of_wp Tryz.func70 rfl ?_
  refine g_fr ⟨#[.int .i64 1, .bool false, undef, undef, undef, undef, undef, undef, undef, undef, undef, undef, undef, undef, undef, undef], []⟩ (by kernel_rfl) ?_
  refine wp_seq ?_
  refine wp_region_lit ?_
  refine g_pv 1 [(4, .int .i64 0)] (by kernel_rfl) ?_
  refine wpList_nil ?_
  refine wp_seq ?_
  refine wp_region_lit ?_
  refine g_pv 2 [(6, .int .i64 1), (7, .bool false)] (by kernel_rfl) ?_
  refine g_op (by kernel_rfl) (op_call (lb := #[]) 67 #[.int .i64 1, .bool false] rfl (by kernel_rfl) (fun _ _ => by kernel_rfl) (by kernel_rfl) ((node_Width1i _).mono ?_))
  rintro e W1 ⟨rfl, hb1⟩
  refine ⟨_, rfl, ?_⟩
  have hB := hb1
  refine g_pv 1 [(5, .int .i64 4)] (by kernel_rfl) ?_
  refine wpList_nil ?_
  refine wp_seq ?_
  refine wp_seq ?_
  refine wp_region_lit ?_
  refine g_pv 2 [(9, .int .i64 4), (10, .bool false)] (by kernel_rfl) ?_
  refine wpList_nil ?_
  refine wp_cond_false (by kernel_rfl) ?_
  refine wp_skip ?_
  refine wp_seq ?_
  refine wp_region_lit ?_
  refine g_pv 6 [(11, .int .i64 4), (12, .int .i64 12), (13, .int .i64 19), (14, .int .i64 6), (15, .int .i64 18), (4, .int .i64 18)] (by kernel_rfl) ?_
  refine wpList_nil ?_
  refine wp_ret ?_
  exact g_ret (.int .i64 18) (by kernel_rfl) (by kernel_rfl) ⟨rfl, hB⟩
set_option maxRecDepth 100000 in
set_option maxHeartbeats 1000000 in
theorem node_Width2l (w : World) :
    Calls Tryz.prog 67 #[.int .i64 2, .bool true] w (Ret (.int .i64 8) w) := by
  refine calls_of_wp Tryz.func67 rfl ?_
  refine g_fr ⟨#[.int .i64 2, .bool true, undef, undef, undef, undef, undef, undef, undef, undef, undef, undef, undef, undef, undef, undef, undef, undef, undef, undef, undef, undef, undef, undef, undef, undef, undef, undef, undef, undef, undef], []⟩ (by kernel_rfl) ?_
  refine wp_seq ?_
  refine wp_region_lit ?_
  refine g_pv 1 [(4, .int .i64 0)] (by kernel_rfl) ?_
  refine wpList_nil ?_
  refine wp_seq ?_
  refine wp_region_lit ?_
  refine g_pv 1 [(5, .int .i64 4)] (by kernel_rfl) ?_
  refine wpList_nil ?_
  refine wp_seq ?_
  refine wp_block ?_
  refine wp_seq ?_
  refine wp_region_lit ?_
  refine g_pv 7 [(7, .int .i64 2), (8, .bool false), (9, .bool false), (10, .int .i64 2), (11, .bool false), (12, .bool false), (6, .bool false)] (by kernel_rfl) ?_
  refine wpList_nil ?_
  refine wp_cond_false (by kernel_rfl) ?_
  refine wp_seq ?_
  refine wp_region_lit ?_
  refine g_pv 3 [(14, .bool true), (15, .bool false), (13, .bool false)] (by kernel_rfl) ?_
  refine wpList_nil ?_
  refine wp_cond_false (by kernel_rfl) ?_
  refine wp_skip ?_
  refine wp_seq ?_
  refine wp_seq ?_
  refine wp_region_lit ?_
  refine g_pv 1 [(17, .int .i64 2)] (by kernel_rfl) ?_
  refine wpList_nil ?_
  refine wp_block ?_
  refine wp_seq ?_
  refine wp_block ?_
  refine wp_seq ?_
  refine wp_block ?_
  refine wp_seq ?_
  refine wp_block ?_
  refine wp_seq ?_
  refine wp_seq ?_
  refine wp_seq ?_
  refine wp_region_lit ?_
  refine g_pv 2 [(19, .bool false), (18, .bool false)] (by kernel_rfl) ?_
  refine wpList_nil ?_
  refine wp_cond_false (by kernel_rfl) ?_
  refine wp_skip ?_
  refine wp_seq ?_
  refine wp_seq ?_
  refine wp_region_lit ?_
  refine g_pv 2 [(21, .bool false), (20, .bool false)] (by kernel_rfl) ?_
  refine wpList_nil ?_
  refine wp_cond_false (by kernel_rfl) ?_
  refine wp_skip ?_
  refine wp_seq ?_
  refine wp_region_lit ?_
  refine g_pv 2 [(23, .bool true), (22, .bool true)] (by kernel_rfl) ?_
  refine wpList_nil ?_
  refine wp_cond_true (by kernel_rfl) ?_
  refine wp_exit ?_
  refine then_exit ?_
  refine inBlock_pass (by simp) ?_
  refine then_exit ?_
  refine inBlock_pass (by simp) ?_
  refine then_exit ?_
  refine inBlock_hit ?_
  refine wp_seq ?_
  refine wp_region_lit ?_
  refine g_pv 3 [(28, .int .i64 4), (29, .int .i64 8), (5, .int .i64 8)] (by kernel_rfl) ?_
  refine wpList_nil ?_
  refine wp_exit ?_
  refine inBlock_hit ?_
  refine wp_seq ?_
  refine wp_region_lit ?_
  refine g_pv 2 [(30, .int .i64 8), (4, .int .i64 8)] (by kernel_rfl) ?_
  refine wpList_nil ?_
  refine wp_ret ?_
  exact g_ret (.int .i64 8) (by kernel_rfl) (by kernel_rfl) ⟨rfl, (Below.refl w.heap.size _)⟩
set_option maxRecDepth 100000 in
set_option maxHeartbeats 1000000 in
theorem node_Max2l (w : World) :
    Calls Tryz.prog 70 #[.int .i64 2, .bool true] w (Ret (.int .i64 12) w) := by
  refine calls_of_wp Tryz.func70 rfl ?_
  refine g_fr ⟨#[.int .i64 2, .bool true, undef, undef, undef, undef, undef, undef, undef, undef, undef, undef, undef, undef, undef, undef], []⟩ (by kernel_rfl) ?_
  refine wp_seq ?_
  refine wp_region_lit ?_
  refine g_pv 1 [(4, .int .i64 0)] (by kernel_rfl) ?_
  refine wpList_nil ?_
  refine wp_seq ?_
  refine wp_region_lit ?_
  refine g_pv 2 [(6, .int .i64 2), (7, .bool true)] (by kernel_rfl) ?_
  refine g_op (by kernel_rfl) (op_call (lb := #[]) 67 #[.int .i64 2, .bool true] rfl (by kernel_rfl) (fun _ _ => by kernel_rfl) (by kernel_rfl) ((node_Width2l _).mono ?_))
  rintro e W1 ⟨rfl, hb1⟩
  refine ⟨_, rfl, ?_⟩
  have hB := hb1
  refine g_pv 1 [(5, .int .i64 8)] (by kernel_rfl) ?_
  refine wpList_nil ?_
  refine wp_seq ?_
  refine wp_seq ?_
  refine wp_region_lit ?_
  refine g_pv 2 [(9, .int .i64 8), (10, .bool false)] (by kernel_rfl) ?_
  refine wpList_nil ?_
  refine wp_cond_false (by kernel_rfl) ?_
  refine wp_skip ?_
  refine wp_seq ?_
  refine wp_region_lit ?_
  refine g_pv 6 [(11, .int .i64 8), (12, .int .i64 16), (13, .int .i64 14), (14, .int .i64 4), (15, .int .i64 12), (4, .int .i64 12)] (by kernel_rfl) ?_
  refine wpList_nil ?_
  refine wp_ret ?_
  exact g_ret (.int .i64 12) (by kernel_rfl) (by kernel_rfl) ⟨rfl, hB⟩
set_option maxRecDepth 100000 in
set_option maxHeartbeats 1000000 in
theorem node_Width2i (w : World) :
    Calls Tryz.prog 67 #[.int .i64 2, .bool false] w (Ret (.int .i64 4) w) := by
  refine calls_of_wp Tryz.func67 rfl ?_
  refine g_fr ⟨#[.int .i64 2, .bool false, undef, undef, undef, undef, undef, undef, undef, undef, undef, undef, undef, undef, undef, undef, undef, undef, undef, undef, undef, undef, undef, undef, undef, undef, undef, undef, undef, undef, undef], []⟩ (by kernel_rfl) ?_
  refine wp_seq ?_
  refine wp_region_lit ?_
  refine g_pv 1 [(4, .int .i64 0)] (by kernel_rfl) ?_
  refine wpList_nil ?_
  refine wp_seq ?_
  refine wp_region_lit ?_
  refine g_pv 1 [(5, .int .i64 4)] (by kernel_rfl) ?_
  refine wpList_nil ?_
  refine wp_seq ?_
  refine wp_block ?_
  refine wp_seq ?_
  refine wp_region_lit ?_
  refine g_pv 7 [(7, .int .i64 2), (8, .bool false), (9, .bool false), (10, .int .i64 2), (11, .bool false), (12, .bool false), (6, .bool false)] (by kernel_rfl) ?_
  refine wpList_nil ?_
  refine wp_cond_false (by kernel_rfl) ?_
  refine wp_seq ?_
  refine wp_region_lit ?_
  refine g_pv 3 [(14, .bool false), (15, .bool true), (13, .bool true)] (by kernel_rfl) ?_
  refine wpList_nil ?_
  refine wp_cond_true (by kernel_rfl) ?_
  refine wp_seq ?_
  refine wp_region_lit ?_
  refine g_pv 2 [(16, .int .i64 4), (4, .int .i64 4)] (by kernel_rfl) ?_
  refine wpList_nil ?_
  refine wp_ret (inBlock_ret (then_ret ?_))
  exact g_ret (.int .i64 4) (by kernel_rfl) (by kernel_rfl) ⟨rfl, (Below.refl w.heap.size _)⟩
set_option maxRecDepth 100000 in
set_option maxHeartbeats 1000000 in
theorem node_Max2i (w : World) :
    Calls Tryz.prog 70 #[.int .i64 2, .bool false] w (Ret (.int .i64 18) w) := by
  refine calls_of_wp Tryz.func70 rfl ?_
  refine g_fr ⟨#[.int .i64 2, .bool false, undef, undef, undef, undef, undef, undef, undef, undef, undef, undef, undef, undef, undef, undef], []⟩ (by kernel_rfl) ?_
  refine wp_seq ?_
  refine wp_region_lit ?_
  refine g_pv 1 [(4, .int .i64 0)] (by kernel_rfl) ?_
  refine wpList_nil ?_
  refine wp_seq ?_
  refine wp_region_lit ?_
  refine g_pv 2 [(6, .int .i64 2), (7, .bool false)] (by kernel_rfl) ?_
  refine g_op (by kernel_rfl) (op_call (lb := #[]) 67 #[.int .i64 2, .bool false] rfl (by kernel_rfl) (fun _ _ => by kernel_rfl) (by kernel_rfl) ((node_Width2i _).mono ?_))
  rintro e W1 ⟨rfl, hb1⟩
  refine ⟨_, rfl, ?_⟩
  have hB := hb1
  refine g_pv 1 [(5, .int .i64 4)] (by kernel_rfl) ?_
  refine wpList_nil ?_
  refine wp_seq ?_
  refine wp_seq ?_
  refine wp_region_lit ?_
  refine g_pv 2 [(9, .int .i64 4), (10, .bool false)] (by kernel_rfl) ?_
  refine wpList_nil ?_
  refine wp_cond_false (by kernel_rfl) ?_
  refine wp_skip ?_
  refine wp_seq ?_
  refine wp_region_lit ?_
  refine g_pv 6 [(11, .int .i64 4), (12, .int .i64 12), (13, .int .i64 19), (14, .int .i64 6), (15, .int .i64 18), (4, .int .i64 18)] (by kernel_rfl) ?_
  refine wpList_nil ?_
  refine wp_ret ?_
  exact g_ret (.int .i64 18) (by kernel_rfl) (by kernel_rfl) ⟨rfl, hB⟩
set_option maxRecDepth 100000 in
set_option maxHeartbeats 1000000 in
theorem node_Width3l (w : World) :
    Calls Tryz.prog 67 #[.int .i64 3, .bool true] w (Ret (.int .i64 24) w) := by
  refine calls_of_wp Tryz.func67 rfl ?_
  refine g_fr ⟨#[.int .i64 3, .bool true, undef, undef, undef, undef, undef, undef, undef, undef, undef, undef, undef, undef, undef, undef, undef, undef, undef, undef, undef, undef, undef, undef, undef, undef, undef, undef, undef, undef, undef], []⟩ (by kernel_rfl) ?_
  refine wp_seq ?_
  refine wp_region_lit ?_
  refine g_pv 1 [(4, .int .i64 0)] (by kernel_rfl) ?_
  refine wpList_nil ?_
  refine wp_seq ?_
  refine wp_region_lit ?_
  refine g_pv 1 [(5, .int .i64 4)] (by kernel_rfl) ?_
  refine wpList_nil ?_
  refine wp_seq ?_
  refine wp_block ?_
  refine wp_seq ?_
  refine wp_region_lit ?_
  refine g_pv 7 [(7, .int .i64 3), (8, .bool false), (9, .bool false), (10, .int .i64 3), (11, .bool false), (12, .bool false), (6, .bool false)] (by kernel_rfl) ?_
  refine wpList_nil ?_
  refine wp_cond_false (by kernel_rfl) ?_
  refine wp_seq ?_
  refine wp_region_lit ?_
  refine g_pv 3 [(14, .bool true), (15, .bool false), (13, .bool false)] (by kernel_rfl) ?_
  refine wpList_nil ?_
  refine wp_cond_false (by kernel_rfl) ?_
  refine wp_skip ?_
  refine wp_seq ?_
  refine wp_seq ?_
  refine wp_region_lit ?_
  refine g_pv 1 [(17, .int .i64 3)] (by kernel_rfl) ?_
  refine wpList_nil ?_
  refine wp_block ?_
  refine wp_seq ?_
  refine wp_block ?_
  refine wp_seq ?_
  refine wp_block ?_
  refine wp_seq ?_
  refine wp_block ?_
  refine wp_seq ?_
  refine wp_seq ?_
  refine wp_seq ?_
  refine wp_region_lit ?_
  refine g_pv 2 [(19, .bool true), (18, .bool true)] (by kernel_rfl) ?_
  refine wpList_nil ?_
  refine wp_cond_true (by kernel_rfl) ?_
  refine wp_exit ?_
  refine then_exit ?_
  refine then_exit ?_
  refine inBlock_hit ?_
  refine wp_region_lit ?_
  refine g_pv 3 [(24, .int .i64 4), (25, .int .i64 12), (5, .int .i64 12)] (by kernel_rfl) ?_
  refine wpList_nil ?_
  refine wp_region_lit ?_
  refine g_pv 3 [(26, .int .i64 12), (27, .int .i64 20), (5, .int .i64 20)] (by kernel_rfl) ?_
  refine wpList_nil ?_
  refine wp_seq ?_
  refine wp_region_lit ?_
  refine g_pv 3 [(28, .int .i64 20), (29, .int .i64 24), (5, .int .i64 24)] (by kernel_rfl) ?_
  refine wpList_nil ?_
  refine wp_exit ?_
  refine inBlock_hit ?_
  refine wp_seq ?_
  refine wp_region_lit ?_
  refine g_pv 2 [(30, .int .i64 24), (4, .int .i64 24)] (by kernel_rfl) ?_
  refine wpList_nil ?_
  refine wp_ret ?_
  exact g_ret (.int .i64 24) (by kernel_rfl) (by kernel_rfl) ⟨rfl, (Below.refl w.heap.size _)⟩
set_option maxRecDepth 100000 in
set_option maxHeartbeats 1000000 in
theorem node_Max3l (w : World) :
    Calls Tryz.prog 70 #[.int .i64 3, .bool true] w (Ret (.int .i64 6) w) := by
  refine calls_of_wp Tryz.func70 rfl ?_
  refine g_fr ⟨#[.int .i64 3, .bool true, undef, undef, undef, undef, undef, undef, undef, undef, undef, undef, undef, undef, undef, undef], []⟩ (by kernel_rfl) ?_
  refine wp_seq ?_
  refine wp_region_lit ?_
  refine g_pv 1 [(4, .int .i64 0)] (by kernel_rfl) ?_
  refine wpList_nil ?_
  refine wp_seq ?_
  refine wp_region_lit ?_
  refine g_pv 2 [(6, .int .i64 3), (7, .bool true)] (by kernel_rfl) ?_
  refine g_op (by kernel_rfl) (op_call (lb := #[]) 67 #[.int .i64 3, .bool true] rfl (by kernel_rfl) (fun _ _ => by kernel_rfl) (by kernel_rfl) ((node_Width3l _).mono ?_))
  rintro e W1 ⟨rfl, hb1⟩
  refine ⟨_, rfl, ?_⟩
  have hB := hb1
  refine g_pv 1 [(5, .int .i64 24)] (by kernel_rfl) ?_
  refine wpList_nil ?_
  refine wp_seq ?_
  refine wp_seq ?_
  refine wp_region_lit ?_
  refine g_pv 2 [(9, .int .i64 24), (10, .bool false)] (by kernel_rfl) ?_
  refine wpList_nil ?_
  refine wp_cond_false (by kernel_rfl) ?_
  refine wp_skip ?_
  refine wp_seq ?_
  refine wp_region_lit ?_
  refine g_pv 6 [(11, .int .i64 24), (12, .int .i64 32), (13, .int .i64 7), (14, .int .i64 2), (15, .int .i64 6), (4, .int .i64 6)] (by kernel_rfl) ?_
  refine wpList_nil ?_
  refine wp_ret ?_
  exact g_ret (.int .i64 6) (by kernel_rfl) (by kernel_rfl) ⟨rfl, hB⟩
set_option maxRecDepth 100000 in
set_option maxHeartbeats 1000000 in
theorem node_Width3i (w : World) :
    Calls Tryz.prog 67 #[.int .i64 3, .bool false] w (Ret (.int .i64 4) w) := by
  refine calls_of_wp Tryz.func67 rfl ?_
  refine g_fr ⟨#[.int .i64 3, .bool false, undef, undef, undef, undef, undef, undef, undef, undef, undef, undef, undef, undef, undef, undef, undef, undef, undef, undef, undef, undef, undef, undef, undef, undef, undef, undef, undef, undef, undef], []⟩ (by kernel_rfl) ?_
  refine wp_seq ?_
  refine wp_region_lit ?_
  refine g_pv 1 [(4, .int .i64 0)] (by kernel_rfl) ?_
  refine wpList_nil ?_
  refine wp_seq ?_
  refine wp_region_lit ?_
  refine g_pv 1 [(5, .int .i64 4)] (by kernel_rfl) ?_
  refine wpList_nil ?_
  refine wp_seq ?_
  refine wp_block ?_
  refine wp_seq ?_
  refine wp_region_lit ?_
  refine g_pv 7 [(7, .int .i64 3), (8, .bool false), (9, .bool false), (10, .int .i64 3), (11, .bool false), (12, .bool false), (6, .bool false)] (by kernel_rfl) ?_
  refine wpList_nil ?_
  refine wp_cond_false (by kernel_rfl) ?_
  refine wp_seq ?_
  refine wp_region_lit ?_
  refine g_pv 3 [(14, .bool false), (15, .bool true), (13, .bool true)] (by kernel_rfl) ?_
  refine wpList_nil ?_
  refine wp_cond_true (by kernel_rfl) ?_
  refine wp_seq ?_
  refine wp_region_lit ?_
  refine g_pv 2 [(16, .int .i64 4), (4, .int .i64 4)] (by kernel_rfl) ?_
  refine wpList_nil ?_
  refine wp_ret (inBlock_ret (then_ret ?_))
  exact g_ret (.int .i64 4) (by kernel_rfl) (by kernel_rfl) ⟨rfl, (Below.refl w.heap.size _)⟩
set_option maxRecDepth 100000 in
set_option maxHeartbeats 1000000 in
theorem node_Max3i (w : World) :
    Calls Tryz.prog 70 #[.int .i64 3, .bool false] w (Ret (.int .i64 18) w) := by
  refine calls_of_wp Tryz.func70 rfl ?_
  refine g_fr ⟨#[.int .i64 3, .bool false, undef, undef, undef, undef, undef, undef, undef, undef, undef, undef, undef, undef, undef, undef], []⟩ (by kernel_rfl) ?_
  refine wp_seq ?_
  refine wp_region_lit ?_
  refine g_pv 1 [(4, .int .i64 0)] (by kernel_rfl) ?_
  refine wpList_nil ?_
  refine wp_seq ?_
  refine wp_region_lit ?_
  refine g_pv 2 [(6, .int .i64 3), (7, .bool false)] (by kernel_rfl) ?_
  refine g_op (by kernel_rfl) (op_call (lb := #[]) 67 #[.int .i64 3, .bool false] rfl (by kernel_rfl) (fun _ _ => by kernel_rfl) (by kernel_rfl) ((node_Width3i _).mono ?_))
  rintro e W1 ⟨rfl, hb1⟩
  refine ⟨_, rfl, ?_⟩
  have hB := hb1
  refine g_pv 1 [(5, .int .i64 4)] (by kernel_rfl) ?_
  refine wpList_nil ?_
  refine wp_seq ?_
  refine wp_seq ?_
  refine wp_region_lit ?_
  refine g_pv 2 [(9, .int .i64 4), (10, .bool false)] (by kernel_rfl) ?_
  refine wpList_nil ?_
  refine wp_cond_false (by kernel_rfl) ?_
  refine wp_skip ?_
  refine wp_seq ?_
  refine wp_region_lit ?_
  refine g_pv 6 [(11, .int .i64 4), (12, .int .i64 12), (13, .int .i64 19), (14, .int .i64 6), (15, .int .i64 18), (4, .int .i64 18)] (by kernel_rfl) ?_
  refine wpList_nil ?_
  refine wp_ret ?_
  exact g_ret (.int .i64 18) (by kernel_rfl) (by kernel_rfl) ⟨rfl, hB⟩
set_option maxRecDepth 100000 in
set_option maxHeartbeats 1000000 in
theorem node_Width4l (w : World) :
    Calls Tryz.prog 67 #[.int .i64 4, .bool true] w (Ret (.int .i64 16) w) := by
  refine calls_of_wp Tryz.func67 rfl ?_
  refine g_fr ⟨#[.int .i64 4, .bool true, undef, undef, undef, undef, undef, undef, undef, undef, undef, undef, undef, undef, undef, undef, undef, undef, undef, undef, undef, undef, undef, undef, undef, undef, undef, undef, undef, undef, undef], []⟩ (by kernel_rfl) ?_
  refine wp_seq ?_
  refine wp_region_lit ?_
  refine g_pv 1 [(4, .int .i64 0)] (by kernel_rfl) ?_
  refine wpList_nil ?_
  refine wp_seq ?_
  refine wp_region_lit ?_
  refine g_pv 1 [(5, .int .i64 4)] (by kernel_rfl) ?_
  refine wpList_nil ?_
  refine wp_seq ?_
  refine wp_block ?_
  refine wp_seq ?_
  refine wp_region_lit ?_
  refine g_pv 7 [(7, .int .i64 4), (8, .bool false), (9, .bool false), (10, .int .i64 4), (11, .bool false), (12, .bool false), (6, .bool false)] (by kernel_rfl) ?_
  refine wpList_nil ?_
  refine wp_cond_false (by kernel_rfl) ?_
  refine wp_seq ?_
  refine wp_region_lit ?_
  refine g_pv 3 [(14, .bool true), (15, .bool false), (13, .bool false)] (by kernel_rfl) ?_
  refine wpList_nil ?_
  refine wp_cond_false (by kernel_rfl) ?_
  refine wp_skip ?_
  refine wp_seq ?_
  refine wp_seq ?_
  refine wp_region_lit ?_
  refine g_pv 1 [(17, .int .i64 4)] (by kernel_rfl) ?_
  refine wpList_nil ?_
  refine wp_block ?_
  refine wp_seq ?_
  refine wp_block ?_
  refine wp_seq ?_
  refine wp_block ?_
  refine wp_seq ?_
  refine wp_block ?_
  refine wp_seq ?_
  refine wp_seq ?_
  refine wp_seq ?_
  refine wp_region_lit ?_
  refine g_pv 2 [(19, .bool false), (18, .bool false)] (by kernel_rfl) ?_
  refine wpList_nil ?_
  refine wp_cond_false (by kernel_rfl) ?_
  refine wp_skip ?_
  refine wp_seq ?_
  refine wp_seq ?_
  refine wp_region_lit ?_
  refine g_pv 2 [(21, .bool true), (20, .bool true)] (by kernel_rfl) ?_
  refine wpList_nil ?_
  refine wp_cond_true (by kernel_rfl) ?_
  refine wp_exit ?_
  refine then_exit ?_
  refine then_exit ?_
  refine inBlock_pass (by simp) ?_
  refine then_exit ?_
  refine inBlock_hit ?_
  refine wp_region_lit ?_
  refine g_pv 3 [(26, .int .i64 4), (27, .int .i64 12), (5, .int .i64 12)] (by kernel_rfl) ?_
  refine wpList_nil ?_
  refine wp_seq ?_
  refine wp_region_lit ?_
  refine g_pv 3 [(28, .int .i64 12), (29, .int .i64 16), (5, .int .i64 16)] (by kernel_rfl) ?_
  refine wpList_nil ?_
  refine wp_exit ?_
  refine inBlock_hit ?_
  refine wp_seq ?_
  refine wp_region_lit ?_
  refine g_pv 2 [(30, .int .i64 16), (4, .int .i64 16)] (by kernel_rfl) ?_
  refine wpList_nil ?_
  refine wp_ret ?_
  exact g_ret (.int .i64 16) (by kernel_rfl) (by kernel_rfl) ⟨rfl, (Below.refl w.heap.size _)⟩
set_option maxRecDepth 100000 in
set_option maxHeartbeats 1000000 in
theorem node_Max4l (w : World) :
    Calls Tryz.prog 70 #[.int .i64 4, .bool true] w (Ret (.int .i64 9) w) := by
  refine calls_of_wp Tryz.func70 rfl ?_
  refine g_fr ⟨#[.int .i64 4, .bool true, undef, undef, undef, undef, undef, undef, undef, undef, undef, undef, undef, undef, undef, undef], []⟩ (by kernel_rfl) ?_
  refine wp_seq ?_
  refine wp_region_lit ?_
  refine g_pv 1 [(4, .int .i64 0)] (by kernel_rfl) ?_
  refine wpList_nil ?_
  refine wp_seq ?_
  refine wp_region_lit ?_
  refine g_pv 2 [(6, .int .i64 4), (7, .bool true)] (by kernel_rfl) ?_
  refine g_op (by kernel_rfl) (op_call (lb := #[]) 67 #[.int .i64 4, .bool true] rfl (by kernel_rfl) (fun _ _ => by kernel_rfl) (by kernel_rfl) ((node_Width4l _).mono ?_))
  rintro e W1 ⟨rfl, hb1⟩
  refine ⟨_, rfl, ?_⟩
  have hB := hb1
  refine g_pv 1 [(5, .int .i64 16)] (by kernel_rfl) ?_
  refine wpList_nil ?_
  refine wp_seq ?_
  refine wp_seq ?_
  refine wp_region_lit ?_
  refine g_pv 2 [(9, .int .i64 16), (10, .bool false)] (by kernel_rfl) ?_
  refine wpList_nil ?_
  refine wp_cond_false (by kernel_rfl) ?_
  refine wp_skip ?_
  refine wp_seq ?_
  refine wp_region_lit ?_
  refine g_pv 6 [(11, .int .i64 16), (12, .int .i64 24), (13, .int .i64 9), (14, .int .i64 3), (15, .int .i64 9), (4, .int .i64 9)] (by kernel_rfl) ?_
  refine wpList_nil ?_
  refine wp_ret ?_
  exact g_ret (.int .i64 9) (by kernel_rfl) (by kernel_rfl) ⟨rfl, hB⟩
set_option maxRecDepth 100000 in
set_option maxHeartbeats 1000000 in
theorem node_Width4i (w : World) :
    Calls Tryz.prog 67 #[.int .i64 4, .bool false] w (Ret (.int .i64 4) w) := by
  refine calls_of_wp Tryz.func67 rfl ?_
  refine g_fr ⟨#[.int .i64 4, .bool false, undef, undef, undef, undef, undef, undef, undef, undef, undef, undef, undef, undef, undef, undef, undef, undef, undef, undef, undef, undef, undef, undef, undef, undef, undef, undef, undef, undef, undef], []⟩ (by kernel_rfl) ?_
  refine wp_seq ?_
  refine wp_region_lit ?_
  refine g_pv 1 [(4, .int .i64 0)] (by kernel_rfl) ?_
  refine wpList_nil ?_
  refine wp_seq ?_
  refine wp_region_lit ?_
  refine g_pv 1 [(5, .int .i64 4)] (by kernel_rfl) ?_
  refine wpList_nil ?_
  refine wp_seq ?_
  refine wp_block ?_
  refine wp_seq ?_
  refine wp_region_lit ?_
  refine g_pv 7 [(7, .int .i64 4), (8, .bool false), (9, .bool false), (10, .int .i64 4), (11, .bool false), (12, .bool false), (6, .bool false)] (by kernel_rfl) ?_
  refine wpList_nil ?_
  refine wp_cond_false (by kernel_rfl) ?_
  refine wp_seq ?_
  refine wp_region_lit ?_
  refine g_pv 3 [(14, .bool false), (15, .bool true), (13, .bool true)] (by kernel_rfl) ?_
  refine wpList_nil ?_
  refine wp_cond_true (by kernel_rfl) ?_
  refine wp_seq ?_
  refine wp_region_lit ?_
  refine g_pv 2 [(16, .int .i64 4), (4, .int .i64 4)] (by kernel_rfl) ?_
  refine wpList_nil ?_
  refine wp_ret (inBlock_ret (then_ret ?_))
  exact g_ret (.int .i64 4) (by kernel_rfl) (by kernel_rfl) ⟨rfl, (Below.refl w.heap.size _)⟩
set_option maxRecDepth 100000 in
set_option maxHeartbeats 1000000 in
theorem node_Max4i (w : World) :
    Calls Tryz.prog 70 #[.int .i64 4, .bool false] w (Ret (.int .i64 18) w) := by
  refine calls_of_wp Tryz.func70 rfl ?_
  refine g_fr ⟨#[.int .i64 4, .bool false, undef, undef, undef, undef, undef, undef, undef, undef, undef, undef, undef, undef, undef, undef], []⟩ (by kernel_rfl) ?_
  refine wp_seq ?_
  refine wp_region_lit ?_
  refine g_pv 1 [(4, .int .i64 0)] (by kernel_rfl) ?_
  refine wpList_nil ?_
  refine wp_seq ?_
  refine wp_region_lit ?_
  refine g_pv 2 [(6, .int .i64 4), (7, .bool false)] (by kernel_rfl) ?_
  refine g_op (by kernel_rfl) (op_call (lb := #[]) 67 #[.int .i64 4, .bool false] rfl (by kernel_rfl) (fun _ _ => by kernel_rfl) (by kernel_rfl) ((node_Width4i _).mono ?_))
  rintro e W1 ⟨rfl, hb1⟩
  refine ⟨_, rfl, ?_⟩
  have hB := hb1
  refine g_pv 1 [(5, .int .i64 4)] (by kernel_rfl) ?_
  refine wpList_nil ?_
  refine wp_seq ?_
  refine wp_seq ?_
  refine wp_region_lit ?_
  refine g_pv 2 [(9, .int .i64 4), (10, .bool false)] (by kernel_rfl) ?_
  refine wpList_nil ?_
  refine wp_cond_false (by kernel_rfl) ?_
  refine wp_skip ?_
  refine wp_seq ?_
  refine wp_region_lit ?_
  refine g_pv 6 [(11, .int .i64 4), (12, .int .i64 12), (13, .int .i64 19), (14, .int .i64 6), (15, .int .i64 18), (4, .int .i64 18)] (by kernel_rfl) ?_
  refine wpList_nil ?_
  refine wp_ret ?_
  exact g_ret (.int .i64 18) (by kernel_rfl) (by kernel_rfl) ⟨rfl, hB⟩
set_option maxRecDepth 100000 in
set_option maxHeartbeats 1000000 in
theorem node_Width5l (w : World) :
    Calls Tryz.prog 67 #[.int .i64 5, .bool true] w (Ret (.int .i64 4) w) := by
  refine calls_of_wp Tryz.func67 rfl ?_
  refine g_fr ⟨#[.int .i64 5, .bool true, undef, undef, undef, undef, undef, undef, undef, undef, undef, undef, undef, undef, undef, undef, undef, undef, undef, undef, undef, undef, undef, undef, undef, undef, undef, undef, undef, undef, undef], []⟩ (by kernel_rfl) ?_
  refine wp_seq ?_
  refine wp_region_lit ?_
  refine g_pv 1 [(4, .int .i64 0)] (by kernel_rfl) ?_
  refine wpList_nil ?_
  refine wp_seq ?_
  refine wp_region_lit ?_
  refine g_pv 1 [(5, .int .i64 4)] (by kernel_rfl) ?_
  refine wpList_nil ?_
  refine wp_seq ?_
  refine wp_block ?_
  refine wp_seq ?_
  refine wp_region_lit ?_
  refine g_pv 7 [(7, .int .i64 5), (8, .bool false), (9, .bool false), (10, .int .i64 5), (11, .bool false), (12, .bool false), (6, .bool false)] (by kernel_rfl) ?_
  refine wpList_nil ?_
  refine wp_cond_false (by kernel_rfl) ?_
  refine wp_seq ?_
  refine wp_region_lit ?_
  refine g_pv 3 [(14, .bool true), (15, .bool false), (13, .bool false)] (by kernel_rfl) ?_
  refine wpList_nil ?_
  refine wp_cond_false (by kernel_rfl) ?_
  refine wp_skip ?_
  refine wp_seq ?_
  refine wp_seq ?_
  refine wp_region_lit ?_
  refine g_pv 1 [(17, .int .i64 5)] (by kernel_rfl) ?_
  refine wpList_nil ?_
  refine wp_block ?_
  refine wp_seq ?_
  refine wp_block ?_
  refine wp_seq ?_
  refine wp_block ?_
  refine wp_seq ?_
  refine wp_block ?_
  refine wp_seq ?_
  refine wp_seq ?_
  refine wp_seq ?_
  refine wp_region_lit ?_
  refine g_pv 2 [(19, .bool false), (18, .bool false)] (by kernel_rfl) ?_
  refine wpList_nil ?_
  refine wp_cond_false (by kernel_rfl) ?_
  refine wp_skip ?_
  refine wp_seq ?_
  refine wp_seq ?_
  refine wp_region_lit ?_
  refine g_pv 2 [(21, .bool false), (20, .bool false)] (by kernel_rfl) ?_
  refine wpList_nil ?_
  refine wp_cond_false (by kernel_rfl) ?_
  refine wp_skip ?_
  refine wp_seq ?_
  refine wp_region_lit ?_
  refine g_pv 2 [(23, .bool false), (22, .bool false)] (by kernel_rfl) ?_
  refine wpList_nil ?_
  refine wp_cond_false (by kernel_rfl) ?_
  refine wp_skip ?_
  refine wp_exit ?_
  refine inBlock_pass (by simp) ?_
  refine then_exit ?_
  refine inBlock_pass (by simp) ?_
  refine then_exit ?_
  refine inBlock_pass (by simp) ?_
  refine then_exit ?_
  refine inBlock_hit ?_
  refine wp_seq ?_
  refine wp_region_lit ?_
  refine g_pv 2 [(30, .int .i64 4), (4, .int .i64 4)] (by kernel_rfl) ?_
  refine wpList_nil ?_
  refine wp_ret ?_
  exact g_ret (.int .i64 4) (by kernel_rfl) (by kernel_rfl) ⟨rfl, (Below.refl w.heap.size _)⟩
set_option maxRecDepth 100000 in
set_option maxHeartbeats 1000000 in
theorem node_Max5l (w : World) :
    Calls Tryz.prog 70 #[.int .i64 5, .bool true] w (Ret (.int .i64 18) w) := by
  refine calls_of_wp Tryz.func70 rfl ?_
  refine g_fr ⟨#[.int .i64 5, .bool true, undef, undef, undef, undef, undef, undef, undef, undef, undef, undef, undef, undef, undef, undef], []⟩ (by kernel_rfl) ?_
  refine wp_seq ?_
  refine wp_region_lit ?_
  refine g_pv 1 [(4, .int .i64 0)] (by kernel_rfl) ?_
  refine wpList_nil ?_
  refine wp_seq ?_
  refine wp_region_lit ?_
  refine g_pv 2 [(6, .int .i64 5), (7, .bool true)] (by kernel_rfl) ?_
  refine g_op (by kernel_rfl) (op_call (lb := #[]) 67 #[.int .i64 5, .bool true] rfl (by kernel_rfl) (fun _ _ => by kernel_rfl) (by kernel_rfl) ((node_Width5l _).mono ?_))
  rintro e W1 ⟨rfl, hb1⟩
  refine ⟨_, rfl, ?_⟩
  have hB := hb1
  refine g_pv 1 [(5, .int .i64 4)] (by kernel_rfl) ?_
  refine wpList_nil ?_
  refine wp_seq ?_
  refine wp_seq ?_
  refine wp_region_lit ?_
  refine g_pv 2 [(9, .int .i64 4), (10, .bool false)] (by kernel_rfl) ?_
  refine wpList_nil ?_
  refine wp_cond_false (by kernel_rfl) ?_
  refine wp_skip ?_
  refine wp_seq ?_
  refine wp_region_lit ?_
  refine g_pv 6 [(11, .int .i64 4), (12, .int .i64 12), (13, .int .i64 19), (14, .int .i64 6), (15, .int .i64 18), (4, .int .i64 18)] (by kernel_rfl) ?_
  refine wpList_nil ?_
  refine wp_ret ?_
  exact g_ret (.int .i64 18) (by kernel_rfl) (by kernel_rfl) ⟨rfl, hB⟩
set_option maxRecDepth 100000 in
set_option maxHeartbeats 1000000 in
theorem node_Width5i (w : World) :
    Calls Tryz.prog 67 #[.int .i64 5, .bool false] w (Ret (.int .i64 4) w) := by
  refine calls_of_wp Tryz.func67 rfl ?_
  refine g_fr ⟨#[.int .i64 5, .bool false, undef, undef, undef, undef, undef, undef, undef, undef, undef, undef, undef, undef, undef, undef, undef, undef, undef, undef, undef, undef, undef, undef, undef, undef, undef, undef, undef, undef, undef], []⟩ (by kernel_rfl) ?_
  refine wp_seq ?_
  refine wp_region_lit ?_
  refine g_pv 1 [(4, .int .i64 0)] (by kernel_rfl) ?_
  refine wpList_nil ?_
  refine wp_seq ?_
  refine wp_region_lit ?_
  refine g_pv 1 [(5, .int .i64 4)] (by kernel_rfl) ?_
  refine wpList_nil ?_
  refine wp_seq ?_
  refine wp_block ?_
  refine wp_seq ?_
  refine wp_region_lit ?_
  refine g_pv 7 [(7, .int .i64 5), (8, .bool false), (9, .bool false), (10, .int .i64 5), (11, .bool false), (12, .bool false), (6, .bool false)] (by kernel_rfl) ?_
  refine wpList_nil ?_
  refine wp_cond_false (by kernel_rfl) ?_
  refine wp_seq ?_
  refine wp_region_lit ?_
  refine g_pv 3 [(14, .bool false), (15, .bool true), (13, .bool true)] (by kernel_rfl) ?_
  refine wpList_nil ?_
  refine wp_cond_true (by kernel_rfl) ?_
  refine wp_seq ?_
  refine wp_region_lit ?_
  refine g_pv 2 [(16, .int .i64 4), (4, .int .i64 4)] (by kernel_rfl) ?_
  refine wpList_nil ?_
  refine wp_ret (inBlock_ret (then_ret ?_))
  exact g_ret (.int .i64 4) (by kernel_rfl) (by kernel_rfl) ⟨rfl, (Below.refl w.heap.size _)⟩
set_option maxRecDepth 100000 in
set_option maxHeartbeats 1000000 in
theorem node_Max5i (w : World) :
    Calls Tryz.prog 70 #[.int .i64 5, .bool false] w (Ret (.int .i64 18) w) := by
  refine calls_of_wp Tryz.func70 rfl ?_
  refine g_fr ⟨#[.int .i64 5, .bool false, undef, undef, undef, undef, undef, undef, undef, undef, undef, undef, undef, undef, undef, undef], []⟩ (by kernel_rfl) ?_
  refine wp_seq ?_
  refine wp_region_lit ?_
  refine g_pv 1 [(4, .int .i64 0)] (by kernel_rfl) ?_
  refine wpList_nil ?_
  refine wp_seq ?_
  refine wp_region_lit ?_
  refine g_pv 2 [(6, .int .i64 5), (7, .bool false)] (by kernel_rfl) ?_
  refine g_op (by kernel_rfl) (op_call (lb := #[]) 67 #[.int .i64 5, .bool false] rfl (by kernel_rfl) (fun _ _ => by kernel_rfl) (by kernel_rfl) ((node_Width5i _).mono ?_))
  rintro e W1 ⟨rfl, hb1⟩
  refine ⟨_, rfl, ?_⟩
  have hB := hb1
  refine g_pv 1 [(5, .int .i64 4)] (by kernel_rfl) ?_
  refine wpList_nil ?_
  refine wp_seq ?_
  refine wp_seq ?_
  refine wp_region_lit ?_
  refine g_pv 2 [(9, .int .i64 4), (10, .bool false)] (by kernel_rfl) ?_
  refine wpList_nil ?_
  refine wp_cond_false (by kernel_rfl) ?_
  refine wp_skip ?_
  refine wp_seq ?_
  refine wp_region_lit ?_
  refine g_pv 6 [(11, .int .i64 4), (12, .int .i64 12), (13, .int .i64 19), (14, .int .i64 6), (15, .int .i64 18), (4, .int .i64 18)] (by kernel_rfl) ?_
  refine wpList_nil ?_
  refine wp_ret ?_
  exact g_ret (.int .i64 18) (by kernel_rfl) (by kernel_rfl) ⟨rfl, hB⟩
/-- the bytes of a value -/
def widN (t : Int) (leaf : Bool) : Nat := if leaf = false then 4 else if t = 2 then 8 else if t = 3 then 24 else if t = 4 then 16 else 4
/-- the entries of a full node -/
def maxN (t : Int) (leaf : Bool) : Nat := if leaf = false then 18 else if t = 2 then 12 else if t = 3 then 6 else if t = 4 then 9 else 18
theorem node_Width (t : Int) (leaf : Bool) (h1 : 1 ≤ t) (h2 : t ≤ 5) (w : World) : Calls Tryz.prog 67 #[.int .i64 t, .bool leaf] w (Ret (.int .i64 (widN t leaf : Int)) w) := by
  obtain rfl | rfl | rfl | rfl | rfl : t = 1 ∨ t = 2 ∨ t = 3 ∨ t = 4 ∨ t = 5 := by omega
  all_goals cases leaf
  · exact node_Width1i w
  · exact node_Width1l w
  · exact node_Width2i w
  · exact node_Width2l w
  · exact node_Width3i w
  · exact node_Width3l w
  · exact node_Width4i w
  · exact node_Width4l w
  · exact node_Width5i w
  · exact node_Width5l w
theorem node_Max (t : Int) (leaf : Bool) (h1 : 1 ≤ t) (h2 : t ≤ 5) (w : World) : Calls Tryz.prog 70 #[.int .i64 t, .bool leaf] w (Ret (.int .i64 (maxN t leaf : Int)) w) := by
  obtain rfl | rfl | rfl | rfl | rfl : t = 1 ∨ t = 2 ∨ t = 3 ∨ t = 4 ∨ t = 5 := by omega
  all_goals cases leaf
  · exact node_Max1i w
  · exact node_Max1l w
  · exact node_Max2i w
  · exact node_Max2l w
  · exact node_Max3i w
  · exact node_Max3l w
  · exact node_Max4i w
  · exact node_Max4l w
  · exact node_Max5i w
  · exact node_Max5l w
theorem maxN_pos (t : Int) (leaf : Bool) : 1 ≤ maxN t leaf ∧ maxN t leaf ≤ 18 := by unfold maxN; repeat' split
                                                                                    all_goals decide
theorem run_quo {P : Program} {a : Act} {o : Oper} {t : TypeId} {x y : Operand} {t2 : TypeId} {p q r : Int} {k : IntKind} (ho : o.op = .binOp .quo t x y t2) (hx : a.eval x = .int k p) (hy : a.eval y = .int k q) (hq : q ≠ 0) (hr : k.wrap (Int.tdiv p q) = r) (w : World) :
    (execOp a.eval o).run P w = .ok (.value (.int k r)) w := by
  subst hr
  have hb : (binOp .quo t (.int k p) (.int k q)).run P w = .ok (.int k (k.wrap (p.tdiv q))) w := by
    simp [binOp, Op.intDiv, hq]
  have hg : (eqGuard .quo t x y (.int k p) (.int k q)).run P w = .ok () w := rfl
  simp only [execOp, ho, hx, hy, Sem.run_bind, hg, Result.andThen_ok, hb]
  rfl
/-- so many nodes of m entries each hold n entries; one at least -/
def ovN (n m : Nat) : Nat := max 1 ((n + m - 1) / m)
theorem max_cast (a b : Nat) : (if (b : Int) > (a : Int) then (b : Int) else (a : Int)) = ((max a b : Nat) : Int) := by split <;> omega
theorem ovN_pos (n m : Nat) : 1 ≤ ovN n m := by unfold ovN; omega
theorem ovN_le (n m : Nat) (hm : 1 ≤ m) : ovN n m ≤ n + 1 := by
  have : (n + m - 1) / m ≤ n := by
    rw [Nat.div_le_iff_le_mul_add_pred (by omega)]
    have := Nat.le_mul_of_pos_left n hm
    omega
  unfold ovN; omega
theorem ov18 {x : Nat} (h : 2 ≤ x) : ovN x 18 ≤ x / 2 := by unfold ovN; omega
set_option maxRecDepth 100000 in
set_option maxHeartbeats 1000000 in
theorem tall_over (n m : Nat) (w : World) (hn : n ≤ 1000000) (hm : 1 ≤ m) (hm2 : m ≤ 1000000) :
    Calls Tryz.prog 97 #[.int .i64 (↑n : Int), .int .i64 (↑m : Int)] w (Ret (.int .i64 (ovN n m : Int)) w) := by
  refine calls_of_wp Tryz.func97 rfl ?_
  refine g_fr ⟨#[.int .i64 (↑n : Int), .int .i64 (↑m : Int), undef, undef, undef, undef, undef, undef, undef, undef, undef, undef], []⟩ (by kernel_rfl) ?_
  refine wp_seq ?_
  refine wp_region_lit ?_
  refine g_pv 1 [(4, .int .i64 0)] (by kernel_rfl) ?_
  refine wpList_nil ?_
  refine wp_seq ?_
  refine wp_region_lit ?_
  refine g_pv 2 [(5, .int .i64 (↑n : Int)), (6, .int .i64 (↑m : Int))] (by kernel_rfl) ?_
  refine g_op (by kernel_rfl) (op_val (run_wrap .i64 ((↑n : Int) + (↑m : Int)) (↑(n + m) : Int) (by kernel_rfl) ((show IntKind.i64.wrap ((↑n : Int) + (↑m : Int)) = ((↑n : Int) + (↑m : Int)) from by first | exact IntWalk.i64_in _ (by omega) | (simp only [IntKind.wrap]; omega)).trans (by omega)) _) ?_)
  refine g_op (by kernel_rfl) (op_val (run_wrap .i64 ((↑(n + m) : Int) - 1) (↑((n + m) - 1) : Int) (by kernel_rfl) ((show IntKind.i64.wrap ((↑(n + m) : Int) - 1) = ((↑(n + m) : Int) - 1) from by first | exact IntWalk.i64_in _ (by omega) | (simp only [IntKind.wrap]; omega)).trans (by omega)) _) ?_)
  refine g_pv 1 [(9, .int .i64 (↑m : Int))] (by kernel_rfl) ?_
  refine g_op (by kernel_rfl) (op_val (run_quo (r := (↑((n + m - 1) / m) : Int)) rfl rfl rfl (by omega) (quo_nat (n + m - 1) m (by omega) (by omega)) _) ?_)
  refine g_op (by kernel_rfl) (op_eq (.int .i64 (↑(ovN n m) : Int)) (.int .i64 (if (↑((n + m - 1) / m) : Int) > (1 : Int) then (↑((n + m - 1) / m) : Int) else (1 : Int))) (by kernel_rfl) (congrArg (Value.int .i64) (max_cast 1 ((n + m - 1) / m))) ?_)
  refine g_pv 1 [(4, .int .i64 (↑(ovN n m) : Int))] (by kernel_rfl) ?_
  refine wpList_nil ?_
  refine wp_ret ?_
  exact g_ret (.int .i64 (↑(ovN n m) : Int)) (by kernel_rfl) (by kernel_rfl) ⟨rfl, (Below.refl w.heap.size _)⟩
def lenOf : Value → Nat
  | .slice _ n _ => n
  | _ => 0
def nv (n : Nat) : Value := .int .i64 (n : Int)
/-- the levels of a tree from x nodes on -/
def levs (x : Nat) : List Nat := if h : x ≤ 1 then [x] else x :: levs (ovN x 18)
termination_by x
decreasing_by have := ov18 (x := x) (by omega); omega
theorem levs_one {x : Nat} (h : x ≤ 1) : levs x = [x] := by rw [levs]; simp [h]
theorem levs_more {x : Nat} (h : ¬ x ≤ 1) : levs x = x :: levs (ovN x 18) := by rw [levs]; simp [h]
theorem levs_sum {x : Nat} (h : 1 ≤ x) : (levs x).sum ≤ 2 * x := by
  induction x using Nat.strongRecOn with
  | _ x ih =>
    by_cases h1 : x ≤ 1
    · rw [levs_one h1]; simp; omega
    · rw [levs_more h1, List.sum_cons]
      have h2 := ov18 (x := x) (by omega)
      have := ih (ovN x 18) (by omega) (ovN_pos _ _)
      omega
theorem levs_len {x : Nat} (h : 1 ≤ x) : (levs x).length ≤ x := by
  induction x using Nat.strongRecOn with
  | _ x ih =>
    by_cases h1 : x ≤ 1
    · rw [levs_one h1]; simpa using h
    · rw [levs_more h1, List.length_cons]
      have h2 := ov18 (x := x) (by omega)
      have := ih (ovN x 18) (by omega) (ovN_pos _ _)
      omega
/-- a slice of numbers -/
theorem nv_elem {w : World} {b : Option Addr} {n c : Nat} {l : List Nat} (h : Sl w (.slice b n c) n (l.map nv)) (hl : l.length = n) {k : Nat} (hk : k < n) : b.isSome = true ∧ w.cell? (elemAddr b (k * 1)) = some (.int .i64 ((l.getD k 0 : Nat) : Int)) := by
  have e : l.map nv = (l.map fun x : Nat => (x : Int)).map (Value.int .i64) := by simp [nv]
  rw [e] at h
  have := IntsN.elem h (by simpa using hl) hk
  rw [show (l.map fun x : Nat => (x : Int)).getD k 0 = ((l.getD k 0 : Nat) : Int) by simp [List.getD, List.getElem?_eq_getElem (show k < l.length by omega)]] at this
  exact this
theorem getD_last {xs : List Nat} {x j : Nat} (h : xs.length = j) : (xs ++ [x]).getD j 0 = x := by subst h; simp [List.getD]
theorem take_sum {L : List Nat} {k : Nat} (h : k < L.length) : (L.take (k + 1)).sum = (L.take k).sum + L.getD k 0 := by
  rw [List.take_add_one, List.sum_append]; simp [List.getD, List.getElem?_eq_getElem h]
theorem take_le {L : List Nat} (k : Nat) : (L.take k).sum ≤ L.sum := by
  conv => rhs; rw [← List.take_append_drop k L, List.sum_append]
  omega
/-- the levels of a tree of n entries -/
def levL (t : Int) (n : Nat) : List Nat := levs (ovN n (maxN t true))
/-- its nodes -/
def nodN (t : Int) (n : Nat) : Nat := (levL t n).sum
theorem levL_len (t : Int) (n : Nat) : (levL t n).length ≤ n + 1 := by
  have := levs_len (ovN_pos n (maxN t true)); have := ovN_le n (maxN t true) (maxN_pos t true).1; unfold levL; omega
theorem nodN_le (t : Int) (n : Nat) : nodN t n ≤ 2 * n + 2 := by
  have := levs_sum (ovN_pos n (maxN t true)); have := ovN_le n (maxN t true) (maxN_pos t true).1; unfold nodN levL; omega
set_option maxRecDepth 100000 in
set_option maxHeartbeats 4000000 in
theorem tall_Levels (t : Int) (n : Nat) (w : World) (h1 : 1 ≤ t) (h2 : t ≤ 5) (hn : n ≤ 32768) :
    Calls Tryz.prog 68 #[.int .i64 t, .int .i64 (↑n : Int)] w (RetS (fun w' r => ∃ p c, r = .slice p (levL t n).length c ∧ w'.ownsRow w.heap.size 3 1 (.slice p (levL t n).length c) (levL t n).length ((levL t n).map nv)) w) := by
  have hm1 := (maxN_pos t true).1
  have hm2 := (maxN_pos t true).2
  have hov := ovN_le n (maxN t true) hm1
  have hop := ovN_pos n (maxN t true)
  refine calls_of_wp Tryz.func68 rfl ?_
  refine g_fr ⟨#[.int .i64 t, .int .i64 (↑n : Int), undef, undef, undef, undef, undef, undef, undef, undef, undef, undef, undef, undef, undef, undef, undef, undef, undef, undef, undef, undef, undef, undef, undef, undef, undef, undef, undef, undef, undef, undef, undef, undef, undef, undef, undef, undef, undef, undef, undef, undef, undef, undef, undef], []⟩ (by kernel_rfl) ?_
  refine wp_seq ?_
  refine wp_region_lit ?_
  refine g_pv 1 [(4, .slice none 0 0)] (by kernel_rfl) ?_
  refine wpList_nil ?_
  refine wp_seq ?_
  refine wp_region_lit ?_
  refine g_pv 1 [(8, .int .i64 t)] (by kernel_rfl) ?_
  refine g_op (by kernel_rfl) (op_call (lb := #[]) 70 #[.int .i64 t, .bool true] rfl (by kernel_rfl) (fun _ _ => by kernel_rfl) (by kernel_rfl) ((node_Max t true h1 h2 _).mono ?_))
  rintro e W1 ⟨rfl, hb1⟩
  refine ⟨_, rfl, ?_⟩
  have hB := hb1
  refine g_pv 1 [(10, .int .i64 t)] (by kernel_rfl) ?_
  refine g_op (by kernel_rfl) (op_call (lb := #[]) 70 #[.int .i64 t, .bool false] rfl (by kernel_rfl) (fun _ _ => by kernel_rfl) (by kernel_rfl) ((node_Max t false h1 h2 _).mono ?_))
  rintro e W2 ⟨rfl, hb2⟩
  refine ⟨_, rfl, ?_⟩
  replace hB := Bl.next hB hb2
  refine g_pv 2 [(5, .int .i64 (↑(maxN t true) : Int)), (6, .int .i64 18)] (by kernel_rfl) ?_
  refine wpList_nil ?_
  refine wp_seq ?_
  refine wp_seq ?_
  refine wp_region_lit ?_
  refine g_pv 3 [(12, .int .i64 (↑(maxN t true) : Int)), (13, .bool ((↑(maxN t true) : Int) == (0 : Int))), (14, .bool ((↑(maxN t true) : Int) == (0 : Int)))] (by kernel_rfl) ?_
  have hc3 : (((↑(maxN t true) : Int) == (0 : Int)) : Bool) = false := by simp; omega
  refine g_b [13, 14] _ _ hc3 (by kernel_rfl) ?_
  refine g_pv 4 [(15, .int .i64 (↑n : Int)), (16, .bool (decide ((↑n : Int) < (0 : Int)))), (17, .bool (decide ((↑n : Int) < (0 : Int)))), (18, .bool (decide ((↑n : Int) < (0 : Int))))] (by kernel_rfl) ?_
  have hc4 : (decide ((↑n : Int) < (0 : Int)) : Bool) = false := decide_eq_false (by omega)
  refine g_b [16, 17, 18] _ _ hc4 (by kernel_rfl) ?_
  refine g_pv 3 [(19, .int .i64 (↑n : Int)), (20, .bool (decide ((↑n : Int) > (32768 : Int)))), (21, .bool (decide ((↑n : Int) > (32768 : Int))))] (by kernel_rfl) ?_
  refine wpList_nil ?_
  refine wp_cond_split (t := decide ((↑n : Int) > (32768 : Int))) (by kernel_rfl) (fun hh => absurd (hh.symm.trans (show (decide ((↑n : Int) > (32768 : Int)) : Bool) = false from decide_eq_false (by omega))) (by decide)) (fun _ => ?_)
  refine wp_skip ?_
  refine wp_seq ?_
  refine wp_region_lit ?_
  refine g_pv 2 [(22, .int .i64 (↑n : Int)), (23, .int .i64 (↑(maxN t true) : Int))] (by kernel_rfl) ?_
  refine g_op (by kernel_rfl) (op_call (lb := #[]) 97 #[.int .i64 (↑n : Int), .int .i64 (↑(maxN t true) : Int)] rfl (by kernel_rfl) (fun _ _ => by kernel_rfl) (by kernel_rfl) ((tall_over n (maxN t true) _ (by omega) hm1 (by omega)).mono ?_))
  rintro e W6 ⟨rfl, hb6⟩
  refine ⟨_, rfl, ?_⟩
  replace hB := Bl.next hB hb6
  refine g_op (by kernel_rfl) (op_buildSlice 3 [.int .i64 (↑(ovN n (maxN t true)) : Int)] rfl (by kernel_rfl) ?_)
  intro b7 W7 n7
  have g7 := n7.ge hB
  replace hB := Bl.next hB n7.below
  have k7 := n7.blk
  refine g_pv 1 [(7, .slice (some ⟨b7, 0, none⟩) 1 1)] (by kernel_rfl) ?_
  refine wpList_nil ?_
  refine wp_seq ?_
  refine wp_block ?_
  refine g_fr ⟨#[.int .i64 t, .int .i64 (↑n : Int), undef, undef, .slice none 0 0, .int .i64 (↑(maxN t true) : Int), .int .i64 18, .slice (some ⟨b7, 0, none⟩) 1 1, .int .i64 t, .int .i64 (↑(maxN t true) : Int), .int .i64 t, .int .i64 18, .int .i64 (↑(maxN t true) : Int), .bool false, .bool false, .int .i64 (↑n : Int), .bool false, .bool false, .bool false, .int .i64 (↑n : Int), .bool (decide ((↑n : Int) > (32768 : Int))), .bool (decide ((↑n : Int) > (32768 : Int))), .int .i64 (↑n : Int), .int .i64 (↑(maxN t true) : Int), .int .i64 (↑(ovN n (maxN t true)) : Int), .slice (some ⟨b7, 0, none⟩) 1 1, undef, undef, undef, undef, undef, undef, undef, undef, undef, undef, undef, undef, undef, undef, undef, undef, undef, undef, undef], []⟩ (by kernel_rfl) ?_
  refine wp_loop (fun act V => ∃ (j x : Nat) (xs : List Nat) (p : Option Addr) (c : Nat) (x8 : Nat → Value), act = ⟨#[.int .i64 t, .int .i64 (↑n : Int), undef, undef, .slice none 0 0, .int .i64 (↑(maxN t true) : Int), .int .i64 18, .slice p (j + 1) c, .int .i64 t, .int .i64 (↑(maxN t true) : Int), .int .i64 t, .int .i64 18, .int .i64 (↑(maxN t true) : Int), .bool false, .bool false, .int .i64 (↑n : Int), .bool false, .bool false, .bool false, .int .i64 (↑n : Int), .bool (decide ((↑n : Int) > (32768 : Int))), .bool (decide ((↑n : Int) > (32768 : Int))), .int .i64 (↑n : Int), .int .i64 (↑(maxN t true) : Int), .int .i64 (↑(ovN n (maxN t true)) : Int), .slice (some ⟨b7, 0, none⟩) 1 1, (x8 0), (x8 1), (x8 2), (x8 3), (x8 4), (x8 5), (x8 6), (x8 7), (x8 8), (x8 9), (x8 10), (x8 11), (x8 12), (x8 13), (x8 14), (x8 15), (x8 16), (x8 17), undef], []⟩ ∧ Below w.heap.size w V ∧ V.ownsRow w.heap.size 3 1 (.slice p (j + 1) c) (j + 1) ((xs ++ [x]).map nv) ∧ xs.length = j ∧ 1 ≤ x ∧ x ≤ 32769 ∧ xs ++ levs x = levL t n ∧ j + x ≤ 40000) (fun act V => 40000 - (lenOf (act.tmps.getD 7 undef))) ⟨0, (ovN n (maxN t true)), [], _, _, (pk [undef, undef, undef, undef, undef, undef, undef, undef, undef, undef, undef, undef, undef, undef, undef, undef, undef, undef]), rfl, hB, own_of_blk (size := 1) (n := 1) k7 g7 rfl (by unfold maxLen; decide), rfl, hop, by omega, rfl, by omega⟩ ?_
  rintro _ W8 ⟨j, x, xs, p, c, x8, rfl, hB, ho, hxl, hx1, hx2, hxs, hj⟩
  refine wp_seq ?_
  refine wp_seq ?_
  refine wp_region_lit ?_
  refine g_pv 3 [(26, .slice p (j + 1) c), (27, .slice p (j + 1) c), (28, .int .i64 (↑(j + 1) : Int))] (by kernel_rfl) ?_
  refine g_op (by kernel_rfl) (op_val (run_wrap .i64 ((↑(j + 1) : Int) - 1) (↑j : Int) (by kernel_rfl) ((show IntKind.i64.wrap ((↑(j + 1) : Int) - 1) = ((↑(j + 1) : Int) - 1) from IntWalk.i64_in _ (by omega)).trans (by omega)) _) ?_)
  refine g_op (by kernel_rfl) (op_val (run_indexA (size := 1) (k := j) (b := p) (n := (j + 1)) (c := c) (i := (↑j : Int)) (ki := .i64) rfl (by kernel_rfl) (by kernel_rfl) rfl (by omega) (nv_elem (own_sl ho) (by simp [hxl]) (k := j) (by omega)).1 Tryz.underlying31 (by kernel_rfl) _) ?_)
  refine g_op (by kernel_rfl) (op_load (elemAddr p (j * 1)) (.int .i64 (↑x : Int)) rfl (by kernel_rfl) (by kernel_rfl) (by have := (nv_elem (own_sl ho) (by simp [hxl]) (k := j) (by omega)).2; rwa [getD_last hxl] at this) ?_)
  refine g_pv 1 [(32, .bool (decide ((↑x : Int) > (1 : Int))))] (by kernel_rfl) ?_
  refine wpList_nil ?_
  refine wp_cond_split (t := decide ((↑x : Int) > (1 : Int))) (by kernel_rfl) (fun hc9 => ?_) (fun hc9 => ?_)
  · have hc9 := of_decide_eq_true hc9
    refine wp_skip ?_
    refine wp_block ?_
    refine wp_region_lit ?_
    refine g_pv 4 [(33, .slice p (j + 1) c), (34, .slice p (j + 1) c), (35, .slice p (j + 1) c), (36, .int .i64 (↑(j + 1) : Int))] (by kernel_rfl) ?_
    refine g_op (by kernel_rfl) (op_val (run_wrap .i64 ((↑(j + 1) : Int) - 1) (↑j : Int) (by kernel_rfl) ((show IntKind.i64.wrap ((↑(j + 1) : Int) - 1) = ((↑(j + 1) : Int) - 1) from IntWalk.i64_in _ (by omega)).trans (by omega)) _) ?_)
    refine g_op (by kernel_rfl) (op_val (run_indexA (size := 1) (k := j) (b := p) (n := (j + 1)) (c := c) (i := (↑j : Int)) (ki := .i64) rfl (by kernel_rfl) (by kernel_rfl) rfl (by omega) (nv_elem (own_sl ho) (by simp [hxl]) (k := j) (by omega)).1 Tryz.underlying31 (by kernel_rfl) _) ?_)
    refine g_op (by kernel_rfl) (op_load (elemAddr p (j * 1)) (.int .i64 (↑x : Int)) rfl (by kernel_rfl) (by kernel_rfl) (by have := (nv_elem (own_sl ho) (by simp [hxl]) (k := j) (by omega)).2; rwa [getD_last hxl] at this) ?_)
    refine g_pv 1 [(40, .int .i64 18)] (by kernel_rfl) ?_
    refine g_op (by kernel_rfl) (op_call (lb := #[]) 97 #[.int .i64 (↑x : Int), .int .i64 18] rfl (by kernel_rfl) (fun _ _ => by kernel_rfl) (by kernel_rfl) ((tall_over x 18 _ (by omega) (by decide) (by decide)).mono ?_))
    rintro e W10 ⟨rfl, hb10⟩
    refine ⟨_, rfl, ?_⟩
    replace hB := Bl.next hB hb10
    replace ho := own_below ho hb10
    refine g_op (by kernel_rfl) (op_buildSlice 3 [.int .i64 (↑(ovN x 18) : Int)] rfl (by kernel_rfl) ?_)
    intro b11 W11 n11
    have g11 := n11.ge hB
    have r11_ho := own_ne ho n11
    replace hB := Bl.next hB n11.below
    replace ho := own_below ho n11.below
    have k11 := n11.blk
    refine g_op (by kernel_rfl) (op_app (e := 3) (n := j + 1) (xs := (xs ++ [x]).map nv) (m := 1) (news := [.int .i64 (↑(ovN x 18) : Int)]) (.int .i64 0) 1 8 (j + 1 + 1) (((xs ++ [x]) ++ [ovN x 18]).map nv) rfl Tryz.underlying31 (by kernel_rfl) rfl (by decide) (by kernel_rfl) ho (by kernel_rfl) (k11.sl 1 1 (by decide) (by decide)) rfl (by simp [Value.oneCell']) (by unfold maxLen; omega) (by omega) hB.size (by rfl) (by simp [nv]) ?_)
    intro p12 c12 W12 o12 hg12 hb12
    replace hB := hB.trans hb12
    refine g_pv 1 [(7, .slice p12 (j + 1 + 1) c12)] (by kernel_rfl) ?_
    refine wpList_nil ?_
    refine g_nfr ⟨#[.int .i64 t, .int .i64 (↑n : Int), undef, undef, .slice none 0 0, .int .i64 (↑(maxN t true) : Int), .int .i64 18, .slice p12 (j + 1 + 1) c12, .int .i64 t, .int .i64 (↑(maxN t true) : Int), .int .i64 t, .int .i64 18, .int .i64 (↑(maxN t true) : Int), .bool false, .bool false, .int .i64 (↑n : Int), .bool false, .bool false, .bool false, .int .i64 (↑n : Int), .bool (decide ((↑n : Int) > (32768 : Int))), .bool (decide ((↑n : Int) > (32768 : Int))), .int .i64 (↑n : Int), .int .i64 (↑(maxN t true) : Int), .int .i64 (↑(ovN n (maxN t true)) : Int), .slice (some ⟨b7, 0, none⟩) 1 1, .slice p (j + 1) c, .slice p (j + 1) c, .int .i64 (↑(j + 1) : Int), .int .i64 (↑j : Int), .pointer (some (elemAddr p (j * 1))), .int .i64 (↑x : Int), .bool (decide ((↑x : Int) > (1 : Int))), .slice p (j + 1) c, .slice p (j + 1) c, .slice p (j + 1) c, .int .i64 (↑(j + 1) : Int), .int .i64 (↑j : Int), .pointer (some (elemAddr p (j * 1))), .int .i64 (↑x : Int), .int .i64 18, .int .i64 (↑(ovN x 18) : Int), .slice (some ⟨b11, 0, none⟩) 1 1, .slice p12 (j + 1 + 1) c12, undef], []⟩ (by kernel_rfl) ?_
    have h18 := ov18 (x := x) (by omega)
    refine ⟨⟨j + 1, (ovN x 18), xs ++ [x], _, _, (pk [.slice p (j + 1) c, .slice p (j + 1) c, .int .i64 (↑(j + 1) : Int), .int .i64 (↑j : Int), .pointer (some (elemAddr p (j * 1))), .int .i64 (↑x : Int), .bool (decide ((↑x : Int) > (1 : Int))), .slice p (j + 1) c, .slice p (j + 1) c, .slice p (j + 1) c, .int .i64 (↑(j + 1) : Int), .int .i64 (↑j : Int), .pointer (some (elemAddr p (j * 1))), .int .i64 (↑x : Int), .int .i64 18, .int .i64 (↑(ovN x 18) : Int), .slice (some ⟨b11, 0, none⟩) 1 1, .slice p12 (j + 1 + 1) c12]), rfl, hB, o12, by simp [hxl], ovN_pos _ _, by omega, by rw [← hxs, levs_more (x := x) (by omega)]; simp, by omega⟩, ?_⟩
    show 40000 - (j + 1 + 1) < 40000 - (j + 1)
    omega
  · have hc9 := of_decide_eq_false hc9
    refine wp_exit ?_
    refine then_exit ?_
    refine then_exit ?_
    refine inBlock_hit ?_
    refine wp_seq ?_
    refine wp_region_lit ?_
    refine g_pv 2 [(44, .slice p (j + 1) c), (4, .slice p (j + 1) c)] (by kernel_rfl) ?_
    refine wpList_nil ?_
    refine wp_ret ?_
    refine g_ret (.slice p (j + 1) c) (by kernel_rfl) (by kernel_rfl) ?_
    have e : levL t n = xs ++ [x] := by rw [← hxs, levs_one (x := x) (by omega)]
    have el : (levL t n).length = j + 1 := by rw [e]; simp [hxl]
    exact ⟨_, rfl, hB, p, c, by rw [el], by rw [el, e]; exact ho⟩
set_option maxRecDepth 100000 in
set_option maxHeartbeats 4000000 in
theorem tall_Nodes (t : Int) (n : Nat) (w : World) (h1 : 1 ≤ t) (h2 : t ≤ 5) (hn : n ≤ 32768) :
    Calls Tryz.prog 39 #[.int .i64 t, .int .i64 (↑n : Int)] w (Ret (.int .i64 (nodN t n : Int)) w) := by
  refine calls_of_wp Tryz.func39 rfl ?_
  refine g_fr ⟨#[.int .i64 t, .int .i64 (↑n : Int), undef, undef, undef, undef, undef, undef, undef, undef, undef, undef, undef, undef, undef, undef, undef, undef, undef, undef, undef], []⟩ (by kernel_rfl) ?_
  refine wp_seq ?_
  refine wp_region_lit ?_
  refine g_pv 1 [(4, .int .i64 0)] (by kernel_rfl) ?_
  refine wpList_nil ?_
  refine wp_seq ?_
  refine wp_region_lit ?_
  refine g_pv 1 [(5, .int .i64 0)] (by kernel_rfl) ?_
  refine wpList_nil ?_
  refine wp_seq ?_
  refine wp_seq ?_
  refine wp_region_lit ?_
  refine g_pv 2 [(8, .int .i64 t), (9, .int .i64 (↑n : Int))] (by kernel_rfl) ?_
  have hs1 : w.heap.size ≤ (w).heap.size := (Below.refl w.heap.size _).size
  refine g_op (by kernel_rfl) (op_call (lb := #[]) 68 #[.int .i64 t, .int .i64 (↑n : Int)] rfl (by kernel_rfl) (fun _ _ => by kernel_rfl) (by kernel_rfl) ((tall_Levels t n _ h1 h2 hn).mono ?_))
  rintro e W1 ⟨_, rfl, hb1, p, c, rfl, ho⟩
  refine ⟨_, rfl, ?_⟩
  have hB := hb1
  replace ho := own_mono ho hs1
  refine g_pv 2 [(11, .int .i64 (↑((levL t n).length) : Int)), (12, .int .i64 0)] (by kernel_rfl) ?_
  refine wpList_nil ?_
  refine wp_block ?_
  refine g_fr ⟨#[.int .i64 t, .int .i64 (↑n : Int), undef, undef, .int .i64 0, .int .i64 0, undef, undef, .int .i64 t, .int .i64 (↑n : Int), .slice p ((levL t n).length) c, .int .i64 (↑((levL t n).length) : Int), .int .i64 0, undef, undef, undef, undef, undef, undef, undef, undef], []⟩ (by kernel_rfl) ?_
  refine wp_loop (fun act V => ∃ (k : Nat) (x2 : Nat → Value), act = ⟨#[.int .i64 t, .int .i64 (↑n : Int), undef, undef, .int .i64 0, .int .i64 (↑((levL t n).take k).sum : Int), undef, (x2 0), .int .i64 t, .int .i64 (↑n : Int), .slice p ((levL t n).length) c, .int .i64 (↑((levL t n).length) : Int), .int .i64 (↑k : Int), (x2 1), (x2 2), (x2 3), (x2 4), (x2 5), (x2 6), (x2 7), undef], []⟩ ∧ Below w.heap.size w V ∧ V.ownsRow w.heap.size 3 1 (.slice p (levL t n).length c) (levL t n).length ((levL t n).map nv) ∧ k ≤ (levL t n).length) (fun act V => (levL t n).length - ((intOf (act.tmps.getD 12 undef))).toNat) ⟨0, (pk [undef, undef, undef, undef, undef, undef, undef, undef]), rfl, hB, ho, Nat.zero_le _⟩ ?_
  rintro _ W2 ⟨k, x2, rfl, hB, ho, hk⟩
  have hl1 := levL_len t n
  have hs1 := nodN_le t n
  unfold nodN at hs1
  have hs2 := take_le (L := levL t n) (k + 1)
  have hs3 : k < (levL t n).length → ((levL t n).take (k + 1)).sum = ((levL t n).take k).sum + (levL t n).getD k 0 := take_sum
  refine wp_seq ?_
  refine wp_region_lit ?_
  refine g_pv 1 [(13, .bool (decide ((↑k : Int) < (↑((levL t n).length) : Int))))] (by kernel_rfl) ?_
  refine wpList_nil ?_
  refine wp_seq ?_
  refine wp_cond_split (t := decide ((↑k : Int) < (↑((levL t n).length) : Int))) (by kernel_rfl) (fun hc3 => ?_) (fun hc3 => ?_)
  · have hc3 := of_decide_eq_true hc3
    refine wp_skip ?_
    refine wp_seq ?_
    refine wp_block ?_
    refine wp_seq ?_
    refine wp_region_lit ?_
    refine g_op (by kernel_rfl) (op_val (run_indexA (size := 1) (k := k) (b := p) (n := (levL t n).length) (c := c) (i := (↑k : Int)) (ki := .i64) rfl (by kernel_rfl) (by kernel_rfl) rfl (by omega) (nv_elem (own_sl ho) rfl (k := k) (by omega)).1 Tryz.underlying31 (by kernel_rfl) W2) ?_)
    refine g_op (by kernel_rfl) (op_load (elemAddr p (k * 1)) (.int .i64 (↑((levL t n).getD k 0) : Int)) rfl (by kernel_rfl) (by kernel_rfl) (nv_elem (own_sl ho) rfl (k := k) (by omega)).2 ?_)
    refine g_pv 1 [(7, .int .i64 (↑((levL t n).getD k 0) : Int))] (by kernel_rfl) ?_
    refine wpList_nil ?_
    refine wp_region_lit ?_
    refine g_pv 2 [(16, .int .i64 (↑((levL t n).take k).sum : Int)), (17, .int .i64 (↑((levL t n).getD k 0) : Int))] (by kernel_rfl) ?_
    refine g_op (by kernel_rfl) (op_wrap .i64 ((↑((levL t n).take k).sum : Int) + (↑((levL t n).getD k 0) : Int)) (↑(((levL t n).take k).sum + ((levL t n).getD k 0)) : Int) (by kernel_rfl) ((show IntKind.i64.wrap ((↑((levL t n).take k).sum : Int) + (↑((levL t n).getD k 0) : Int)) = ((↑((levL t n).take k).sum : Int) + (↑((levL t n).getD k 0) : Int)) from by first | exact IntWalk.i64_in _ (by omega) | (simp only [IntKind.wrap]; omega)).trans (by omega)) ?_)
    refine g_pv 1 [(5, .int .i64 (↑(((levL t n).take k).sum + ((levL t n).getD k 0)) : Int))] (by kernel_rfl) ?_
    refine wpList_nil ?_
    refine wp_region_lit ?_
    refine g_op (by kernel_rfl) (op_wrap .i64 ((↑k : Int) + 1) (↑(k + 1) : Int) (by kernel_rfl) ((show IntKind.i64.wrap ((↑k : Int) + 1) = ((↑k : Int) + 1) from by first | exact IntWalk.i64_in _ (by omega) | (simp only [IntKind.wrap]; omega)).trans (by omega)) ?_)
    refine g_pv 1 [(12, .int .i64 (↑(k + 1) : Int))] (by kernel_rfl) ?_
    refine wpList_nil ?_
    refine g_nfr ⟨#[.int .i64 t, .int .i64 (↑n : Int), undef, undef, .int .i64 0, .int .i64 (↑(((levL t n).take k).sum + ((levL t n).getD k 0)) : Int), undef, .int .i64 (↑((levL t n).getD k 0) : Int), .int .i64 t, .int .i64 (↑n : Int), .slice p ((levL t n).length) c, .int .i64 (↑((levL t n).length) : Int), .int .i64 (↑(k + 1) : Int), .bool (decide ((↑k : Int) < (↑((levL t n).length) : Int))), .pointer (some (elemAddr p (k * 1))), .int .i64 (↑((levL t n).getD k 0) : Int), .int .i64 (↑((levL t n).take k).sum : Int), .int .i64 (↑((levL t n).getD k 0) : Int), .int .i64 (↑(((levL t n).take k).sum + ((levL t n).getD k 0)) : Int), .int .i64 (↑(k + 1) : Int), undef], []⟩ (by kernel_rfl) ?_
    refine g_nfr ⟨#[.int .i64 t, .int .i64 (↑n : Int), undef, undef, .int .i64 0, .int .i64 (↑((levL t n).take (k + 1)).sum : Int), undef, .int .i64 (↑((levL t n).getD k 0) : Int), .int .i64 t, .int .i64 (↑n : Int), .slice p ((levL t n).length) c, .int .i64 (↑((levL t n).length) : Int), .int .i64 (↑(k + 1) : Int), .bool (decide ((↑k : Int) < (↑((levL t n).length) : Int))), .pointer (some (elemAddr p (k * 1))), .int .i64 (↑((levL t n).getD k 0) : Int), .int .i64 (↑((levL t n).take k).sum : Int), .int .i64 (↑((levL t n).getD k 0) : Int), .int .i64 (↑(((levL t n).take k).sum + ((levL t n).getD k 0)) : Int), .int .i64 (↑(k + 1) : Int), undef], []⟩ (by rw [take_sum (by omega)]) ?_
    refine ⟨⟨k + 1, (pk [.int .i64 (↑((levL t n).getD k 0) : Int), .bool (decide ((↑k : Int) < (↑((levL t n).length) : Int))), .pointer (some (elemAddr p (k * 1))), .int .i64 (↑((levL t n).getD k 0) : Int), .int .i64 (↑((levL t n).take k).sum : Int), .int .i64 (↑((levL t n).getD k 0) : Int), .int .i64 (↑(((levL t n).take k).sum + ((levL t n).getD k 0)) : Int), .int .i64 (↑(k + 1) : Int)]), rfl, hB, ho, by omega⟩, ?_⟩
    show (levL t n).length - ((↑(k + 1) : Int)).toNat < (levL t n).length - ((↑k : Int)).toNat
    omega
  · have hc3 := of_decide_eq_false hc3
    refine wp_exit ?_
    refine then_exit ?_
    refine then_exit ?_
    refine inBlock_hit ?_
    refine wp_seq ?_
    refine wp_region_lit ?_
    refine g_pv 2 [(20, .int .i64 (↑((levL t n).take k).sum : Int)), (4, .int .i64 (↑((levL t n).take k).sum : Int))] (by kernel_rfl) ?_
    refine wpList_nil ?_
    refine wp_ret ?_
    refine g_ret (.int .i64 (↑((levL t n).take k).sum : Int)) (by kernel_rfl) (by kernel_rfl) ?_
    have e : k = (levL t n).length := by omega
    subst e
    rw [List.take_length]
    exact ⟨rfl, hB⟩
/-- node i's entries, when n entries are laid into nodes of m -/
def sizN (n m i : Nat) : Nat := min m (n - i * m)
theorem siz_le {n m i : Nat} (hm : 1 ≤ m) (h : i < ovN n m) : i * m ≤ n := by
  unfold ovN at h
  rcases Nat.eq_zero_or_pos i with rfl | hi
  · omega
  · have h1 : i + 1 ≤ (n + m - 1) / m := by omega
    have h2 := (Nat.le_div_iff_mul_le (by omega)).1 h1
    rw [Nat.add_mul] at h2
    omega
def sizK (n m k : Nat) : List Value := (List.range (ovN n m)).map fun i => .int .i64 (if i < k then (sizN n m i : Int) else 0)
def sizL (n m : Nat) : List Nat := (List.range (ovN n m)).map (sizN n m)
theorem sizK_zero (n m : Nat) : zeros (Value.int .i64 0).cells.toList (ovN n m) = sizK n m 0 := by
  rw [show (Value.int .i64 0).cells.toList = [Value.int .i64 0] from rfl, zeros, sizK]
  simp [List.map_const']
theorem sizK_all (n m : Nat) : sizK n m (ovN n m) = (sizL n m).map nv := by
  unfold sizK sizL nv
  rw [List.map_map]
  apply List.map_congr_left
  intro i hi
  rw [List.mem_range] at hi
  simp [hi]
theorem sizK_set {n m k : Nat} (h : k < ovN n m) : (sizK n m k).set k (.int .i64 (sizN n m k : Int)) = sizK n m (k + 1) := by
  apply List.ext_getElem?
  intro i
  by_cases hi : i < ovN n m
  · by_cases e : k = i
    · subst e
      rw [List.getElem?_set_self (by simpa [sizK] using h)]
      simp [sizK, List.getElem?_range h]
    · rw [List.getElem?_set_ne e]
      simp only [sizK, List.getElem?_map, List.getElem?_range hi, Option.map_some]
      by_cases e2 : i < k
      · simp [e2, show i < k + 1 by omega]
      · simp [e2, show ¬ i < k + 1 by omega]
  · rw [List.getElem?_eq_none (by simp [sizK]; omega), List.getElem?_eq_none (by simp [sizK]; omega)]
theorem sizL_len (n m : Nat) : (sizL n m).length = ovN n m := by simp [sizL]
set_option maxRecDepth 100000 in
set_option maxHeartbeats 4000000 in
theorem tall_Sizes (n m : Nat) (w : World) (hn : n ≤ 32768) (hm : 1 ≤ m) (hm2 : m ≤ 32768) :
    Calls Tryz.prog 69 #[.int .i64 (↑n : Int), .int .i64 (↑m : Int)] w (RetS (fun w' r => ∃ p c, r = .slice p (ovN n m) c ∧ w'.ownsRow w.heap.size 3 1 (.slice p (ovN n m) c) (ovN n m) ((sizL n m).map nv)) w) := by
  have hov := ovN_le n m hm
  refine calls_of_wp Tryz.func69 rfl ?_
  refine g_fr ⟨#[.int .i64 (↑n : Int), .int .i64 (↑m : Int), undef, undef, undef, undef, undef, undef, undef, undef, undef, undef, undef, undef, undef, undef, undef, undef, undef, undef, undef, undef, undef, undef, undef, undef, undef, undef, undef, undef, undef, undef, undef, undef, undef, undef, undef, undef, undef, undef], []⟩ (by kernel_rfl) ?_
  refine wp_seq ?_
  refine wp_region_lit ?_
  refine g_pv 1 [(4, .slice none 0 0)] (by kernel_rfl) ?_
  refine wpList_nil ?_
  refine wp_seq ?_
  refine wp_seq ?_
  refine wp_region_lit ?_
  refine g_pv 3 [(7, .int .i64 (↑n : Int)), (8, .bool (decide ((↑n : Int) < (0 : Int)))), (9, .bool (decide ((↑n : Int) < (0 : Int))))] (by kernel_rfl) ?_
  have hc1 : (decide ((↑n : Int) < (0 : Int)) : Bool) = false := decide_eq_false (by omega)
  refine g_b [8, 9] _ _ hc1 (by kernel_rfl) ?_
  refine g_pv 4 [(10, .int .i64 (↑n : Int)), (11, .bool (decide ((↑n : Int) > (32768 : Int)))), (12, .bool (decide ((↑n : Int) > (32768 : Int)))), (13, .bool (decide ((↑n : Int) > (32768 : Int))))] (by kernel_rfl) ?_
  have hc2 : (decide ((↑n : Int) > (32768 : Int)) : Bool) = false := decide_eq_false (by omega)
  refine g_b [11, 12, 13] _ _ hc2 (by kernel_rfl) ?_
  refine g_pv 3 [(14, .int .i64 (↑m : Int)), (15, .bool (decide ((↑m : Int) < (1 : Int)))), (16, .bool (decide ((↑m : Int) < (1 : Int))))] (by kernel_rfl) ?_
  refine wpList_nil ?_
  refine wp_cond_split (t := decide ((↑m : Int) < (1 : Int))) (by kernel_rfl) (fun hh => absurd (hh.symm.trans (show (decide ((↑m : Int) < (1 : Int)) : Bool) = false from decide_eq_false (by omega))) (by decide)) (fun _ => ?_)
  refine wp_skip ?_
  refine wp_seq ?_
  refine wp_region_lit ?_
  refine g_pv 1 [(17, .int .i64 (↑m : Int))] (by kernel_rfl) ?_
  refine g_op (by kernel_rfl) (op_eq (.int .i64 (↑m : Int)) (.int .i64 (if (32768 : Int) < (↑m : Int) then (32768 : Int) else (↑m : Int))) (by kernel_rfl) (congrArg (Value.int .i64) (if_neg (by omega))) ?_)
  refine g_pv 1 [(1, .int .i64 (↑m : Int))] (by kernel_rfl) ?_
  refine wpList_nil ?_
  refine wp_seq ?_
  refine wp_region_lit ?_
  refine g_pv 2 [(19, .int .i64 (↑n : Int)), (20, .int .i64 (↑m : Int))] (by kernel_rfl) ?_
  refine g_op (by kernel_rfl) (op_call (lb := #[]) 97 #[.int .i64 (↑n : Int), .int .i64 (↑m : Int)] rfl (by kernel_rfl) (fun _ _ => by kernel_rfl) (by kernel_rfl) ((tall_over n m _ (by omega) hm (by omega)).mono ?_))
  rintro e W4 ⟨rfl, hb4⟩
  refine ⟨_, rfl, ?_⟩
  have hB := hb4
  refine g_op (by kernel_rfl) (op_make (ovN n m) (.int .i64 0) 1 8 (sizK n m 0) rfl (by kernel_rfl) (by kernel_rfl) Tryz.underlying31 (by kernel_rfl) rfl (by omega) (by omega) (sizK_zero n m) ?_)
  intro b5 W5 n5
  have g5 := n5.ge hB
  replace hB := Bl.next hB n5.below
  have k5 := n5.blk
  refine g_pv 1 [(5, .slice (some ⟨b5, 0, none⟩) (ovN n m) (ovN n m))] (by kernel_rfl) ?_
  refine wpList_nil ?_
  refine wp_seq ?_
  refine wp_seq ?_
  refine wp_region_lit ?_
  refine g_pv 3 [(23, .slice (some ⟨b5, 0, none⟩) (ovN n m) (ovN n m)), (24, .int .i64 (↑(ovN n m) : Int)), (25, .int .i64 0)] (by kernel_rfl) ?_
  refine wpList_nil ?_
  refine wp_block ?_
  refine g_fr ⟨#[.int .i64 (↑n : Int), .int .i64 (↑m : Int), undef, undef, .slice none 0 0, .slice (some ⟨b5, 0, none⟩) (ovN n m) (ovN n m), undef, .int .i64 (↑n : Int), .bool false, .bool false, .int .i64 (↑n : Int), .bool false, .bool false, .bool false, .int .i64 (↑m : Int), .bool (decide ((↑m : Int) < (1 : Int))), .bool (decide ((↑m : Int) < (1 : Int))), .int .i64 (↑m : Int), .int .i64 (↑m : Int), .int .i64 (↑n : Int), .int .i64 (↑m : Int), .int .i64 (↑(ovN n m) : Int), .slice (some ⟨b5, 0, none⟩) (ovN n m) (ovN n m), .slice (some ⟨b5, 0, none⟩) (ovN n m) (ovN n m), .int .i64 (↑(ovN n m) : Int), .int .i64 0, undef, undef, undef, undef, undef, undef, undef, undef, undef, undef, undef, undef, undef, undef], []⟩ (by kernel_rfl) ?_
  refine wp_loop (fun act V => ∃ (k : Nat) (x6 : Nat → Value), act = ⟨#[.int .i64 (↑n : Int), .int .i64 (↑m : Int), undef, undef, .slice none 0 0, .slice (some ⟨b5, 0, none⟩) (ovN n m) (ovN n m), (x6 0), .int .i64 (↑n : Int), .bool false, .bool false, .int .i64 (↑n : Int), .bool false, .bool false, .bool false, .int .i64 (↑m : Int), .bool (decide ((↑m : Int) < (1 : Int))), .bool (decide ((↑m : Int) < (1 : Int))), .int .i64 (↑m : Int), .int .i64 (↑m : Int), .int .i64 (↑n : Int), .int .i64 (↑m : Int), .int .i64 (↑(ovN n m) : Int), .slice (some ⟨b5, 0, none⟩) (ovN n m) (ovN n m), .slice (some ⟨b5, 0, none⟩) (ovN n m) (ovN n m), .int .i64 (↑(ovN n m) : Int), .int .i64 (↑k : Int), (x6 1), (x6 2), (x6 3), (x6 4), (x6 5), (x6 6), (x6 7), (x6 8), (x6 9), (x6 10), (x6 11), (x6 12), (x6 13), undef], []⟩ ∧ Below w.heap.size w V ∧ Blk V b5 (sizK n m k) 3 ∧ k ≤ ovN n m) (fun act V => ovN n m - ((intOf (act.tmps.getD 25 undef))).toNat) ⟨0, (pk [undef, undef, undef, undef, undef, undef, undef, undef, undef, undef, undef, undef, undef, undef]), rfl, hB, k5, Nat.zero_le _⟩ ?_
  rintro _ W6 ⟨k, x6, rfl, hB, k6_b5, hk⟩
  have hkm : k < ovN n m → k * m ≤ n := siz_le hm
  refine wp_seq ?_
  refine wp_region_lit ?_
  refine g_pv 1 [(26, .bool (decide ((↑k : Int) < (↑(ovN n m) : Int))))] (by kernel_rfl) ?_
  refine wpList_nil ?_
  refine wp_seq ?_
  refine wp_cond_split (t := decide ((↑k : Int) < (↑(ovN n m) : Int))) (by kernel_rfl) (fun hc7 => ?_) (fun hc7 => ?_)
  · have hc7 := of_decide_eq_true hc7
    refine wp_skip ?_
    refine wp_seq ?_
    refine wp_block ?_
    refine wp_seq ?_
    refine wp_region_lit ?_
    refine g_pv 2 [(27, .int .i64 (↑k : Int)), (6, .int .i64 (↑k : Int))] (by kernel_rfl) ?_
    refine wpList_nil ?_
    refine wp_region_lit ?_
    refine g_pv 6 [(28, .slice (some ⟨b5, 0, none⟩) (ovN n m) (ovN n m)), (29, .int .i64 (↑k : Int)), (30, .int .i64 (↑m : Int)), (31, .int .i64 (↑n : Int)), (32, .int .i64 (↑k : Int)), (33, .int .i64 (↑m : Int))] (by kernel_rfl) ?_
    refine g_op (by kernel_rfl) (op_wrap .i64 ((↑k : Int) * (↑m : Int)) (↑(k * m) : Int) (by kernel_rfl) ((show IntKind.i64.wrap ((↑k : Int) * (↑m : Int)) = ((↑k : Int) * (↑m : Int)) from by first | exact IntWalk.i64_in _ (by omega) | (simp only [IntKind.wrap]; omega)).trans (by omega)) ?_)
    refine g_op (by kernel_rfl) (op_wrap .i64 ((↑n : Int) - (↑(k * m) : Int)) (↑(n - (k * m)) : Int) (by kernel_rfl) ((show IntKind.i64.wrap ((↑n : Int) - (↑(k * m) : Int)) = ((↑n : Int) - (↑(k * m) : Int)) from by first | exact IntWalk.i64_in _ (by omega) | (simp only [IntKind.wrap]; omega)).trans (by omega)) ?_)
    refine g_pv 1 [(36, .int .i64 (if (↑(n - (k * m)) : Int) < (↑m : Int) then (↑(n - (k * m)) : Int) else (↑m : Int)))] (by kernel_rfl) ?_
    refine g_op (by kernel_rfl) (op_index (size := 1) (k := k) (b := b5) (off := 0) (n := (ovN n m)) (c := (ovN n m)) (i := (↑k : Int)) (ki := .i64) rfl (by kernel_rfl) (by kernel_rfl) rfl (by omega) Tryz.underlying31 (by kernel_rfl) ?_)
    refine g_op (by kernel_rfl) (op_store (v := .int .i64 (if (↑(n - (k * m)) : Int) < (↑m : Int) then (↑(n - (k * m)) : Int) else (↑m : Int))) (b := b5) (off := (0 + k * 1)) rfl (by kernel_rfl) (by kernel_rfl) (by kernel_rfl) rfl k6_b5 (by simp [sizK]; omega) ?_)
    intro W8 u8 k8
    replace k8 : Blk W8 b5 (sizK n m (k + 1)) 3 := by rw [← (show (sizK n m k).set (0 + k * 1) (.int .i64 (if (↑(n - (k * m)) : Int) < (↑m : Int) then (↑(n - (k * m)) : Int) else (↑m : Int))) = sizK n m (k + 1) from by rw [show 0 + k * 1 = k by omega, show (if (↑(n - (k * m)) : Int) < (↑m : Int) then (↑(n - (k * m)) : Int) else (↑m : Int)) = (↑(sizN n m k) : Int) from min_cast m (n - k * m)]; exact sizK_set (by omega))]; exact k8
    replace hB := u8.below hB g5
    refine wpList_nil ?_
    refine wp_region_lit ?_
    refine g_op (by kernel_rfl) (op_wrap .i64 ((↑k : Int) + 1) (↑(k + 1) : Int) (by kernel_rfl) ((show IntKind.i64.wrap ((↑k : Int) + 1) = ((↑k : Int) + 1) from by first | exact IntWalk.i64_in _ (by omega) | (simp only [IntKind.wrap]; omega)).trans (by omega)) ?_)
    refine g_pv 1 [(25, .int .i64 (↑(k + 1) : Int))] (by kernel_rfl) ?_
    refine wpList_nil ?_
    refine g_nfr ⟨#[.int .i64 (↑n : Int), .int .i64 (↑m : Int), undef, undef, .slice none 0 0, .slice (some ⟨b5, 0, none⟩) (ovN n m) (ovN n m), .int .i64 (↑k : Int), .int .i64 (↑n : Int), .bool false, .bool false, .int .i64 (↑n : Int), .bool false, .bool false, .bool false, .int .i64 (↑m : Int), .bool (decide ((↑m : Int) < (1 : Int))), .bool (decide ((↑m : Int) < (1 : Int))), .int .i64 (↑m : Int), .int .i64 (↑m : Int), .int .i64 (↑n : Int), .int .i64 (↑m : Int), .int .i64 (↑(ovN n m) : Int), .slice (some ⟨b5, 0, none⟩) (ovN n m) (ovN n m), .slice (some ⟨b5, 0, none⟩) (ovN n m) (ovN n m), .int .i64 (↑(ovN n m) : Int), .int .i64 (↑(k + 1) : Int), .bool (decide ((↑k : Int) < (↑(ovN n m) : Int))), .int .i64 (↑k : Int), .slice (some ⟨b5, 0, none⟩) (ovN n m) (ovN n m), .int .i64 (↑k : Int), .int .i64 (↑m : Int), .int .i64 (↑n : Int), .int .i64 (↑k : Int), .int .i64 (↑m : Int), .int .i64 (↑(k * m) : Int), .int .i64 (↑(n - (k * m)) : Int), .int .i64 (if (↑(n - (k * m)) : Int) < (↑m : Int) then (↑(n - (k * m)) : Int) else (↑m : Int)), .pointer (some ⟨b5, (0 + k * 1), none⟩), .int .i64 (↑(k + 1) : Int), undef], []⟩ (by kernel_rfl) ?_
    refine ⟨⟨k + 1, (pk [.int .i64 (↑k : Int), .bool (decide ((↑k : Int) < (↑(ovN n m) : Int))), .int .i64 (↑k : Int), .slice (some ⟨b5, 0, none⟩) (ovN n m) (ovN n m), .int .i64 (↑k : Int), .int .i64 (↑m : Int), .int .i64 (↑n : Int), .int .i64 (↑k : Int), .int .i64 (↑m : Int), .int .i64 (↑(k * m) : Int), .int .i64 (↑(n - (k * m)) : Int), .int .i64 (if (↑(n - (k * m)) : Int) < (↑m : Int) then (↑(n - (k * m)) : Int) else (↑m : Int)), .pointer (some ⟨b5, (0 + k * 1), none⟩), .int .i64 (↑(k + 1) : Int)]), rfl, hB, k8, by omega⟩, ?_⟩
    show ovN n m - ((↑(k + 1) : Int)).toNat < ovN n m - ((↑k : Int)).toNat
    omega
  · have hc7 := of_decide_eq_false hc7
    refine wp_exit ?_
    refine then_exit ?_
    refine then_exit ?_
    refine inBlock_hit ?_
    refine wp_seq ?_
    refine wp_region_lit ?_
    refine g_pv 2 [(39, .slice (some ⟨b5, 0, none⟩) (ovN n m) (ovN n m)), (4, .slice (some ⟨b5, 0, none⟩) (ovN n m) (ovN n m))] (by kernel_rfl) ?_
    refine wpList_nil ?_
    refine wp_ret ?_
    refine g_ret (.slice (some ⟨b5, 0, none⟩) (ovN n m) (ovN n m)) (by kernel_rfl) (by kernel_rfl) ?_
    have e : k = ovN n m := by omega
    subst e
    have ho := own_of_blk (size := 1) (n := ovN n m) k6_b5 g5 (by simp [sizK]) (by unfold maxLen; omega)
    rw [sizK_all] at ho
    exact ⟨_, rfl, hB, _, _, rfl, ho⟩
end Go.Proofs.YtbopakjiahojdaaGreatDoor

