/- node.Width and node.Max at the five trees; package tall: over, Levels, Nodes, Sizes. -/
import Derived.Test.YtoiblgeheblddaaAlloc
namespace Go.Proofs.Ytoiblgeheblddaa
open Go.RowKit Go.Extern.Stop Go.Stop Go.Extern
set_option linter.unusedVariables false
attribute [local irreducible] wpList wpAnyH Code.wp Oper.wp

set_option maxRecDepth 100000 in
set_option maxHeartbeats 1000000 in
theorem node_Width1l (w : World) :
    Calls Try.prog 21 #[.int .i64 1, .bool true] w (Ret (.int .i64 4) w) := by
  refine calls_of_wp Try.func21 rfl ?_
  refine g_fr ⟨#[.int .i64 1, .bool true, undef, undef, undef, undef, undef, undef, undef, undef, undef, undef, undef, undef, undef, undef, undef, undef, undef, undef, undef, undef, undef, undef, undef, undef, undef, undef, undef, undef, undef], []⟩ (by kernel_rfl) ?_
  refine wp_seq ?_
  refine wp_region_lit ?_
  refine g_pv 1 [(4, .int .i64 0)] (by kernel_rfl) ?_
  refine wpList_nil ?_
  refine wp_seq ?_
  refine wp_region_lit ?_
  refine g_pv 1 [(5, .int .i64 4)] (by kernel_rfl) ?_
  refine wpList_nil ?_
  refine wp_seq ?_
  refine wp_block ?_
  refine wp_seq ?_
  refine wp_region_lit ?_
  refine g_pv 7 [(7, .int .i64 1), (8, .bool false), (9, .bool false), (10, .int .i64 1), (11, .bool false), (12, .bool false), (6, .bool false)] (by kernel_rfl) ?_
  refine wpList_nil ?_
  refine wp_cond_false (by kernel_rfl) ?_
  refine wp_seq ?_
  refine wp_region_lit ?_
  refine g_pv 3 [(14, .bool true), (15, .bool false), (13, .bool false)] (by kernel_rfl) ?_
  refine wpList_nil ?_
  refine wp_cond_false (by kernel_rfl) ?_
  refine wp_skip ?_
  refine wp_seq ?_
  refine wp_seq ?_
  refine wp_region_lit ?_
  refine g_pv 1 [(17, .int .i64 1)] (by kernel_rfl) ?_
  refine wpList_nil ?_
  refine wp_block ?_
  refine wp_seq ?_
  refine wp_block ?_
  refine wp_seq ?_
  refine wp_block ?_
  refine wp_seq ?_
  refine wp_block ?_
  refine wp_seq ?_
  refine wp_seq ?_
  refine wp_seq ?_
  refine wp_region_lit ?_
  refine g_pv 2 [(19, .bool false), (18, .bool false)] (by kernel_rfl) ?_
  refine wpList_nil ?_
  refine wp_cond_false (by kernel_rfl) ?_
  refine wp_skip ?_
  refine wp_seq ?_
  refine wp_seq ?_
  refine wp_region_lit ?_
  refine g_pv 2 [(21, .bool false), (20, .bool false)] (by kernel_rfl) ?_
  refine wpList_nil ?_
  refine wp_cond_false (by kernel_rfl) ?_
  refine wp_skip ?_
  refine wp_seq ?_
  refine wp_region_lit ?_
  refine g_pv 2 [(23, .bool false), (22, .bool false)] (by kernel_rfl) ?_
  refine wpList_nil ?_
  refine wp_cond_false (by kernel_rfl) ?_
  refine wp_skip ?_
  refine wp_exit ?_
  refine inBlock_pass (by simp) ?_
  refine then_exit ?_
  refine inBlock_pass (by simp) ?_
  refine then_exit ?_
  refine inBlock_pass (by simp) ?_
  refine then_exit ?_
  refine inBlock_hit ?_
  refine wp_seq ?_
  refine wp_region_lit ?_
  refine g_pv 2 [(30, .int .i64 4), (4, .int .i64 4)] (by kernel_rfl) ?_
  refine wpList_nil ?_
  refine wp_ret ?_
  exact g_ret (.int .i64 4) (by kernel_rfl) (by kernel_rfl) ⟨rfl, (Below.refl w.heap.size _)⟩
set_option maxRecDepth 100000 in
set_option maxHeartbeats 1000000 in
theorem node_Max1l (w : World) :
    Calls Try.prog 22 #[.int .i64 1, .bool true] w (Ret (.int .i64 18) w) := by
  refine calls_of_wp Try.func22 rfl ?_
  refine g_fr ⟨#[.int .i64 1, .bool true, undef, undef, undef, undef, undef, undef, undef, undef, undef, undef, undef, undef, undef, undef], []⟩ (by kernel_rfl) ?_
  refine wp_seq ?_
  refine wp_region_lit ?_
  refine g_pv 1 [(4, .int .i64 0)] (by kernel_rfl) ?_
  refine wpList_nil ?_
  refine wp_seq ?_
  refine wp_region_lit ?_
  refine g_pv 2 [(6, .int .i64 1), (7, .bool true)] (by kernel_rfl) ?_
  refine g_op (by kernel_rfl) (op_call (lb := #[]) 21 #[.int .i64 1, .bool true] rfl (by kernel_rfl) (fun _ _ => by kernel_rfl) (by kernel_rfl) ((node_Width1l _).mono ?_))
  rintro e W1 ⟨rfl, hb1⟩
  refine ⟨_, rfl, ?_⟩
  have hB := hb1
  refine g_pv 1 [(5, .int .i64 4)] (by kernel_rfl) ?_
  refine wpList_nil ?_
  refine wp_seq ?_
  refine wp_seq ?_
  refine wp_region_lit ?_
  refine g_pv 2 [(9, .int .i64 4), (10, .bool false)] (by kernel_rfl) ?_
  refine wpList_nil ?_
  refine wp_cond_false (by kernel_rfl) ?_
  refine wp_skip ?_
  refine wp_seq ?_
  refine wp_region_lit ?_
  refine g_pv 6 [(11, .int .i64 4), (12, .int .i64 12), (13, .int .i64 19), (14, .int .i64 6), (15, .int .i64 18), (4, .int .i64 18)] (by kernel_rfl) ?_
  refine wpList_nil ?_
  refine wp_ret ?_
  exact g_ret (.int .i64 18) (by kernel_rfl) (by kernel_rfl) ⟨rfl, hB⟩
set_option maxRecDepth 100000 in
set_option maxHeartbeats 1000000 in
theorem node_Width1i (w : World) :
    Calls Try.prog 21 #[.int .i64 1, .bool false] w (Ret (.int .i64 4) w) := by
  refine calls_of_wp Try.func21 rfl ?_
  refine g_fr ⟨#[.int .i64 1, .bool false, undef, undef, undef, undef, undef, undef, undef, undef, undef, undef, undef, undef, undef, undef, undef, undef, undef, undef, undef, undef, undef, undef, undef, undef, undef, undef, undef, undef, undef], []⟩ (by kernel_rfl) ?_
  refine wp_seq ?_
  refine wp_region_lit ?_
  refine g_pv 1 [(4, .int .i64 0)] (by kernel_rfl) ?_
  refine wpList_nil ?_
  refine wp_seq ?_
  refine wp_region_lit ?_
  refine g_pv 1 [(5, .int .i64 4)] (by kernel_rfl) ?_
  refine wpList_nil ?_
  refine wp_seq ?_
  refine wp_block ?_
  refine wp_seq ?_
  refine wp_region_lit ?_
  refine g_pv 7 [(7, .int .i64 1), (8, .bool false), (9, .bool false), (10, .int .i64 1), (11, .bool false), (12, .bool false), (6, .bool false)] (by kernel_rfl) ?_
  refine wpList_nil ?_
  refine wp_cond_false (by kernel_rfl) ?_
  refine wp_seq ?_
  refine wp_region_lit ?_
  refine g_pv 3 [(14, .bool false), (15, .bool true), (13, .bool true)] (by kernel_rfl) ?_
  refine wpList_nil ?_
  refine wp_cond_true (by kernel_rfl) ?_
  refine wp_seq ?_
  refine wp_region_lit ?_
  refine g_pv 2 [(16, .int .i64 4), (4, .int .i64 4)] (by kernel_rfl) ?_
  refine wpList_nil ?_
  refine wp_ret (inBlock_ret (then_ret ?_))
  exact g_ret (.int .i64 4) (by kernel_rfl) (by kernel_rfl) ⟨rfl, (Below.refl w.heap.size _)⟩
set_option maxRecDepth 100000 in
set_option maxHeartbeats 1000000 in
theorem node_Max1i (w : World) :
    Calls Try.prog 22 #[.int .i64 1, .bool false] w (Ret (.int .i64 18) w) := by
  refine calls_of_wp Try.func22 rfl ?_
  refine g_fr ⟨#[.int .i64 1, .bool false, undef, undef, undef, undef, undef, undef, undef, undef, undef, undef, undef, undef, undef, undef], []⟩ (by kernel_rfl) ?_
  refine wp_seq ?_
  refine wp_region_lit ?_
  refine g_pv 1 [(4, .int .i64 0)] (by kernel_rfl) ?_
  refine wpList_nil ?_
  refine wp_seq ?_
  refine wp_region_lit ?_
  refine g_pv 2 [(6, .int .i64 1), (7, .bool false)] (by kernel_rfl) ?_
  refine g_op (by kernel_rfl) (op_call (lb := #[]) 21 #[.int .i64 1, .bool false] rfl (by kernel_rfl) (fun _ _ => by kernel_rfl) (by kernel_rfl) ((node_Width1i _).mono ?_))
  rintro e W1 ⟨rfl, hb1⟩
  refine ⟨_, rfl, ?_⟩
  have hB := hb1
  refine g_pv 1 [(5, .int .i64 4)] (by kernel_rfl) ?_
  refine wpList_nil ?_
  refine wp_seq ?_
  refine wp_seq ?_
  refine wp_region_lit ?_
  refine g_pv 2 [(9, .int .i64 4), (10, .bool false)] (by kernel_rfl) ?_
  refine wpList_nil ?_
  refine wp_cond_false (by kernel_rfl) ?_
  refine wp_skip ?_
  refine wp_seq ?_
  refine wp_region_lit ?_
  refine g_pv 6 [(11, .int .i64 4), (12, .int .i64 12), (13, .int .i64 19), (14, .int .i64 6), (15, .int .i64 18), (4, .int .i64 18)] (by kernel_rfl) ?_
  refine wpList_nil ?_
  refine wp_ret ?_
  exact g_ret (.int .i64 18) (by kernel_rfl) (by kernel_rfl) ⟨rfl, hB⟩
set_option maxRecDepth 100000 in
set_option maxHeartbeats 1000000 in
theorem node_Width2l (w : World) :
    Calls Try.prog 21 #[.int .i64 2, .bool true] w (Ret (.int .i64 8) w) := by
  refine calls_of_wp Try.func21 rfl ?_
  refine g_fr ⟨#[.int .i64 2, .bool true, undef, undef, undef, undef, undef, undef, undef, undef, undef, undef, undef, undef, undef, undef, undef, undef, undef, undef, undef, undef, undef, undef, undef, undef, undef, undef, undef, undef, undef], []⟩ (by kernel_rfl) ?_
  refine wp_seq ?_
  refine wp_region_lit ?_
  refine g_pv 1 [(4, .int .i64 0)] (by kernel_rfl) ?_
  refine wpList_nil ?_
  refine wp_seq ?_
  refine wp_region_lit ?_
  refine g_pv 1 [(5, .int .i64 4)] (by kernel_rfl) ?_
  refine wpList_nil ?_
  refine wp_seq ?_
  refine wp_block ?_
  refine wp_seq ?_
  refine wp_region_lit ?_
  refine g_pv 7 [(7, .int .i64 2), (8, .bool false), (9, .bool false), (10, .int .i64 2), (11, .bool false), (12, .bool false), (6, .bool false)] (by kernel_rfl) ?_
  refine wpList_nil ?_
  refine wp_cond_false (by kernel_rfl) ?_
  refine wp_seq ?_
  refine wp_region_lit ?_
  refine g_pv 3 [(14, .bool true), (15, .bool false), (13, .bool false)] (by kernel_rfl) ?_
  refine wpList_nil ?_
  refine wp_cond_false (by kernel_rfl) ?_
  refine wp_skip ?_
  refine wp_seq ?_
  refine wp_seq ?_
  refine wp_region_lit ?_
  refine g_pv 1 [(17, .int .i64 2)] (by kernel_rfl) ?_
  refine wpList_nil ?_
  refine wp_block ?_
  refine wp_seq ?_
  refine wp_block ?_
  refine wp_seq ?_
  refine wp_block ?_
  refine wp_seq ?_
  refine wp_block ?_
  refine wp_seq ?_
  refine wp_seq ?_
  refine wp_seq ?_
  refine wp_region_lit ?_
  refine g_pv 2 [(19, .bool false), (18, .bool false)] (by kernel_rfl) ?_
  refine wpList_nil ?_
  refine wp_cond_false (by kernel_rfl) ?_
  refine wp_skip ?_
  refine wp_seq ?_
  refine wp_seq ?_
  refine wp_region_lit ?_
  refine g_pv 2 [(21, .bool false), (20, .bool false)] (by kernel_rfl) ?_
  refine wpList_nil ?_
  refine wp_cond_false (by kernel_rfl) ?_
  refine wp_skip ?_
  refine wp_seq ?_
  refine wp_region_lit ?_
  refine g_pv 2 [(23, .bool true), (22, .bool true)] (by kernel_rfl) ?_
  refine wpList_nil ?_
  refine wp_cond_true (by kernel_rfl) ?_
  refine wp_exit ?_
  refine then_exit ?_
  refine inBlock_pass (by simp) ?_
  refine then_exit ?_
  refine inBlock_pass (by simp) ?_
  refine then_exit ?_
  refine inBlock_hit ?_
  refine wp_seq ?_
  refine wp_region_lit ?_
  refine g_pv 3 [(28, .int .i64 4), (29, .int .i64 8), (5, .int .i64 8)] (by kernel_rfl) ?_
  refine wpList_nil ?_
  refine wp_exit ?_
  refine inBlock_hit ?_
  refine wp_seq ?_
  refine wp_region_lit ?_
  refine g_pv 2 [(30, .int .i64 8), (4, .int .i64 8)] (by kernel_rfl) ?_
  refine wpList_nil ?_
  refine wp_ret ?_
  exact g_ret (.int .i64 8) (by kernel_rfl) (by kernel_rfl) ⟨rfl, (Below.refl w.heap.size _)⟩
set_option maxRecDepth 100000 in
set_option maxHeartbeats 1000000 in
theorem node_Max2l (w : World) :
    Calls Try.prog 22 #[.int .i64 2, .bool true] w (Ret (.int .i64 12) w) := by
  refine calls_of_wp Try.func22 rfl ?_
  refine g_fr ⟨#[.int .i64 2, .bool true, undef, undef, undef, undef, undef, undef, undef, undef, undef, undef, undef, undef, undef, undef], []⟩ (by kernel_rfl) ?_
  refine wp_seq ?_
  refine wp_region_lit ?_
  refine g_pv 1 [(4, .int .i64 0)] (by kernel_rfl) ?_
  refine wpList_nil ?_
  refine wp_seq ?_
  refine wp_region_lit ?_
  refine g_pv 2 [(6, .int .i64 2), (7, .bool true)] (by kernel_rfl) ?_
  refine g_op (by kernel_rfl) (op_call (lb := #[]) 21 #[.int .i64 2, .bool true] rfl (by kernel_rfl) (fun _ _ => by kernel_rfl) (by kernel_rfl) ((node_Width2l _).mono ?_))
  rintro e W1 ⟨rfl, hb1⟩
  refine ⟨_, rfl, ?_⟩
  have hB := hb1
  refine g_pv 1 [(5, .int .i64 8)] (by kernel_rfl) ?_
  refine wpList_nil ?_
  refine wp_seq ?_
  refine wp_seq ?_
  refine wp_region_lit ?_
  refine g_pv 2 [(9, .int .i64 8), (10, .bool false)] (by kernel_rfl) ?_
  refine wpList_nil ?_
  refine wp_cond_false (by kernel_rfl) ?_
  refine wp_skip ?_
  refine wp_seq ?_
  refine wp_region_lit ?_
  refine g_pv 6 [(11, .int .i64 8), (12, .int .i64 16), (13, .int .i64 14), (14, .int .i64 4), (15, .int .i64 12), (4, .int .i64 12)] (by kernel_rfl) ?_
  refine wpList_nil ?_
  refine wp_ret ?_
  exact g_ret (.int .i64 12) (by kernel_rfl) (by kernel_rfl) ⟨rfl, hB⟩
set_option maxRecDepth 100000 in
set_option maxHeartbeats 1000000 in
theorem node_Width2i (w : World) :
    Calls Try.prog 21 #[.int .i64 2, .bool false] w (Ret (.int .i64 4) w) := by
  refine calls_of_wp Try.func21 rfl ?_
  refine g_fr ⟨#[.int .i64 2, .bool false, undef, undef, undef, undef, undef, undef, undef, undef, undef, undef, undef, undef, undef, undef, undef, undef, undef, undef, undef, undef, undef, undef, undef, undef, undef, undef, undef, undef, undef], []⟩ (by kernel_rfl) ?_
  refine wp_seq ?_
  refine wp_region_lit ?_
  refine g_pv 1 [(4, .int .i64 0)] (by kernel_rfl) ?_
  refine wpList_nil ?_
  refine wp_seq ?_
  refine wp_region_lit ?_
  refine g_pv 1 [(5, .int .i64 4)] (by kernel_rfl) ?_
  refine wpList_nil ?_
  refine wp_seq ?_
  refine wp_block ?_
  refine wp_seq ?_
  refine wp_region_lit ?_
  refine g_pv 7 [(7, .int .i64 2), (8, .bool false), (9, .bool false), (10, .int .i64 2), (11, .bool false), (12, .bool false), (6, .bool false)] (by kernel_rfl) ?_
  refine wpList_nil ?_
  refine wp_cond_false (by kernel_rfl) ?_
  refine wp_seq ?_
  refine wp_region_lit ?_
  refine g_pv 3 [(14, .bool false), (15, .bool true), (13, .bool true)] (by kernel_rfl) ?_
  refine wpList_nil ?_
  refine wp_cond_true (by kernel_rfl) ?_
  refine wp_seq ?_
  refine wp_region_lit ?_
  refine g_pv 2 [(16, .int .i64 4), (4, .int .i64 4)] (by kernel_rfl) ?_
  refine wpList_nil ?_
  refine wp_ret (inBlock_ret (then_ret ?_))
  exact g_ret (.int .i64 4) (by kernel_rfl) (by kernel_rfl) ⟨rfl, (Below.refl w.heap.size _)⟩
set_option maxRecDepth 100000 in
set_option maxHeartbeats 1000000 in
theorem node_Max2i (w : World) :
    Calls Try.prog 22 #[.int .i64 2, .bool false] w (Ret (.int .i64 18) w) := by
  refine calls_of_wp Try.func22 rfl ?_
  refine g_fr ⟨#[.int .i64 2, .bool false, undef, undef, undef, undef, undef, undef, undef, undef, undef, undef, undef, undef, undef, undef], []⟩ (by kernel_rfl) ?_
  refine wp_seq ?_
  refine wp_region_lit ?_
  refine g_pv 1 [(4, .int .i64 0)] (by kernel_rfl) ?_
  refine wpList_nil ?_
  refine wp_seq ?_
  refine wp_region_lit ?_
  refine g_pv 2 [(6, .int .i64 2), (7, .bool false)] (by kernel_rfl) ?_
  refine g_op (by kernel_rfl) (op_call (lb := #[]) 21 #[.int .i64 2, .bool false] rfl (by kernel_rfl) (fun _ _ => by kernel_rfl) (by kernel_rfl) ((node_Width2i _).mono ?_))
  rintro e W1 ⟨rfl, hb1⟩
  refine ⟨_, rfl, ?_⟩
  have hB := hb1
  refine g_pv 1 [(5, .int .i64 4)] (by kernel_rfl) ?_
  refine wpList_nil ?_
  refine wp_seq ?_
  refine wp_seq ?_
  refine wp_region_lit ?_
  refine g_pv 2 [(9, .int .i64 4), (10, .bool false)] (by kernel_rfl) ?_
  refine wpList_nil ?_
  refine wp_cond_false (by kernel_rfl) ?_
  refine wp_skip ?_
  refine wp_seq ?_
  refine wp_region_lit ?_
  refine g_pv 6 [(11, .int .i64 4), (12, .int .i64 12), (13, .int .i64 19), (14, .int .i64 6), (15, .int .i64 18), (4, .int .i64 18)] (by kernel_rfl) ?_
  refine wpList_nil ?_
  refine wp_ret ?_
  exact g_ret (.int .i64 18) (by kernel_rfl) (by kernel_rfl) ⟨rfl, hB⟩
set_option maxRecDepth 100000 in
set_option maxHeartbeats 1000000 in
theorem node_Width3l (w : World) :
    Calls Try.prog 21 #[.int .i64 3, .bool true] w (Ret (.int .i64 24) w) := by
  refine calls_of_wp Try.func21 rfl ?_
  refine g_fr ⟨#[.int .i64 3, .bool true, undef, undef, undef, undef, undef, undef, undef, undef, undef, undef, undef, undef, undef, undef, undef, undef, undef, undef, undef, undef, undef, undef, undef, undef, undef, undef, undef, undef, undef], []⟩ (by kernel_rfl) ?_
  refine wp_seq ?_
  refine wp_region_lit ?_
  refine g_pv 1 [(4, .int .i64 0)] (by kernel_rfl) ?_
  refine wpList_nil ?_
  refine wp_seq ?_
  refine wp_region_lit ?_
  refine g_pv 1 [(5, .int .i64 4)] (by kernel_rfl) ?_
  refine wpList_nil ?_
  refine wp_seq ?_
  refine wp_block ?_
  refine wp_seq ?_
  refine wp_region_lit ?_
  refine g_pv 7 [(7, .int .i64 3), (8, .bool false), (9, .bool false), (10, .int .i64 3), (11, .bool false), (12, .bool false), (6, .bool false)] (by kernel_rfl) ?_
  refine wpList_nil ?_
  refine wp_cond_false (by kernel_rfl) ?_
  refine wp_seq ?_
  refine wp_region_lit ?_
  refine g_pv 3 [(14, .bool true), (15, .bool false), (13, .bool false)] (by kernel_rfl) ?_
  refine wpList_nil ?_
  refine wp_cond_false (by kernel_rfl) ?_
  refine wp_skip ?_
  refine wp_seq ?_
  refine wp_seq ?_
  refine wp_region_lit ?_
  refine g_pv 1 [(17, .int .i64 3)] (by kernel_rfl) ?_
  refine wpList_nil ?_
  refine wp_block ?_
  refine wp_seq ?_
  refine wp_block ?_
  refine wp_seq ?_
  refine wp_block ?_
  refine wp_seq ?_
  refine wp_block ?_
  refine wp_seq ?_
  refine wp_seq ?_
  refine wp_seq ?_
  refine wp_region_lit ?_
  refine g_pv 2 [(19, .bool true), (18, .bool true)] (by kernel_rfl) ?_
  refine wpList_nil ?_
  refine wp_cond_true (by kernel_rfl) ?_
  refine wp_exit ?_
  refine then_exit ?_
  refine then_exit ?_
  refine inBlock_hit ?_
  refine wp_region_lit ?_
  refine g_pv 3 [(24, .int .i64 4), (25, .int .i64 12), (5, .int .i64 12)] (by kernel_rfl) ?_
  refine wpList_nil ?_
  refine wp_region_lit ?_
  refine g_pv 3 [(26, .int .i64 12), (27, .int .i64 20), (5, .int .i64 20)] (by kernel_rfl) ?_
  refine wpList_nil ?_
  refine wp_seq ?_
  refine wp_region_lit ?_
  refine g_pv 3 [(28, .int .i64 20), (29, .int .i64 24), (5, .int .i64 24)] (by kernel_rfl) ?_
  refine wpList_nil ?_
  refine wp_exit ?_
  refine inBlock_hit ?_
  refine wp_seq ?_
  refine wp_region_lit ?_
  refine g_pv 2 [(30, .int .i64 24), (4, .int .i64 24)] (by kernel_rfl) ?_
  refine wpList_nil ?_
  refine wp_ret ?_
  exact g_ret (.int .i64 24) (by kernel_rfl) (by kernel_rfl) ⟨rfl, (Below.refl w.heap.size _)⟩
set_option maxRecDepth 100000 in
set_option maxHeartbeats 1000000 in
theorem node_Max3l (w : World) :
    Calls Try.prog 22 #[.int .i64 3, .bool true] w (Ret (.int .i64 6) w) := by
  refine calls_of_wp Try.func22 rfl ?_
  refine g_fr ⟨#[.int .i64 3, .bool true, undef, undef, undef, undef, undef, undef, undef, undef, undef, undef, undef, undef, undef, undef], []⟩ (by kernel_rfl) ?_
  refine wp_seq ?_
  refine wp_region_lit ?_
  refine g_pv 1 [(4, .int .i64 0)] (by kernel_rfl) ?_
  refine wpList_nil ?_
  refine wp_seq ?_
  refine wp_region_lit ?_
  refine g_pv 2 [(6, .int .i64 3), (7, .bool true)] (by kernel_rfl) ?_
  refine g_op (by kernel_rfl) (op_call (lb := #[]) 21 #[.int .i64 3, .bool true] rfl (by kernel_rfl) (fun _ _ => by kernel_rfl) (by kernel_rfl) ((node_Width3l _).mono ?_))
  rintro e W1 ⟨rfl, hb1⟩
  refine ⟨_, rfl, ?_⟩
  have hB := hb1
  refine g_pv 1 [(5, .int .i64 24)] (by kernel_rfl) ?_
  refine wpList_nil ?_
  refine wp_seq ?_
  refine wp_seq ?_
  refine wp_region_lit ?_
  refine g_pv 2 [(9, .int .i64 24), (10, .bool false)] (by kernel_rfl) ?_
  refine wpList_nil ?_
  refine wp_cond_false (by kernel_rfl) ?_
  refine wp_skip ?_
  refine wp_seq ?_
  refine wp_region_lit ?_
  refine g_pv 6 [(11, .int .i64 24), (12, .int .i64 32), (13, .int .i64 7), (14, .int .i64 2), (15, .int .i64 6), (4, .int .i64 6)] (by kernel_rfl) ?_
  refine wpList_nil ?_
  refine wp_ret ?_
  exact g_ret (.int .i64 6) (by kernel_rfl) (by kernel_rfl) ⟨rfl, hB⟩
set_option maxRecDepth 100000 in
set_option maxHeartbeats 1000000 in
theorem node_Width3i (w : World) :
    Calls Try.prog 21 #[.int .i64 3, .bool false] w (Ret (.int .i64 4) w) := by
  refine calls_of_wp Try.func21 rfl ?_
  refine g_fr ⟨#[.int .i64 3, .bool false, undef, undef, undef, undef, undef, undef, undef, undef, undef, undef, undef, undef, undef, undef, undef, undef, undef, undef, undef, undef, undef, undef, undef, undef, undef, undef, undef, undef, undef], []⟩ (by kernel_rfl) ?_
  refine wp_seq ?_
  refine wp_region_lit ?_
  refine g_pv 1 [(4, .int .i64 0)] (by kernel_rfl) ?_
  refine wpList_nil ?_
  refine wp_seq ?_
  refine wp_region_lit ?_
  refine g_pv 1 [(5, .int .i64 4)] (by kernel_rfl) ?_
  refine wpList_nil ?_
  refine wp_seq ?_
  refine wp_block ?_
  refine wp_seq ?_
  refine wp_region_lit ?_
  refine g_pv 7 [(7, .int .i64 3), (8, .bool false), (9, .bool false), (10, .int .i64 3), (11, .bool false), (12, .bool false), (6, .bool false)] (by kernel_rfl) ?_
  refine wpList_nil ?_
  refine wp_cond_false (by kernel_rfl) ?_
  refine wp_seq ?_
  refine wp_region_lit ?_
  refine g_pv 3 [(14, .bool false), (15, .bool true), (13, .bool true)] (by kernel_rfl) ?_
  refine wpList_nil ?_
  refine wp_cond_true (by kernel_rfl) ?_
  refine wp_seq ?_
  refine wp_region_lit ?_
  refine g_pv 2 [(16, .int .i64 4), (4, .int .i64 4)] (by kernel_rfl) ?_
  refine wpList_nil ?_
  refine wp_ret (inBlock_ret (then_ret ?_))
  exact g_ret (.int .i64 4) (by kernel_rfl) (by kernel_rfl) ⟨rfl, (Below.refl w.heap.size _)⟩
set_option maxRecDepth 100000 in
set_option maxHeartbeats 1000000 in
theorem node_Max3i (w : World) :
    Calls Try.prog 22 #[.int .i64 3, .bool false] w (Ret (.int .i64 18) w) := by
  refine calls_of_wp Try.func22 rfl ?_
  refine g_fr ⟨#[.int .i64 3, .bool false, undef, undef, undef, undef, undef, undef, undef, undef, undef, undef, undef, undef, undef, undef], []⟩ (by kernel_rfl) ?_
  refine wp_seq ?_
  refine wp_region_lit ?_
  refine g_pv 1 [(4, .int .i64 0)] (by kernel_rfl) ?_
  refine wpList_nil ?_
  refine wp_seq ?_
  refine wp_region_lit ?_
  refine g_pv 2 [(6, .int .i64 3), (7, .bool false)] (by kernel_rfl) ?_
  refine g_op (by kernel_rfl) (op_call (lb := #[]) 21 #[.int .i64 3, .bool false] rfl (by kernel_rfl) (fun _ _ => by kernel_rfl) (by kernel_rfl) ((node_Width3i _).mono ?_))
  rintro e W1 ⟨rfl, hb1⟩
  refine ⟨_, rfl, ?_⟩
  have hB := hb1
  refine g_pv 1 [(5, .int .i64 4)] (by kernel_rfl) ?_
  refine wpList_nil ?_
  refine wp_seq ?_
  refine wp_seq ?_
  refine wp_region_lit ?_
  refine g_pv 2 [(9, .int .i64 4), (10, .bool false)] (by kernel_rfl) ?_
  refine wpList_nil ?_
  refine wp_cond_false (by kernel_rfl) ?_
  refine wp_skip ?_
  refine wp_seq ?_
  refine wp_region_lit ?_
  refine g_pv 6 [(11, .int .i64 4), (12, .int .i64 12), (13, .int .i64 19), (14, .int .i64 6), (15, .int .i64 18), (4, .int .i64 18)] (by kernel_rfl) ?_
  refine wpList_nil ?_
  refine wp_ret ?_
  exact g_ret (.int .i64 18) (by kernel_rfl) (by kernel_rfl) ⟨rfl, hB⟩
set_option maxRecDepth 100000 in
set_option maxHeartbeats 1000000 in
theorem node_Width4l (w : World) :
    Calls Try.prog 21 #[.int .i64 4, .bool true] w (Ret (.int .i64 16) w) := by
  refine calls_of_wp Try.func21 rfl ?_
  refine g_fr ⟨#[.int .i64 4, .bool true, undef, undef, undef, undef, undef, undef, undef, undef, undef, undef, undef, undef, undef, undef, undef, undef, undef, undef, undef, undef, undef, undef, undef, undef, undef, undef, undef, undef, undef], []⟩ (by kernel_rfl) ?_
  refine wp_seq ?_
  refine wp_region_lit ?_
  refine g_pv 1 [(4, .int .i64 0)] (by kernel_rfl) ?_
  refine wpList_nil ?_
  refine wp_seq ?_
  refine wp_region_lit ?_
  refine g_pv 1 [(5, .int .i64 4)] (by kernel_rfl) ?_
  refine wpList_nil ?_
  refine wp_seq ?_
  refine wp_block ?_
  refine wp_seq ?_
  refine wp_region_lit ?_
  refine g_pv 7 [(7, .int .i64 4), (8, .bool false), (9, .bool false), (10, .int .i64 4), (11, .bool false), (12, .bool false), (6, .bool false)] (by kernel_rfl) ?_
  refine wpList_nil ?_
  refine wp_cond_false (by kernel_rfl) ?_
  refine wp_seq ?_
  refine wp_region_lit ?_
  refine g_pv 3 [(14, .bool true), (15, .bool false), (13, .bool false)] (by kernel_rfl) ?_
  refine wpList_nil ?_
  refine wp_cond_false (by kernel_rfl) ?_
  refine wp_skip ?_
  refine wp_seq ?_
  refine wp_seq ?_
  refine wp_region_lit ?_
  refine g_pv 1 [(17, .int .i64 4)] (by kernel_rfl) ?_
  refine wpList_nil ?_
  refine wp_block ?_
  refine wp_seq ?_
  refine wp_block ?_
  refine wp_seq ?_
  refine wp_block ?_
  refine wp_seq ?_
  refine wp_block ?_
  refine wp_seq ?_
  refine wp_seq ?_
  refine wp_seq ?_
  refine wp_region_lit ?_
  refine g_pv 2 [(19, .bool false), (18, .bool false)] (by kernel_rfl) ?_
  refine wpList_nil ?_
  refine wp_cond_false (by kernel_rfl) ?_
  refine wp_skip ?_
  refine wp_seq ?_
  refine wp_seq ?_
  refine wp_region_lit ?_
  refine g_pv 2 [(21, .bool true), (20, .bool true)] (by kernel_rfl) ?_
  refine wpList_nil ?_
  refine wp_cond_true (by kernel_rfl) ?_
  refine wp_exit ?_
  refine then_exit ?_
  refine then_exit ?_
  refine inBlock_pass (by simp) ?_
  refine then_exit ?_
  refine inBlock_hit ?_
  refine wp_region_lit ?_
  refine g_pv 3 [(26, .int .i64 4), (27, .int .i64 12), (5, .int .i64 12)] (by kernel_rfl) ?_
  refine wpList_nil ?_
  refine wp_seq ?_
  refine wp_region_lit ?_
  refine g_pv 3 [(28, .int .i64 12), (29, .int .i64 16), (5, .int .i64 16)] (by kernel_rfl) ?_
  refine wpList_nil ?_
  refine wp_exit ?_
  refine inBlock_hit ?_
  refine wp_seq ?_
  refine wp_region_lit ?_
  refine g_pv 2 [(30, .int .i64 16), (4, .int .i64 16)] (by kernel_rfl) ?_
  refine wpList_nil ?_
  refine wp_ret ?_
  exact g_ret (.int .i64 16) (by kernel_rfl) (by kernel_rfl) ⟨rfl, (Below.refl w.heap.size _)⟩
set_option maxRecDepth 100000 in
set_option maxHeartbeats 1000000 in
theorem node_Max4l (w : World) :
    Calls Try.prog 22 #[.int .i64 4, .bool true] w (Ret (.int .i64 9) w) := by
  refine calls_of_wp Try.func22 rfl ?_
  refine g_fr ⟨#[.int .i64 4, .bool true, undef, undef, undef, undef, undef, undef, undef, undef, undef, undef, undef, undef, undef, undef], []⟩ (by kernel_rfl) ?_
  refine wp_seq ?_
  refine wp_region_lit ?_
  refine g_pv 1 [(4, .int .i64 0)] (by kernel_rfl) ?_
  refine wpList_nil ?_
  refine wp_seq ?_
  refine wp_region_lit ?_
  refine g_pv 2 [(6, .int .i64 4), (7, .bool true)] (by kernel_rfl) ?_
  refine g_op (by kernel_rfl) (op_call (lb := #[]) 21 #[.int .i64 4, .bool true] rfl (by kernel_rfl) (fun _ _ => by kernel_rfl) (by kernel_rfl) ((node_Width4l _).mono ?_))
  rintro e W1 ⟨rfl, hb1⟩
  refine ⟨_, rfl, ?_⟩
  have hB := hb1
  refine g_pv 1 [(5, .int .i64 16)] (by kernel_rfl) ?_
  refine wpList_nil ?_
  refine wp_seq ?_
  refine wp_seq ?_
  refine wp_region_lit ?_
  refine g_pv 2 [(9, .int .i64 16), (10, .bool false)] (by kernel_rfl) ?_
  refine wpList_nil ?_
  refine wp_cond_false (by kernel_rfl) ?_
  refine wp_skip ?_
  refine wp_seq ?_
  refine wp_region_lit ?_
  refine g_pv 6 [(11, .int .i64 16), (12, .int .i64 24), (13, .int .i64 9), (14, .int .i64 3), (15, .int .i64 9), (4, .int .i64 9)] (by kernel_rfl) ?_
  refine wpList_nil ?_
  refine wp_ret ?_
  exact g_ret (.int .i64 9) (by kernel_rfl) (by kernel_rfl) ⟨rfl, hB⟩
set_option maxRecDepth 100000 in
set_option maxHeartbeats 1000000 in
theorem node_Width4i (w : World) :
    Calls Try.prog 21 #[.int .i64 4, .bool false] w (Ret (.int .i64 4) w) := by
  refine calls_of_wp Try.func21 rfl ?_
  refine g_fr ⟨#[.int .i64 4, .bool false, undef, undef, undef, undef, undef, undef, undef, undef, undef, undef, undef, undef, undef, undef, undef, undef, undef, undef, undef, undef, undef, undef, undef, undef, undef, undef, undef, undef, undef], []⟩ (by kernel_rfl) ?_
  refine wp_seq ?_
  refine wp_region_lit ?_
  refine g_pv 1 [(4, .int .i64 0)] (by kernel_rfl) ?_
  refine wpList_nil ?_
  refine wp_seq ?_
  refine wp_region_lit ?_
  refine g_pv 1 [(5, .int .i64 4)] (by kernel_rfl) ?_
  refine wpList_nil ?_
  refine wp_seq ?_
  refine wp_block ?_
  refine wp_seq ?_
  refine wp_region_lit ?_
  refine g_pv 7 [(7, .int .i64 4), (8, .bool false), (9, .bool false), (10, .int .i64 4), (11, .bool false), (12, .bool false), (6, .bool false)] (by kernel_rfl) ?_
  refine wpList_nil ?_
  refine wp_cond_false (by kernel_rfl) ?_
  refine wp_seq ?_
  refine wp_region_lit ?_
  refine g_pv 3 [(14, .bool false), (15, .bool true), (13, .bool true)] (by kernel_rfl) ?_
  refine wpList_nil ?_
  refine wp_cond_true (by kernel_rfl) ?_
  refine wp_seq ?_
  refine wp_region_lit ?_
  refine g_pv 2 [(16, .int .i64 4), (4, .int .i64 4)] (by kernel_rfl) ?_
  refine wpList_nil ?_
  refine wp_ret (inBlock_ret (then_ret ?_))
  exact g_ret (.int .i64 4) (by kernel_rfl) (by kernel_rfl) ⟨rfl, (Below.refl w.heap.size _)⟩
set_option maxRecDepth 100000 in
set_option maxHeartbeats 1000000 in
theorem node_Max4i (w : World) :
    Calls Try.prog 22 #[.int .i64 4, .bool false] w (Ret (.int .i64 18) w) := by
  refine calls_of_wp Try.func22 rfl ?_
  refine g_fr ⟨#[.int .i64 4, .bool false, undef, undef, undef, undef, undef, undef, undef, undef, undef, undef, undef, undef, undef, undef], []⟩ (by kernel_rfl) ?_
  refine wp_seq ?_
  refine wp_region_lit ?_
  refine g_pv 1 [(4, .int .i64 0)] (by kernel_rfl) ?_
  refine wpList_nil ?_
  refine wp_seq ?_
  refine wp_region_lit ?_
  refine g_pv 2 [(6, .int .i64 4), (7, .bool false)] (by kernel_rfl) ?_
  refine g_op (by kernel_rfl) (op_call (lb := #[]) 21 #[.int .i64 4, .bool false] rfl (by kernel_rfl) (fun _ _ => by kernel_rfl) (by kernel_rfl) ((node_Width4i _).mono ?_))
  rintro e W1 ⟨rfl, hb1⟩
  refine ⟨_, rfl, ?_⟩
  have hB := hb1
  refine g_pv 1 [(5, .int .i64 4)] (by kernel_rfl) ?_
  refine wpList_nil ?_
  refine wp_seq ?_
  refine wp_seq ?_
  refine wp_region_lit ?_
  refine g_pv 2 [(9, .int .i64 4), (10, .bool false)] (by kernel_rfl) ?_
  refine wpList_nil ?_
  refine wp_cond_false (by kernel_rfl) ?_
  refine wp_skip ?_
  refine wp_seq ?_
  refine wp_region_lit ?_
  refine g_pv 6 [(11, .int .i64 4), (12, .int .i64 12), (13, .int .i64 19), (14, .int .i64 6), (15, .int .i64 18), (4, .int .i64 18)] (by kernel_rfl) ?_
  refine wpList_nil ?_
  refine wp_ret ?_
  exact g_ret (.int .i64 18) (by kernel_rfl) (by kernel_rfl) ⟨rfl, hB⟩
set_option maxRecDepth 100000 in
set_option maxHeartbeats 1000000 in
theorem node_Width5l (w : World) :
    Calls Try.prog 21 #[.int .i64 5, .bool true] w (Ret (.int .i64 4) w) := by
  refine calls_of_wp Try.func21 rfl ?_
  refine g_fr ⟨#[.int .i64 5, .bool true, undef, undef, undef, undef, undef, undef, undef, undef, undef, undef, undef, undef, undef, undef, undef, undef, undef, undef, undef, undef, undef, undef, undef, undef, undef, undef, undef, undef, undef], []⟩ (by kernel_rfl) ?_
  refine wp_seq ?_
  refine wp_region_lit ?_
  refine g_pv 1 [(4, .int .i64 0)] (by kernel_rfl) ?_
  refine wpList_nil ?_
  refine wp_seq ?_
  refine wp_region_lit ?_
  refine g_pv 1 [(5, .int .i64 4)] (by kernel_rfl) ?_
  refine wpList_nil ?_
  refine wp_seq ?_
  refine wp_block ?_
  refine wp_seq ?_
  refine wp_region_lit ?_
  refine g_pv 7 [(7, .int .i64 5), (8, .bool false), (9, .bool false), (10, .int .i64 5), (11, .bool false), (12, .bool false), (6, .bool false)] (by kernel_rfl) ?_
  refine wpList_nil ?_
  refine wp_cond_false (by kernel_rfl) ?_
  refine wp_seq ?_
  refine wp_region_lit ?_
  refine g_pv 3 [(14, .bool true), (15, .bool false), (13, .bool false)] (by kernel_rfl) ?_
  refine wpList_nil ?_
  refine wp_cond_false (by kernel_rfl) ?_
  refine wp_skip ?_
  refine wp_seq ?_
  refine wp_seq ?_
  refine wp_region_lit ?_
  refine g_pv 1 [(17, .int .i64 5)] (by kernel_rfl) ?_
  refine wpList_nil ?_
  refine wp_block ?_
  refine wp_seq ?_
  refine wp_block ?_
  refine wp_seq ?_
  refine wp_block ?_
  refine wp_seq ?_
  refine wp_block ?_
  refine wp_seq ?_
  refine wp_seq ?_
  refine wp_seq ?_
  refine wp_region_lit ?_
  refine g_pv 2 [(19, .bool false), (18, .bool false)] (by kernel_rfl) ?_
  refine wpList_nil ?_
  refine wp_cond_false (by kernel_rfl) ?_
  refine wp_skip ?_
  refine wp_seq ?_
  refine wp_seq ?_
  refine wp_region_lit ?_
  refine g_pv 2 [(21, .bool false), (20, .bool false)] (by kernel_rfl) ?_
  refine wpList_nil ?_
  refine wp_cond_false (by kernel_rfl) ?_
  refine wp_skip ?_
  refine wp_seq ?_
  refine wp_region_lit ?_
  refine g_pv 2 [(23, .bool false), (22, .bool false)] (by kernel_rfl) ?_
  refine wpList_nil ?_
  refine wp_cond_false (by kernel_rfl) ?_
  refine wp_skip ?_
  refine wp_exit ?_
  refine inBlock_pass (by simp) ?_
  refine then_exit ?_
  refine inBlock_pass (by simp) ?_
  refine then_exit ?_
  refine inBlock_pass (by simp) ?_
  refine then_exit ?_
  refine inBlock_hit ?_
  refine wp_seq ?_
  refine wp_region_lit ?_
  refine g_pv 2 [(30, .int .i64 4), (4, .int .i64 4)] (by kernel_rfl) ?_
  refine wpList_nil ?_
  refine wp_ret ?_
  exact g_ret (.int .i64 4) (by kernel_rfl) (by kernel_rfl) ⟨rfl, (Below.refl w.heap.size _)⟩
set_option maxRecDepth 100000 in
set_option maxHeartbeats 1000000 in
theorem node_Max5l (w : World) :
    Calls Try.prog 22 #[.int .i64 5, .bool true] w (Ret (.int .i64 18) w) := by
  refine calls_of_wp Try.func22 rfl ?_
  refine g_fr ⟨#[.int .i64 5, .bool true, undef, undef, undef, undef, undef, undef, undef, undef, undef, undef, undef, undef, undef, undef], []⟩ (by kernel_rfl) ?_
  refine wp_seq ?_
  refine wp_region_lit ?_
  refine g_pv 1 [(4, .int .i64 0)] (by kernel_rfl) ?_
  refine wpList_nil ?_
  refine wp_seq ?_
  refine wp_region_lit ?_
  refine g_pv 2 [(6, .int .i64 5), (7, .bool true)] (by kernel_rfl) ?_
  refine g_op (by kernel_rfl) (op_call (lb := #[]) 21 #[.int .i64 5, .bool true] rfl (by kernel_rfl) (fun _ _ => by kernel_rfl) (by kernel_rfl) ((node_Width5l _).mono ?_))
  rintro e W1 ⟨rfl, hb1⟩
  refine ⟨_, rfl, ?_⟩
  have hB := hb1
  refine g_pv 1 [(5, .int .i64 4)] (by kernel_rfl) ?_
  refine wpList_nil ?_
  refine wp_seq ?_
  refine wp_seq ?_
  refine wp_region_lit ?_
  refine g_pv 2 [(9, .int .i64 4), (10, .bool false)] (by kernel_rfl) ?_
  refine wpList_nil ?_
  refine wp_cond_false (by kernel_rfl) ?_
  refine wp_skip ?_
  refine wp_seq ?_
  refine wp_region_lit ?_
  refine g_pv 6 [(11, .int .i64 4), (12, .int .i64 12), (13, .int .i64 19), (14, .int .i64 6), (15, .int .i64 18), (4, .int .i64 18)] (by kernel_rfl) ?_
  refine wpList_nil ?_
  refine wp_ret ?_
  exact g_ret (.int .i64 18) (by kernel_rfl) (by kernel_rfl) ⟨rfl, hB⟩
set_option maxRecDepth 100000 in
set_option maxHeartbeats 1000000 in
theorem node_Width5i (w : World) :
    Calls Try.prog 21 #[.int .i64 5, .bool false] w (Ret (.int .i64 4) w) := by
  refine calls_of_wp Try.func21 rfl ?_
  refine g_fr ⟨#[.int .i64 5, .bool false, undef, undef, undef, undef, undef, undef, undef, undef, undef, undef, undef, undef, undef, undef, undef, undef, undef, undef, undef, undef, undef, undef, undef, undef, undef, undef, undef, undef, undef], []⟩ (by kernel_rfl) ?_
  refine wp_seq ?_
  refine wp_region_lit ?_
  refine g_pv 1 [(4, .int .i64 0)] (by kernel_rfl) ?_
  refine wpList_nil ?_
  refine wp_seq ?_
  refine wp_region_lit ?_
  refine g_pv 1 [(5, .int .i64 4)] (by kernel_rfl) ?_
  refine wpList_nil ?_
  refine wp_seq ?_
  refine wp_block ?_
  refine wp_seq ?_
  refine wp_region_lit ?_
  refine g_pv 7 [(7, .int .i64 5), (8, .bool false), (9, .bool false), (10, .int .i64 5), (11, .bool false), (12, .bool false), (6, .bool false)] (by kernel_rfl) ?_
  refine wpList_nil ?_
  refine wp_cond_false (by kernel_rfl) ?_
  refine wp_seq ?_
  refine wp_region_lit ?_
  refine g_pv 3 [(14, .bool false), (15, .bool true), (13, .bool true)] (by kernel_rfl) ?_
  refine wpList_nil ?_
  refine wp_cond_true (by kernel_rfl) ?_
  refine wp_seq ?_
  refine wp_region_lit ?_
  refine g_pv 2 [(16, .int .i64 4), (4, .int .i64 4)] (by kernel_rfl) ?_
  refine wpList_nil ?_
  refine wp_ret (inBlock_ret (then_ret ?_))
  exact g_ret (.int .i64 4) (by kernel_rfl) (by kernel_rfl) ⟨rfl, (Below.refl w.heap.size _)⟩
set_option maxRecDepth 100000 in
set_option maxHeartbeats 1000000 in
theorem node_Max5i (w : World) :
    Calls Try.prog 22 #[.int .i64 5, .bool false] w (Ret (.int .i64 18) w) := by
  refine calls_of_wp Try.func22 rfl ?_
  refine g_fr ⟨#[.int .i64 5, .bool false, undef, undef, undef, undef, undef, undef, undef, undef, undef, undef, undef, undef, undef, undef], []⟩ (by kernel_rfl) ?_
  refine wp_seq ?_
  refine wp_region_lit ?_
  refine g_pv 1 [(4, .int .i64 0)] (by kernel_rfl) ?_
  refine wpList_nil ?_
  refine wp_seq ?_
  refine wp_region_lit ?_
  refine g_pv 2 [(6, .int .i64 5), (7, .bool false)] (by kernel_rfl) ?_
  refine g_op (by kernel_rfl) (op_call (lb := #[]) 21 #[.int .i64 5, .bool false] rfl (by kernel_rfl) (fun _ _ => by kernel_rfl) (by kernel_rfl) ((node_Width5i _).mono ?_))
  rintro e W1 ⟨rfl, hb1⟩
  refine ⟨_, rfl, ?_⟩
  have hB := hb1
  refine g_pv 1 [(5, .int .i64 4)] (by kernel_rfl) ?_
  refine wpList_nil ?_
  refine wp_seq ?_
  refine wp_seq ?_
  refine wp_region_lit ?_
  refine g_pv 2 [(9, .int .i64 4), (10, .bool false)] (by kernel_rfl) ?_
  refine wpList_nil ?_
  refine wp_cond_false (by kernel_rfl) ?_
  refine wp_skip ?_
  refine wp_seq ?_
  refine wp_region_lit ?_
  refine g_pv 6 [(11, .int .i64 4), (12, .int .i64 12), (13, .int .i64 19), (14, .int .i64 6), (15, .int .i64 18), (4, .int .i64 18)] (by kernel_rfl) ?_
  refine wpList_nil ?_
  refine wp_ret ?_
  exact g_ret (.int .i64 18) (by kernel_rfl) (by kernel_rfl) ⟨rfl, hB⟩
/-- the bytes of a value -/
def widN (t : Int) (leaf : Bool) : Nat := if leaf = false then 4 else if t = 2 then 8 else if t = 3 then 24 else if t = 4 then 16 else 4
/-- the entries of a full node -/
def maxN (t : Int) (leaf : Bool) : Nat := if leaf = false then 18 else if t = 2 then 12 else if t = 3 then 6 else if t = 4 then 9 else 18
theorem node_Width (t : Int) (leaf : Bool) (h1 : 1 ≤ t) (h2 : t ≤ 5) (w : World) : Calls Try.prog 21 #[.int .i64 t, .bool leaf] w (Ret (.int .i64 (widN t leaf : Int)) w) := by
  obtain rfl | rfl | rfl | rfl | rfl : t = 1 ∨ t = 2 ∨ t = 3 ∨ t = 4 ∨ t = 5 := by omega
  all_goals cases leaf
  · exact node_Width1i w
  · exact node_Width1l w
  · exact node_Width2i w
  · exact node_Width2l w
  · exact node_Width3i w
  · exact node_Width3l w
  · exact node_Width4i w
  · exact node_Width4l w
  · exact node_Width5i w
  · exact node_Width5l w
theorem node_Max (t : Int) (leaf : Bool) (h1 : 1 ≤ t) (h2 : t ≤ 5) (w : World) : Calls Try.prog 22 #[.int .i64 t, .bool leaf] w (Ret (.int .i64 (maxN t leaf : Int)) w) := by
  obtain rfl | rfl | rfl | rfl | rfl : t = 1 ∨ t = 2 ∨ t = 3 ∨ t = 4 ∨ t = 5 := by omega
  all_goals cases leaf
  · exact node_Max1i w
  · exact node_Max1l w
  · exact node_Max2i w
  · exact node_Max2l w
  · exact node_Max3i w
  · exact node_Max3l w
  · exact node_Max4i w
  · exact node_Max4l w
  · exact node_Max5i w
  · exact node_Max5l w
theorem maxN_pos (t : Int) (leaf : Bool) : 1 ≤ maxN t leaf ∧ maxN t leaf ≤ 18 := by unfold maxN; repeat' split
                                                                                    all_goals decide
theorem run_quo {P : Program} {a : Act} {o : Oper} {t : TypeId} {x y : Operand} {t2 : TypeId} {p q r : Int} {k : IntKind} (ho : o.op = .binOp .quo t x y t2) (hx : a.eval x = .int k p) (hy : a.eval y = .int k q) (hq : q ≠ 0) (hr : k.wrap (Int.tdiv p q) = r) (w : World) :
    (execOp a.eval o).run P w = .ok (.value (.int k r)) w := by
  subst hr
  have hb : (binOp .quo t (.int k p) (.int k q)).run P w = .ok (.int k (k.wrap (p.tdiv q))) w := by
    simp [binOp, Op.intDiv, hq]
  have hg : (eqGuard .quo t x y (.int k p) (.int k q)).run P w = .ok () w := rfl
  simp only [execOp, ho, hx, hy, Sem.run_bind, hg, Result.andThen_ok, hb]
  rfl
/-- so many nodes of m entries each hold n entries; one at least -/
def ovN (n m : Nat) : Nat := max 1 ((n + m - 1) / m)
theorem max_cast (a b : Nat) : (if (b : Int) > (a : Int) then (b : Int) else (a : Int)) = ((max a b : Nat) : Int) := by split <;> omega
theorem ovN_pos (n m : Nat) : 1 ≤ ovN n m := by unfold ovN; omega
theorem ovN_le (n m : Nat) (hm : 1 ≤ m) : ovN n m ≤ n + 1 := by
  have : (n + m - 1) / m ≤ n := by
    rw [Nat.div_le_iff_le_mul_add_pred (by omega)]
    have := Nat.le_mul_of_pos_left n hm
    omega
  unfold ovN; omega
theorem ov18 {x : Nat} (h : 2 ≤ x) : ovN x 18 ≤ x / 2 := by unfold ovN; omega
def lenOf : Value → Nat
  | .slice _ n _ => n
  | _ => 0
def nv (n : Nat) : Value := .int .i64 (n : Int)
/-- the levels of a tree from x nodes on -/
def levs (x : Nat) : List Nat := if h : x ≤ 1 then [x] else x :: levs (ovN x 18)
termination_by x
decreasing_by have := ov18 (x := x) (by omega); omega
theorem levs_one {x : Nat} (h : x ≤ 1) : levs x = [x] := by rw [levs]; simp [h]
theorem levs_more {x : Nat} (h : ¬ x ≤ 1) : levs x = x :: levs (ovN x 18) := by rw [levs]; simp [h]
theorem levs_sum {x : Nat} (h : 1 ≤ x) : (levs x).sum ≤ 2 * x := by
  induction x using Nat.strongRecOn with
  | _ x ih =>
    by_cases h1 : x ≤ 1
    · rw [levs_one h1]; simp; omega
    · rw [levs_more h1, List.sum_cons]
      have h2 := ov18 (x := x) (by omega)
      have := ih (ovN x 18) (by omega) (ovN_pos _ _)
      omega
theorem levs_len {x : Nat} (h : 1 ≤ x) : (levs x).length ≤ x := by
  induction x using Nat.strongRecOn with
  | _ x ih =>
    by_cases h1 : x ≤ 1
    · rw [levs_one h1]; simpa using h
    · rw [levs_more h1, List.length_cons]
      have h2 := ov18 (x := x) (by omega)
      have := ih (ovN x 18) (by omega) (ovN_pos _ _)
      omega
/-- a slice of numbers -/
theorem nv_elem {w : World} {b : Option Addr} {n c : Nat} {l : List Nat} (h : Sl w (.slice b n c) n (l.map nv)) (hl : l.length = n) {k : Nat} (hk : k < n) : b.isSome = true ∧ w.cell? (elemAddr b (k * 1)) = some (.int .i64 ((l.getD k 0 : Nat) : Int)) := by
  have e : l.map nv = (l.map fun x : Nat => (x : Int)).map (Value.int .i64) := by simp [nv]
  rw [e] at h
  have := IntsN.elem h (by simpa using hl) hk
  rw [show (l.map fun x : Nat => (x : Int)).getD k 0 = ((l.getD k 0 : Nat) : Int) by simp [List.getD, List.getElem?_eq_getElem (show k < l.length by omega)]] at this
  exact this
theorem getD_last {xs : List Nat} {x j : Nat} (h : xs.length = j) : (xs ++ [x]).getD j 0 = x := by subst h; simp [List.getD]
theorem take_sum {L : List Nat} {k : Nat} (h : k < L.length) : (L.take (k + 1)).sum = (L.take k).sum + L.getD k 0 := by
  rw [List.take_add_one, List.sum_append]; simp [List.getD, List.getElem?_eq_getElem h]
theorem take_le {L : List Nat} (k : Nat) : (L.take k).sum ≤ L.sum := by
  conv => rhs; rw [← List.take_append_drop k L, List.sum_append]
  omega
/-- the levels of a tree of n entries -/
def levL (t : Int) (n : Nat) : List Nat := levs (ovN n (maxN t true))
/-- its nodes -/
def nodN (t : Int) (n : Nat) : Nat := (levL t n).sum
theorem levL_len (t : Int) (n : Nat) : (levL t n).length ≤ n + 1 := by
  have := levs_len (ovN_pos n (maxN t true)); have := ovN_le n (maxN t true) (maxN_pos t true).1; unfold levL; omega
theorem nodN_le (t : Int) (n : Nat) : nodN t n ≤ 2 * n + 2 := by
  have := levs_sum (ovN_pos n (maxN t true)); have := ovN_le n (maxN t true) (maxN_pos t true).1; unfold nodN levL; omega
/-- node i's entries, when n entries are laid into nodes of m -/
def sizN (n m i : Nat) : Nat := min m (n - i * m)
theorem siz_le {n m i : Nat} (hm : 1 ≤ m) (h : i < ovN n m) : i * m ≤ n := by
  unfold ovN at h
  rcases Nat.eq_zero_or_pos i with rfl | hi
  · omega
  · have h1 : i + 1 ≤ (n + m - 1) / m := by omega
    have h2 := (Nat.le_div_iff_mul_le (by omega)).1 h1
    rw [Nat.add_mul] at h2
    omega
def sizK (n m k : Nat) : List Value := (List.range (ovN n m)).map fun i => .int .i64 (if i < k then (sizN n m i : Int) else 0)
def sizL (n m : Nat) : List Nat := (List.range (ovN n m)).map (sizN n m)
theorem sizK_zero (n m : Nat) : zeros (Value.int .i64 0).cells.toList (ovN n m) = sizK n m 0 := by
  rw [show (Value.int .i64 0).cells.toList = [Value.int .i64 0] from rfl, zeros, sizK]
  simp [List.map_const']
theorem sizK_all (n m : Nat) : sizK n m (ovN n m) = (sizL n m).map nv := by
  unfold sizK sizL nv
  rw [List.map_map]
  apply List.map_congr_left
  intro i hi
  rw [List.mem_range] at hi
  simp [hi]
theorem sizK_set {n m k : Nat} (h : k < ovN n m) : (sizK n m k).set k (.int .i64 (sizN n m k : Int)) = sizK n m (k + 1) := by
  apply List.ext_getElem?
  intro i
  by_cases hi : i < ovN n m
  · by_cases e : k = i
    · subst e
      rw [List.getElem?_set_self (by simpa [sizK] using h)]
      simp [sizK, List.getElem?_range h]
    · rw [List.getElem?_set_ne e]
      simp only [sizK, List.getElem?_map, List.getElem?_range hi, Option.map_some]
      by_cases e2 : i < k
      · simp [e2, show i < k + 1 by omega]
      · simp [e2, show ¬ i < k + 1 by omega]
  · rw [List.getElem?_eq_none (by simp [sizK]; omega), List.getElem?_eq_none (by simp [sizK]; omega)]
theorem sizL_len (n m : Nat) : (sizL n m).length = ovN n m := by simp [sizL]
end Go.Proofs.Ytoiblgeheblddaa

