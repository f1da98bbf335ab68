/- value.Root of a block number: its four bytes. -/
import Derived.Test.YtlmogdjcnbjhfaaDoorPack
import Derived.Test.YtlmogdjcnbjhfaaDoorAllocPl
namespace Go.Proofs.YtlmogdjcnbjhfaaDoor
open Go.RowKit Go.Extern.Stop Go.Stop Go.Extern
set_option linter.unusedVariables false

set_option maxRecDepth 100000 in
set_option maxHeartbeats 1000000 in
theorem value_root (w : World) :
    Calls Tryd.prog 42 #[] w (RetS (fun w' r => ∃ b, r = .slice (some ⟨b, 0, none⟩) 1 1 ∧ w.heap.size ≤ b ∧ Blk w' b [.int .i64 4, .int .i64 1, .int .i64 14399] 115) w) := by
  refine calls_of_wp Tryd.func42 rfl ?_
  refine g_fr ⟨#[undef, undef, undef], []⟩ (by kernel_rfl) ?_
  refine wp_seq ?_
  refine wp_region_lit ?_
  refine g_pure 1 ⟨#[.slice none 0 0, undef, undef], []⟩ (by kernel_rfl) ?_
  refine wpList_nil ?_
  refine wp_seq ?_
  refine wp_region_lit ?_
  refine g_pure 1 ⟨#[.slice none 0 0, .agg #[.int .i64 4, .int .i64 1, .int .i64 14399], undef], []⟩ (by kernel_rfl) ?_
  refine g_op (by kernel_rfl) (op_buildSlice 115 [.int .i64 4, .int .i64 1, .int .i64 14399] rfl (by kernel_rfl) ?_)
  intro b1 W1 n1
  have g1 := n1.ge (Below.refl w.heap.size _)
  have hB := n1.below
  have k1 := n1.blk
  refine g_pure 1 ⟨#[.slice (some ⟨b1, 0, none⟩) 1 1, .agg #[.int .i64 4, .int .i64 1, .int .i64 14399], .slice (some ⟨b1, 0, none⟩) 1 1], []⟩ (by kernel_rfl) ?_
  refine wpList_nil ?_
  refine wp_ret ?_
  show bodyPost _ _ _ .ret _ _
  exact g_ret (.slice (some ⟨b1, 0, none⟩) 1 1) rfl (by kernel_rfl) ⟨_, rfl, hB, _, rfl, g1, k1⟩
set_option maxRecDepth 100000 in
set_option maxHeartbeats 1000000 in
theorem value_put1 (gl gn : Nat) (n : Int) (h1 : 1 ≤ n) (h2 : n ≤ 14399) (w : World) (hl : Blk w gl [.int .i64 4, .int .i64 1, .int .i64 14399] 115) (hn : Blk w gn [.int .i64 n] 3) :
    Calls Tryd.prog 41 #[.slice (some ⟨gl, 0, none⟩) 1 1, .slice (some ⟨gn, 0, none⟩) 1 1] w (Ret (.string ⟨(leB n 4).toArray⟩) w) := by
  have hlo := h1
  have hhi := h2
  clear h2
  refine calls_of_wp Tryd.func41 rfl ?_
  refine g_fr ⟨#[.slice (some ⟨gl, 0, none⟩) 1 1, .slice (some ⟨gn, 0, none⟩) 1 1, undef, undef, undef, undef, undef, undef, undef, undef, undef, undef, undef, undef, undef, undef, undef, undef, undef, undef, undef, undef, undef, undef, undef, undef, undef, undef, undef, undef, undef, undef, undef, undef, undef, undef, undef, undef, undef, undef, undef, undef, undef, undef, undef, undef, undef, undef, undef, undef, undef], []⟩ (by kernel_rfl) ?_
  refine wp_seq ?_
  refine wp_region_lit ?_
  refine g_pure 1 ⟨#[.slice (some ⟨gl, 0, none⟩) 1 1, .slice (some ⟨gn, 0, none⟩) 1 1, undef, undef, .string ⟨#[]⟩, undef, undef, undef, undef, undef, undef, undef, undef, undef, undef, undef, undef, undef, undef, undef, undef, undef, undef, undef, undef, undef, undef, undef, undef, undef, undef, undef, undef, undef, undef, undef, undef, undef, undef, undef, undef, undef, undef, undef, undef, undef, undef, undef, undef, undef, undef], []⟩ (by kernel_rfl) ?_
  refine wpList_nil ?_
  refine wp_seq ?_
  refine wp_region_lit ?_
  refine g_pure 1 ⟨#[.slice (some ⟨gl, 0, none⟩) 1 1, .slice (some ⟨gn, 0, none⟩) 1 1, undef, undef, .string ⟨#[]⟩, .slice none 0 0, undef, undef, undef, undef, undef, undef, undef, undef, undef, undef, undef, undef, undef, undef, undef, undef, undef, undef, undef, undef, undef, undef, undef, undef, undef, undef, undef, undef, undef, undef, undef, undef, undef, undef, undef, undef, undef, undef, undef, undef, undef, undef, undef, undef, undef], []⟩ (by kernel_rfl) ?_
  refine wpList_nil ?_
  refine wp_seq ?_
  refine wp_seq ?_
  refine wp_region_lit ?_
  refine g_pure 3 ⟨#[.slice (some ⟨gl, 0, none⟩) 1 1, .slice (some ⟨gn, 0, none⟩) 1 1, undef, undef, .string ⟨#[]⟩, .slice none 0 0, undef, undef, undef, undef, .slice (some ⟨gl, 0, none⟩) 1 1, .int .i64 1, .int .i64 0, undef, undef, undef, undef, undef, undef, undef, undef, undef, undef, undef, undef, undef, undef, undef, undef, undef, undef, undef, undef, undef, undef, undef, undef, undef, undef, undef, undef, undef, undef, undef, undef, undef, undef, undef, undef, undef, undef], []⟩ (by kernel_rfl) ?_
  refine wpList_nil ?_
  refine wp_block ?_
  refine wp_loop_rounds 2 ?_
  refine g_round ?_
  refine wp_seq ?_
  refine wp_region_lit ?_
  refine g_pure 1 ⟨#[.slice (some ⟨gl, 0, none⟩) 1 1, .slice (some ⟨gn, 0, none⟩) 1 1, undef, undef, .string ⟨#[]⟩, .slice none 0 0, undef, undef, undef, undef, .slice (some ⟨gl, 0, none⟩) 1 1, .int .i64 1, .int .i64 0, .bool true, undef, undef, undef, undef, undef, undef, undef, undef, undef, undef, undef, undef, undef, undef, undef, undef, undef, undef, undef, undef, undef, undef, undef, undef, undef, undef, undef, undef, undef, undef, undef, undef, undef, undef, undef, undef, undef], []⟩ (by kernel_rfl) ?_
  refine wpList_nil ?_
  refine wp_seq ?_
  refine wp_cond_true rfl ?_
  refine wp_skip ?_
  refine wp_seq ?_
  refine wp_block ?_
  refine wp_seq ?_
  refine wp_region_lit ?_
  refine g_pure 2 ⟨#[.slice (some ⟨gl, 0, none⟩) 1 1, .slice (some ⟨gn, 0, none⟩) 1 1, undef, undef, .string ⟨#[]⟩, .slice none 0 0, undef, undef, undef, undef, .slice (some ⟨gl, 0, none⟩) 1 1, .int .i64 1, .int .i64 0, .bool true, .int .i64 0, .pointer (some ⟨gl, 0, none⟩), undef, undef, undef, undef, undef, undef, undef, undef, undef, undef, undef, undef, undef, undef, undef, undef, undef, undef, undef, undef, undef, undef, undef, undef, undef, undef, undef, undef, undef, undef, undef, undef, undef, undef, undef], []⟩ (by kernel_rfl) ?_
  refine g_op (by kernel_rfl) (op_loadv [.int .i64 4, .int .i64 1, .int .i64 14399] _ rfl rfl Tryd.underlying115 rfl (by kernel_rfl) hl.whole ?_)
  refine g_op (by kernel_rfl) (op_alloc [.int .i64 0, .int .i64 0, .int .i64 0] rfl (by kernel_rfl) ?_)
  intro b1 W1 n1
  have d1_gl := n1.ne hl
  have d1_gn := n1.ne hn
  have g1 := n1.ge (Below.refl w.heap.size _)
  have hB := n1.below
  replace hl := hl.below n1.below
  replace hn := hn.below n1.below
  have k1 := n1.blk
  refine g_pure 1 ⟨#[.slice (some ⟨gl, 0, none⟩) 1 1, .slice (some ⟨gn, 0, none⟩) 1 1, undef, undef, .string ⟨#[]⟩, .slice none 0 0, .int .i64 0, .pointer (some ⟨b1, 0, none⟩), undef, undef, .slice (some ⟨gl, 0, none⟩) 1 1, .int .i64 1, .int .i64 0, .bool true, .int .i64 0, .pointer (some ⟨gl, 0, none⟩), .agg #[.int .i64 4, .int .i64 1, .int .i64 14399], undef, undef, undef, undef, undef, undef, undef, undef, undef, undef, undef, undef, undef, undef, undef, undef, undef, undef, undef, undef, undef, undef, undef, undef, undef, undef, undef, undef, undef, undef, undef, undef, undef, undef], []⟩ (by kernel_rfl) ?_
  refine g_op (by kernel_rfl) (op_storev [.int .i64 4, .int .i64 1, .int .i64 14399] rfl rfl rfl (by kernel_rfl) (by first | decide | simp [Value.oneCell']) k1 (by first | decide | simp) ?_)
  intro W2 u2 k2
  change Blk _ _ [.int .i64 4, .int .i64 1, .int .i64 14399] _ at k2
  replace hB := u2.below hB g1
  replace hl := u2.blk hl (Ne.symm (Ne.symm d1_gl))
  replace hn := u2.blk hn (Ne.symm (Ne.symm d1_gn))
  refine wpList_nil ?_
  refine wp_seq ?_
  refine wp_seq ?_
  replace hB := Bl.next hB (below_drew W2)
  replace hl := hl.below (below_drew W2)
  replace hn := hn.below (below_drew W2)
  replace k2 := k2.below (below_drew W2)
  refine h_reg (Below (W2.drew).heap.size (W2.drew)) 16 rfl #[false, false, false, false, false, false, false, false, false, false, false, false, false, false, false, false] rfl (by kernel_rfl) (Below.refl _ _) ?_
  intro hS3
  have hBd5 := hB
  have kd5_gl := hl
  have kd5_gn := hn
  have kd5_b1 := k2
  refine h_pure [0, 1, 2] 13 rfl #[true, true, true, false, false, false, false, false, false, false, false, false, false, false, false, false] ⟨#[.slice (some ⟨gl, 0, none⟩) 1 1, .slice (some ⟨gn, 0, none⟩) 1 1, undef, undef, .string ⟨#[]⟩, .slice none 0 0, .int .i64 0, .pointer (some ⟨b1, 0, none⟩), undef, undef, .slice (some ⟨gl, 0, none⟩) 1 1, .int .i64 1, .int .i64 0, .bool true, .int .i64 0, .pointer (some ⟨gl, 0, none⟩), .agg #[.int .i64 4, .int .i64 1, .int .i64 14399], .slice (some ⟨gn, 0, none⟩) 1 1, .int .i64 0, .pointer (some ⟨gn, 0, none⟩), undef, undef, undef, undef, undef, undef, undef, undef, undef, undef, undef, undef, undef, undef, undef, undef, undef, undef, undef, undef, undef, undef, undef, undef, undef, undef, undef, undef, undef, undef, undef], []⟩ (by kernel_rfl) (fun _ _ _ _ _ h => h) (by kernel_rfl) hS3 ?_
  refine h_load 3 12 rfl _ (.int .i64 n) rfl (by kernel_rfl) (by kernel_rfl) (by kernel_rfl) (fun _ _ _ _ _ h => h) (by kernel_rfl) rfl rfl (by kernel_rfl) (fun V hV => ((kd5_gn.below hV).cell (i := 0) rfl)) hS3 ?_
  refine h_pure [4] 11 rfl #[true, true, true, true, true, false, false, false, false, false, false, false, false, false, false, false] ⟨#[.slice (some ⟨gl, 0, none⟩) 1 1, .slice (some ⟨gn, 0, none⟩) 1 1, undef, undef, .string ⟨#[]⟩, .slice none 0 0, .int .i64 0, .pointer (some ⟨b1, 0, none⟩), undef, undef, .slice (some ⟨gl, 0, none⟩) 1 1, .int .i64 1, .int .i64 0, .bool true, .int .i64 0, .pointer (some ⟨gl, 0, none⟩), .agg #[.int .i64 4, .int .i64 1, .int .i64 14399], .slice (some ⟨gn, 0, none⟩) 1 1, .int .i64 0, .pointer (some ⟨gn, 0, none⟩), .int .i64 n, .pointer (some ⟨b1, 1, none⟩), undef, undef, undef, undef, undef, undef, undef, undef, undef, undef, undef, undef, undef, undef, undef, undef, undef, undef, undef, undef, undef, undef, undef, undef, undef, undef, undef, undef, undef], []⟩ (by kernel_rfl) (fun _ _ _ _ _ h => h) (by kernel_rfl) hS3 ?_
  refine h_load 5 10 rfl _ (.int .i64 1) rfl (by kernel_rfl) (by kernel_rfl) (by kernel_rfl) (fun _ _ _ _ _ h => h) (by kernel_rfl) rfl rfl (by kernel_rfl) (fun V hV => ((kd5_b1.below hV).cell (i := 1) rfl)) hS3 ?_
  refine h_pure [6, 7] 8 rfl #[true, true, true, true, true, true, true, true, false, false, false, false, false, false, false, false] ⟨#[.slice (some ⟨gl, 0, none⟩) 1 1, .slice (some ⟨gn, 0, none⟩) 1 1, undef, undef, .string ⟨#[]⟩, .slice none 0 0, .int .i64 0, .pointer (some ⟨b1, 0, none⟩), undef, undef, .slice (some ⟨gl, 0, none⟩) 1 1, .int .i64 1, .int .i64 0, .bool true, .int .i64 0, .pointer (some ⟨gl, 0, none⟩), .agg #[.int .i64 4, .int .i64 1, .int .i64 14399], .slice (some ⟨gn, 0, none⟩) 1 1, .int .i64 0, .pointer (some ⟨gn, 0, none⟩), .int .i64 n, .pointer (some ⟨b1, 1, none⟩), .int .i64 1, .bool (decide (n < (1 : Int))), .bool (decide (n < (1 : Int))), undef, undef, undef, undef, undef, undef, undef, undef, undef, undef, undef, undef, undef, undef, undef, undef, undef, undef, undef, undef, undef, undef, undef, undef, undef, undef], []⟩ (by kernel_rfl) (fun _ _ _ _ _ h => h) (by kernel_rfl) hS3 ?_
  have hc6 : (decide (n < (1 : Int)) : Bool) = false := decide_eq_false (by omega)
  refine h_fr ⟨#[.slice (some ⟨gl, 0, none⟩) 1 1, .slice (some ⟨gn, 0, none⟩) 1 1, undef, undef, .string ⟨#[]⟩, .slice none 0 0, .int .i64 0, .pointer (some ⟨b1, 0, none⟩), undef, undef, .slice (some ⟨gl, 0, none⟩) 1 1, .int .i64 1, .int .i64 0, .bool true, .int .i64 0, .pointer (some ⟨gl, 0, none⟩), .agg #[.int .i64 4, .int .i64 1, .int .i64 14399], .slice (some ⟨gn, 0, none⟩) 1 1, .int .i64 0, .pointer (some ⟨gn, 0, none⟩), .int .i64 n, .pointer (some ⟨b1, 1, none⟩), .int .i64 1, .bool false, .bool false, undef, undef, undef, undef, undef, undef, undef, undef, undef, undef, undef, undef, undef, undef, undef, undef, undef, undef, undef, undef, undef, undef, undef, undef, undef, undef], []⟩ (by rw [← hc6]) ?_
  refine h_pure [8, 9, 10] 5 rfl #[true, true, true, true, true, true, true, true, true, true, true, false, false, false, false, false] ⟨#[.slice (some ⟨gl, 0, none⟩) 1 1, .slice (some ⟨gn, 0, none⟩) 1 1, undef, undef, .string ⟨#[]⟩, .slice none 0 0, .int .i64 0, .pointer (some ⟨b1, 0, none⟩), undef, undef, .slice (some ⟨gl, 0, none⟩) 1 1, .int .i64 1, .int .i64 0, .bool true, .int .i64 0, .pointer (some ⟨gl, 0, none⟩), .agg #[.int .i64 4, .int .i64 1, .int .i64 14399], .slice (some ⟨gn, 0, none⟩) 1 1, .int .i64 0, .pointer (some ⟨gn, 0, none⟩), .int .i64 n, .pointer (some ⟨b1, 1, none⟩), .int .i64 1, .bool false, .bool false, .slice (some ⟨gn, 0, none⟩) 1 1, .int .i64 0, .pointer (some ⟨gn, 0, none⟩), undef, undef, undef, undef, undef, undef, undef, undef, undef, undef, undef, undef, undef, undef, undef, undef, undef, undef, undef, undef, undef, undef, undef], []⟩ (by kernel_rfl) (fun _ _ _ _ _ h => h) (by kernel_rfl) hS3 ?_
  refine h_load 11 4 rfl _ (.int .i64 n) rfl (by kernel_rfl) (by kernel_rfl) (by kernel_rfl) (fun _ _ _ _ _ h => h) (by kernel_rfl) rfl rfl (by kernel_rfl) (fun V hV => ((kd5_gn.below hV).cell (i := 0) rfl)) hS3 ?_
  refine h_pure [12] 3 rfl #[true, true, true, true, true, true, true, true, true, true, true, true, true, false, false, false] ⟨#[.slice (some ⟨gl, 0, none⟩) 1 1, .slice (some ⟨gn, 0, none⟩) 1 1, undef, undef, .string ⟨#[]⟩, .slice none 0 0, .int .i64 0, .pointer (some ⟨b1, 0, none⟩), undef, undef, .slice (some ⟨gl, 0, none⟩) 1 1, .int .i64 1, .int .i64 0, .bool true, .int .i64 0, .pointer (some ⟨gl, 0, none⟩), .agg #[.int .i64 4, .int .i64 1, .int .i64 14399], .slice (some ⟨gn, 0, none⟩) 1 1, .int .i64 0, .pointer (some ⟨gn, 0, none⟩), .int .i64 n, .pointer (some ⟨b1, 1, none⟩), .int .i64 1, .bool false, .bool false, .slice (some ⟨gn, 0, none⟩) 1 1, .int .i64 0, .pointer (some ⟨gn, 0, none⟩), .int .i64 n, .pointer (some ⟨b1, 2, none⟩), undef, undef, undef, undef, undef, undef, undef, undef, undef, undef, undef, undef, undef, undef, undef, undef, undef, undef, undef, undef, undef], []⟩ (by kernel_rfl) (fun _ _ _ _ _ h => h) (by kernel_rfl) hS3 ?_
  refine h_load 13 2 rfl _ (.int .i64 14399) rfl (by kernel_rfl) (by kernel_rfl) (by kernel_rfl) (fun _ _ _ _ _ h => h) (by kernel_rfl) rfl rfl (by kernel_rfl) (fun V hV => ((kd5_b1.below hV).cell (i := 2) rfl)) hS3 ?_
  refine h_pure [14, 15] 0 rfl #[true, true, true, true, true, true, true, true, true, true, true, true, true, true, true, true] ⟨#[.slice (some ⟨gl, 0, none⟩) 1 1, .slice (some ⟨gn, 0, none⟩) 1 1, undef, undef, .string ⟨#[]⟩, .slice none 0 0, .int .i64 0, .pointer (some ⟨b1, 0, none⟩), undef, undef, .slice (some ⟨gl, 0, none⟩) 1 1, .int .i64 1, .int .i64 0, .bool true, .int .i64 0, .pointer (some ⟨gl, 0, none⟩), .agg #[.int .i64 4, .int .i64 1, .int .i64 14399], .slice (some ⟨gn, 0, none⟩) 1 1, .int .i64 0, .pointer (some ⟨gn, 0, none⟩), .int .i64 n, .pointer (some ⟨b1, 1, none⟩), .int .i64 1, .bool false, .bool false, .slice (some ⟨gn, 0, none⟩) 1 1, .int .i64 0, .pointer (some ⟨gn, 0, none⟩), .int .i64 n, .pointer (some ⟨b1, 2, none⟩), .int .i64 14399, .bool (decide (n > (14399 : Int))), .bool (decide (n > (14399 : Int))), undef, undef, undef, undef, undef, undef, undef, undef, undef, undef, undef, undef, undef, undef, undef, undef, undef, undef], []⟩ (by kernel_rfl) (fun _ _ _ _ _ h => h) (by kernel_rfl) hS3 ?_
  refine h_done _ (by kernel_rfl) ?_
  refine wp_cond_false (by show Value.bool _ = Value.bool _; rw [decide_eq_false (by omega)]) ?_
  refine wp_skip ?_
  refine wp_seq ?_
  replace hB := Bl.next hB (below_drew W2.drew)
  replace hl := hl.below (below_drew W2.drew)
  replace hn := hn.below (below_drew W2.drew)
  replace k2 := k2.below (below_drew W2.drew)
  refine h_reg (Below (W2.drew.drew).heap.size (W2.drew.drew)) 14 rfl #[false, false, false, false, false, false, false, false, false, false, false, false, false, false] rfl (by kernel_rfl) (Below.refl _ _) ?_
  intro hS8
  have hBd10 := hB
  have kd10_gl := hl
  have kd10_gn := hn
  have kd10_b1 := k2
  refine h_pure [0] 13 rfl #[true, false, false, false, false, false, false, false, false, false, false, false, false, false] ⟨#[.slice (some ⟨gl, 0, none⟩) 1 1, .slice (some ⟨gn, 0, none⟩) 1 1, undef, undef, .string ⟨#[]⟩, .slice none 0 0, .int .i64 0, .pointer (some ⟨b1, 0, none⟩), undef, undef, .slice (some ⟨gl, 0, none⟩) 1 1, .int .i64 1, .int .i64 0, .bool true, .int .i64 0, .pointer (some ⟨gl, 0, none⟩), .agg #[.int .i64 4, .int .i64 1, .int .i64 14399], .slice (some ⟨gn, 0, none⟩) 1 1, .int .i64 0, .pointer (some ⟨gn, 0, none⟩), .int .i64 n, .pointer (some ⟨b1, 1, none⟩), .int .i64 1, .bool false, .bool false, .slice (some ⟨gn, 0, none⟩) 1 1, .int .i64 0, .pointer (some ⟨gn, 0, none⟩), .int .i64 n, .pointer (some ⟨b1, 2, none⟩), .int .i64 14399, .bool (decide (n > (14399 : Int))), .bool (decide (n > (14399 : Int))), undef, .pointer (some ⟨b1, 0, none⟩), undef, undef, undef, undef, undef, undef, undef, undef, undef, undef, undef, undef, undef, undef, undef, undef], []⟩ (by kernel_rfl) (fun _ _ _ _ _ h => h) (by kernel_rfl) hS8 ?_
  refine h_load 1 12 rfl _ (.int .i64 4) rfl (by kernel_rfl) (by kernel_rfl) (by kernel_rfl) (fun _ _ _ _ _ h => h) (by kernel_rfl) rfl rfl (by kernel_rfl) (fun V hV => ((kd10_b1.below hV).cell (i := 0) rfl)) hS8 ?_
  refine h_pure [2, 3, 4] 9 rfl #[true, true, true, true, true, false, false, false, false, false, false, false, false, false] ⟨#[.slice (some ⟨gl, 0, none⟩) 1 1, .slice (some ⟨gn, 0, none⟩) 1 1, undef, undef, .string ⟨#[]⟩, .slice none 0 0, .int .i64 0, .pointer (some ⟨b1, 0, none⟩), undef, undef, .slice (some ⟨gl, 0, none⟩) 1 1, .int .i64 1, .int .i64 0, .bool true, .int .i64 0, .pointer (some ⟨gl, 0, none⟩), .agg #[.int .i64 4, .int .i64 1, .int .i64 14399], .slice (some ⟨gn, 0, none⟩) 1 1, .int .i64 0, .pointer (some ⟨gn, 0, none⟩), .int .i64 n, .pointer (some ⟨b1, 1, none⟩), .int .i64 1, .bool false, .bool false, .slice (some ⟨gn, 0, none⟩) 1 1, .int .i64 0, .pointer (some ⟨gn, 0, none⟩), .int .i64 n, .pointer (some ⟨b1, 2, none⟩), .int .i64 14399, .bool (decide (n > (14399 : Int))), .bool (decide (n > (14399 : Int))), undef, .pointer (some ⟨b1, 0, none⟩), .int .i64 4, .slice (some ⟨gn, 0, none⟩) 1 1, .int .i64 0, .pointer (some ⟨gn, 0, none⟩), undef, undef, undef, undef, undef, undef, undef, undef, undef, undef, undef, undef], []⟩ (by kernel_rfl) (fun _ _ _ _ _ h => h) (by kernel_rfl) hS8 ?_
  refine h_load 5 8 rfl _ (.int .i64 n) rfl (by kernel_rfl) (by kernel_rfl) (by kernel_rfl) (fun _ _ _ _ _ h => h) (by kernel_rfl) rfl rfl (by kernel_rfl) (fun V hV => ((kd10_gn.below hV).cell (i := 0) rfl)) hS8 ?_
  refine h_pure [6] 7 rfl #[true, true, true, true, true, true, true, false, false, false, false, false, false, false] ⟨#[.slice (some ⟨gl, 0, none⟩) 1 1, .slice (some ⟨gn, 0, none⟩) 1 1, undef, undef, .string ⟨#[]⟩, .slice none 0 0, .int .i64 0, .pointer (some ⟨b1, 0, none⟩), undef, undef, .slice (some ⟨gl, 0, none⟩) 1 1, .int .i64 1, .int .i64 0, .bool true, .int .i64 0, .pointer (some ⟨gl, 0, none⟩), .agg #[.int .i64 4, .int .i64 1, .int .i64 14399], .slice (some ⟨gn, 0, none⟩) 1 1, .int .i64 0, .pointer (some ⟨gn, 0, none⟩), .int .i64 n, .pointer (some ⟨b1, 1, none⟩), .int .i64 1, .bool false, .bool false, .slice (some ⟨gn, 0, none⟩) 1 1, .int .i64 0, .pointer (some ⟨gn, 0, none⟩), .int .i64 n, .pointer (some ⟨b1, 2, none⟩), .int .i64 14399, .bool (decide (n > (14399 : Int))), .bool (decide (n > (14399 : Int))), undef, .pointer (some ⟨b1, 0, none⟩), .int .i64 4, .slice (some ⟨gn, 0, none⟩) 1 1, .int .i64 0, .pointer (some ⟨gn, 0, none⟩), .int .i64 n, .agg #[.int .i64 4, .int .i64 n], undef, undef, undef, undef, undef, undef, undef, undef, undef, undef], []⟩ (by kernel_rfl) (fun _ _ _ _ _ h => h) (by kernel_rfl) hS8 ?_
  refine h_one 7 6 rfl (by kernel_rfl) rfl (by kernel_rfl) (op_buildSlice 85 [.int .i64 4, .int .i64 n] rfl (by kernel_rfl) ?_)
  intro b11 W11 n11
  have d11_gl := n11.ne hl
  have d11_gn := n11.ne hn
  have d11_b1 := n11.ne k2
  have g11 := n11.ge hB
  replace hB := Bl.next hB n11.below
  replace hl := hl.below n11.below
  replace hn := hn.below n11.below
  replace k2 := k2.below n11.below
  have k11 := n11.blk
  have hS12 : Below (W2.drew.drew).heap.size (W2.drew.drew) (W11) := Bl.next hS8 n11.below
  refine ⟨hS12, ?_⟩
  have hs13 : w.heap.size ≤ (W11).heap.size := Nat.le_trans (Nat.le_refl _) hB.size
  refine h_one 8 5 rfl (by kernel_rfl) rfl (by kernel_rfl) (op_call 36 #[.slice (some ⟨b11, 0, none⟩) 1 1] rfl rfl (fun _ _ => by kernel_rfl) (by kernel_rfl) ((Pack_4 b11 n (by omega) (by omega) _ k11).mono ?_))
  rintro e W13 ⟨_, rfl, hb13, p2, c2, rfl, h2⟩
  refine ⟨_, rfl, ?_⟩
  replace hB := Bl.next hB hb13
  replace hl := hl.below hb13
  replace hn := hn.below hb13
  replace k2 := k2.below hb13
  replace k11 := k11.below hb13
  replace h2 := own_mono h2 hs13
  have hS14 : Below (W2.drew.drew).heap.size (W2.drew.drew) (W13) := Bl.next hS12 hb13
  refine ⟨hS14, ?_⟩
  refine h_pure [9, 10, 11, 12, 13] 0 rfl #[true, true, true, true, true, true, true, true, true, true, true, true, true, true] ⟨#[.slice (some ⟨gl, 0, none⟩) 1 1, .slice (some ⟨gn, 0, none⟩) 1 1, undef, undef, .string ⟨#[]⟩, .slice none 0 0, .int .i64 0, .pointer (some ⟨b1, 0, none⟩), .slice p2 4 c2, .int .i64 0, .slice (some ⟨gl, 0, none⟩) 1 1, .int .i64 1, .int .i64 0, .bool true, .int .i64 0, .pointer (some ⟨gl, 0, none⟩), .agg #[.int .i64 4, .int .i64 1, .int .i64 14399], .slice (some ⟨gn, 0, none⟩) 1 1, .int .i64 0, .pointer (some ⟨gn, 0, none⟩), .int .i64 n, .pointer (some ⟨b1, 1, none⟩), .int .i64 1, .bool false, .bool false, .slice (some ⟨gn, 0, none⟩) 1 1, .int .i64 0, .pointer (some ⟨gn, 0, none⟩), .int .i64 n, .pointer (some ⟨b1, 2, none⟩), .int .i64 14399, .bool (decide (n > (14399 : Int))), .bool (decide (n > (14399 : Int))), .tuple #[.slice p2 4 c2, .int .i64 0], .pointer (some ⟨b1, 0, none⟩), .int .i64 4, .slice (some ⟨gn, 0, none⟩) 1 1, .int .i64 0, .pointer (some ⟨gn, 0, none⟩), .int .i64 n, .agg #[.int .i64 4, .int .i64 n], .slice (some ⟨b11, 0, none⟩) 1 1, .tuple #[.slice p2 4 c2, .int .i64 0], .slice p2 4 c2, .int .i64 0, undef, undef, undef, undef, undef, undef], []⟩ (by kernel_rfl) (fun _ _ _ _ _ h => h) (by kernel_rfl) hS14 ?_
  refine h_done _ (by kernel_rfl) ?_
  refine wp_region_lit ?_
  refine g_pure 2 ⟨#[.slice (some ⟨gl, 0, none⟩) 1 1, .slice (some ⟨gn, 0, none⟩) 1 1, undef, undef, .string ⟨#[]⟩, .slice none 0 0, .int .i64 0, .pointer (some ⟨b1, 0, none⟩), .slice p2 4 c2, .int .i64 0, .slice (some ⟨gl, 0, none⟩) 1 1, .int .i64 1, .int .i64 0, .bool true, .int .i64 0, .pointer (some ⟨gl, 0, none⟩), .agg #[.int .i64 4, .int .i64 1, .int .i64 14399], .slice (some ⟨gn, 0, none⟩) 1 1, .int .i64 0, .pointer (some ⟨gn, 0, none⟩), .int .i64 n, .pointer (some ⟨b1, 1, none⟩), .int .i64 1, .bool false, .bool false, .slice (some ⟨gn, 0, none⟩) 1 1, .int .i64 0, .pointer (some ⟨gn, 0, none⟩), .int .i64 n, .pointer (some ⟨b1, 2, none⟩), .int .i64 14399, .bool (decide (n > (14399 : Int))), .bool (decide (n > (14399 : Int))), .tuple #[.slice p2 4 c2, .int .i64 0], .pointer (some ⟨b1, 0, none⟩), .int .i64 4, .slice (some ⟨gn, 0, none⟩) 1 1, .int .i64 0, .pointer (some ⟨gn, 0, none⟩), .int .i64 n, .agg #[.int .i64 4, .int .i64 n], .slice (some ⟨b11, 0, none⟩) 1 1, .tuple #[.slice p2 4 c2, .int .i64 0], .slice p2 4 c2, .int .i64 0, .slice none 0 0, .slice p2 4 c2, undef, undef, undef, undef], []⟩ (by kernel_rfl) ?_
  have o15 := World.ownsRow_nil W13 w.heap.size 5 1
  refine g_op (by kernel_rfl) (op_app (e := 5) (n := 0) (xs := []) (m := 4) (news := (leB n 4).map bv) (.int .u8 0) 1 1 (4) ((leB n 4).map bv) rfl Tryd.underlying42 (by kernel_rfl) rfl (by decide) rfl o15 rfl (own_sl h2) (by simp [leB_len]) (bv_one _) (by unfold maxLen; omega) (by omega) (Nat.le_trans (Nat.le_refl _) hB.size) (by rfl) (by simp) ?_)
  intro p16 c16 W16 o16 hg16 hb16
  replace hl := hl.grown hg16 o15 (by decide)
  replace hn := hn.grown hg16 o15 (by decide)
  replace k2 := k2.grown hg16 o15 (by decide)
  replace k11 := k11.grown hg16 o15 (by decide)
  replace hB := hB.trans hb16
  refine g_pure 1 ⟨#[.slice (some ⟨gl, 0, none⟩) 1 1, .slice (some ⟨gn, 0, none⟩) 1 1, undef, undef, .string ⟨#[]⟩, .slice p16 4 c16, .int .i64 0, .pointer (some ⟨b1, 0, none⟩), .slice p2 4 c2, .int .i64 0, .slice (some ⟨gl, 0, none⟩) 1 1, .int .i64 1, .int .i64 0, .bool true, .int .i64 0, .pointer (some ⟨gl, 0, none⟩), .agg #[.int .i64 4, .int .i64 1, .int .i64 14399], .slice (some ⟨gn, 0, none⟩) 1 1, .int .i64 0, .pointer (some ⟨gn, 0, none⟩), .int .i64 n, .pointer (some ⟨b1, 1, none⟩), .int .i64 1, .bool false, .bool false, .slice (some ⟨gn, 0, none⟩) 1 1, .int .i64 0, .pointer (some ⟨gn, 0, none⟩), .int .i64 n, .pointer (some ⟨b1, 2, none⟩), .int .i64 14399, .bool (decide (n > (14399 : Int))), .bool (decide (n > (14399 : Int))), .tuple #[.slice p2 4 c2, .int .i64 0], .pointer (some ⟨b1, 0, none⟩), .int .i64 4, .slice (some ⟨gn, 0, none⟩) 1 1, .int .i64 0, .pointer (some ⟨gn, 0, none⟩), .int .i64 n, .agg #[.int .i64 4, .int .i64 n], .slice (some ⟨b11, 0, none⟩) 1 1, .tuple #[.slice p2 4 c2, .int .i64 0], .slice p2 4 c2, .int .i64 0, .slice none 0 0, .slice p2 4 c2, .slice p16 4 c16, undef, undef, undef], []⟩ (by kernel_rfl) ?_
  refine wpList_nil ?_
  refine wp_region_lit ?_
  refine g_pure 2 ⟨#[.slice (some ⟨gl, 0, none⟩) 1 1, .slice (some ⟨gn, 0, none⟩) 1 1, undef, undef, .string ⟨#[]⟩, .slice p16 4 c16, .int .i64 0, .pointer (some ⟨b1, 0, none⟩), .slice p2 4 c2, .int .i64 0, .slice (some ⟨gl, 0, none⟩) 1 1, .int .i64 1, .int .i64 1, .bool true, .int .i64 0, .pointer (some ⟨gl, 0, none⟩), .agg #[.int .i64 4, .int .i64 1, .int .i64 14399], .slice (some ⟨gn, 0, none⟩) 1 1, .int .i64 0, .pointer (some ⟨gn, 0, none⟩), .int .i64 n, .pointer (some ⟨b1, 1, none⟩), .int .i64 1, .bool false, .bool false, .slice (some ⟨gn, 0, none⟩) 1 1, .int .i64 0, .pointer (some ⟨gn, 0, none⟩), .int .i64 n, .pointer (some ⟨b1, 2, none⟩), .int .i64 14399, .bool (decide (n > (14399 : Int))), .bool (decide (n > (14399 : Int))), .tuple #[.slice p2 4 c2, .int .i64 0], .pointer (some ⟨b1, 0, none⟩), .int .i64 4, .slice (some ⟨gn, 0, none⟩) 1 1, .int .i64 0, .pointer (some ⟨gn, 0, none⟩), .int .i64 n, .agg #[.int .i64 4, .int .i64 n], .slice (some ⟨b11, 0, none⟩) 1 1, .tuple #[.slice p2 4 c2, .int .i64 0], .slice p2 4 c2, .int .i64 0, .slice none 0 0, .slice p2 4 c2, .slice p16 4 c16, .int .i64 1, undef, undef], []⟩ (by kernel_rfl) ?_
  refine wpList_nil ?_
  refine g_round ?_
  refine wp_seq ?_
  refine wp_region_lit ?_
  refine g_pure 1 ⟨#[.slice (some ⟨gl, 0, none⟩) 1 1, .slice (some ⟨gn, 0, none⟩) 1 1, undef, undef, .string ⟨#[]⟩, .slice p16 4 c16, .int .i64 0, .pointer (some ⟨b1, 0, none⟩), .slice p2 4 c2, .int .i64 0, .slice (some ⟨gl, 0, none⟩) 1 1, .int .i64 1, .int .i64 1, .bool false, .int .i64 0, .pointer (some ⟨gl, 0, none⟩), .agg #[.int .i64 4, .int .i64 1, .int .i64 14399], .slice (some ⟨gn, 0, none⟩) 1 1, .int .i64 0, .pointer (some ⟨gn, 0, none⟩), .int .i64 n, .pointer (some ⟨b1, 1, none⟩), .int .i64 1, .bool false, .bool false, .slice (some ⟨gn, 0, none⟩) 1 1, .int .i64 0, .pointer (some ⟨gn, 0, none⟩), .int .i64 n, .pointer (some ⟨b1, 2, none⟩), .int .i64 14399, .bool (decide (n > (14399 : Int))), .bool (decide (n > (14399 : Int))), .tuple #[.slice p2 4 c2, .int .i64 0], .pointer (some ⟨b1, 0, none⟩), .int .i64 4, .slice (some ⟨gn, 0, none⟩) 1 1, .int .i64 0, .pointer (some ⟨gn, 0, none⟩), .int .i64 n, .agg #[.int .i64 4, .int .i64 n], .slice (some ⟨b11, 0, none⟩) 1 1, .tuple #[.slice p2 4 c2, .int .i64 0], .slice p2 4 c2, .int .i64 0, .slice none 0 0, .slice p2 4 c2, .slice p16 4 c16, .int .i64 1, undef, undef], []⟩ (by kernel_rfl) ?_
  refine wpList_nil ?_
  refine wp_seq ?_
  refine wp_cond_false rfl ?_
  refine wp_exit ?_
  refine then_exit ?_
  refine then_exit ?_
  refine inBlock_hit ?_
  refine wp_seq ?_
  refine wp_region_lit ?_
  refine g_pure 1 ⟨#[.slice (some ⟨gl, 0, none⟩) 1 1, .slice (some ⟨gn, 0, none⟩) 1 1, undef, undef, .string ⟨#[]⟩, .slice p16 4 c16, .int .i64 0, .pointer (some ⟨b1, 0, none⟩), .slice p2 4 c2, .int .i64 0, .slice (some ⟨gl, 0, none⟩) 1 1, .int .i64 1, .int .i64 1, .bool false, .int .i64 0, .pointer (some ⟨gl, 0, none⟩), .agg #[.int .i64 4, .int .i64 1, .int .i64 14399], .slice (some ⟨gn, 0, none⟩) 1 1, .int .i64 0, .pointer (some ⟨gn, 0, none⟩), .int .i64 n, .pointer (some ⟨b1, 1, none⟩), .int .i64 1, .bool false, .bool false, .slice (some ⟨gn, 0, none⟩) 1 1, .int .i64 0, .pointer (some ⟨gn, 0, none⟩), .int .i64 n, .pointer (some ⟨b1, 2, none⟩), .int .i64 14399, .bool (decide (n > (14399 : Int))), .bool (decide (n > (14399 : Int))), .tuple #[.slice p2 4 c2, .int .i64 0], .pointer (some ⟨b1, 0, none⟩), .int .i64 4, .slice (some ⟨gn, 0, none⟩) 1 1, .int .i64 0, .pointer (some ⟨gn, 0, none⟩), .int .i64 n, .agg #[.int .i64 4, .int .i64 n], .slice (some ⟨b11, 0, none⟩) 1 1, .tuple #[.slice p2 4 c2, .int .i64 0], .slice p2 4 c2, .int .i64 0, .slice none 0 0, .slice p2 4 c2, .slice p16 4 c16, .int .i64 1, .slice p16 4 c16, undef], []⟩ (by kernel_rfl) ?_
  refine g_op (by kernel_rfl) (op_val (run_bstr rfl rfl (bys_of (own_sl o16) (leB_len _ _)) (leB_len _ _) Tryd.underlying42 Tryd.underlying5 Tryd.underlying9) ?_)
  refine g_pure 1 ⟨#[.slice (some ⟨gl, 0, none⟩) 1 1, .slice (some ⟨gn, 0, none⟩) 1 1, undef, undef, .string ⟨(leB n 4).toArray⟩, .slice p16 4 c16, .int .i64 0, .pointer (some ⟨b1, 0, none⟩), .slice p2 4 c2, .int .i64 0, .slice (some ⟨gl, 0, none⟩) 1 1, .int .i64 1, .int .i64 1, .bool false, .int .i64 0, .pointer (some ⟨gl, 0, none⟩), .agg #[.int .i64 4, .int .i64 1, .int .i64 14399], .slice (some ⟨gn, 0, none⟩) 1 1, .int .i64 0, .pointer (some ⟨gn, 0, none⟩), .int .i64 n, .pointer (some ⟨b1, 1, none⟩), .int .i64 1, .bool false, .bool false, .slice (some ⟨gn, 0, none⟩) 1 1, .int .i64 0, .pointer (some ⟨gn, 0, none⟩), .int .i64 n, .pointer (some ⟨b1, 2, none⟩), .int .i64 14399, .bool (decide (n > (14399 : Int))), .bool (decide (n > (14399 : Int))), .tuple #[.slice p2 4 c2, .int .i64 0], .pointer (some ⟨b1, 0, none⟩), .int .i64 4, .slice (some ⟨gn, 0, none⟩) 1 1, .int .i64 0, .pointer (some ⟨gn, 0, none⟩), .int .i64 n, .agg #[.int .i64 4, .int .i64 n], .slice (some ⟨b11, 0, none⟩) 1 1, .tuple #[.slice p2 4 c2, .int .i64 0], .slice p2 4 c2, .int .i64 0, .slice none 0 0, .slice p2 4 c2, .slice p16 4 c16, .int .i64 1, .slice p16 4 c16, .string ⟨(leB n 4).toArray⟩], []⟩ (by kernel_rfl) ?_
  refine wpList_nil ?_
  refine wp_ret ?_
  show bodyPost _ _ _ .ret _ _
  exact g_ret (.string ⟨(leB n 4).toArray⟩) rfl (by kernel_rfl) ⟨rfl, hB⟩
set_option maxRecDepth 100000 in
set_option maxHeartbeats 1000000 in
theorem value_Root (n : Int) (h1 : 1 ≤ n) (h2 : n ≤ 14399) (w : World) :
    Calls Tryd.prog 30 #[.int .i64 n] w (Ret (.string ⟨(leB n 4).toArray⟩) w) := by
  refine calls_of_wp Tryd.func30 rfl ?_
  refine g_fr ⟨#[.int .i64 n, undef, undef, undef, undef, undef, undef], []⟩ (by kernel_rfl) ?_
  refine wp_seq ?_
  refine wp_region_lit ?_
  refine g_pure 1 ⟨#[.int .i64 n, undef, .string ⟨#[]⟩, undef, undef, undef, undef], []⟩ (by kernel_rfl) ?_
  refine wpList_nil ?_
  refine wp_seq ?_
  refine wp_region_lit ?_
  refine g_op (by kernel_rfl) (op_call 42 #[] rfl rfl (fun _ _ => by kernel_rfl) (by kernel_rfl) ((value_root _).mono ?_))
  rintro e W1 ⟨_, rfl, hb1, gl, rfl, gg, kl⟩
  refine ⟨_, rfl, ?_⟩
  have hB := hb1
  refine g_pure 1 ⟨#[.int .i64 n, undef, .string ⟨#[]⟩, .slice (some ⟨gl, 0, none⟩) 1 1, .int .i64 n, undef, undef], []⟩ (by kernel_rfl) ?_
  refine g_op (by kernel_rfl) (op_buildSlice 3 [.int .i64 n] rfl (by kernel_rfl) ?_)
  intro b2 W2 n2
  have d2_gl := n2.ne kl
  have g2 := n2.ge hB
  replace hB := Bl.next hB n2.below
  replace kl := kl.below n2.below
  have k2 := n2.blk
  refine g_op (by kernel_rfl) (op_call 41 #[.slice (some ⟨gl, 0, none⟩) 1 1, .slice (some ⟨b2, 0, none⟩) 1 1] rfl rfl (fun _ _ => by kernel_rfl) (by kernel_rfl) ((value_put1 gl b2 n h1 h2 _ kl k2).mono ?_))
  rintro e W3 ⟨rfl, hb3⟩
  refine ⟨_, rfl, ?_⟩
  replace hB := Bl.next hB hb3
  replace kl := kl.below hb3
  replace k2 := k2.below hb3
  refine g_pure 1 ⟨#[.int .i64 n, undef, .string ⟨(leB n 4).toArray⟩, .slice (some ⟨gl, 0, none⟩) 1 1, .int .i64 n, .slice (some ⟨b2, 0, none⟩) 1 1, .string ⟨(leB n 4).toArray⟩], []⟩ (by kernel_rfl) ?_
  refine wpList_nil ?_
  refine wp_ret ?_
  show bodyPost _ _ _ .ret _ _
  exact g_ret (.string ⟨(leB n 4).toArray⟩) rfl (by kernel_rfl) ⟨rfl, hB⟩
end Go.Proofs.YtlmogdjcnbjhfaaDoor

