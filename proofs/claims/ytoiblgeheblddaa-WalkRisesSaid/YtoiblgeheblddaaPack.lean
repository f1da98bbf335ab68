/- code.Pack of one field and of the six fields of a node; value.Root. -/
import Derived.Test.YtoiblgeheblddaaBytesPut
namespace Go.Proofs.Ytoiblgeheblddaa
open Go.RowKit Go.Extern.Stop Go.Stop Go.Extern
set_option linter.unusedVariables false
attribute [local irreducible] wpList wpAnyH Code.wp Oper.wp

set_option maxRecDepth 100000 in
set_option maxHeartbeats 1000000 in
theorem Pack_4 (g : Nat) (n : Int) (h0 : 0 ≤ n) (hb : n < 4294967296) (w : World) (hk : Blk w g [.int .i64 4, .int .i64 n] 72) :
    Calls Try.prog 23 #[.slice (some ⟨g, 0, none⟩) 1 1] w (RetS (fun w' r => ∃ p c, r = .tuple #[.slice p 4 c, .int .i64 0] ∧ w'.ownsRow w.heap.size 5 1 (.slice p 4 c) 4 ((leB n 4).map bv)) w) := by
  refine calls_of_wp Try.func23 rfl ?_
  refine g_fr ⟨#[.slice (some ⟨g, 0, none⟩) 1 1, undef, undef, undef, undef, undef, undef, undef, undef, undef, undef, undef, undef, undef, undef, undef, undef, undef, undef, undef, undef, undef, undef, undef, undef, undef, undef, undef, undef, undef, undef, undef], []⟩ (by kernel_rfl) ?_
  refine wp_seq ?_
  refine wp_region_lit ?_
  refine g_pv 2 [(2, .slice none 0 0), (3, .int .i64 0)] (by kernel_rfl) ?_
  refine wpList_nil ?_
  refine wp_seq ?_
  refine wp_region_lit ?_
  refine g_pv 1 [(4, .slice none 0 0)] (by kernel_rfl) ?_
  refine wpList_nil ?_
  refine wp_seq ?_
  refine wp_seq ?_
  refine wp_region_lit ?_
  refine g_pv 3 [(7, .slice (some ⟨g, 0, none⟩) 1 1), (8, .int .i64 1), (9, .int .i64 0)] (by kernel_rfl) ?_
  refine wpList_nil ?_
  refine wp_block ?_
  refine wp_loop_rounds 2 ?_
  refine g_round ?_
  refine wp_seq ?_
  refine wp_region_lit ?_
  refine g_pv 1 [(10, .bool true)] (by kernel_rfl) ?_
  refine wpList_nil ?_
  refine wp_seq ?_
  refine wp_cond_true (by kernel_rfl) ?_
  refine wp_skip ?_
  refine wp_seq ?_
  refine wp_block ?_
  refine wp_seq ?_
  refine wp_region_lit ?_
  refine g_pv 1 [(11, .pointer (some ⟨g, 0, none⟩))] (by kernel_rfl) ?_
  refine g_op (by kernel_rfl) (op_loadv (b := g) (off := 0) [.int .i64 4, .int .i64 n] _ rfl (by kernel_rfl) Try.underlying72 rfl (by kernel_rfl) hk.whole ?_)
  refine g_op (by kernel_rfl) (op_alloc [.int .i64 0, .int .i64 0] rfl (by kernel_rfl) ?_)
  intro b1 W1 n1
  have d1_g := n1.ne hk
  have g1 := n1.ge (Below.refl w.heap.size _)
  have hB := n1.below
  replace hk := hk.below n1.below
  have k1 := n1.blk
  refine g_op (by kernel_rfl) (op_storev (b := b1) (off := 0) [.int .i64 4, .int .i64 n] rfl (by kernel_rfl) (by kernel_rfl) (by kernel_rfl) (by first | decide | simp [Value.oneCell']) k1 (by first | decide | simp) ?_)
  intro W2 u2 k2
  change Blk _ _ [.int .i64 4, .int .i64 n] _ at k2
  replace hB := u2.below hB g1
  replace hk := u2.blk hk (Ne.symm (Ne.symm d1_g))
  refine wpList_nil ?_
  refine wp_seq ?_
  refine wp_seq ?_
  refine wp_region_lit ?_
  refine g_pv 1 [(13, .pointer (some ⟨b1, 0, none⟩))] (by kernel_rfl) ?_
  refine g_op (by kernel_rfl) (op_load ⟨b1, 0, none⟩ (.int .i64 4) rfl (by kernel_rfl) (by kernel_rfl) (k2.cell (i := 0) rfl) ?_)
  refine g_op (by kernel_rfl) (op_call (lb := #[]) 42 #[.int .i64 4] rfl (by kernel_rfl) (fun _ _ => by kernel_rfl) (by kernel_rfl) ((known_4 _).mono ?_))
  rintro e W3 ⟨rfl, hb3⟩
  refine ⟨_, rfl, ?_⟩
  replace hB := Bl.next hB hb3
  replace hk := hk.below hb3
  replace k2 := k2.below hb3
  refine g_pv 1 [(16, .bool false)] (by kernel_rfl) ?_
  refine wpList_nil ?_
  refine wp_cond_false (by kernel_rfl) ?_
  refine wp_skip ?_
  refine wp_seq ?_
  refine wp_seq ?_
  refine wp_region_lit ?_
  refine g_pv 1 [(17, .pointer (some ⟨b1, 1, none⟩))] (by kernel_rfl) ?_
  refine g_op (by kernel_rfl) (op_load ⟨b1, 1, none⟩ (.int .i64 n) rfl (by kernel_rfl) (by kernel_rfl) (k2.cell (i := 1) rfl) ?_)
  refine g_pv 1 [(19, .pointer (some ⟨b1, 0, none⟩))] (by kernel_rfl) ?_
  refine g_op (by kernel_rfl) (op_load ⟨b1, 0, none⟩ (.int .i64 4) rfl (by kernel_rfl) (by kernel_rfl) (k2.cell (i := 0) rfl) ?_)
  refine g_op (by kernel_rfl) (op_call (lb := #[]) 43 #[.int .i64 n, .int .i64 4] rfl (by kernel_rfl) (fun _ _ => by kernel_rfl) (by kernel_rfl) ((fits_4 (n) (h0) (hb) _).mono ?_))
  rintro e W4 ⟨rfl, hb4⟩
  refine ⟨_, rfl, ?_⟩
  replace hB := Bl.next hB hb4
  replace hk := hk.below hb4
  replace k2 := k2.below hb4
  refine g_pv 1 [(22, .bool false)] (by kernel_rfl) ?_
  refine wpList_nil ?_
  refine wp_cond_false (by kernel_rfl) ?_
  refine wp_skip ?_
  refine wp_region_lit ?_
  refine g_pv 2 [(23, .slice none 0 0), (24, .pointer (some ⟨b1, 1, none⟩))] (by kernel_rfl) ?_
  refine g_op (by kernel_rfl) (op_load ⟨b1, 1, none⟩ (.int .i64 n) rfl (by kernel_rfl) (by kernel_rfl) (k2.cell (i := 1) rfl) ?_)
  refine g_pv 1 [(26, .pointer (some ⟨b1, 0, none⟩))] (by kernel_rfl) ?_
  refine g_op (by kernel_rfl) (op_load ⟨b1, 0, none⟩ (.int .i64 4) rfl (by kernel_rfl) (by kernel_rfl) (k2.cell (i := 0) rfl) ?_)
  have hs5 : w.heap.size ≤ (W4).heap.size := hB.size
  refine g_op (by kernel_rfl) (op_call (lb := #[]) 44 #[.int .i64 n, .int .i64 4] rfl (by kernel_rfl) (fun _ _ => by kernel_rfl) (by kernel_rfl) ((bytes_4 (n) (h0) _).mono ?_))
  rintro e W5 ⟨_, rfl, hb5, h2_0⟩
  refine ⟨_, rfl, ?_⟩
  replace hB := Bl.next hB hb5
  replace hk := hk.below hb5
  replace k2 := k2.below hb5
  replace h2_0 := own_mono h2_0 hs5
  unfold OwnB at h2_0
  rw [leB_len] at h2_0
  obtain ⟨p2_0, c2_0, rfl⟩ := (own_sl h2_0).slice
  have o6 := World.ownsRow_nil W5 w.heap.size 5 1
  refine g_op (by kernel_rfl) (op_app (e := 5) (n := 0) (xs := []) (m := 4) (news := (leB (n) 4).map bv) (.int .u8 0) 1 1 (4) ((leB (n) 4).map bv) rfl Try.underlying22 (by kernel_rfl) rfl (by decide) (by kernel_rfl) o6 (by kernel_rfl) (own_sl h2_0) (by simp [leB_len]) (bv_one _) (by unfold maxLen; omega) (by omega) hB.size (by rfl) (by simp) ?_)
  intro p7 c7 W7 o7 hg7 hb7
  replace hk := hk.grown hg7 o6 (by decide)
  replace k2 := k2.grown hg7 o6 (by decide)
  replace hB := hB.trans hb7
  refine g_pv 1 [(4, .slice p7 4 c7)] (by kernel_rfl) ?_
  refine wpList_nil ?_
  refine wp_region_lit ?_
  refine g_pv 2 [(30, .int .i64 1), (9, .int .i64 1)] (by kernel_rfl) ?_
  refine wpList_nil ?_
  refine g_round ?_
  refine wp_seq ?_
  refine wp_region_lit ?_
  refine g_pv 1 [(10, .bool false)] (by kernel_rfl) ?_
  refine wpList_nil ?_
  refine wp_seq ?_
  refine wp_cond_false (by kernel_rfl) ?_
  refine wp_exit ?_
  refine then_exit ?_
  refine then_exit ?_
  refine inBlock_hit ?_
  refine wp_seq ?_
  refine wp_region_lit ?_
  refine g_pv 3 [(31, .slice p7 4 c7), (2, .slice p7 4 c7), (3, .int .i64 0)] (by kernel_rfl) ?_
  refine wpList_nil ?_
  refine wp_ret ?_
  exact g_ret (.tuple #[.slice p7 4 c7, .int .i64 0]) (by kernel_rfl) (by kernel_rfl) ⟨_, rfl, hB, _, _, rfl, o7⟩
set_option maxRecDepth 100000 in
set_option maxHeartbeats 1000000 in
theorem Pack_8 (g : Nat) (n : Int) (h0 : 0 ≤ n) (w : World) (hk : Blk w g [.int .i64 8, .int .i64 n] 72) :
    Calls Try.prog 23 #[.slice (some ⟨g, 0, none⟩) 1 1] w (RetS (fun w' r => ∃ p c, r = .tuple #[.slice p 8 c, .int .i64 0] ∧ w'.ownsRow w.heap.size 5 1 (.slice p 8 c) 8 ((leB n 8).map bv)) w) := by
  refine calls_of_wp Try.func23 rfl ?_
  refine g_fr ⟨#[.slice (some ⟨g, 0, none⟩) 1 1, undef, undef, undef, undef, undef, undef, undef, undef, undef, undef, undef, undef, undef, undef, undef, undef, undef, undef, undef, undef, undef, undef, undef, undef, undef, undef, undef, undef, undef, undef, undef], []⟩ (by kernel_rfl) ?_
  refine wp_seq ?_
  refine wp_region_lit ?_
  refine g_pv 2 [(2, .slice none 0 0), (3, .int .i64 0)] (by kernel_rfl) ?_
  refine wpList_nil ?_
  refine wp_seq ?_
  refine wp_region_lit ?_
  refine g_pv 1 [(4, .slice none 0 0)] (by kernel_rfl) ?_
  refine wpList_nil ?_
  refine wp_seq ?_
  refine wp_seq ?_
  refine wp_region_lit ?_
  refine g_pv 3 [(7, .slice (some ⟨g, 0, none⟩) 1 1), (8, .int .i64 1), (9, .int .i64 0)] (by kernel_rfl) ?_
  refine wpList_nil ?_
  refine wp_block ?_
  refine wp_loop_rounds 2 ?_
  refine g_round ?_
  refine wp_seq ?_
  refine wp_region_lit ?_
  refine g_pv 1 [(10, .bool true)] (by kernel_rfl) ?_
  refine wpList_nil ?_
  refine wp_seq ?_
  refine wp_cond_true (by kernel_rfl) ?_
  refine wp_skip ?_
  refine wp_seq ?_
  refine wp_block ?_
  refine wp_seq ?_
  refine wp_region_lit ?_
  refine g_pv 1 [(11, .pointer (some ⟨g, 0, none⟩))] (by kernel_rfl) ?_
  refine g_op (by kernel_rfl) (op_loadv (b := g) (off := 0) [.int .i64 8, .int .i64 n] _ rfl (by kernel_rfl) Try.underlying72 rfl (by kernel_rfl) hk.whole ?_)
  refine g_op (by kernel_rfl) (op_alloc [.int .i64 0, .int .i64 0] rfl (by kernel_rfl) ?_)
  intro b1 W1 n1
  have d1_g := n1.ne hk
  have g1 := n1.ge (Below.refl w.heap.size _)
  have hB := n1.below
  replace hk := hk.below n1.below
  have k1 := n1.blk
  refine g_op (by kernel_rfl) (op_storev (b := b1) (off := 0) [.int .i64 8, .int .i64 n] rfl (by kernel_rfl) (by kernel_rfl) (by kernel_rfl) (by first | decide | simp [Value.oneCell']) k1 (by first | decide | simp) ?_)
  intro W2 u2 k2
  change Blk _ _ [.int .i64 8, .int .i64 n] _ at k2
  replace hB := u2.below hB g1
  replace hk := u2.blk hk (Ne.symm (Ne.symm d1_g))
  refine wpList_nil ?_
  refine wp_seq ?_
  refine wp_seq ?_
  refine wp_region_lit ?_
  refine g_pv 1 [(13, .pointer (some ⟨b1, 0, none⟩))] (by kernel_rfl) ?_
  refine g_op (by kernel_rfl) (op_load ⟨b1, 0, none⟩ (.int .i64 8) rfl (by kernel_rfl) (by kernel_rfl) (k2.cell (i := 0) rfl) ?_)
  refine g_op (by kernel_rfl) (op_call (lb := #[]) 42 #[.int .i64 8] rfl (by kernel_rfl) (fun _ _ => by kernel_rfl) (by kernel_rfl) ((known_8 _).mono ?_))
  rintro e W3 ⟨rfl, hb3⟩
  refine ⟨_, rfl, ?_⟩
  replace hB := Bl.next hB hb3
  replace hk := hk.below hb3
  replace k2 := k2.below hb3
  refine g_pv 1 [(16, .bool false)] (by kernel_rfl) ?_
  refine wpList_nil ?_
  refine wp_cond_false (by kernel_rfl) ?_
  refine wp_skip ?_
  refine wp_seq ?_
  refine wp_seq ?_
  refine wp_region_lit ?_
  refine g_pv 1 [(17, .pointer (some ⟨b1, 1, none⟩))] (by kernel_rfl) ?_
  refine g_op (by kernel_rfl) (op_load ⟨b1, 1, none⟩ (.int .i64 n) rfl (by kernel_rfl) (by kernel_rfl) (k2.cell (i := 1) rfl) ?_)
  refine g_pv 1 [(19, .pointer (some ⟨b1, 0, none⟩))] (by kernel_rfl) ?_
  refine g_op (by kernel_rfl) (op_load ⟨b1, 0, none⟩ (.int .i64 8) rfl (by kernel_rfl) (by kernel_rfl) (k2.cell (i := 0) rfl) ?_)
  refine g_op (by kernel_rfl) (op_call (lb := #[]) 43 #[.int .i64 n, .int .i64 8] rfl (by kernel_rfl) (fun _ _ => by kernel_rfl) (by kernel_rfl) ((fits_8 (n) (h0) _).mono ?_))
  rintro e W4 ⟨rfl, hb4⟩
  refine ⟨_, rfl, ?_⟩
  replace hB := Bl.next hB hb4
  replace hk := hk.below hb4
  replace k2 := k2.below hb4
  refine g_pv 1 [(22, .bool false)] (by kernel_rfl) ?_
  refine wpList_nil ?_
  refine wp_cond_false (by kernel_rfl) ?_
  refine wp_skip ?_
  refine wp_region_lit ?_
  refine g_pv 2 [(23, .slice none 0 0), (24, .pointer (some ⟨b1, 1, none⟩))] (by kernel_rfl) ?_
  refine g_op (by kernel_rfl) (op_load ⟨b1, 1, none⟩ (.int .i64 n) rfl (by kernel_rfl) (by kernel_rfl) (k2.cell (i := 1) rfl) ?_)
  refine g_pv 1 [(26, .pointer (some ⟨b1, 0, none⟩))] (by kernel_rfl) ?_
  refine g_op (by kernel_rfl) (op_load ⟨b1, 0, none⟩ (.int .i64 8) rfl (by kernel_rfl) (by kernel_rfl) (k2.cell (i := 0) rfl) ?_)
  have hs5 : w.heap.size ≤ (W4).heap.size := hB.size
  refine g_op (by kernel_rfl) (op_call (lb := #[]) 44 #[.int .i64 n, .int .i64 8] rfl (by kernel_rfl) (fun _ _ => by kernel_rfl) (by kernel_rfl) ((bytes_8 (n) (h0) _).mono ?_))
  rintro e W5 ⟨_, rfl, hb5, h2_0⟩
  refine ⟨_, rfl, ?_⟩
  replace hB := Bl.next hB hb5
  replace hk := hk.below hb5
  replace k2 := k2.below hb5
  replace h2_0 := own_mono h2_0 hs5
  unfold OwnB at h2_0
  rw [leB_len] at h2_0
  obtain ⟨p2_0, c2_0, rfl⟩ := (own_sl h2_0).slice
  have o6 := World.ownsRow_nil W5 w.heap.size 5 1
  refine g_op (by kernel_rfl) (op_app (e := 5) (n := 0) (xs := []) (m := 8) (news := (leB (n) 8).map bv) (.int .u8 0) 1 1 (8) ((leB (n) 8).map bv) rfl Try.underlying22 (by kernel_rfl) rfl (by decide) (by kernel_rfl) o6 (by kernel_rfl) (own_sl h2_0) (by simp [leB_len]) (bv_one _) (by unfold maxLen; omega) (by omega) hB.size (by rfl) (by simp) ?_)
  intro p7 c7 W7 o7 hg7 hb7
  replace hk := hk.grown hg7 o6 (by decide)
  replace k2 := k2.grown hg7 o6 (by decide)
  replace hB := hB.trans hb7
  refine g_pv 1 [(4, .slice p7 8 c7)] (by kernel_rfl) ?_
  refine wpList_nil ?_
  refine wp_region_lit ?_
  refine g_pv 2 [(30, .int .i64 1), (9, .int .i64 1)] (by kernel_rfl) ?_
  refine wpList_nil ?_
  refine g_round ?_
  refine wp_seq ?_
  refine wp_region_lit ?_
  refine g_pv 1 [(10, .bool false)] (by kernel_rfl) ?_
  refine wpList_nil ?_
  refine wp_seq ?_
  refine wp_cond_false (by kernel_rfl) ?_
  refine wp_exit ?_
  refine then_exit ?_
  refine then_exit ?_
  refine inBlock_hit ?_
  refine wp_seq ?_
  refine wp_region_lit ?_
  refine g_pv 3 [(31, .slice p7 8 c7), (2, .slice p7 8 c7), (3, .int .i64 0)] (by kernel_rfl) ?_
  refine wpList_nil ?_
  refine wp_ret ?_
  exact g_ret (.tuple #[.slice p7 8 c7, .int .i64 0]) (by kernel_rfl) (by kernel_rfl) ⟨_, rfl, hB, _, _, rfl, o7⟩
set_option maxRecDepth 100000 in
set_option maxHeartbeats 1000000 in
theorem Pack_node (g : Nat) (f t k v m : Int) (hf : 0 ≤ f) (hf2 : f < 256) (ht : 0 ≤ t) (ht2 : t < 256) (hk1 : 0 ≤ k) (hk2 : k < 65536) (hv : 0 ≤ v) (hv2 : v < 65536) (hm : 0 ≤ m) (hm2 : m < 65536) (w : World) (hk : Blk w g [.int .i64 1, .int .i64 f, .int .i64 1, .int .i64 t, .int .i64 2, .int .i64 k, .int .i64 2, .int .i64 v, .int .i64 2, .int .i64 m, .int .i64 4, .int .i64 0] 72) :
    Calls Try.prog 23 #[.slice (some ⟨g, 0, none⟩) 6 6] w (RetS (fun w' r => ∃ p c, r = .tuple #[.slice p 12 c, .int .i64 0] ∧ w'.ownsRow w.heap.size 5 1 (.slice p 12 c) 12 ((leB f 1 ++ leB t 1 ++ leB k 2 ++ leB v 2 ++ leB m 2 ++ leB 0 4).map bv)) w) := by
  refine calls_of_wp Try.func23 rfl ?_
  refine g_fr ⟨#[.slice (some ⟨g, 0, none⟩) 6 6, undef, undef, undef, undef, undef, undef, undef, undef, undef, undef, undef, undef, undef, undef, undef, undef, undef, undef, undef, undef, undef, undef, undef, undef, undef, undef, undef, undef, undef, undef, undef], []⟩ (by kernel_rfl) ?_
  refine wp_seq ?_
  refine wp_region_lit ?_
  refine g_pv 2 [(2, .slice none 0 0), (3, .int .i64 0)] (by kernel_rfl) ?_
  refine wpList_nil ?_
  refine wp_seq ?_
  refine wp_region_lit ?_
  refine g_pv 1 [(4, .slice none 0 0)] (by kernel_rfl) ?_
  refine wpList_nil ?_
  refine wp_seq ?_
  refine wp_seq ?_
  refine wp_region_lit ?_
  refine g_pv 3 [(7, .slice (some ⟨g, 0, none⟩) 6 6), (8, .int .i64 6), (9, .int .i64 0)] (by kernel_rfl) ?_
  refine wpList_nil ?_
  refine wp_block ?_
  refine wp_loop_rounds 7 ?_
  refine g_round ?_
  refine wp_seq ?_
  refine wp_region_lit ?_
  refine g_pv 1 [(10, .bool true)] (by kernel_rfl) ?_
  refine wpList_nil ?_
  refine wp_seq ?_
  refine wp_cond_true (by kernel_rfl) ?_
  refine wp_skip ?_
  refine wp_seq ?_
  refine wp_block ?_
  refine wp_seq ?_
  refine wp_region_lit ?_
  refine g_pv 1 [(11, .pointer (some ⟨g, 0, none⟩))] (by kernel_rfl) ?_
  refine g_op (by kernel_rfl) (op_loadv (b := g) (off := 0) [.int .i64 1, .int .i64 f] _ rfl (by kernel_rfl) Try.underlying72 rfl (by kernel_rfl) (hk.part 0 2 (by first | decide | simp)) ?_)
  refine g_op (by kernel_rfl) (op_alloc [.int .i64 0, .int .i64 0] rfl (by kernel_rfl) ?_)
  intro b1 W1 n1
  have d1_g := n1.ne hk
  have g1 := n1.ge (Below.refl w.heap.size _)
  have hB := n1.below
  replace hk := hk.below n1.below
  have k1 := n1.blk
  refine g_op (by kernel_rfl) (op_storev (b := b1) (off := 0) [.int .i64 1, .int .i64 f] rfl (by kernel_rfl) (by kernel_rfl) (by kernel_rfl) (by first | decide | simp [Value.oneCell']) k1 (by first | decide | simp) ?_)
  intro W2 u2 k2
  change Blk _ _ [.int .i64 1, .int .i64 f] _ at k2
  replace hB := u2.below hB g1
  replace hk := u2.blk hk (Ne.symm (Ne.symm d1_g))
  refine wpList_nil ?_
  refine wp_seq ?_
  refine wp_seq ?_
  refine wp_region_lit ?_
  refine g_pv 1 [(13, .pointer (some ⟨b1, 0, none⟩))] (by kernel_rfl) ?_
  refine g_op (by kernel_rfl) (op_load ⟨b1, 0, none⟩ (.int .i64 1) rfl (by kernel_rfl) (by kernel_rfl) (k2.cell (i := 0) rfl) ?_)
  refine g_op (by kernel_rfl) (op_call (lb := #[]) 42 #[.int .i64 1] rfl (by kernel_rfl) (fun _ _ => by kernel_rfl) (by kernel_rfl) ((known_1 _).mono ?_))
  rintro e W3 ⟨rfl, hb3⟩
  refine ⟨_, rfl, ?_⟩
  replace hB := Bl.next hB hb3
  replace hk := hk.below hb3
  replace k2 := k2.below hb3
  refine g_pv 1 [(16, .bool false)] (by kernel_rfl) ?_
  refine wpList_nil ?_
  refine wp_cond_false (by kernel_rfl) ?_
  refine wp_skip ?_
  refine wp_seq ?_
  refine wp_seq ?_
  refine wp_region_lit ?_
  refine g_pv 1 [(17, .pointer (some ⟨b1, 1, none⟩))] (by kernel_rfl) ?_
  refine g_op (by kernel_rfl) (op_load ⟨b1, 1, none⟩ (.int .i64 f) rfl (by kernel_rfl) (by kernel_rfl) (k2.cell (i := 1) rfl) ?_)
  refine g_pv 1 [(19, .pointer (some ⟨b1, 0, none⟩))] (by kernel_rfl) ?_
  refine g_op (by kernel_rfl) (op_load ⟨b1, 0, none⟩ (.int .i64 1) rfl (by kernel_rfl) (by kernel_rfl) (k2.cell (i := 0) rfl) ?_)
  refine g_op (by kernel_rfl) (op_call (lb := #[]) 43 #[.int .i64 f, .int .i64 1] rfl (by kernel_rfl) (fun _ _ => by kernel_rfl) (by kernel_rfl) ((fits_1 (f) (hf) (hf2) _).mono ?_))
  rintro e W4 ⟨rfl, hb4⟩
  refine ⟨_, rfl, ?_⟩
  replace hB := Bl.next hB hb4
  replace hk := hk.below hb4
  replace k2 := k2.below hb4
  refine g_pv 1 [(22, .bool false)] (by kernel_rfl) ?_
  refine wpList_nil ?_
  refine wp_cond_false (by kernel_rfl) ?_
  refine wp_skip ?_
  refine wp_region_lit ?_
  refine g_pv 2 [(23, .slice none 0 0), (24, .pointer (some ⟨b1, 1, none⟩))] (by kernel_rfl) ?_
  refine g_op (by kernel_rfl) (op_load ⟨b1, 1, none⟩ (.int .i64 f) rfl (by kernel_rfl) (by kernel_rfl) (k2.cell (i := 1) rfl) ?_)
  refine g_pv 1 [(26, .pointer (some ⟨b1, 0, none⟩))] (by kernel_rfl) ?_
  refine g_op (by kernel_rfl) (op_load ⟨b1, 0, none⟩ (.int .i64 1) rfl (by kernel_rfl) (by kernel_rfl) (k2.cell (i := 0) rfl) ?_)
  have hs5 : w.heap.size ≤ (W4).heap.size := hB.size
  refine g_op (by kernel_rfl) (op_call (lb := #[]) 44 #[.int .i64 f, .int .i64 1] rfl (by kernel_rfl) (fun _ _ => by kernel_rfl) (by kernel_rfl) ((bytes_1 (f) (hf) _).mono ?_))
  rintro e W5 ⟨_, rfl, hb5, h2_0⟩
  refine ⟨_, rfl, ?_⟩
  replace hB := Bl.next hB hb5
  replace hk := hk.below hb5
  replace k2 := k2.below hb5
  replace h2_0 := own_mono h2_0 hs5
  unfold OwnB at h2_0
  rw [leB_len] at h2_0
  obtain ⟨p2_0, c2_0, rfl⟩ := (own_sl h2_0).slice
  have o6 := World.ownsRow_nil W5 w.heap.size 5 1
  refine g_op (by kernel_rfl) (op_app (e := 5) (n := 0) (xs := []) (m := 1) (news := (leB (f) 1).map bv) (.int .u8 0) 1 1 (1) ((leB (f) 1).map bv) rfl Try.underlying22 (by kernel_rfl) rfl (by decide) (by kernel_rfl) o6 (by kernel_rfl) (own_sl h2_0) (by simp [leB_len]) (bv_one _) (by unfold maxLen; omega) (by omega) hB.size (by rfl) (by simp) ?_)
  intro p7 c7 W7 o7 hg7 hb7
  replace hk := hk.grown hg7 o6 (by decide)
  replace k2 := k2.grown hg7 o6 (by decide)
  replace hB := hB.trans hb7
  refine g_pv 1 [(4, .slice p7 1 c7)] (by kernel_rfl) ?_
  refine wpList_nil ?_
  refine wp_region_lit ?_
  refine g_pv 2 [(30, .int .i64 1), (9, .int .i64 1)] (by kernel_rfl) ?_
  refine wpList_nil ?_
  refine g_round ?_
  refine wp_seq ?_
  refine wp_region_lit ?_
  refine g_pv 1 [(10, .bool true)] (by kernel_rfl) ?_
  refine wpList_nil ?_
  refine wp_seq ?_
  refine wp_cond_true (by kernel_rfl) ?_
  refine wp_skip ?_
  refine wp_seq ?_
  refine wp_block ?_
  refine wp_seq ?_
  refine wp_region_lit ?_
  refine g_pv 1 [(11, .pointer (some ⟨g, 2, none⟩))] (by kernel_rfl) ?_
  refine g_op (by kernel_rfl) (op_loadv (b := g) (off := 2) [.int .i64 1, .int .i64 t] _ rfl (by kernel_rfl) Try.underlying72 rfl (by kernel_rfl) (hk.part 2 2 (by first | decide | simp)) ?_)
  refine g_op (by kernel_rfl) (op_alloc [.int .i64 0, .int .i64 0] rfl (by kernel_rfl) ?_)
  intro b8 W8 n8
  have d8_g := n8.ne hk
  have d8_b1 := n8.ne k2
  have g8 := n8.ge hB
  replace hB := Bl.next hB n8.below
  replace hk := hk.below n8.below
  replace k2 := k2.below n8.below
  replace o7 := own_below o7 n8.below
  have k8 := n8.blk
  refine g_op (by kernel_rfl) (op_storev (b := b8) (off := 0) [.int .i64 1, .int .i64 t] rfl (by kernel_rfl) (by kernel_rfl) (by kernel_rfl) (by first | decide | simp [Value.oneCell']) k8 (by first | decide | simp) ?_)
  intro W9 u9 k9
  change Blk _ _ [.int .i64 1, .int .i64 t] _ at k9
  replace hB := u9.below hB g8
  replace hk := u9.blk hk (Ne.symm (Ne.symm d8_g))
  replace k2 := u9.blk k2 (Ne.symm (Ne.symm d8_b1))
  replace o7 := u9.own2 o7 k8 (by decide)
  refine wpList_nil ?_
  refine wp_seq ?_
  refine wp_seq ?_
  refine wp_region_lit ?_
  refine g_pv 1 [(13, .pointer (some ⟨b8, 0, none⟩))] (by kernel_rfl) ?_
  refine g_op (by kernel_rfl) (op_load ⟨b8, 0, none⟩ (.int .i64 1) rfl (by kernel_rfl) (by kernel_rfl) (k9.cell (i := 0) rfl) ?_)
  refine g_op (by kernel_rfl) (op_call (lb := #[]) 42 #[.int .i64 1] rfl (by kernel_rfl) (fun _ _ => by kernel_rfl) (by kernel_rfl) ((known_1 _).mono ?_))
  rintro e W10 ⟨rfl, hb10⟩
  refine ⟨_, rfl, ?_⟩
  replace hB := Bl.next hB hb10
  replace hk := hk.below hb10
  replace k2 := k2.below hb10
  replace k9 := k9.below hb10
  replace o7 := own_below o7 hb10
  refine g_pv 1 [(16, .bool false)] (by kernel_rfl) ?_
  refine wpList_nil ?_
  refine wp_cond_false (by kernel_rfl) ?_
  refine wp_skip ?_
  refine wp_seq ?_
  refine wp_seq ?_
  refine wp_region_lit ?_
  refine g_pv 1 [(17, .pointer (some ⟨b8, 1, none⟩))] (by kernel_rfl) ?_
  refine g_op (by kernel_rfl) (op_load ⟨b8, 1, none⟩ (.int .i64 t) rfl (by kernel_rfl) (by kernel_rfl) (k9.cell (i := 1) rfl) ?_)
  refine g_pv 1 [(19, .pointer (some ⟨b8, 0, none⟩))] (by kernel_rfl) ?_
  refine g_op (by kernel_rfl) (op_load ⟨b8, 0, none⟩ (.int .i64 1) rfl (by kernel_rfl) (by kernel_rfl) (k9.cell (i := 0) rfl) ?_)
  refine g_op (by kernel_rfl) (op_call (lb := #[]) 43 #[.int .i64 t, .int .i64 1] rfl (by kernel_rfl) (fun _ _ => by kernel_rfl) (by kernel_rfl) ((fits_1 (t) (ht) (ht2) _).mono ?_))
  rintro e W11 ⟨rfl, hb11⟩
  refine ⟨_, rfl, ?_⟩
  replace hB := Bl.next hB hb11
  replace hk := hk.below hb11
  replace k2 := k2.below hb11
  replace k9 := k9.below hb11
  replace o7 := own_below o7 hb11
  refine g_pv 1 [(22, .bool false)] (by kernel_rfl) ?_
  refine wpList_nil ?_
  refine wp_cond_false (by kernel_rfl) ?_
  refine wp_skip ?_
  refine wp_region_lit ?_
  refine g_pv 2 [(23, .slice p7 1 c7), (24, .pointer (some ⟨b8, 1, none⟩))] (by kernel_rfl) ?_
  refine g_op (by kernel_rfl) (op_load ⟨b8, 1, none⟩ (.int .i64 t) rfl (by kernel_rfl) (by kernel_rfl) (k9.cell (i := 1) rfl) ?_)
  refine g_pv 1 [(26, .pointer (some ⟨b8, 0, none⟩))] (by kernel_rfl) ?_
  refine g_op (by kernel_rfl) (op_load ⟨b8, 0, none⟩ (.int .i64 1) rfl (by kernel_rfl) (by kernel_rfl) (k9.cell (i := 0) rfl) ?_)
  have hs12 : w.heap.size ≤ (W11).heap.size := hB.size
  refine g_op (by kernel_rfl) (op_call (lb := #[]) 44 #[.int .i64 t, .int .i64 1] rfl (by kernel_rfl) (fun _ _ => by kernel_rfl) (by kernel_rfl) ((bytes_1 (t) (ht) _).mono ?_))
  rintro e W12 ⟨_, rfl, hb12, h2_1⟩
  refine ⟨_, rfl, ?_⟩
  replace hB := Bl.next hB hb12
  replace hk := hk.below hb12
  replace k2 := k2.below hb12
  replace k9 := k9.below hb12
  replace o7 := own_below o7 hb12
  replace h2_1 := own_mono h2_1 hs12
  unfold OwnB at h2_1
  rw [leB_len] at h2_1
  obtain ⟨p2_1, c2_1, rfl⟩ := (own_sl h2_1).slice
  refine g_op (by kernel_rfl) (op_app (e := 5) (n := 1) (xs := (leB (f) 1).map bv) (m := 1) (news := (leB (t) 1).map bv) (.int .u8 0) 1 1 (2) ((leB (f) 1 ++ leB (t) 1).map bv) rfl Try.underlying22 (by kernel_rfl) rfl (by decide) (by kernel_rfl) o7 (by kernel_rfl) (own_sl h2_1) (by simp [leB_len]) (bv_one _) (by unfold maxLen; omega) (by omega) hB.size (by rfl) (by simp) ?_)
  intro p13 c13 W13 o13 hg13 hb13
  replace hk := hk.grown hg13 o7 (by decide)
  replace k2 := k2.grown hg13 o7 (by decide)
  replace k9 := k9.grown hg13 o7 (by decide)
  replace hB := hB.trans hb13
  refine g_pv 1 [(4, .slice p13 2 c13)] (by kernel_rfl) ?_
  refine wpList_nil ?_
  refine wp_region_lit ?_
  refine g_pv 2 [(30, .int .i64 2), (9, .int .i64 2)] (by kernel_rfl) ?_
  refine wpList_nil ?_
  refine g_round ?_
  refine wp_seq ?_
  refine wp_region_lit ?_
  refine g_pv 1 [(10, .bool true)] (by kernel_rfl) ?_
  refine wpList_nil ?_
  refine wp_seq ?_
  refine wp_cond_true (by kernel_rfl) ?_
  refine wp_skip ?_
  refine wp_seq ?_
  refine wp_block ?_
  refine wp_seq ?_
  refine wp_region_lit ?_
  refine g_pv 1 [(11, .pointer (some ⟨g, 4, none⟩))] (by kernel_rfl) ?_
  refine g_op (by kernel_rfl) (op_loadv (b := g) (off := 4) [.int .i64 2, .int .i64 k] _ rfl (by kernel_rfl) Try.underlying72 rfl (by kernel_rfl) (hk.part 4 2 (by first | decide | simp)) ?_)
  refine g_op (by kernel_rfl) (op_alloc [.int .i64 0, .int .i64 0] rfl (by kernel_rfl) ?_)
  intro b14 W14 n14
  have d14_g := n14.ne hk
  have d14_b1 := n14.ne k2
  have d14_b8 := n14.ne k9
  have g14 := n14.ge hB
  replace hB := Bl.next hB n14.below
  replace hk := hk.below n14.below
  replace k2 := k2.below n14.below
  replace k9 := k9.below n14.below
  replace o13 := own_below o13 n14.below
  have k14 := n14.blk
  refine g_op (by kernel_rfl) (op_storev (b := b14) (off := 0) [.int .i64 2, .int .i64 k] rfl (by kernel_rfl) (by kernel_rfl) (by kernel_rfl) (by first | decide | simp [Value.oneCell']) k14 (by first | decide | simp) ?_)
  intro W15 u15 k15
  change Blk _ _ [.int .i64 2, .int .i64 k] _ at k15
  replace hB := u15.below hB g14
  replace hk := u15.blk hk (Ne.symm (Ne.symm d14_g))
  replace k2 := u15.blk k2 (Ne.symm (Ne.symm d14_b1))
  replace k9 := u15.blk k9 (Ne.symm (Ne.symm d14_b8))
  replace o13 := u15.own2 o13 k14 (by decide)
  refine wpList_nil ?_
  refine wp_seq ?_
  refine wp_seq ?_
  refine wp_region_lit ?_
  refine g_pv 1 [(13, .pointer (some ⟨b14, 0, none⟩))] (by kernel_rfl) ?_
  refine g_op (by kernel_rfl) (op_load ⟨b14, 0, none⟩ (.int .i64 2) rfl (by kernel_rfl) (by kernel_rfl) (k15.cell (i := 0) rfl) ?_)
  refine g_op (by kernel_rfl) (op_call (lb := #[]) 42 #[.int .i64 2] rfl (by kernel_rfl) (fun _ _ => by kernel_rfl) (by kernel_rfl) ((known_2 _).mono ?_))
  rintro e W16 ⟨rfl, hb16⟩
  refine ⟨_, rfl, ?_⟩
  replace hB := Bl.next hB hb16
  replace hk := hk.below hb16
  replace k2 := k2.below hb16
  replace k9 := k9.below hb16
  replace k15 := k15.below hb16
  replace o13 := own_below o13 hb16
  refine g_pure 1 ⟨#[.slice (some ⟨g, 0, none⟩) 6 6, undef, .slice none 0 0, .int .i64 0, .slice p13 2 c13, undef, .pointer (some ⟨b14, 0, none⟩), .slice (some ⟨g, 0, none⟩) 6 6, .int .i64 6, .int .i64 2, .bool true, .pointer (some ⟨g, 4, none⟩), .agg #[.int .i64 2, .int .i64 k], .pointer (some ⟨b14, 0, none⟩), .int .i64 2, .bool true, .bool false, .pointer (some ⟨b8, 1, none⟩), .int .i64 t, .pointer (some ⟨b8, 0, none⟩), .int .i64 1, .bool true, .bool false, .slice p7 1 c7, .pointer (some ⟨b8, 1, none⟩), .int .i64 t, .pointer (some ⟨b8, 0, none⟩), .int .i64 1, .slice p2_1 1 c2_1, .slice p13 2 c13, .int .i64 2, undef], []⟩ (by kernel_rfl) ?_
  refine wpList_nil ?_
  refine wp_cond_false (by kernel_rfl) ?_
  refine wp_skip ?_
  refine wp_seq ?_
  refine wp_seq ?_
  refine wp_region_lit ?_
  refine g_pv 1 [(17, .pointer (some ⟨b14, 1, none⟩))] (by kernel_rfl) ?_
  refine g_op (by kernel_rfl) (op_load ⟨b14, 1, none⟩ (.int .i64 k) rfl (by kernel_rfl) (by kernel_rfl) (k15.cell (i := 1) rfl) ?_)
  refine g_pv 1 [(19, .pointer (some ⟨b14, 0, none⟩))] (by kernel_rfl) ?_
  refine g_op (by kernel_rfl) (op_load ⟨b14, 0, none⟩ (.int .i64 2) rfl (by kernel_rfl) (by kernel_rfl) (k15.cell (i := 0) rfl) ?_)
  refine g_op (by kernel_rfl) (op_call (lb := #[]) 43 #[.int .i64 k, .int .i64 2] rfl (by kernel_rfl) (fun _ _ => by kernel_rfl) (by kernel_rfl) ((fits_2 (k) (hk1) (hk2) _).mono ?_))
  rintro e W17 ⟨rfl, hb17⟩
  refine ⟨_, rfl, ?_⟩
  replace hB := Bl.next hB hb17
  replace hk := hk.below hb17
  replace k2 := k2.below hb17
  replace k9 := k9.below hb17
  replace k15 := k15.below hb17
  replace o13 := own_below o13 hb17
  refine g_pv 1 [(22, .bool false)] (by kernel_rfl) ?_
  refine wpList_nil ?_
  refine wp_cond_false (by kernel_rfl) ?_
  refine wp_skip ?_
  refine wp_region_lit ?_
  refine g_pv 2 [(23, .slice p13 2 c13), (24, .pointer (some ⟨b14, 1, none⟩))] (by kernel_rfl) ?_
  refine g_op (by kernel_rfl) (op_load ⟨b14, 1, none⟩ (.int .i64 k) rfl (by kernel_rfl) (by kernel_rfl) (k15.cell (i := 1) rfl) ?_)
  refine g_pv 1 [(26, .pointer (some ⟨b14, 0, none⟩))] (by kernel_rfl) ?_
  refine g_op (by kernel_rfl) (op_load ⟨b14, 0, none⟩ (.int .i64 2) rfl (by kernel_rfl) (by kernel_rfl) (k15.cell (i := 0) rfl) ?_)
  have hs18 : w.heap.size ≤ (W17).heap.size := hB.size
  refine g_op (by kernel_rfl) (op_call (lb := #[]) 44 #[.int .i64 k, .int .i64 2] rfl (by kernel_rfl) (fun _ _ => by kernel_rfl) (by kernel_rfl) ((bytes_2 (k) (hk1) _).mono ?_))
  rintro e W18 ⟨_, rfl, hb18, h2_2⟩
  refine ⟨_, rfl, ?_⟩
  replace hB := Bl.next hB hb18
  replace hk := hk.below hb18
  replace k2 := k2.below hb18
  replace k9 := k9.below hb18
  replace k15 := k15.below hb18
  replace o13 := own_below o13 hb18
  replace h2_2 := own_mono h2_2 hs18
  unfold OwnB at h2_2
  rw [leB_len] at h2_2
  obtain ⟨p2_2, c2_2, rfl⟩ := (own_sl h2_2).slice
  refine g_op (by kernel_rfl) (op_app (e := 5) (n := 2) (xs := (leB (f) 1 ++ leB (t) 1).map bv) (m := 2) (news := (leB (k) 2).map bv) (.int .u8 0) 1 1 (4) ((leB (f) 1 ++ leB (t) 1 ++ leB (k) 2).map bv) rfl Try.underlying22 (by kernel_rfl) rfl (by decide) (by kernel_rfl) o13 (by kernel_rfl) (own_sl h2_2) (by simp [leB_len]) (bv_one _) (by unfold maxLen; omega) (by omega) hB.size (by rfl) (by simp) ?_)
  intro p19 c19 W19 o19 hg19 hb19
  replace hk := hk.grown hg19 o13 (by decide)
  replace k2 := k2.grown hg19 o13 (by decide)
  replace k9 := k9.grown hg19 o13 (by decide)
  replace k15 := k15.grown hg19 o13 (by decide)
  replace hB := hB.trans hb19
  refine g_pv 1 [(4, .slice p19 4 c19)] (by kernel_rfl) ?_
  refine wpList_nil ?_
  refine wp_region_lit ?_
  refine g_pv 2 [(30, .int .i64 3), (9, .int .i64 3)] (by kernel_rfl) ?_
  refine wpList_nil ?_
  refine g_round ?_
  refine wp_seq ?_
  refine wp_region_lit ?_
  refine g_pv 1 [(10, .bool true)] (by kernel_rfl) ?_
  refine wpList_nil ?_
  refine wp_seq ?_
  refine wp_cond_true (by kernel_rfl) ?_
  refine wp_skip ?_
  refine wp_seq ?_
  refine wp_block ?_
  refine wp_seq ?_
  refine wp_region_lit ?_
  refine g_pv 1 [(11, .pointer (some ⟨g, 6, none⟩))] (by kernel_rfl) ?_
  refine g_op (by kernel_rfl) (op_loadv (b := g) (off := 6) [.int .i64 2, .int .i64 v] _ rfl (by kernel_rfl) Try.underlying72 rfl (by kernel_rfl) (hk.part 6 2 (by first | decide | simp)) ?_)
  refine g_op (by kernel_rfl) (op_alloc [.int .i64 0, .int .i64 0] rfl (by kernel_rfl) ?_)
  intro b20 W20 n20
  have d20_g := n20.ne hk
  have d20_b1 := n20.ne k2
  have d20_b8 := n20.ne k9
  have d20_b14 := n20.ne k15
  have g20 := n20.ge hB
  replace hB := Bl.next hB n20.below
  replace hk := hk.below n20.below
  replace k2 := k2.below n20.below
  replace k9 := k9.below n20.below
  replace k15 := k15.below n20.below
  replace o19 := own_below o19 n20.below
  have k20 := n20.blk
  refine g_op (by kernel_rfl) (op_storev (b := b20) (off := 0) [.int .i64 2, .int .i64 v] rfl (by kernel_rfl) (by kernel_rfl) (by kernel_rfl) (by first | decide | simp [Value.oneCell']) k20 (by first | decide | simp) ?_)
  intro W21 u21 k21
  change Blk _ _ [.int .i64 2, .int .i64 v] _ at k21
  replace hB := u21.below hB g20
  replace hk := u21.blk hk (Ne.symm (Ne.symm d20_g))
  replace k2 := u21.blk k2 (Ne.symm (Ne.symm d20_b1))
  replace k9 := u21.blk k9 (Ne.symm (Ne.symm d20_b8))
  replace k15 := u21.blk k15 (Ne.symm (Ne.symm d20_b14))
  replace o19 := u21.own2 o19 k20 (by decide)
  refine wpList_nil ?_
  refine wp_seq ?_
  refine wp_seq ?_
  refine wp_region_lit ?_
  refine g_pv 1 [(13, .pointer (some ⟨b20, 0, none⟩))] (by kernel_rfl) ?_
  refine g_op (by kernel_rfl) (op_load ⟨b20, 0, none⟩ (.int .i64 2) rfl (by kernel_rfl) (by kernel_rfl) (k21.cell (i := 0) rfl) ?_)
  refine g_op (by kernel_rfl) (op_call (lb := #[]) 42 #[.int .i64 2] rfl (by kernel_rfl) (fun _ _ => by kernel_rfl) (by kernel_rfl) ((known_2 _).mono ?_))
  rintro e W22 ⟨rfl, hb22⟩
  refine ⟨_, rfl, ?_⟩
  replace hB := Bl.next hB hb22
  replace hk := hk.below hb22
  replace k2 := k2.below hb22
  replace k9 := k9.below hb22
  replace k15 := k15.below hb22
  replace k21 := k21.below hb22
  replace o19 := own_below o19 hb22
  refine g_pv 1 [(16, .bool false)] (by kernel_rfl) ?_
  refine wpList_nil ?_
  refine wp_cond_false (by kernel_rfl) ?_
  refine wp_skip ?_
  refine wp_seq ?_
  refine wp_seq ?_
  refine wp_region_lit ?_
  refine g_pv 1 [(17, .pointer (some ⟨b20, 1, none⟩))] (by kernel_rfl) ?_
  refine g_op (by kernel_rfl) (op_load ⟨b20, 1, none⟩ (.int .i64 v) rfl (by kernel_rfl) (by kernel_rfl) (k21.cell (i := 1) rfl) ?_)
  refine g_pv 1 [(19, .pointer (some ⟨b20, 0, none⟩))] (by kernel_rfl) ?_
  refine g_op (by kernel_rfl) (op_load ⟨b20, 0, none⟩ (.int .i64 2) rfl (by kernel_rfl) (by kernel_rfl) (k21.cell (i := 0) rfl) ?_)
  refine g_op (by kernel_rfl) (op_call (lb := #[]) 43 #[.int .i64 v, .int .i64 2] rfl (by kernel_rfl) (fun _ _ => by kernel_rfl) (by kernel_rfl) ((fits_2 (v) (hv) (hv2) _).mono ?_))
  rintro e W23 ⟨rfl, hb23⟩
  refine ⟨_, rfl, ?_⟩
  replace hB := Bl.next hB hb23
  replace hk := hk.below hb23
  replace k2 := k2.below hb23
  replace k9 := k9.below hb23
  replace k15 := k15.below hb23
  replace k21 := k21.below hb23
  replace o19 := own_below o19 hb23
  refine g_pv 1 [(22, .bool false)] (by kernel_rfl) ?_
  refine wpList_nil ?_
  refine wp_cond_false (by kernel_rfl) ?_
  refine wp_skip ?_
  refine wp_region_lit ?_
  refine g_pv 2 [(23, .slice p19 4 c19), (24, .pointer (some ⟨b20, 1, none⟩))] (by kernel_rfl) ?_
  refine g_op (by kernel_rfl) (op_load ⟨b20, 1, none⟩ (.int .i64 v) rfl (by kernel_rfl) (by kernel_rfl) (k21.cell (i := 1) rfl) ?_)
  refine g_pv 1 [(26, .pointer (some ⟨b20, 0, none⟩))] (by kernel_rfl) ?_
  refine g_op (by kernel_rfl) (op_load ⟨b20, 0, none⟩ (.int .i64 2) rfl (by kernel_rfl) (by kernel_rfl) (k21.cell (i := 0) rfl) ?_)
  have hs24 : w.heap.size ≤ (W23).heap.size := hB.size
  refine g_op (by kernel_rfl) (op_call (lb := #[]) 44 #[.int .i64 v, .int .i64 2] rfl (by kernel_rfl) (fun _ _ => by kernel_rfl) (by kernel_rfl) ((bytes_2 (v) (hv) _).mono ?_))
  rintro e W24 ⟨_, rfl, hb24, h2_3⟩
  refine ⟨_, rfl, ?_⟩
  replace hB := Bl.next hB hb24
  replace hk := hk.below hb24
  replace k2 := k2.below hb24
  replace k9 := k9.below hb24
  replace k15 := k15.below hb24
  replace k21 := k21.below hb24
  replace o19 := own_below o19 hb24
  replace h2_3 := own_mono h2_3 hs24
  unfold OwnB at h2_3
  rw [leB_len] at h2_3
  obtain ⟨p2_3, c2_3, rfl⟩ := (own_sl h2_3).slice
  refine g_op (by kernel_rfl) (op_app (e := 5) (n := 4) (xs := (leB (f) 1 ++ leB (t) 1 ++ leB (k) 2).map bv) (m := 2) (news := (leB (v) 2).map bv) (.int .u8 0) 1 1 (6) ((leB (f) 1 ++ leB (t) 1 ++ leB (k) 2 ++ leB (v) 2).map bv) rfl Try.underlying22 (by kernel_rfl) rfl (by decide) (by kernel_rfl) o19 (by kernel_rfl) (own_sl h2_3) (by simp [leB_len]) (bv_one _) (by unfold maxLen; omega) (by omega) hB.size (by rfl) (by simp) ?_)
  intro p25 c25 W25 o25 hg25 hb25
  replace hk := hk.grown hg25 o19 (by decide)
  replace k2 := k2.grown hg25 o19 (by decide)
  replace k9 := k9.grown hg25 o19 (by decide)
  replace k15 := k15.grown hg25 o19 (by decide)
  replace k21 := k21.grown hg25 o19 (by decide)
  replace hB := hB.trans hb25
  refine g_pv 1 [(4, .slice p25 6 c25)] (by kernel_rfl) ?_
  refine wpList_nil ?_
  refine wp_region_lit ?_
  refine g_pv 2 [(30, .int .i64 4), (9, .int .i64 4)] (by kernel_rfl) ?_
  refine wpList_nil ?_
  refine g_round ?_
  refine wp_seq ?_
  refine wp_region_lit ?_
  refine g_pv 1 [(10, .bool true)] (by kernel_rfl) ?_
  refine wpList_nil ?_
  refine wp_seq ?_
  refine wp_cond_true (by kernel_rfl) ?_
  refine wp_skip ?_
  refine wp_seq ?_
  refine wp_block ?_
  refine wp_seq ?_
  refine wp_region_lit ?_
  refine g_pv 1 [(11, .pointer (some ⟨g, 8, none⟩))] (by kernel_rfl) ?_
  refine g_op (by kernel_rfl) (op_loadv (b := g) (off := 8) [.int .i64 2, .int .i64 m] _ rfl (by kernel_rfl) Try.underlying72 rfl (by kernel_rfl) (hk.part 8 2 (by first | decide | simp)) ?_)
  refine g_op (by kernel_rfl) (op_alloc [.int .i64 0, .int .i64 0] rfl (by kernel_rfl) ?_)
  intro b26 W26 n26
  have d26_g := n26.ne hk
  have d26_b1 := n26.ne k2
  have d26_b8 := n26.ne k9
  have d26_b14 := n26.ne k15
  have d26_b20 := n26.ne k21
  have g26 := n26.ge hB
  replace hB := Bl.next hB n26.below
  replace hk := hk.below n26.below
  replace k2 := k2.below n26.below
  replace k9 := k9.below n26.below
  replace k15 := k15.below n26.below
  replace k21 := k21.below n26.below
  replace o25 := own_below o25 n26.below
  have k26 := n26.blk
  refine g_op (by kernel_rfl) (op_storev (b := b26) (off := 0) [.int .i64 2, .int .i64 m] rfl (by kernel_rfl) (by kernel_rfl) (by kernel_rfl) (by first | decide | simp [Value.oneCell']) k26 (by first | decide | simp) ?_)
  intro W27 u27 k27
  change Blk _ _ [.int .i64 2, .int .i64 m] _ at k27
  replace hB := u27.below hB g26
  replace hk := u27.blk hk (Ne.symm (Ne.symm d26_g))
  replace k2 := u27.blk k2 (Ne.symm (Ne.symm d26_b1))
  replace k9 := u27.blk k9 (Ne.symm (Ne.symm d26_b8))
  replace k15 := u27.blk k15 (Ne.symm (Ne.symm d26_b14))
  replace k21 := u27.blk k21 (Ne.symm (Ne.symm d26_b20))
  replace o25 := u27.own2 o25 k26 (by decide)
  refine wpList_nil ?_
  refine wp_seq ?_
  refine wp_seq ?_
  refine wp_region_lit ?_
  refine g_pv 1 [(13, .pointer (some ⟨b26, 0, none⟩))] (by kernel_rfl) ?_
  refine g_op (by kernel_rfl) (op_load ⟨b26, 0, none⟩ (.int .i64 2) rfl (by kernel_rfl) (by kernel_rfl) (k27.cell (i := 0) rfl) ?_)
  refine g_op (by kernel_rfl) (op_call (lb := #[]) 42 #[.int .i64 2] rfl (by kernel_rfl) (fun _ _ => by kernel_rfl) (by kernel_rfl) ((known_2 _).mono ?_))
  rintro e W28 ⟨rfl, hb28⟩
  refine ⟨_, rfl, ?_⟩
  replace hB := Bl.next hB hb28
  replace hk := hk.below hb28
  replace k2 := k2.below hb28
  replace k9 := k9.below hb28
  replace k15 := k15.below hb28
  replace k21 := k21.below hb28
  replace k27 := k27.below hb28
  replace o25 := own_below o25 hb28
  refine g_pv 1 [(16, .bool false)] (by kernel_rfl) ?_
  refine wpList_nil ?_
  refine wp_cond_false (by kernel_rfl) ?_
  refine wp_skip ?_
  refine wp_seq ?_
  refine wp_seq ?_
  refine wp_region_lit ?_
  refine g_pv 1 [(17, .pointer (some ⟨b26, 1, none⟩))] (by kernel_rfl) ?_
  refine g_op (by kernel_rfl) (op_load ⟨b26, 1, none⟩ (.int .i64 m) rfl (by kernel_rfl) (by kernel_rfl) (k27.cell (i := 1) rfl) ?_)
  refine g_pv 1 [(19, .pointer (some ⟨b26, 0, none⟩))] (by kernel_rfl) ?_
  refine g_op (by kernel_rfl) (op_load ⟨b26, 0, none⟩ (.int .i64 2) rfl (by kernel_rfl) (by kernel_rfl) (k27.cell (i := 0) rfl) ?_)
  refine g_op (by kernel_rfl) (op_call (lb := #[]) 43 #[.int .i64 m, .int .i64 2] rfl (by kernel_rfl) (fun _ _ => by kernel_rfl) (by kernel_rfl) ((fits_2 (m) (hm) (hm2) _).mono ?_))
  rintro e W29 ⟨rfl, hb29⟩
  refine ⟨_, rfl, ?_⟩
  replace hB := Bl.next hB hb29
  replace hk := hk.below hb29
  replace k2 := k2.below hb29
  replace k9 := k9.below hb29
  replace k15 := k15.below hb29
  replace k21 := k21.below hb29
  replace k27 := k27.below hb29
  replace o25 := own_below o25 hb29
  refine g_pv 1 [(22, .bool false)] (by kernel_rfl) ?_
  refine wpList_nil ?_
  refine wp_cond_false (by kernel_rfl) ?_
  refine wp_skip ?_
  refine wp_region_lit ?_
  refine g_pv 2 [(23, .slice p25 6 c25), (24, .pointer (some ⟨b26, 1, none⟩))] (by kernel_rfl) ?_
  refine g_op (by kernel_rfl) (op_load ⟨b26, 1, none⟩ (.int .i64 m) rfl (by kernel_rfl) (by kernel_rfl) (k27.cell (i := 1) rfl) ?_)
  refine g_pv 1 [(26, .pointer (some ⟨b26, 0, none⟩))] (by kernel_rfl) ?_
  refine g_op (by kernel_rfl) (op_load ⟨b26, 0, none⟩ (.int .i64 2) rfl (by kernel_rfl) (by kernel_rfl) (k27.cell (i := 0) rfl) ?_)
  have hs30 : w.heap.size ≤ (W29).heap.size := hB.size
  refine g_op (by kernel_rfl) (op_call (lb := #[]) 44 #[.int .i64 m, .int .i64 2] rfl (by kernel_rfl) (fun _ _ => by kernel_rfl) (by kernel_rfl) ((bytes_2 (m) (hm) _).mono ?_))
  rintro e W30 ⟨_, rfl, hb30, h2_4⟩
  refine ⟨_, rfl, ?_⟩
  replace hB := Bl.next hB hb30
  replace hk := hk.below hb30
  replace k2 := k2.below hb30
  replace k9 := k9.below hb30
  replace k15 := k15.below hb30
  replace k21 := k21.below hb30
  replace k27 := k27.below hb30
  replace o25 := own_below o25 hb30
  replace h2_4 := own_mono h2_4 hs30
  unfold OwnB at h2_4
  rw [leB_len] at h2_4
  obtain ⟨p2_4, c2_4, rfl⟩ := (own_sl h2_4).slice
  refine g_op (by kernel_rfl) (op_app (e := 5) (n := 6) (xs := (leB (f) 1 ++ leB (t) 1 ++ leB (k) 2 ++ leB (v) 2).map bv) (m := 2) (news := (leB (m) 2).map bv) (.int .u8 0) 1 1 (8) ((leB (f) 1 ++ leB (t) 1 ++ leB (k) 2 ++ leB (v) 2 ++ leB (m) 2).map bv) rfl Try.underlying22 (by kernel_rfl) rfl (by decide) (by kernel_rfl) o25 (by kernel_rfl) (own_sl h2_4) (by simp [leB_len]) (bv_one _) (by unfold maxLen; omega) (by omega) hB.size (by rfl) (by simp) ?_)
  intro p31 c31 W31 o31 hg31 hb31
  replace hk := hk.grown hg31 o25 (by decide)
  replace k2 := k2.grown hg31 o25 (by decide)
  replace k9 := k9.grown hg31 o25 (by decide)
  replace k15 := k15.grown hg31 o25 (by decide)
  replace k21 := k21.grown hg31 o25 (by decide)
  replace k27 := k27.grown hg31 o25 (by decide)
  replace hB := hB.trans hb31
  refine g_pure 1 ⟨#[.slice (some ⟨g, 0, none⟩) 6 6, undef, .slice none 0 0, .int .i64 0, .slice p31 8 c31, undef, .pointer (some ⟨b26, 0, none⟩), .slice (some ⟨g, 0, none⟩) 6 6, .int .i64 6, .int .i64 4, .bool true, .pointer (some ⟨g, 8, none⟩), .agg #[.int .i64 2, .int .i64 m], .pointer (some ⟨b26, 0, none⟩), .int .i64 2, .bool true, .bool false, .pointer (some ⟨b26, 1, none⟩), .int .i64 m, .pointer (some ⟨b26, 0, none⟩), .int .i64 2, .bool true, .bool false, .slice p25 6 c25, .pointer (some ⟨b26, 1, none⟩), .int .i64 m, .pointer (some ⟨b26, 0, none⟩), .int .i64 2, .slice p2_4 2 c2_4, .slice p31 8 c31, .int .i64 4, undef], []⟩ (by kernel_rfl) ?_
  refine wpList_nil ?_
  refine wp_region_lit ?_
  refine g_pv 2 [(30, .int .i64 5), (9, .int .i64 5)] (by kernel_rfl) ?_
  refine wpList_nil ?_
  refine g_round ?_
  refine wp_seq ?_
  refine wp_region_lit ?_
  refine g_pv 1 [(10, .bool true)] (by kernel_rfl) ?_
  refine wpList_nil ?_
  refine wp_seq ?_
  refine wp_cond_true (by kernel_rfl) ?_
  refine wp_skip ?_
  refine wp_seq ?_
  refine wp_block ?_
  refine wp_seq ?_
  refine wp_region_lit ?_
  refine g_pv 1 [(11, .pointer (some ⟨g, 10, none⟩))] (by kernel_rfl) ?_
  refine g_op (by kernel_rfl) (op_loadv (b := g) (off := 10) [.int .i64 4, .int .i64 0] _ rfl (by kernel_rfl) Try.underlying72 rfl (by kernel_rfl) (hk.part 10 2 (by first | decide | simp)) ?_)
  refine g_op (by kernel_rfl) (op_alloc [.int .i64 0, .int .i64 0] rfl (by kernel_rfl) ?_)
  intro b32 W32 n32
  have d32_g := n32.ne hk
  have d32_b1 := n32.ne k2
  have d32_b8 := n32.ne k9
  have d32_b14 := n32.ne k15
  have d32_b20 := n32.ne k21
  have d32_b26 := n32.ne k27
  have g32 := n32.ge hB
  replace hB := Bl.next hB n32.below
  replace hk := hk.below n32.below
  replace k2 := k2.below n32.below
  replace k9 := k9.below n32.below
  replace k15 := k15.below n32.below
  replace k21 := k21.below n32.below
  replace k27 := k27.below n32.below
  replace o31 := own_below o31 n32.below
  have k32 := n32.blk
  refine g_op (by kernel_rfl) (op_storev (b := b32) (off := 0) [.int .i64 4, .int .i64 0] rfl (by kernel_rfl) (by kernel_rfl) (by kernel_rfl) (by first | decide | simp [Value.oneCell']) k32 (by first | decide | simp) ?_)
  intro W33 u33 k33
  change Blk _ _ [.int .i64 4, .int .i64 0] _ at k33
  replace hB := u33.below hB g32
  replace hk := u33.blk hk (Ne.symm (Ne.symm d32_g))
  replace k2 := u33.blk k2 (Ne.symm (Ne.symm d32_b1))
  replace k9 := u33.blk k9 (Ne.symm (Ne.symm d32_b8))
  replace k15 := u33.blk k15 (Ne.symm (Ne.symm d32_b14))
  replace k21 := u33.blk k21 (Ne.symm (Ne.symm d32_b20))
  replace k27 := u33.blk k27 (Ne.symm (Ne.symm d32_b26))
  replace o31 := u33.own2 o31 k32 (by decide)
  refine wpList_nil ?_
  refine wp_seq ?_
  refine wp_seq ?_
  refine wp_region_lit ?_
  refine g_pv 1 [(13, .pointer (some ⟨b32, 0, none⟩))] (by kernel_rfl) ?_
  refine g_op (by kernel_rfl) (op_load ⟨b32, 0, none⟩ (.int .i64 4) rfl (by kernel_rfl) (by kernel_rfl) (k33.cell (i := 0) rfl) ?_)
  refine g_op (by kernel_rfl) (op_call (lb := #[]) 42 #[.int .i64 4] rfl (by kernel_rfl) (fun _ _ => by kernel_rfl) (by kernel_rfl) ((known_4 _).mono ?_))
  rintro e W34 ⟨rfl, hb34⟩
  refine ⟨_, rfl, ?_⟩
  replace hB := Bl.next hB hb34
  replace hk := hk.below hb34
  replace k2 := k2.below hb34
  replace k9 := k9.below hb34
  replace k15 := k15.below hb34
  replace k21 := k21.below hb34
  replace k27 := k27.below hb34
  replace k33 := k33.below hb34
  replace o31 := own_below o31 hb34
  refine g_pv 1 [(16, .bool false)] (by kernel_rfl) ?_
  refine wpList_nil ?_
  refine wp_cond_false (by kernel_rfl) ?_
  refine wp_skip ?_
  refine wp_seq ?_
  refine wp_seq ?_
  refine wp_region_lit ?_
  refine g_pv 1 [(17, .pointer (some ⟨b32, 1, none⟩))] (by kernel_rfl) ?_
  refine g_op (by kernel_rfl) (op_load ⟨b32, 1, none⟩ (.int .i64 0) rfl (by kernel_rfl) (by kernel_rfl) (k33.cell (i := 1) rfl) ?_)
  refine g_pv 1 [(19, .pointer (some ⟨b32, 0, none⟩))] (by kernel_rfl) ?_
  refine g_op (by kernel_rfl) (op_load ⟨b32, 0, none⟩ (.int .i64 4) rfl (by kernel_rfl) (by kernel_rfl) (k33.cell (i := 0) rfl) ?_)
  refine g_op (by kernel_rfl) (op_call (lb := #[]) 43 #[.int .i64 0, .int .i64 4] rfl (by kernel_rfl) (fun _ _ => by kernel_rfl) (by kernel_rfl) ((fits_4 (0) (by decide) (by decide) _).mono ?_))
  rintro e W35 ⟨rfl, hb35⟩
  refine ⟨_, rfl, ?_⟩
  replace hB := Bl.next hB hb35
  replace hk := hk.below hb35
  replace k2 := k2.below hb35
  replace k9 := k9.below hb35
  replace k15 := k15.below hb35
  replace k21 := k21.below hb35
  replace k27 := k27.below hb35
  replace k33 := k33.below hb35
  replace o31 := own_below o31 hb35
  refine g_pv 1 [(22, .bool false)] (by kernel_rfl) ?_
  refine wpList_nil ?_
  refine wp_cond_false (by kernel_rfl) ?_
  refine wp_skip ?_
  refine wp_region_lit ?_
  refine g_pv 2 [(23, .slice p31 8 c31), (24, .pointer (some ⟨b32, 1, none⟩))] (by kernel_rfl) ?_
  refine g_op (by kernel_rfl) (op_load ⟨b32, 1, none⟩ (.int .i64 0) rfl (by kernel_rfl) (by kernel_rfl) (k33.cell (i := 1) rfl) ?_)
  refine g_pv 1 [(26, .pointer (some ⟨b32, 0, none⟩))] (by kernel_rfl) ?_
  refine g_op (by kernel_rfl) (op_load ⟨b32, 0, none⟩ (.int .i64 4) rfl (by kernel_rfl) (by kernel_rfl) (k33.cell (i := 0) rfl) ?_)
  have hs36 : w.heap.size ≤ (W35).heap.size := hB.size
  refine g_op (by kernel_rfl) (op_call (lb := #[]) 44 #[.int .i64 0, .int .i64 4] rfl (by kernel_rfl) (fun _ _ => by kernel_rfl) (by kernel_rfl) ((bytes_4 (0) (by decide) _).mono ?_))
  rintro e W36 ⟨_, rfl, hb36, h2_5⟩
  refine ⟨_, rfl, ?_⟩
  replace hB := Bl.next hB hb36
  replace hk := hk.below hb36
  replace k2 := k2.below hb36
  replace k9 := k9.below hb36
  replace k15 := k15.below hb36
  replace k21 := k21.below hb36
  replace k27 := k27.below hb36
  replace k33 := k33.below hb36
  replace o31 := own_below o31 hb36
  replace h2_5 := own_mono h2_5 hs36
  unfold OwnB at h2_5
  rw [leB_len] at h2_5
  obtain ⟨p2_5, c2_5, rfl⟩ := (own_sl h2_5).slice
  refine g_op (by kernel_rfl) (op_app (e := 5) (n := 8) (xs := (leB (f) 1 ++ leB (t) 1 ++ leB (k) 2 ++ leB (v) 2 ++ leB (m) 2).map bv) (m := 4) (news := (leB (0) 4).map bv) (.int .u8 0) 1 1 (12) ((leB (f) 1 ++ leB (t) 1 ++ leB (k) 2 ++ leB (v) 2 ++ leB (m) 2 ++ leB (0) 4).map bv) rfl Try.underlying22 (by kernel_rfl) rfl (by decide) (by kernel_rfl) o31 (by kernel_rfl) (own_sl h2_5) (by simp [leB_len]) (bv_one _) (by unfold maxLen; omega) (by omega) hB.size (by rfl) (by simp) ?_)
  intro p37 c37 W37 o37 hg37 hb37
  replace hk := hk.grown hg37 o31 (by decide)
  replace k2 := k2.grown hg37 o31 (by decide)
  replace k9 := k9.grown hg37 o31 (by decide)
  replace k15 := k15.grown hg37 o31 (by decide)
  replace k21 := k21.grown hg37 o31 (by decide)
  replace k27 := k27.grown hg37 o31 (by decide)
  replace k33 := k33.grown hg37 o31 (by decide)
  replace hB := hB.trans hb37
  refine g_pv 1 [(4, .slice p37 12 c37)] (by kernel_rfl) ?_
  refine wpList_nil ?_
  refine wp_region_lit ?_
  refine g_pv 2 [(30, .int .i64 6), (9, .int .i64 6)] (by kernel_rfl) ?_
  refine wpList_nil ?_
  refine g_round ?_
  refine wp_seq ?_
  refine wp_region_lit ?_
  refine g_pv 1 [(10, .bool false)] (by kernel_rfl) ?_
  refine wpList_nil ?_
  refine wp_seq ?_
  refine wp_cond_false (by kernel_rfl) ?_
  refine wp_exit ?_
  refine then_exit ?_
  refine then_exit ?_
  refine inBlock_hit ?_
  refine wp_seq ?_
  refine wp_region_lit ?_
  refine g_pv 3 [(31, .slice p37 12 c37), (2, .slice p37 12 c37), (3, .int .i64 0)] (by kernel_rfl) ?_
  refine wpList_nil ?_
  refine wp_ret ?_
  exact g_ret (.tuple #[.slice p37 12 c37, .int .i64 0]) (by kernel_rfl) (by kernel_rfl) ⟨_, rfl, hB, _, _, rfl, o37⟩
end Go.Proofs.Ytoiblgeheblddaa

