/- block.read and block.Super at an image of no bytes, audit.Super there, and the lives of law 28. -/
import Derived.Test.YthjemliaeklecaaDoorBlkTold
import Derived.Test.YthjemliaeklecaaDoorGwErr
import Derived.Test.YthjemliaeklecaaDoorAudit
namespace Go.Proofs.YthjemliaeklecaaDoor
open Go.RowKit Go.Extern.Stop Go.Stop Go.Extern
set_option linter.unusedVariables false

def zSup : List Value := [.int .i64 0, .int .i64 0, .int .i64 0, .int .i64 0, .int .i64 0, .int .i64 0, .int .i64 0, .int .i64 0, .int .i64 0, .int .i64 0, .int .i64 0]
set_option maxRecDepth 100000 in
set_option maxHeartbeats 1000000 in
theorem block_read_nil (b : Nat) (F : Value) (w : World) (h : Blk w b [.slice none 0 0] 120) :
    Calls Tryd.prog 81 #[.pointer (some ⟨b, 0, none⟩), .int .i64 0, .int .i64 1, F] w (RetS (fun w' r => ∃ y, r = .tuple #[.agg zSup.toArray, y] ∧ ErrV w' [some 0] (some 3) y) w) := by
  refine calls_of_wp Tryd.func81 rfl ?_
  refine g_fr ⟨#[.pointer (some ⟨b, 0, none⟩), .int .i64 0, .int .i64 1, F, undef, undef, undef, undef, undef, undef, undef, undef, undef, undef, undef, undef, undef, undef, undef, undef, undef, undef, undef, undef, undef, undef, undef, undef, undef, undef, undef, undef, undef, undef, undef, undef, undef, undef, undef, undef, undef, undef, undef, undef, undef, undef, undef, undef, undef, undef, undef, undef, undef, undef, undef, undef], []⟩ (by kernel_rfl) ?_
  refine wp_seq ?_
  refine wp_region_lit ?_
  refine g_op (by kernel_rfl) (op_alloc [.int .i64 0, .int .i64 0, .int .i64 0, .int .i64 0, .int .i64 0, .int .i64 0, .int .i64 0, .int .i64 0, .int .i64 0, .int .i64 0, .int .i64 0] rfl (by kernel_rfl) ?_)
  intro b1 W1 n1
  have g1 := n1.ge (Below.refl _ _)
  have hB := n1.below
  have k1 := n1.blk
  refine g_pure 1 ⟨#[.pointer (some ⟨b, 0, none⟩), .int .i64 0, .int .i64 1, F, undef, undef, undef, undef, .pointer (some ⟨b1, 0, none⟩), .nilIface, undef, undef, undef, undef, undef, undef, undef, undef, undef, undef, undef, undef, undef, undef, undef, undef, undef, undef, undef, undef, undef, undef, undef, undef, undef, undef, undef, undef, undef, undef, undef, undef, undef, undef, undef, undef, undef, undef, undef, undef, undef, undef, undef, undef, undef, undef], []⟩ (by kernel_rfl) ?_
  refine wpList_nil ?_
  refine wp_seq ?_
  refine wp_region_lit ?_
  refine g_op (by kernel_rfl) (op_alloc [.int .i64 0, .int .i64 0, .int .i64 0, .int .i64 0, .int .i64 0, .int .i64 0, .int .i64 0, .int .i64 0, .int .i64 0, .int .i64 0, .int .i64 0] rfl (by kernel_rfl) ?_)
  intro b2 W2 n2
  have d2_b1 := n2.ne k1
  have g2 := n2.ge hB
  replace hB := Bl.next hB n2.below
  replace k1 := k1.below n2.below
  have k2 := n2.blk
  refine wpList_nil ?_
  refine wp_seq ?_
  refine wp_region_lit ?_
  refine g_pure 2 ⟨#[.pointer (some ⟨b, 0, none⟩), .int .i64 0, .int .i64 1, F, undef, undef, undef, undef, .pointer (some ⟨b1, 0, none⟩), .nilIface, .pointer (some ⟨b2, 0, none⟩), undef, undef, undef, undef, undef, .pointer (some ⟨b, 0, none⟩), .int .i64 0, undef, undef, undef, undef, undef, undef, undef, undef, undef, undef, undef, undef, undef, undef, undef, undef, undef, undef, undef, undef, undef, undef, undef, undef, undef, undef, undef, undef, undef, undef, undef, undef, undef, undef, undef, undef, undef, undef], []⟩ (by kernel_rfl) ?_
  refine g_op (by kernel_rfl) (op_call 93 #[.pointer (some ⟨b, 0, none⟩), .int .i64 0] rfl rfl (fun _ _ => by kernel_rfl) (by kernel_rfl) ((image_Read_nil b 0 _ (h.below hB) (by omega)).mono ?_))
  rintro e W3 ⟨rfl, hb3⟩
  refine ⟨_, rfl, ?_⟩
  replace hB := Bl.next hB hb3
  replace k1 := k1.below hb3
  replace k2 := k2.below hb3
  refine g_pure 5 ⟨#[.pointer (some ⟨b, 0, none⟩), .int .i64 0, .int .i64 1, F, undef, undef, undef, undef, .pointer (some ⟨b1, 0, none⟩), .nilIface, .pointer (some ⟨b2, 0, none⟩), .slice none 0 0, .int .i64 3, undef, undef, .tuple #[.slice none 0 0, .int .i64 3], .pointer (some ⟨b, 0, none⟩), .int .i64 0, .tuple #[.slice none 0 0, .int .i64 3], .slice none 0 0, .int .i64 3, undef, undef, undef, undef, undef, undef, undef, undef, undef, undef, undef, undef, undef, undef, undef, undef, undef, undef, undef, undef, undef, undef, undef, undef, undef, undef, undef, undef, undef, undef, undef, undef, undef, undef, undef], []⟩ (by kernel_rfl) ?_
  refine wpList_nil ?_
  refine wp_seq ?_
  refine wp_seq ?_
  refine wp_region_lit ?_
  refine g_pure 2 ⟨#[.pointer (some ⟨b, 0, none⟩), .int .i64 0, .int .i64 1, F, undef, undef, undef, undef, .pointer (some ⟨b1, 0, none⟩), .nilIface, .pointer (some ⟨b2, 0, none⟩), .slice none 0 0, .int .i64 3, undef, undef, .tuple #[.slice none 0 0, .int .i64 3], .pointer (some ⟨b, 0, none⟩), .int .i64 0, .tuple #[.slice none 0 0, .int .i64 3], .slice none 0 0, .int .i64 3, .int .i64 3, .bool true, undef, undef, undef, undef, undef, undef, undef, undef, undef, undef, undef, undef, undef, undef, undef, undef, undef, undef, undef, undef, undef, undef, undef, undef, undef, undef, undef, undef, undef, undef, undef, undef, undef], []⟩ (by kernel_rfl) ?_
  refine wpList_nil ?_
  refine wp_cond_true rfl ?_
  refine wp_seq ?_
  replace hB := Bl.next hB (below_drew W3)
  replace k1 := k1.below (below_drew W3)
  replace k2 := k2.below (below_drew W3)
  refine h_reg (BelowBut (W3.drew) b1) 7 rfl #[false, false, false, false, false, false, false] rfl (by kernel_rfl) ((Below.refl _ _).but _) ?_
  intro hS4
  have kd6_b1 := k1
  have kd6_b2 := k2
  have hBd6 := hB
  refine h_loadv 0 6 rfl [.int .i64 0, .int .i64 0, .int .i64 0, .int .i64 0, .int .i64 0, .int .i64 0, .int .i64 0, .int .i64 0, .int .i64 0, .int .i64 0, .int .i64 0] _ rfl (by kernel_rfl) (by kernel_rfl) (by kernel_rfl) (fun _ _ _ _ _ h => h) (by kernel_rfl) rfl rfl Tryd.underlying96 rfl (by kernel_rfl) (fun V hV => (hV.blk kd6_b2 (Ne.symm d2_b1)).range) hS4 ?_
  refine h_pure [1, 2, 3] 3 rfl #[true, true, true, true, false, false, false] ⟨#[.pointer (some ⟨b, 0, none⟩), .int .i64 0, .int .i64 1, F, undef, undef, undef, undef, .pointer (some ⟨b1, 0, none⟩), .nilIface, .pointer (some ⟨b2, 0, none⟩), .slice none 0 0, .int .i64 3, undef, undef, .tuple #[.slice none 0 0, .int .i64 3], .pointer (some ⟨b, 0, none⟩), .int .i64 0, .tuple #[.slice none 0 0, .int .i64 3], .slice none 0 0, .int .i64 3, .int .i64 3, .bool true, .agg #[.int .i64 0, .int .i64 0, .int .i64 0, .int .i64 0, .int .i64 0, .int .i64 0, .int .i64 0, .int .i64 0, .int .i64 0, .int .i64 0, .int .i64 0], .int .i64 0, .int .i64 3, .iface 41 (.int .i64 3), undef, undef, undef, undef, undef, undef, undef, undef, undef, undef, undef, undef, undef, undef, undef, undef, undef, undef, undef, undef, undef, undef, undef, undef, undef, undef, undef, undef, undef], []⟩ (by kernel_rfl) (fun _ _ _ _ _ h => h) (by kernel_rfl) hS4 ?_
  refine h_one 4 2 rfl (by kernel_rfl) rfl (by kernel_rfl) (op_call 80 #[.int .i64 0, .iface 41 (.int .i64 3)] rfl rfl (fun _ _ => by kernel_rfl) (by kernel_rfl) ((block_told 0 3 _).mono ?_))
  rintro e W7 ⟨r, rfl, hb7, hr⟩
  refine ⟨_, rfl, ?_⟩
  replace hB := Bl.next hB hb7
  replace k1 := k1.below hb7
  replace k2 := k2.below hb7
  have hS8 : BelowBut (W3.drew) b1 (W7) := hS4.next hb7
  refine ⟨hS8, ?_⟩
  refine h_one 5 1 rfl (by kernel_rfl) rfl (by kernel_rfl) (op_storev [.int .i64 0, .int .i64 0, .int .i64 0, .int .i64 0, .int .i64 0, .int .i64 0, .int .i64 0, .int .i64 0, .int .i64 0, .int .i64 0, .int .i64 0] rfl rfl rfl (by kernel_rfl) (by decide) k1 (by decide) ?_)
  intro W9 u9 k9
  change Blk _ _ [.int .i64 0, .int .i64 0, .int .i64 0, .int .i64 0, .int .i64 0, .int .i64 0, .int .i64 0, .int .i64 0, .int .i64 0, .int .i64 0, .int .i64 0] _ at k9
  replace hB := u9.below hB g1
  replace k2 := u9.blk k2 (Ne.symm d2_b1)
  replace hr := hr.upd u9 k1 (by decide)
  have hS10 : BelowBut (W3.drew) b1 (W9) := hS8.upd u9
  refine ⟨hS10, ?_⟩
  refine h_pure [6] 0 rfl #[true, true, true, true, true, true, true] ⟨#[.pointer (some ⟨b, 0, none⟩), .int .i64 0, .int .i64 1, F, undef, undef, undef, undef, .pointer (some ⟨b1, 0, none⟩), r, .pointer (some ⟨b2, 0, none⟩), .slice none 0 0, .int .i64 3, undef, undef, .tuple #[.slice none 0 0, .int .i64 3], .pointer (some ⟨b, 0, none⟩), .int .i64 0, .tuple #[.slice none 0 0, .int .i64 3], .slice none 0 0, .int .i64 3, .int .i64 3, .bool true, .agg #[.int .i64 0, .int .i64 0, .int .i64 0, .int .i64 0, .int .i64 0, .int .i64 0, .int .i64 0, .int .i64 0, .int .i64 0, .int .i64 0, .int .i64 0], .int .i64 0, .int .i64 3, .iface 41 (.int .i64 3), r, undef, undef, undef, undef, undef, undef, undef, undef, undef, undef, undef, undef, undef, undef, undef, undef, undef, undef, undef, undef, undef, undef, undef, undef, undef, undef, undef, undef], []⟩ (by kernel_rfl) (fun _ _ _ _ _ h => h) (by kernel_rfl) hS10 ?_
  refine h_done _ (by kernel_rfl) ?_
  refine wp_ret ?_
  show bodyPost _ _ _ .ret _ _
  exact g_ret (.tuple #[.agg #[.int .i64 0, .int .i64 0, .int .i64 0, .int .i64 0, .int .i64 0, .int .i64 0, .int .i64 0, .int .i64 0, .int .i64 0, .int .i64 0, .int .i64 0], r]) rfl (res_ct (d := _) (cs := [.int .i64 0, .int .i64 0, .int .i64 0, .int .i64 0, .int .i64 0, .int .i64 0, .int .i64 0, .int .i64 0, .int .i64 0, .int .i64 0, .int .i64 0]) rfl (by kernel_rfl) (by kernel_rfl) k9.range Tryd.underlying96 rfl (by kernel_rfl)) ⟨_, rfl, hB, _, rfl, hr⟩
set_option maxRecDepth 100000 in
set_option maxHeartbeats 1000000 in
theorem block_Super_nil (b : Nat) (w : World) (h : Blk w b [.slice none 0 0] 120) :
    Calls Tryd.prog 70 #[.pointer (some ⟨b, 0, none⟩)] w (RetS (fun w' r => ∃ y, r = .tuple #[.agg zSup.toArray, y] ∧ ErrV w' [some 0] (some 3) y) w) := by
  refine calls_of_wp Tryd.func70 rfl ?_
  refine g_fr ⟨#[.pointer (some ⟨b, 0, none⟩), undef, undef, undef, undef, undef, undef, undef, undef], []⟩ (by kernel_rfl) ?_
  refine wp_seq ?_
  refine wp_region_lit ?_
  refine g_op (by kernel_rfl) (op_box [.pointer (some ⟨b, 0, none⟩)] rfl (by kernel_rfl) ?_)
  intro b1 W1 n1
  have g1 := n1.ge (Below.refl _ _)
  have hB := n1.below
  have k1 := n1.blk
  refine g_op (by kernel_rfl) (op_alloc [.int .i64 0, .int .i64 0, .int .i64 0, .int .i64 0, .int .i64 0, .int .i64 0, .int .i64 0, .int .i64 0, .int .i64 0, .int .i64 0, .int .i64 0] rfl (by kernel_rfl) ?_)
  intro b2 W2 n2
  have d2_b1 := n2.ne k1
  have g2 := n2.ge hB
  replace hB := Bl.next hB n2.below
  replace k1 := k1.below n2.below
  have k2 := n2.blk
  refine g_pure 1 ⟨#[.pointer (some ⟨b, 0, none⟩), .pointer (some ⟨b1, 0, none⟩), .pointer (some ⟨b2, 0, none⟩), .nilIface, undef, undef, undef, undef, undef], []⟩ (by kernel_rfl) ?_
  refine wpList_nil ?_
  refine wp_seq ?_
  refine wp_region_lit ?_
  refine g_op (by kernel_rfl) (op_load _ (.pointer (some ⟨b, 0, none⟩)) rfl rfl (by kernel_rfl) (k1.cell (i := 0) rfl) ?_)
  refine g_pure 1 ⟨#[.pointer (some ⟨b, 0, none⟩), .pointer (some ⟨b1, 0, none⟩), .pointer (some ⟨b2, 0, none⟩), .nilIface, .pointer (some ⟨b, 0, none⟩), .func (.func 82) #[] #[.pointer (some ⟨b1, 0, none⟩)], undef, undef, undef], []⟩ (by kernel_rfl) ?_
  refine g_op (by kernel_rfl) (op_call 81 #[.pointer (some ⟨b, 0, none⟩), .int .i64 0, .int .i64 1, .func (.func 82) #[] #[.pointer (some ⟨b1, 0, none⟩)]] rfl rfl (fun _ _ => by kernel_rfl) (by kernel_rfl) ((block_read_nil b (.func (.func 82) #[] #[.pointer (some ⟨b1, 0, none⟩)]) _ (h.below hB)).mono ?_))
  rintro e W3 ⟨_, rfl, hb3, y, rfl, hr⟩
  refine ⟨_, rfl, ?_⟩
  replace hB := Bl.next hB hb3
  replace k1 := k1.below hb3
  replace k2 := k2.below hb3
  refine g_pure 2 ⟨#[.pointer (some ⟨b, 0, none⟩), .pointer (some ⟨b1, 0, none⟩), .pointer (some ⟨b2, 0, none⟩), .nilIface, .pointer (some ⟨b, 0, none⟩), .func (.func 82) #[] #[.pointer (some ⟨b1, 0, none⟩)], .tuple #[.agg zSup.toArray, y], .agg zSup.toArray, y], []⟩ (by kernel_rfl) ?_
  refine g_op (by kernel_rfl) (op_storev zSup rfl rfl rfl (by kernel_rfl) (by decide) k2 (by decide) ?_)
  intro W4 u4 k4
  change Blk _ _ zSup _ at k4
  replace hB := u4.below hB g2
  replace k1 := u4.blk k1 (Ne.symm (Ne.symm d2_b1))
  replace hr := hr.upd u4 k2 (by decide)
  refine g_pure 1 ⟨#[.pointer (some ⟨b, 0, none⟩), .pointer (some ⟨b1, 0, none⟩), .pointer (some ⟨b2, 0, none⟩), y, .pointer (some ⟨b, 0, none⟩), .func (.func 82) #[] #[.pointer (some ⟨b1, 0, none⟩)], .tuple #[.agg zSup.toArray, y], .agg zSup.toArray, y], []⟩ (by kernel_rfl) ?_
  refine wpList_nil ?_
  refine wp_ret ?_
  show bodyPost _ _ _ .ret _ _
  exact g_ret (.tuple #[.agg zSup.toArray, y]) rfl (res_ct (d := _) (cs := zSup) rfl (by kernel_rfl) (by kernel_rfl) k4.range Tryd.underlying96 rfl (by kernel_rfl)) ⟨_, rfl, hB, _, rfl, hr⟩
set_option maxRecDepth 100000 in
set_option maxHeartbeats 1000000 in
theorem audit_Super_nil (b : Nat) (w : World) (hg : ErrT w) (h : Blk w b [.slice none 0 0] 120) :
    Calls Tryd.prog 49 #[.pointer (some ⟨b, 0, none⟩)] w (RetS (fun w' r => ∃ g, r = .tuple #[.agg zSup.toArray, .slice (some ⟨g, 0, none⟩) 1 1] ∧ Blk w' g [.int .i64 1, .int .i64 0, .int .i64 3] 53) w) := by
  refine calls_of_wp Tryd.func49 rfl ?_
  refine g_fr ⟨#[.pointer (some ⟨b, 0, none⟩), undef, undef, undef, undef, undef, undef, undef, undef, undef, undef, undef, undef, undef, undef, undef, undef, undef], []⟩ (by kernel_rfl) ?_
  refine wp_seq ?_
  refine wp_region_lit ?_
  refine g_op (by kernel_rfl) (op_alloc [.int .i64 0, .int .i64 0, .int .i64 0, .int .i64 0, .int .i64 0, .int .i64 0, .int .i64 0, .int .i64 0, .int .i64 0, .int .i64 0, .int .i64 0] rfl (by kernel_rfl) ?_)
  intro b1 W1 n1
  have g1 := n1.ge (Below.refl _ _)
  have hB := n1.below
  have k1 := n1.blk
  refine g_pure 1 ⟨#[.pointer (some ⟨b, 0, none⟩), undef, .pointer (some ⟨b1, 0, none⟩), .slice none 0 0, undef, undef, undef, undef, undef, undef, undef, undef, undef, undef, undef, undef, undef, undef], []⟩ (by kernel_rfl) ?_
  refine wpList_nil ?_
  refine wp_seq ?_
  refine wp_region_lit ?_
  refine g_pure 1 ⟨#[.pointer (some ⟨b, 0, none⟩), undef, .pointer (some ⟨b1, 0, none⟩), .slice none 0 0, undef, undef, undef, .pointer (some ⟨b, 0, none⟩), undef, undef, undef, undef, undef, undef, undef, undef, undef, undef], []⟩ (by kernel_rfl) ?_
  refine g_op (by kernel_rfl) (op_call 70 #[.pointer (some ⟨b, 0, none⟩)] rfl rfl (fun _ _ => by kernel_rfl) (by kernel_rfl) ((block_Super_nil b _ (h.below hB)).mono ?_))
  rintro e W2 ⟨_, rfl, hb2, y, rfl, hr⟩
  refine ⟨_, rfl, ?_⟩
  replace hB := Bl.next hB hb2
  replace k1 := k1.below hb2
  obtain ⟨ty, x, rfl⟩ := (hr.nil_or.resolve_left (fun q => by cases q.1)).2
  refine g_pure 3 ⟨#[.pointer (some ⟨b, 0, none⟩), undef, .pointer (some ⟨b1, 0, none⟩), .slice none 0 0, undef, undef, .tuple #[.agg zSup.toArray, .iface ty (x)], .pointer (some ⟨b, 0, none⟩), .tuple #[.agg zSup.toArray, .iface ty (x)], .agg zSup.toArray, .iface ty (x), undef, undef, undef, undef, undef, undef, undef], []⟩ (by kernel_rfl) ?_
  refine g_op (by kernel_rfl) (op_alloc [.int .i64 0, .int .i64 0, .int .i64 0, .int .i64 0, .int .i64 0, .int .i64 0, .int .i64 0, .int .i64 0, .int .i64 0, .int .i64 0, .int .i64 0] rfl (by kernel_rfl) ?_)
  intro b3 W3 n3
  have d3_b1 := n3.ne k1
  have g3 := n3.ge hB
  replace hB := Bl.next hB n3.below
  replace k1 := k1.below n3.below
  replace hr := hr.below n3.below
  have k3 := n3.blk
  refine g_op (by kernel_rfl) (op_storev zSup rfl rfl rfl (by kernel_rfl) (by decide) k3 (by decide) ?_)
  intro W4 u4 k4
  change Blk _ _ zSup _ at k4
  replace hB := u4.below hB g3
  replace k1 := u4.blk k1 (Ne.symm (Ne.symm d3_b1))
  replace hr := hr.upd u4 k3 (by decide)
  refine g_pure 1 ⟨#[.pointer (some ⟨b, 0, none⟩), undef, .pointer (some ⟨b1, 0, none⟩), .slice none 0 0, .pointer (some ⟨b3, 0, none⟩), .iface ty (x), .tuple #[.agg zSup.toArray, .iface ty (x)], .pointer (some ⟨b, 0, none⟩), .tuple #[.agg zSup.toArray, .iface ty (x)], .agg zSup.toArray, .iface ty (x), undef, undef, undef, undef, undef, undef, undef], []⟩ (by kernel_rfl) ?_
  refine wpList_nil ?_
  refine wp_seq ?_
  refine wp_seq ?_
  refine wp_region_lit ?_
  refine g_pure 2 ⟨#[.pointer (some ⟨b, 0, none⟩), undef, .pointer (some ⟨b1, 0, none⟩), .slice none 0 0, .pointer (some ⟨b3, 0, none⟩), .iface ty (x), .tuple #[.agg zSup.toArray, .iface ty (x)], .pointer (some ⟨b, 0, none⟩), .tuple #[.agg zSup.toArray, .iface ty (x)], .agg zSup.toArray, .iface ty (x), .iface ty (x), .bool true, undef, undef, undef, undef, undef], []⟩ (by kernel_rfl) ?_
  refine wpList_nil ?_
  refine wp_cond_true rfl ?_
  refine wp_seq ?_
  refine wp_region_lit ?_
  refine g_pure 2 ⟨#[.pointer (some ⟨b, 0, none⟩), undef, .pointer (some ⟨b1, 0, none⟩), .slice none 0 0, .pointer (some ⟨b3, 0, none⟩), .iface ty (x), .tuple #[.agg zSup.toArray, .iface ty (x)], .pointer (some ⟨b, 0, none⟩), .tuple #[.agg zSup.toArray, .iface ty (x)], .agg zSup.toArray, .iface ty (x), .iface ty (x), .bool true, .agg #[.int .i64 0, .int .i64 0, .int .i64 0, .int .i64 0, .int .i64 0, .int .i64 0, .int .i64 0, .int .i64 0, .int .i64 0, .int .i64 0, .int .i64 0], .iface ty (x), undef, undef, undef], []⟩ (by kernel_rfl) ?_
  refine g_op (by kernel_rfl) (op_call 27 #[.int .i64 1, .iface ty (x)] rfl rfl (fun _ _ => by kernel_rfl) (by kernel_rfl) ((audit_Of 1 (some 3) [some 0] (.iface ty (x)) _ (by decide) (hg.below hB) hr).mono ?_))
  rintro e W5 ⟨rfl, hb5⟩
  refine ⟨_, rfl, ?_⟩
  replace hB := Bl.next hB hb5
  replace k1 := k1.below hb5
  replace k4 := k4.below hb5
  replace hr := hr.below hb5
  refine g_op (by kernel_rfl) (op_buildSlice 53 [.int .i64 1, .int .i64 0, .int .i64 3] rfl (by kernel_rfl) ?_)
  intro b6 W6 n6
  have d6_b1 := n6.ne k1
  have d6_b3 := n6.ne k4
  have g6 := n6.ge hB
  replace hB := Bl.next hB n6.below
  replace k1 := k1.below n6.below
  replace k4 := k4.below n6.below
  replace hr := hr.below n6.below
  have k6 := n6.blk
  refine g_op (by kernel_rfl) (op_storev [.int .i64 0, .int .i64 0, .int .i64 0, .int .i64 0, .int .i64 0, .int .i64 0, .int .i64 0, .int .i64 0, .int .i64 0, .int .i64 0, .int .i64 0] rfl rfl rfl (by kernel_rfl) (by decide) k1 (by decide) ?_)
  intro W7 u7 k7
  change Blk _ _ [.int .i64 0, .int .i64 0, .int .i64 0, .int .i64 0, .int .i64 0, .int .i64 0, .int .i64 0, .int .i64 0, .int .i64 0, .int .i64 0, .int .i64 0] _ at k7
  replace hB := u7.below hB g1
  replace k4 := u7.blk k4 (Ne.symm d3_b1)
  replace k6 := u7.blk k6 (Ne.symm d6_b1)
  replace hr := hr.upd u7 k1 (by decide)
  refine g_pure 1 ⟨#[.pointer (some ⟨b, 0, none⟩), undef, .pointer (some ⟨b1, 0, none⟩), .slice (some ⟨b6, 0, none⟩) 1 1, .pointer (some ⟨b3, 0, none⟩), .iface ty (x), .tuple #[.agg zSup.toArray, .iface ty (x)], .pointer (some ⟨b, 0, none⟩), .tuple #[.agg zSup.toArray, .iface ty (x)], .agg zSup.toArray, .iface ty (x), .iface ty (x), .bool true, .agg #[.int .i64 0, .int .i64 0, .int .i64 0, .int .i64 0, .int .i64 0, .int .i64 0, .int .i64 0, .int .i64 0, .int .i64 0, .int .i64 0, .int .i64 0], .iface ty (x), .agg #[.int .i64 1, .int .i64 0, .int .i64 3], .slice (some ⟨b6, 0, none⟩) 1 1, undef], []⟩ (by kernel_rfl) ?_
  refine wpList_nil ?_
  refine wp_ret ?_
  show bodyPost _ _ _ .ret _ _
  exact g_ret (.tuple #[.agg #[.int .i64 0, .int .i64 0, .int .i64 0, .int .i64 0, .int .i64 0, .int .i64 0, .int .i64 0, .int .i64 0, .int .i64 0, .int .i64 0, .int .i64 0], .slice (some ⟨b6, 0, none⟩) 1 1]) rfl (res_ct (d := _) (cs := [.int .i64 0, .int .i64 0, .int .i64 0, .int .i64 0, .int .i64 0, .int .i64 0, .int .i64 0, .int .i64 0, .int .i64 0, .int .i64 0, .int .i64 0]) rfl (by kernel_rfl) (by kernel_rfl) k7.range Tryd.underlying96 rfl (by kernel_rfl)) ⟨_, rfl, hB, _, rfl, k6⟩
set_option maxRecDepth 100000 in
set_option maxHeartbeats 1000000 in
theorem lives28 (w : World) (hg : ErrT w) :
    Calls Tryd.prog 25 #[] w (Ret (.bool true) w) := by
  refine calls_of_wp Tryd.func25 rfl ?_
  refine g_fr ⟨#[undef, undef, undef, undef, undef, undef, undef, undef, undef, undef, undef, undef, undef, undef, undef, undef, undef, undef], []⟩ (by kernel_rfl) ?_
  refine wp_seq ?_
  refine wp_region_lit ?_
  refine g_pure 1 ⟨#[.bool false, undef, undef, undef, undef, undef, undef, undef, undef, undef, undef, undef, undef, undef, undef, undef, undef, undef], []⟩ (by kernel_rfl) ?_
  refine wpList_nil ?_
  refine wp_seq ?_
  refine wp_region_lit ?_
  refine g_op (by kernel_rfl) (op_call 39 #[.slice none 0 0] rfl rfl (fun _ _ => by kernel_rfl) (by kernel_rfl) ((image_Of_nil _).mono ?_))
  rintro e W1 ⟨rfl, rfl⟩
  refine ⟨_, rfl, ?_⟩
  have kI := Blk.new w [.slice none 0 0] 120
  have hbx := Bl.box w (.cells #[.slice none 0 0] 120)
  have hB := hbx
  refine g_op (by kernel_rfl) (op_call 49 #[.pointer (some ⟨w.heap.size, 0, none⟩)] rfl rfl (fun _ _ => by kernel_rfl) (by kernel_rfl) ((audit_Super_nil w.heap.size _ (hg.below hB) kI).mono ?_))
  rintro e W3 ⟨_, rfl, hb3, g, rfl, kD⟩
  refine ⟨_, rfl, ?_⟩
  replace hB := Bl.next hB hb3
  refine g_pure 3 ⟨#[.bool false, undef, undef, .tuple #[.agg zSup.toArray, .slice (some ⟨g, 0, none⟩) 1 1], .pointer (some ⟨w.heap.size, 0, none⟩), .tuple #[.agg zSup.toArray, .slice (some ⟨g, 0, none⟩) 1 1], .agg zSup.toArray, .slice (some ⟨g, 0, none⟩) 1 1, undef, undef, undef, undef, undef, undef, undef, undef, undef, undef], []⟩ (by kernel_rfl) ?_
  refine g_op (by kernel_rfl) (op_alloc [.int .i64 0, .int .i64 0, .int .i64 0, .int .i64 0, .int .i64 0, .int .i64 0, .int .i64 0, .int .i64 0, .int .i64 0, .int .i64 0, .int .i64 0] rfl (by kernel_rfl) ?_)
  intro b4 W4 n4
  have d4_g := n4.ne kD
  have g4 := n4.ge hB
  replace hB := Bl.next hB n4.below
  replace kD := kD.below n4.below
  have k4 := n4.blk
  refine g_op (by kernel_rfl) (op_storev zSup rfl rfl rfl (by kernel_rfl) (by decide) k4 (by decide) ?_)
  intro W5 u5 k5
  change Blk _ _ zSup _ at k5
  replace hB := u5.below hB g4
  replace kD := u5.blk kD (Ne.symm (Ne.symm d4_g))
  refine g_pure 1 ⟨#[.bool false, .pointer (some ⟨b4, 0, none⟩), .slice (some ⟨g, 0, none⟩) 1 1, .tuple #[.agg zSup.toArray, .slice (some ⟨g, 0, none⟩) 1 1], .pointer (some ⟨w.heap.size, 0, none⟩), .tuple #[.agg zSup.toArray, .slice (some ⟨g, 0, none⟩) 1 1], .agg zSup.toArray, .slice (some ⟨g, 0, none⟩) 1 1, undef, undef, undef, undef, undef, undef, undef, undef, undef, undef], []⟩ (by kernel_rfl) ?_
  refine wpList_nil ?_
  refine wp_seq ?_
  refine wp_region_lit ?_
  refine g_pure 6 ⟨#[.bool false, .pointer (some ⟨b4, 0, none⟩), .slice (some ⟨g, 0, none⟩) 1 1, .tuple #[.agg zSup.toArray, .slice (some ⟨g, 0, none⟩) 1 1], .pointer (some ⟨w.heap.size, 0, none⟩), .tuple #[.agg zSup.toArray, .slice (some ⟨g, 0, none⟩) 1 1], .agg zSup.toArray, .slice (some ⟨g, 0, none⟩) 1 1, .slice (some ⟨g, 0, none⟩) 1 1, .int .i64 1, .bool true, .bool true, .slice (some ⟨g, 0, none⟩) 1 1, .pointer (some ⟨g, 0, none⟩), undef, undef, undef, undef], []⟩ (by kernel_rfl) ?_
  refine g_op (by kernel_rfl) (op_loadv [.int .i64 1, .int .i64 0, .int .i64 3] _ rfl rfl Tryd.underlying53 rfl (by kernel_rfl) kD.range ?_)
  refine g_pure 4 ⟨#[.bool true, .pointer (some ⟨b4, 0, none⟩), .slice (some ⟨g, 0, none⟩) 1 1, .tuple #[.agg zSup.toArray, .slice (some ⟨g, 0, none⟩) 1 1], .pointer (some ⟨w.heap.size, 0, none⟩), .tuple #[.agg zSup.toArray, .slice (some ⟨g, 0, none⟩) 1 1], .agg zSup.toArray, .slice (some ⟨g, 0, none⟩) 1 1, .slice (some ⟨g, 0, none⟩) 1 1, .int .i64 1, .bool true, .bool true, .slice (some ⟨g, 0, none⟩) 1 1, .pointer (some ⟨g, 0, none⟩), .agg #[.int .i64 1, .int .i64 0, .int .i64 3], .agg #[.int .i64 1, .int .i64 0, .int .i64 3], .bool true, .bool true], []⟩ (by kernel_rfl) ?_
  refine wpList_nil ?_
  refine wp_ret ?_
  show bodyPost _ _ _ .ret _ _
  exact g_ret (.bool true) rfl (by kernel_rfl) ⟨rfl, hB⟩
end Go.Proofs.YthjemliaeklecaaDoor
