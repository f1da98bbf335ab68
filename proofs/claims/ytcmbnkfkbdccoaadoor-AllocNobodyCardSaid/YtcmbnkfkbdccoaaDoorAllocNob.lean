/- An allocator that is nil, or the zero one, allocates nothing; the law AllocNobody, walked. -/
import Derived.Test.YtcmbnkfkbdccoaaDoorLives16
namespace Go.Proofs.YtcmbnkfkbdccoaaDoor
open Go.RowKit Go.Extern.Stop Go.Stop Go.Extern
set_option linter.unusedVariables false

set_option maxRecDepth 100000 in
set_option maxHeartbeats 1000000 in
theorem allocN_nobody_nil (w : World) :
    Calls Tryd.prog 14 #[.pointer none] w (Ret (.bool true) w) := by
  refine calls_of_wp Tryd.func14 rfl ?_
  refine g_fr ⟨#[.pointer none, undef, undef, undef, undef, undef, undef, undef, undef, undef, undef, undef], []⟩ (by kernel_rfl) ?_
  refine wp_seq ?_
  refine wp_region_lit ?_
  refine g_pure 1 ⟨#[.pointer none, undef, .bool false, undef, undef, undef, undef, undef, undef, undef, undef, undef], []⟩ (by kernel_rfl) ?_
  refine wpList_nil ?_
  refine wp_seq ?_
  refine wp_region_lit ?_
  refine g_pure 10 ⟨#[.pointer none, undef, .bool true, .pointer none, .bool true, .bool true, undef, undef, undef, undef, undef, .bool true], []⟩ (by kernel_rfl) ?_
  refine wpList_nil ?_
  refine wp_ret ?_
  show bodyPost _ _ _ .ret _ _
  exact g_ret (.bool true) rfl (by kernel_rfl) ⟨rfl, (Below.refl w.heap.size _)⟩
set_option maxRecDepth 100000 in
set_option maxHeartbeats 1000000 in
theorem allocN_nobody_zero (ba : Nat) (w : World) (hk : Blk w ba [.slice none 0 0, .int .i64 0, .pointer none] 29) :
    Calls Tryd.prog 14 #[.pointer (some ⟨ba, 0, none⟩)] w (Ret (.bool true) w) := by
  refine calls_of_wp Tryd.func14 rfl ?_
  refine g_fr ⟨#[.pointer (some ⟨ba, 0, none⟩), undef, undef, undef, undef, undef, undef, undef, undef, undef, undef, undef], []⟩ (by kernel_rfl) ?_
  refine wp_seq ?_
  refine wp_region_lit ?_
  refine g_pure 1 ⟨#[.pointer (some ⟨ba, 0, none⟩), undef, .bool false, undef, undef, undef, undef, undef, undef, undef, undef, undef], []⟩ (by kernel_rfl) ?_
  refine wpList_nil ?_
  refine wp_seq ?_
  refine wp_region_lit ?_
  refine g_pure 6 ⟨#[.pointer (some ⟨ba, 0, none⟩), undef, .bool false, .pointer (some ⟨ba, 0, none⟩), .bool false, .bool false, .pointer (some ⟨ba, 0, none⟩), .pointer (some ⟨ba, 0, none⟩), .pointer (some ⟨ba, 2, none⟩), undef, undef, undef], []⟩ (by kernel_rfl) ?_
  refine g_op (by kernel_rfl) (op_load _ (.pointer none) rfl rfl (by kernel_rfl) (hk.cell (i := 2) rfl) ?_)
  refine g_pure 3 ⟨#[.pointer (some ⟨ba, 0, none⟩), undef, .bool true, .pointer (some ⟨ba, 0, none⟩), .bool false, .bool false, .pointer (some ⟨ba, 0, none⟩), .pointer (some ⟨ba, 0, none⟩), .pointer (some ⟨ba, 2, none⟩), .pointer none, .bool true, .bool true], []⟩ (by kernel_rfl) ?_
  refine wpList_nil ?_
  refine wp_ret ?_
  show bodyPost _ _ _ .ret _ _
  exact g_ret (.bool true) rfl (by kernel_rfl) ⟨rfl, (Below.refl w.heap.size _)⟩
set_option maxRecDepth 100000 in
set_option maxHeartbeats 1000000 in
theorem allocN_Next_nil (w : World) :
    Calls Tryd.prog 4 #[.pointer none] w (Ret (.tuple #[.int .i64 0, .iface 36 (.int .i64 18)]) w) := by
  refine calls_of_wp Tryd.func4 rfl ?_
  refine g_fr ⟨#[.pointer none, undef, undef, undef, undef, undef, undef, undef, undef, undef, undef, undef, undef, undef, undef, undef, undef, undef, undef, undef], []⟩ (by kernel_rfl) ?_
  refine wp_seq ?_
  refine wp_region_lit ?_
  refine g_pure 2 ⟨#[.pointer none, undef, .int .i64 0, .nilIface, undef, undef, undef, undef, undef, undef, undef, undef, undef, undef, undef, undef, undef, undef, undef, undef], []⟩ (by kernel_rfl) ?_
  refine wpList_nil ?_
  refine wp_seq ?_
  refine wp_seq ?_
  refine wp_region_lit ?_
  refine g_pure 1 ⟨#[.pointer none, undef, .int .i64 0, .nilIface, undef, undef, .pointer none, undef, undef, undef, undef, undef, undef, undef, undef, undef, undef, undef, undef, undef], []⟩ (by kernel_rfl) ?_
  refine g_op (by kernel_rfl) (op_call 14 #[.pointer none] rfl rfl (fun _ _ => by kernel_rfl) (by kernel_rfl) ((allocN_nobody_nil _).mono ?_))
  rintro e W1 ⟨rfl, hb1⟩
  refine ⟨_, rfl, ?_⟩
  have hB := hb1
  refine wpList_nil ?_
  refine wp_cond_true rfl ?_
  refine wp_seq ?_
  refine wp_region_lit ?_
  refine g_pure 3 ⟨#[.pointer none, undef, .int .i64 0, .iface 36 (.int .i64 18), undef, undef, .pointer none, .bool true, .iface 36 (.int .i64 18), undef, undef, undef, undef, undef, undef, undef, undef, undef, undef, undef], []⟩ (by kernel_rfl) ?_
  refine wpList_nil ?_
  refine wp_ret ?_
  show bodyPost _ _ _ .ret _ _
  exact g_ret (.tuple #[.int .i64 0, .iface 36 (.int .i64 18)]) rfl (by kernel_rfl) ⟨rfl, hB⟩
set_option maxRecDepth 100000 in
set_option maxHeartbeats 1000000 in
theorem allocN_Next_zero (ba : Nat) (w : World) (hk : Blk w ba [.slice none 0 0, .int .i64 0, .pointer none] 29) :
    Calls Tryd.prog 4 #[.pointer (some ⟨ba, 0, none⟩)] w (Ret (.tuple #[.int .i64 0, .iface 36 (.int .i64 18)]) w) := by
  refine calls_of_wp Tryd.func4 rfl ?_
  refine g_fr ⟨#[.pointer (some ⟨ba, 0, none⟩), undef, undef, undef, undef, undef, undef, undef, undef, undef, undef, undef, undef, undef, undef, undef, undef, undef, undef, undef], []⟩ (by kernel_rfl) ?_
  refine wp_seq ?_
  refine wp_region_lit ?_
  refine g_pure 2 ⟨#[.pointer (some ⟨ba, 0, none⟩), undef, .int .i64 0, .nilIface, undef, undef, undef, undef, undef, undef, undef, undef, undef, undef, undef, undef, undef, undef, undef, undef], []⟩ (by kernel_rfl) ?_
  refine wpList_nil ?_
  refine wp_seq ?_
  refine wp_seq ?_
  refine wp_region_lit ?_
  refine g_pure 1 ⟨#[.pointer (some ⟨ba, 0, none⟩), undef, .int .i64 0, .nilIface, undef, undef, .pointer (some ⟨ba, 0, none⟩), undef, undef, undef, undef, undef, undef, undef, undef, undef, undef, undef, undef, undef], []⟩ (by kernel_rfl) ?_
  refine g_op (by kernel_rfl) (op_call 14 #[.pointer (some ⟨ba, 0, none⟩)] rfl rfl (fun _ _ => by kernel_rfl) (by kernel_rfl) ((allocN_nobody_zero ba _ hk).mono ?_))
  rintro e W1 ⟨rfl, hb1⟩
  refine ⟨_, rfl, ?_⟩
  have hB := hb1
  replace hk := hk.below hb1
  refine wpList_nil ?_
  refine wp_cond_true rfl ?_
  refine wp_seq ?_
  refine wp_region_lit ?_
  refine g_pure 3 ⟨#[.pointer (some ⟨ba, 0, none⟩), undef, .int .i64 0, .iface 36 (.int .i64 18), undef, undef, .pointer (some ⟨ba, 0, none⟩), .bool true, .iface 36 (.int .i64 18), undef, undef, undef, undef, undef, undef, undef, undef, undef, undef, undef], []⟩ (by kernel_rfl) ?_
  refine wpList_nil ?_
  refine wp_ret ?_
  show bodyPost _ _ _ .ret _ _
  exact g_ret (.tuple #[.int .i64 0, .iface 36 (.int .i64 18)]) rfl (by kernel_rfl) ⟨rfl, hB⟩
set_option maxRecDepth 100000 in
set_option maxHeartbeats 1000000 in
theorem allocN_Lay_nil (kind x : Value) (w : World) :
    Calls Tryd.prog 5 #[.pointer none, kind, x] w (Ret (.tuple #[.int .i64 0, .iface 36 (.int .i64 18)]) w) := by
  refine calls_of_wp Tryd.func5 rfl ?_
  refine g_fr ⟨#[.pointer none, kind, x, undef, undef, undef, undef, undef, undef, undef, undef, undef, undef, undef, undef, undef, undef, undef, undef, undef, undef, undef, undef, undef, undef, undef, undef, undef, undef, undef, undef, undef, undef, undef, undef], []⟩ (by kernel_rfl) ?_
  refine wp_seq ?_
  refine wp_region_lit ?_
  refine g_pure 2 ⟨#[.pointer none, kind, x, undef, undef, undef, .int .i64 0, .nilIface, undef, undef, undef, undef, undef, undef, undef, undef, undef, undef, undef, undef, undef, undef, undef, undef, undef, undef, undef, undef, undef, undef, undef, undef, undef, undef, undef], []⟩ (by kernel_rfl) ?_
  refine wpList_nil ?_
  refine wp_seq ?_
  refine wp_region_lit ?_
  refine g_pure 1 ⟨#[.pointer none, kind, x, undef, undef, undef, .int .i64 0, .nilIface, undef, undef, undef, undef, .pointer none, undef, undef, undef, undef, undef, undef, undef, undef, undef, undef, undef, undef, undef, undef, undef, undef, undef, undef, undef, undef, undef, undef], []⟩ (by kernel_rfl) ?_
  refine g_op (by kernel_rfl) (op_call 4 #[.pointer none] rfl rfl (fun _ _ => by kernel_rfl) (by kernel_rfl) ((allocN_Next_nil _).mono ?_))
  rintro e W1 ⟨rfl, hb1⟩
  refine ⟨_, rfl, ?_⟩
  have hB := hb1
  refine g_pure 5 ⟨#[.pointer none, kind, x, undef, undef, undef, .int .i64 0, .nilIface, .int .i64 0, .iface 36 (.int .i64 18), undef, .tuple #[.int .i64 0, .iface 36 (.int .i64 18)], .pointer none, .tuple #[.int .i64 0, .iface 36 (.int .i64 18)], .int .i64 0, .iface 36 (.int .i64 18), undef, undef, undef, undef, undef, undef, undef, undef, undef, undef, undef, undef, undef, undef, undef, undef, undef, undef, undef], []⟩ (by kernel_rfl) ?_
  refine wpList_nil ?_
  refine wp_seq ?_
  refine wp_seq ?_
  refine wp_region_lit ?_
  refine g_pure 2 ⟨#[.pointer none, kind, x, undef, undef, undef, .int .i64 0, .nilIface, .int .i64 0, .iface 36 (.int .i64 18), undef, .tuple #[.int .i64 0, .iface 36 (.int .i64 18)], .pointer none, .tuple #[.int .i64 0, .iface 36 (.int .i64 18)], .int .i64 0, .iface 36 (.int .i64 18), .iface 36 (.int .i64 18), .bool true, undef, undef, undef, undef, undef, undef, undef, undef, undef, undef, undef, undef, undef, undef, undef, undef, undef], []⟩ (by kernel_rfl) ?_
  refine wpList_nil ?_
  refine wp_cond_true rfl ?_
  refine wp_seq ?_
  refine wp_region_lit ?_
  refine g_pure 3 ⟨#[.pointer none, kind, x, undef, undef, undef, .int .i64 0, .iface 36 (.int .i64 18), .int .i64 0, .iface 36 (.int .i64 18), undef, .tuple #[.int .i64 0, .iface 36 (.int .i64 18)], .pointer none, .tuple #[.int .i64 0, .iface 36 (.int .i64 18)], .int .i64 0, .iface 36 (.int .i64 18), .iface 36 (.int .i64 18), .bool true, .iface 36 (.int .i64 18), undef, undef, undef, undef, undef, undef, undef, undef, undef, undef, undef, undef, undef, undef, undef, undef], []⟩ (by kernel_rfl) ?_
  refine wpList_nil ?_
  refine wp_ret ?_
  show bodyPost _ _ _ .ret _ _
  exact g_ret (.tuple #[.int .i64 0, .iface 36 (.int .i64 18)]) rfl (by kernel_rfl) ⟨rfl, hB⟩
set_option maxRecDepth 100000 in
set_option maxHeartbeats 1000000 in
theorem allocN_Lay_zero (kind x : Value) (ba : Nat) (w : World) (hk : Blk w ba [.slice none 0 0, .int .i64 0, .pointer none] 29) :
    Calls Tryd.prog 5 #[.pointer (some ⟨ba, 0, none⟩), kind, x] w (Ret (.tuple #[.int .i64 0, .iface 36 (.int .i64 18)]) w) := by
  refine calls_of_wp Tryd.func5 rfl ?_
  refine g_fr ⟨#[.pointer (some ⟨ba, 0, none⟩), kind, x, undef, undef, undef, undef, undef, undef, undef, undef, undef, undef, undef, undef, undef, undef, undef, undef, undef, undef, undef, undef, undef, undef, undef, undef, undef, undef, undef, undef, undef, undef, undef, undef], []⟩ (by kernel_rfl) ?_
  refine wp_seq ?_
  refine wp_region_lit ?_
  refine g_pure 2 ⟨#[.pointer (some ⟨ba, 0, none⟩), kind, x, undef, undef, undef, .int .i64 0, .nilIface, undef, undef, undef, undef, undef, undef, undef, undef, undef, undef, undef, undef, undef, undef, undef, undef, undef, undef, undef, undef, undef, undef, undef, undef, undef, undef, undef], []⟩ (by kernel_rfl) ?_
  refine wpList_nil ?_
  refine wp_seq ?_
  refine wp_region_lit ?_
  refine g_pure 1 ⟨#[.pointer (some ⟨ba, 0, none⟩), kind, x, undef, undef, undef, .int .i64 0, .nilIface, undef, undef, undef, undef, .pointer (some ⟨ba, 0, none⟩), undef, undef, undef, undef, undef, undef, undef, undef, undef, undef, undef, undef, undef, undef, undef, undef, undef, undef, undef, undef, undef, undef], []⟩ (by kernel_rfl) ?_
  refine g_op (by kernel_rfl) (op_call 4 #[.pointer (some ⟨ba, 0, none⟩)] rfl rfl (fun _ _ => by kernel_rfl) (by kernel_rfl) ((allocN_Next_zero ba _ hk).mono ?_))
  rintro e W1 ⟨rfl, hb1⟩
  refine ⟨_, rfl, ?_⟩
  have hB := hb1
  replace hk := hk.below hb1
  refine g_pure 5 ⟨#[.pointer (some ⟨ba, 0, none⟩), kind, x, undef, undef, undef, .int .i64 0, .nilIface, .int .i64 0, .iface 36 (.int .i64 18), undef, .tuple #[.int .i64 0, .iface 36 (.int .i64 18)], .pointer (some ⟨ba, 0, none⟩), .tuple #[.int .i64 0, .iface 36 (.int .i64 18)], .int .i64 0, .iface 36 (.int .i64 18), undef, undef, undef, undef, undef, undef, undef, undef, undef, undef, undef, undef, undef, undef, undef, undef, undef, undef, undef], []⟩ (by kernel_rfl) ?_
  refine wpList_nil ?_
  refine wp_seq ?_
  refine wp_seq ?_
  refine wp_region_lit ?_
  refine g_pure 2 ⟨#[.pointer (some ⟨ba, 0, none⟩), kind, x, undef, undef, undef, .int .i64 0, .nilIface, .int .i64 0, .iface 36 (.int .i64 18), undef, .tuple #[.int .i64 0, .iface 36 (.int .i64 18)], .pointer (some ⟨ba, 0, none⟩), .tuple #[.int .i64 0, .iface 36 (.int .i64 18)], .int .i64 0, .iface 36 (.int .i64 18), .iface 36 (.int .i64 18), .bool true, undef, undef, undef, undef, undef, undef, undef, undef, undef, undef, undef, undef, undef, undef, undef, undef, undef], []⟩ (by kernel_rfl) ?_
  refine wpList_nil ?_
  refine wp_cond_true rfl ?_
  refine wp_seq ?_
  refine wp_region_lit ?_
  refine g_pure 3 ⟨#[.pointer (some ⟨ba, 0, none⟩), kind, x, undef, undef, undef, .int .i64 0, .iface 36 (.int .i64 18), .int .i64 0, .iface 36 (.int .i64 18), undef, .tuple #[.int .i64 0, .iface 36 (.int .i64 18)], .pointer (some ⟨ba, 0, none⟩), .tuple #[.int .i64 0, .iface 36 (.int .i64 18)], .int .i64 0, .iface 36 (.int .i64 18), .iface 36 (.int .i64 18), .bool true, .iface 36 (.int .i64 18), undef, undef, undef, undef, undef, undef, undef, undef, undef, undef, undef, undef, undef, undef, undef, undef], []⟩ (by kernel_rfl) ?_
  refine wpList_nil ?_
  refine wp_ret ?_
  show bodyPost _ _ _ .ret _ _
  exact g_ret (.tuple #[.int .i64 0, .iface 36 (.int .i64 18)]) rfl (by kernel_rfl) ⟨rfl, hB⟩
set_option maxRecDepth 100000 in
set_option maxHeartbeats 1000000 in
theorem allocN_Left_nil (w : World) :
    Calls Tryd.prog 7 #[.pointer none] w (Ret (.int .i64 0) w) := by
  refine calls_of_wp Tryd.func7 rfl ?_
  refine g_fr ⟨#[.pointer none, undef, undef, undef, undef, undef, undef, undef, undef, undef], []⟩ (by kernel_rfl) ?_
  refine wp_seq ?_
  refine wp_region_lit ?_
  refine g_pure 1 ⟨#[.pointer none, undef, .int .i64 0, undef, undef, undef, undef, undef, undef, undef], []⟩ (by kernel_rfl) ?_
  refine wpList_nil ?_
  refine wp_seq ?_
  refine wp_seq ?_
  refine wp_region_lit ?_
  refine g_pure 1 ⟨#[.pointer none, undef, .int .i64 0, .pointer none, undef, undef, undef, undef, undef, undef], []⟩ (by kernel_rfl) ?_
  refine g_op (by kernel_rfl) (op_call 14 #[.pointer none] rfl rfl (fun _ _ => by kernel_rfl) (by kernel_rfl) ((allocN_nobody_nil _).mono ?_))
  rintro e W1 ⟨rfl, hb1⟩
  refine ⟨_, rfl, ?_⟩
  have hB := hb1
  refine wpList_nil ?_
  refine wp_cond_true rfl ?_
  refine wp_seq ?_
  refine wp_region_lit ?_
  refine g_pure 1 ⟨#[.pointer none, undef, .int .i64 0, .pointer none, .bool true, undef, undef, undef, undef, undef], []⟩ (by kernel_rfl) ?_
  refine wpList_nil ?_
  refine wp_ret ?_
  show bodyPost _ _ _ .ret _ _
  exact g_ret (.int .i64 0) rfl (by kernel_rfl) ⟨rfl, hB⟩
set_option maxRecDepth 100000 in
set_option maxHeartbeats 1000000 in
theorem allocN_Left_zero (ba : Nat) (w : World) (hk : Blk w ba [.slice none 0 0, .int .i64 0, .pointer none] 29) :
    Calls Tryd.prog 7 #[.pointer (some ⟨ba, 0, none⟩)] w (Ret (.int .i64 0) w) := by
  refine calls_of_wp Tryd.func7 rfl ?_
  refine g_fr ⟨#[.pointer (some ⟨ba, 0, none⟩), undef, undef, undef, undef, undef, undef, undef, undef, undef], []⟩ (by kernel_rfl) ?_
  refine wp_seq ?_
  refine wp_region_lit ?_
  refine g_pure 1 ⟨#[.pointer (some ⟨ba, 0, none⟩), undef, .int .i64 0, undef, undef, undef, undef, undef, undef, undef], []⟩ (by kernel_rfl) ?_
  refine wpList_nil ?_
  refine wp_seq ?_
  refine wp_seq ?_
  refine wp_region_lit ?_
  refine g_pure 1 ⟨#[.pointer (some ⟨ba, 0, none⟩), undef, .int .i64 0, .pointer (some ⟨ba, 0, none⟩), undef, undef, undef, undef, undef, undef], []⟩ (by kernel_rfl) ?_
  refine g_op (by kernel_rfl) (op_call 14 #[.pointer (some ⟨ba, 0, none⟩)] rfl rfl (fun _ _ => by kernel_rfl) (by kernel_rfl) ((allocN_nobody_zero ba _ hk).mono ?_))
  rintro e W1 ⟨rfl, hb1⟩
  refine ⟨_, rfl, ?_⟩
  have hB := hb1
  replace hk := hk.below hb1
  refine wpList_nil ?_
  refine wp_cond_true rfl ?_
  refine wp_seq ?_
  refine wp_region_lit ?_
  refine g_pure 1 ⟨#[.pointer (some ⟨ba, 0, none⟩), undef, .int .i64 0, .pointer (some ⟨ba, 0, none⟩), .bool true, undef, undef, undef, undef, undef], []⟩ (by kernel_rfl) ?_
  refine wpList_nil ?_
  refine wp_ret ?_
  show bodyPost _ _ _ .ret _ _
  exact g_ret (.int .i64 0) rfl (by kernel_rfl) ⟨rfl, hB⟩
set_option maxRecDepth 100000 in
set_option maxHeartbeats 1000000 in
theorem allocN_Used_nil (w : World) :
    Calls Tryd.prog 8 #[.pointer none] w (Ret (.int .i64 0) w) := by
  refine calls_of_wp Tryd.func8 rfl ?_
  refine g_fr ⟨#[.pointer none, undef, undef, undef, undef, undef, undef, undef, undef, undef], []⟩ (by kernel_rfl) ?_
  refine wp_seq ?_
  refine wp_region_lit ?_
  refine g_pure 1 ⟨#[.pointer none, undef, .int .i64 0, undef, undef, undef, undef, undef, undef, undef], []⟩ (by kernel_rfl) ?_
  refine wpList_nil ?_
  refine wp_seq ?_
  refine wp_seq ?_
  refine wp_region_lit ?_
  refine g_pure 1 ⟨#[.pointer none, undef, .int .i64 0, .pointer none, undef, undef, undef, undef, undef, undef], []⟩ (by kernel_rfl) ?_
  refine g_op (by kernel_rfl) (op_call 14 #[.pointer none] rfl rfl (fun _ _ => by kernel_rfl) (by kernel_rfl) ((allocN_nobody_nil _).mono ?_))
  rintro e W1 ⟨rfl, hb1⟩
  refine ⟨_, rfl, ?_⟩
  have hB := hb1
  refine wpList_nil ?_
  refine wp_cond_true rfl ?_
  refine wp_seq ?_
  refine wp_region_lit ?_
  refine g_pure 1 ⟨#[.pointer none, undef, .int .i64 0, .pointer none, .bool true, undef, undef, undef, undef, undef], []⟩ (by kernel_rfl) ?_
  refine wpList_nil ?_
  refine wp_ret ?_
  show bodyPost _ _ _ .ret _ _
  exact g_ret (.int .i64 0) rfl (by kernel_rfl) ⟨rfl, hB⟩
set_option maxRecDepth 100000 in
set_option maxHeartbeats 1000000 in
theorem allocN_Used_zero (ba : Nat) (w : World) (hk : Blk w ba [.slice none 0 0, .int .i64 0, .pointer none] 29) :
    Calls Tryd.prog 8 #[.pointer (some ⟨ba, 0, none⟩)] w (Ret (.int .i64 0) w) := by
  refine calls_of_wp Tryd.func8 rfl ?_
  refine g_fr ⟨#[.pointer (some ⟨ba, 0, none⟩), undef, undef, undef, undef, undef, undef, undef, undef, undef], []⟩ (by kernel_rfl) ?_
  refine wp_seq ?_
  refine wp_region_lit ?_
  refine g_pure 1 ⟨#[.pointer (some ⟨ba, 0, none⟩), undef, .int .i64 0, undef, undef, undef, undef, undef, undef, undef], []⟩ (by kernel_rfl) ?_
  refine wpList_nil ?_
  refine wp_seq ?_
  refine wp_seq ?_
  refine wp_region_lit ?_
  refine g_pure 1 ⟨#[.pointer (some ⟨ba, 0, none⟩), undef, .int .i64 0, .pointer (some ⟨ba, 0, none⟩), undef, undef, undef, undef, undef, undef], []⟩ (by kernel_rfl) ?_
  refine g_op (by kernel_rfl) (op_call 14 #[.pointer (some ⟨ba, 0, none⟩)] rfl rfl (fun _ _ => by kernel_rfl) (by kernel_rfl) ((allocN_nobody_zero ba _ hk).mono ?_))
  rintro e W1 ⟨rfl, hb1⟩
  refine ⟨_, rfl, ?_⟩
  have hB := hb1
  replace hk := hk.below hb1
  refine wpList_nil ?_
  refine wp_cond_true rfl ?_
  refine wp_seq ?_
  refine wp_region_lit ?_
  refine g_pure 1 ⟨#[.pointer (some ⟨ba, 0, none⟩), undef, .int .i64 0, .pointer (some ⟨ba, 0, none⟩), .bool true, undef, undef, undef, undef, undef], []⟩ (by kernel_rfl) ?_
  refine wpList_nil ?_
  refine wp_ret ?_
  show bodyPost _ _ _ .ret _ _
  exact g_ret (.int .i64 0) rfl (by kernel_rfl) ⟨rfl, hB⟩
set_option maxRecDepth 100000 in
set_option maxHeartbeats 1000000 in
theorem allocN_Ahead_nil (w : World) :
    Calls Tryd.prog 9 #[.pointer none, .int .i64 3] w (Ret (.slice none 0 0) w) := by
  refine calls_of_wp Tryd.func9 rfl ?_
  refine g_fr ⟨#[.pointer none, .int .i64 3, undef, undef, undef, undef, undef, undef, undef, undef, undef, undef, undef, undef, undef, undef, undef, undef, undef, undef, undef, undef, undef], []⟩ (by kernel_rfl) ?_
  refine wp_seq ?_
  refine wp_region_lit ?_
  refine g_pure 1 ⟨#[.pointer none, .int .i64 3, undef, undef, .slice none 0 0, undef, undef, undef, undef, undef, undef, undef, undef, undef, undef, undef, undef, undef, undef, undef, undef, undef, undef], []⟩ (by kernel_rfl) ?_
  refine wpList_nil ?_
  refine wp_seq ?_
  refine wp_seq ?_
  refine wp_region_lit ?_
  refine g_pure 1 ⟨#[.pointer none, .int .i64 3, undef, undef, .slice none 0 0, undef, .pointer none, undef, undef, undef, undef, undef, undef, undef, undef, undef, undef, undef, undef, undef, undef, undef, undef], []⟩ (by kernel_rfl) ?_
  refine g_op (by kernel_rfl) (op_call 14 #[.pointer none] rfl rfl (fun _ _ => by kernel_rfl) (by kernel_rfl) ((allocN_nobody_nil _).mono ?_))
  rintro e W1 ⟨rfl, hb1⟩
  refine ⟨_, rfl, ?_⟩
  have hB := hb1
  refine g_pure 4 ⟨#[.pointer none, .int .i64 3, undef, undef, .slice none 0 0, undef, .pointer none, .bool true, .bool true, undef, undef, .bool true, undef, undef, undef, undef, undef, undef, undef, undef, undef, undef, undef], []⟩ (by kernel_rfl) ?_
  refine wpList_nil ?_
  refine wp_cond_true rfl ?_
  refine wp_seq ?_
  refine wp_region_lit ?_
  refine g_pure 1 ⟨#[.pointer none, .int .i64 3, undef, undef, .slice none 0 0, undef, .pointer none, .bool true, .bool true, undef, undef, .bool true, undef, undef, undef, undef, undef, undef, undef, undef, undef, undef, undef], []⟩ (by kernel_rfl) ?_
  refine wpList_nil ?_
  refine wp_ret ?_
  show bodyPost _ _ _ .ret _ _
  exact g_ret (.slice none 0 0) rfl (by kernel_rfl) ⟨rfl, hB⟩
set_option maxRecDepth 100000 in
set_option maxHeartbeats 1000000 in
theorem allocN_Ahead_zero (ba : Nat) (w : World) (hk : Blk w ba [.slice none 0 0, .int .i64 0, .pointer none] 29) :
    Calls Tryd.prog 9 #[.pointer (some ⟨ba, 0, none⟩), .int .i64 3] w (Ret (.slice none 0 0) w) := by
  refine calls_of_wp Tryd.func9 rfl ?_
  refine g_fr ⟨#[.pointer (some ⟨ba, 0, none⟩), .int .i64 3, undef, undef, undef, undef, undef, undef, undef, undef, undef, undef, undef, undef, undef, undef, undef, undef, undef, undef, undef, undef, undef], []⟩ (by kernel_rfl) ?_
  refine wp_seq ?_
  refine wp_region_lit ?_
  refine g_pure 1 ⟨#[.pointer (some ⟨ba, 0, none⟩), .int .i64 3, undef, undef, .slice none 0 0, undef, undef, undef, undef, undef, undef, undef, undef, undef, undef, undef, undef, undef, undef, undef, undef, undef, undef], []⟩ (by kernel_rfl) ?_
  refine wpList_nil ?_
  refine wp_seq ?_
  refine wp_seq ?_
  refine wp_region_lit ?_
  refine g_pure 1 ⟨#[.pointer (some ⟨ba, 0, none⟩), .int .i64 3, undef, undef, .slice none 0 0, undef, .pointer (some ⟨ba, 0, none⟩), undef, undef, undef, undef, undef, undef, undef, undef, undef, undef, undef, undef, undef, undef, undef, undef], []⟩ (by kernel_rfl) ?_
  refine g_op (by kernel_rfl) (op_call 14 #[.pointer (some ⟨ba, 0, none⟩)] rfl rfl (fun _ _ => by kernel_rfl) (by kernel_rfl) ((allocN_nobody_zero ba _ hk).mono ?_))
  rintro e W1 ⟨rfl, hb1⟩
  refine ⟨_, rfl, ?_⟩
  have hB := hb1
  replace hk := hk.below hb1
  refine g_pure 4 ⟨#[.pointer (some ⟨ba, 0, none⟩), .int .i64 3, undef, undef, .slice none 0 0, undef, .pointer (some ⟨ba, 0, none⟩), .bool true, .bool true, undef, undef, .bool true, undef, undef, undef, undef, undef, undef, undef, undef, undef, undef, undef], []⟩ (by kernel_rfl) ?_
  refine wpList_nil ?_
  refine wp_cond_true rfl ?_
  refine wp_seq ?_
  refine wp_region_lit ?_
  refine g_pure 1 ⟨#[.pointer (some ⟨ba, 0, none⟩), .int .i64 3, undef, undef, .slice none 0 0, undef, .pointer (some ⟨ba, 0, none⟩), .bool true, .bool true, undef, undef, .bool true, undef, undef, undef, undef, undef, undef, undef, undef, undef, undef, undef], []⟩ (by kernel_rfl) ?_
  refine wpList_nil ?_
  refine wp_ret ?_
  show bodyPost _ _ _ .ret _ _
  exact g_ret (.slice none 0 0) rfl (by kernel_rfl) ⟨rfl, hB⟩
set_option maxRecDepth 100000 in
set_option maxHeartbeats 1000000 in
theorem allocN_Image_nil (w : World) :
    Calls Tryd.prog 10 #[.pointer none] w (Ret (.pointer none) w) := by
  refine calls_of_wp Tryd.func10 rfl ?_
  refine g_fr ⟨#[.pointer none, undef, undef, undef, undef, undef, undef, undef, undef], []⟩ (by kernel_rfl) ?_
  refine wp_seq ?_
  refine wp_region_lit ?_
  refine g_pure 1 ⟨#[.pointer none, undef, .pointer none, undef, undef, undef, undef, undef, undef], []⟩ (by kernel_rfl) ?_
  refine wpList_nil ?_
  refine wp_seq ?_
  refine wp_seq ?_
  refine wp_region_lit ?_
  refine g_pure 1 ⟨#[.pointer none, undef, .pointer none, .pointer none, undef, undef, undef, undef, undef], []⟩ (by kernel_rfl) ?_
  refine g_op (by kernel_rfl) (op_call 14 #[.pointer none] rfl rfl (fun _ _ => by kernel_rfl) (by kernel_rfl) ((allocN_nobody_nil _).mono ?_))
  rintro e W1 ⟨rfl, hb1⟩
  refine ⟨_, rfl, ?_⟩
  have hB := hb1
  refine wpList_nil ?_
  refine wp_cond_true rfl ?_
  refine wp_seq ?_
  refine wp_region_lit ?_
  refine g_pure 1 ⟨#[.pointer none, undef, .pointer none, .pointer none, .bool true, undef, undef, undef, undef], []⟩ (by kernel_rfl) ?_
  refine wpList_nil ?_
  refine wp_ret ?_
  show bodyPost _ _ _ .ret _ _
  exact g_ret (.pointer none) rfl (by kernel_rfl) ⟨rfl, hB⟩
set_option maxRecDepth 100000 in
set_option maxHeartbeats 1000000 in
theorem allocN_Image_zero (ba : Nat) (w : World) (hk : Blk w ba [.slice none 0 0, .int .i64 0, .pointer none] 29) :
    Calls Tryd.prog 10 #[.pointer (some ⟨ba, 0, none⟩)] w (Ret (.pointer none) w) := by
  refine calls_of_wp Tryd.func10 rfl ?_
  refine g_fr ⟨#[.pointer (some ⟨ba, 0, none⟩), undef, undef, undef, undef, undef, undef, undef, undef], []⟩ (by kernel_rfl) ?_
  refine wp_seq ?_
  refine wp_region_lit ?_
  refine g_pure 1 ⟨#[.pointer (some ⟨ba, 0, none⟩), undef, .pointer none, undef, undef, undef, undef, undef, undef], []⟩ (by kernel_rfl) ?_
  refine wpList_nil ?_
  refine wp_seq ?_
  refine wp_seq ?_
  refine wp_region_lit ?_
  refine g_pure 1 ⟨#[.pointer (some ⟨ba, 0, none⟩), undef, .pointer none, .pointer (some ⟨ba, 0, none⟩), undef, undef, undef, undef, undef], []⟩ (by kernel_rfl) ?_
  refine g_op (by kernel_rfl) (op_call 14 #[.pointer (some ⟨ba, 0, none⟩)] rfl rfl (fun _ _ => by kernel_rfl) (by kernel_rfl) ((allocN_nobody_zero ba _ hk).mono ?_))
  rintro e W1 ⟨rfl, hb1⟩
  refine ⟨_, rfl, ?_⟩
  have hB := hb1
  replace hk := hk.below hb1
  refine wpList_nil ?_
  refine wp_cond_true rfl ?_
  refine wp_seq ?_
  refine wp_region_lit ?_
  refine g_pure 1 ⟨#[.pointer (some ⟨ba, 0, none⟩), undef, .pointer none, .pointer (some ⟨ba, 0, none⟩), .bool true, undef, undef, undef, undef], []⟩ (by kernel_rfl) ?_
  refine wpList_nil ?_
  refine wp_ret ?_
  show bodyPost _ _ _ .ret _ _
  exact g_ret (.pointer none) rfl (by kernel_rfl) ⟨rfl, hB⟩
set_option maxRecDepth 100000 in
set_option maxHeartbeats 1000000 in
theorem allocN_New (f : Int) (w : World) :
    Calls Tryd.prog 11 #[.pointer none, .int .i64 f] w (Ret (.tuple #[.pointer none, .iface 36 (.int .i64 1)]) w) := by
  refine calls_of_wp Tryd.func11 rfl ?_
  refine g_fr ⟨#[.pointer none, .int .i64 f, undef, undef, undef, undef, undef, undef, undef, undef, undef, undef, undef, undef, undef, undef, undef, undef, undef, undef, undef, undef, undef, undef, undef, undef, undef, undef, undef, undef, undef, undef, undef, undef, undef, undef, undef], []⟩ (by kernel_rfl) ?_
  refine wp_seq ?_
  refine wp_region_lit ?_
  refine g_pure 2 ⟨#[.pointer none, .int .i64 f, undef, undef, .pointer none, .nilIface, undef, undef, undef, undef, undef, undef, undef, undef, undef, undef, undef, undef, undef, undef, undef, undef, undef, undef, undef, undef, undef, undef, undef, undef, undef, undef, undef, undef, undef, undef, undef], []⟩ (by kernel_rfl) ?_
  refine wpList_nil ?_
  refine wp_seq ?_
  refine wp_seq ?_
  refine wp_region_lit ?_
  refine g_pure 12 ⟨#[.pointer none, .int .i64 f, undef, undef, .pointer none, .nilIface, undef, undef, .pointer none, .bool true, .bool true, undef, undef, .bool true, .bool true, undef, undef, undef, undef, .bool true, undef, undef, undef, undef, undef, undef, undef, undef, undef, undef, undef, undef, undef, undef, undef, undef, undef], []⟩ (by kernel_rfl) ?_
  refine wpList_nil ?_
  refine wp_cond_true rfl ?_
  refine wp_seq ?_
  refine wp_region_lit ?_
  refine g_pure 3 ⟨#[.pointer none, .int .i64 f, undef, undef, .pointer none, .iface 36 (.int .i64 1), undef, undef, .pointer none, .bool true, .bool true, undef, undef, .bool true, .bool true, undef, undef, undef, undef, .bool true, .iface 36 (.int .i64 1), undef, undef, undef, undef, undef, undef, undef, undef, undef, undef, undef, undef, undef, undef, undef, undef], []⟩ (by kernel_rfl) ?_
  refine wpList_nil ?_
  refine wp_ret ?_
  show bodyPost _ _ _ .ret _ _
  exact g_ret (.tuple #[.pointer none, .iface 36 (.int .i64 1)]) rfl (by kernel_rfl) ⟨rfl, (Below.refl w.heap.size _)⟩
set_option maxRecDepth 100000 in
set_option maxHeartbeats 1000000 in
theorem allocN_From (w : World) :
    Calls Tryd.prog 12 #[.pointer none, .slice none 0 0] w (Ret (.tuple #[.pointer none, .iface 36 (.int .i64 1)]) w) := by
  refine calls_of_wp Tryd.func12 rfl ?_
  refine g_fr ⟨#[.pointer none, .slice none 0 0, undef, undef, undef, undef, undef, undef, undef, undef, undef, undef, undef, undef, undef, undef, undef, undef, undef, undef, undef, undef, undef, undef, undef, undef, undef, undef, undef, undef, undef, undef, undef, undef, undef, undef, undef, undef], []⟩ (by kernel_rfl) ?_
  refine wp_seq ?_
  refine wp_region_lit ?_
  refine g_op (by kernel_rfl) (op_box [.pointer none] rfl (by kernel_rfl) ?_)
  intro b1 W1 n1
  have g1 := n1.ge (Below.refl w.heap.size _)
  have hB := n1.below
  have k1 := n1.blk
  refine g_pure 2 ⟨#[.pointer none, .slice none 0 0, .pointer (some ⟨b1, 0, none⟩), undef, .pointer none, .nilIface, undef, undef, undef, undef, undef, undef, undef, undef, undef, undef, undef, undef, undef, undef, undef, undef, undef, undef, undef, undef, undef, undef, undef, undef, undef, undef, undef, undef, undef, undef, undef, undef], []⟩ (by kernel_rfl) ?_
  refine wpList_nil ?_
  refine wp_seq ?_
  refine wp_seq ?_
  refine wp_region_lit ?_
  refine g_op (by kernel_rfl) (op_load _ (.pointer none) rfl rfl (by kernel_rfl) (k1.cell (i := 0) rfl) ?_)
  refine g_pure 6 ⟨#[.pointer none, .slice none 0 0, .pointer (some ⟨b1, 0, none⟩), undef, .pointer none, .nilIface, undef, .pointer none, .bool true, .bool true, undef, undef, undef, .bool true, undef, undef, undef, undef, undef, undef, undef, undef, undef, undef, undef, undef, undef, undef, undef, undef, undef, undef, undef, undef, undef, undef, undef, undef], []⟩ (by kernel_rfl) ?_
  refine wpList_nil ?_
  refine wp_cond_true rfl ?_
  refine wp_seq ?_
  refine wp_region_lit ?_
  refine g_pure 3 ⟨#[.pointer none, .slice none 0 0, .pointer (some ⟨b1, 0, none⟩), undef, .pointer none, .iface 36 (.int .i64 1), undef, .pointer none, .bool true, .bool true, undef, undef, undef, .bool true, .iface 36 (.int .i64 1), undef, undef, undef, undef, undef, undef, undef, undef, undef, undef, undef, undef, undef, undef, undef, undef, undef, undef, undef, undef, undef, undef, undef], []⟩ (by kernel_rfl) ?_
  refine wpList_nil ?_
  refine wp_ret ?_
  show bodyPost _ _ _ .ret _ _
  exact g_ret (.tuple #[.pointer none, .iface 36 (.int .i64 1)]) rfl (by kernel_rfl) ⟨rfl, hB⟩
set_option maxRecDepth 100000 in
set_option maxHeartbeats 4000000 in
theorem allocNobody_law (a : Option Addr) (n c : Nat) (f kind : Int) (w : World) (hg : ErrT w) :
    Calls Tryd.prog 3 #[.int .i64 f, .int .i64 kind, .slice a n c] w (Ret (.bool true) w) := by
  refine calls_of_wp Tryd.func3 rfl ?_
  refine g_fr ⟨#[.int .i64 f, .int .i64 kind, .slice a n c, undef, undef, undef, undef, undef, undef, undef, undef, undef, undef, undef, undef, undef, undef, undef, undef, undef, undef, undef, undef, undef, undef, undef, undef, undef, undef, undef, undef, undef, undef, undef, undef, undef, undef, undef, undef, undef, undef, undef, undef, undef, undef, undef, undef, undef, undef, undef, undef, undef, undef, undef, undef, undef, undef, undef, undef, undef, undef, undef, undef, undef, undef, undef, undef, undef, undef, undef, undef, undef, undef, undef, undef, undef, undef, undef, undef, undef, undef, undef, undef, undef, undef, undef, undef, undef, undef, undef, undef, undef, undef, undef, undef, undef, undef, undef, undef, undef], []⟩ (by kernel_rfl) ?_
  refine wp_seq ?_
  refine wp_region_lit ?_
  refine g_pure 1 ⟨#[.int .i64 f, .int .i64 kind, .slice a n c, undef, undef, undef, .bool false, undef, undef, undef, undef, undef, undef, undef, undef, undef, undef, undef, undef, undef, undef, undef, undef, undef, undef, undef, undef, undef, undef, undef, undef, undef, undef, undef, undef, undef, undef, undef, undef, undef, undef, undef, undef, undef, undef, undef, undef, undef, undef, undef, undef, undef, undef, undef, undef, undef, undef, undef, undef, undef, undef, undef, undef, undef, undef, undef, undef, undef, undef, undef, undef, undef, undef, undef, undef, undef, undef, undef, undef, undef, undef, undef, undef, undef, undef, undef, undef, undef, undef, undef, undef, undef, undef, undef, undef, undef, undef, undef, undef, undef], []⟩ (by kernel_rfl) ?_
  refine wpList_nil ?_
  refine wp_seq ?_
  refine wp_region_lit ?_
  refine g_pure 1 ⟨#[.int .i64 f, .int .i64 kind, .slice a n c, undef, undef, undef, .bool false, .pointer none, undef, undef, undef, undef, undef, undef, undef, undef, undef, undef, undef, undef, undef, undef, undef, undef, undef, undef, undef, undef, undef, undef, undef, undef, undef, undef, undef, undef, undef, undef, undef, undef, undef, undef, undef, undef, undef, undef, undef, undef, undef, undef, undef, undef, undef, undef, undef, undef, undef, undef, undef, undef, undef, undef, undef, undef, undef, undef, undef, undef, undef, undef, undef, undef, undef, undef, undef, undef, undef, undef, undef, undef, undef, undef, undef, undef, undef, undef, undef, undef, undef, undef, undef, undef, undef, undef, undef, undef, undef, undef, undef, undef], []⟩ (by kernel_rfl) ?_
  refine wpList_nil ?_
  refine wp_seq ?_
  refine wp_region_lit ?_
  refine g_op (by kernel_rfl) (op_alloc [.slice none 0 0, .int .i64 0, .pointer none] rfl (by kernel_rfl) ?_)
  intro b1 W1 n1
  have g1 := n1.ge (Below.refl w.heap.size _)
  have hB := n1.below
  have k1 := n1.blk
  refine wpList_nil ?_
  refine wp_seq ?_
  refine wp_seq ?_
  refine wp_region_lit ?_
  refine g_pure 1 ⟨#[.int .i64 f, .int .i64 kind, .slice a n c, undef, undef, undef, .bool false, .pointer none, .pointer (some ⟨b1, 0, none⟩), undef, undef, undef, undef, undef, undef, undef, undef, undef, undef, .pointer none, undef, undef, undef, undef, undef, undef, undef, undef, undef, undef, undef, undef, undef, undef, undef, undef, undef, undef, undef, undef, undef, undef, undef, undef, undef, undef, undef, undef, undef, undef, undef, undef, undef, undef, undef, undef, undef, undef, undef, undef, undef, undef, undef, undef, undef, undef, undef, undef, undef, undef, undef, undef, undef, undef, undef, undef, undef, undef, undef, undef, undef, undef, undef, undef, undef, undef, undef, undef, undef, undef, undef, undef, undef, undef, undef, undef, undef, undef, undef, undef], []⟩ (by kernel_rfl) ?_
  refine g_op (by kernel_rfl) (op_buildSlice 23 [.pointer none, .pointer (some ⟨b1, 0, none⟩)] rfl (by kernel_rfl) ?_)
  intro b2 W2 n2
  have d2_b1 := n2.ne k1
  have g2 := n2.ge hB
  replace hB := Bl.next hB n2.below
  replace k1 := k1.below n2.below
  have k2 := n2.blk
  refine g_pure 2 ⟨#[.int .i64 f, .int .i64 kind, .slice a n c, undef, undef, undef, .bool false, .pointer none, .pointer (some ⟨b1, 0, none⟩), undef, undef, undef, undef, undef, undef, undef, undef, undef, undef, .pointer none, .slice (some ⟨b2, 0, none⟩) 2 2, .int .i64 2, .int .i64 0, undef, undef, undef, undef, undef, undef, undef, undef, undef, undef, undef, undef, undef, undef, undef, undef, undef, undef, undef, undef, undef, undef, undef, undef, undef, undef, undef, undef, undef, undef, undef, undef, undef, undef, undef, undef, undef, undef, undef, undef, undef, undef, undef, undef, undef, undef, undef, undef, undef, undef, undef, undef, undef, undef, undef, undef, undef, undef, undef, undef, undef, undef, undef, undef, undef, undef, undef, undef, undef, undef, undef, undef, undef, undef, undef, undef, undef], []⟩ (by kernel_rfl) ?_
  refine wpList_nil ?_
  refine wp_block ?_
  refine wp_loop_rounds 3 ?_
  refine g_round ?_
  refine wp_seq ?_
  refine wp_region_lit ?_
  refine g_pure 1 ⟨#[.int .i64 f, .int .i64 kind, .slice a n c, undef, undef, undef, .bool false, .pointer none, .pointer (some ⟨b1, 0, none⟩), undef, undef, undef, undef, undef, undef, undef, undef, undef, undef, .pointer none, .slice (some ⟨b2, 0, none⟩) 2 2, .int .i64 2, .int .i64 0, .bool true, undef, undef, undef, undef, undef, undef, undef, undef, undef, undef, undef, undef, undef, undef, undef, undef, undef, undef, undef, undef, undef, undef, undef, undef, undef, undef, undef, undef, undef, undef, undef, undef, undef, undef, undef, undef, undef, undef, undef, undef, undef, undef, undef, undef, undef, undef, undef, undef, undef, undef, undef, undef, undef, undef, undef, undef, undef, undef, undef, undef, undef, undef, undef, undef, undef, undef, undef, undef, undef, undef, undef, undef, undef, undef, undef, undef], []⟩ (by kernel_rfl) ?_
  refine wpList_nil ?_
  refine wp_seq ?_
  refine wp_cond_true rfl ?_
  refine wp_skip ?_
  refine wp_seq ?_
  refine wp_block ?_
  refine wp_seq ?_
  refine wp_region_lit ?_
  refine g_pure 1 ⟨#[.int .i64 f, .int .i64 kind, .slice a n c, undef, undef, undef, .bool false, .pointer none, .pointer (some ⟨b1, 0, none⟩), undef, undef, undef, undef, undef, undef, undef, undef, undef, undef, .pointer none, .slice (some ⟨b2, 0, none⟩) 2 2, .int .i64 2, .int .i64 0, .bool true, .pointer (some ⟨b2, 0, none⟩), undef, undef, undef, undef, undef, undef, undef, undef, undef, undef, undef, undef, undef, undef, undef, undef, undef, undef, undef, undef, undef, undef, undef, undef, undef, undef, undef, undef, undef, undef, undef, undef, undef, undef, undef, undef, undef, undef, undef, undef, undef, undef, undef, undef, undef, undef, undef, undef, undef, undef, undef, undef, undef, undef, undef, undef, undef, undef, undef, undef, undef, undef, undef, undef, undef, undef, undef, undef, undef, undef, undef, undef, undef, undef, undef], []⟩ (by kernel_rfl) ?_
  refine g_op (by kernel_rfl) (op_load _ (.pointer none) rfl rfl (by kernel_rfl) (k2.cell (i := 0) rfl) ?_)
  refine g_pure 1 ⟨#[.int .i64 f, .int .i64 kind, .slice a n c, undef, undef, undef, .bool false, .pointer none, .pointer (some ⟨b1, 0, none⟩), undef, .pointer none, undef, undef, undef, undef, undef, undef, undef, undef, .pointer none, .slice (some ⟨b2, 0, none⟩) 2 2, .int .i64 2, .int .i64 0, .bool true, .pointer (some ⟨b2, 0, none⟩), .pointer none, undef, undef, undef, undef, undef, undef, undef, undef, undef, undef, undef, undef, undef, undef, undef, undef, undef, undef, undef, undef, undef, undef, undef, undef, undef, undef, undef, undef, undef, undef, undef, undef, undef, undef, undef, undef, undef, undef, undef, undef, undef, undef, undef, undef, undef, undef, undef, undef, undef, undef, undef, undef, undef, undef, undef, undef, undef, undef, undef, undef, undef, undef, undef, undef, undef, undef, undef, undef, undef, undef, undef, undef, undef, undef], []⟩ (by kernel_rfl) ?_
  refine wpList_nil ?_
  refine wp_seq ?_
  refine wp_region_lit ?_
  refine g_pure 1 ⟨#[.int .i64 f, .int .i64 kind, .slice a n c, undef, undef, undef, .bool false, .pointer none, .pointer (some ⟨b1, 0, none⟩), undef, .pointer none, undef, undef, undef, undef, undef, undef, undef, undef, .pointer none, .slice (some ⟨b2, 0, none⟩) 2 2, .int .i64 2, .int .i64 0, .bool true, .pointer (some ⟨b2, 0, none⟩), .pointer none, undef, .pointer none, undef, undef, undef, undef, undef, undef, undef, undef, undef, undef, undef, undef, undef, undef, undef, undef, undef, undef, undef, undef, undef, undef, undef, undef, undef, undef, undef, undef, undef, undef, undef, undef, undef, undef, undef, undef, undef, undef, undef, undef, undef, undef, undef, undef, undef, undef, undef, undef, undef, undef, undef, undef, undef, undef, undef, undef, undef, undef, undef, undef, undef, undef, undef, undef, undef, undef, undef, undef, undef, undef, undef, undef], []⟩ (by kernel_rfl) ?_
  refine g_op (by kernel_rfl) (op_call 4 #[.pointer none] rfl rfl (fun _ _ => by kernel_rfl) (by kernel_rfl) ((allocN_Next_nil _).mono ?_))
  rintro e W3 ⟨rfl, hb3⟩
  refine ⟨_, rfl, ?_⟩
  replace hB := Bl.next hB hb3
  replace k1 := k1.below hb3
  replace k2 := k2.below hb3
  refine g_pure 5 ⟨#[.int .i64 f, .int .i64 kind, .slice a n c, undef, undef, undef, .bool false, .pointer none, .pointer (some ⟨b1, 0, none⟩), undef, .pointer none, .int .i64 0, .iface 36 (.int .i64 18), undef, undef, undef, undef, undef, undef, .pointer none, .slice (some ⟨b2, 0, none⟩) 2 2, .int .i64 2, .int .i64 0, .bool true, .pointer (some ⟨b2, 0, none⟩), .pointer none, .tuple #[.int .i64 0, .iface 36 (.int .i64 18)], .pointer none, .tuple #[.int .i64 0, .iface 36 (.int .i64 18)], .int .i64 0, .iface 36 (.int .i64 18), undef, undef, undef, undef, undef, undef, undef, undef, undef, undef, undef, undef, undef, undef, undef, undef, undef, undef, undef, undef, undef, undef, undef, undef, undef, undef, undef, undef, undef, undef, undef, undef, undef, undef, undef, undef, undef, undef, undef, undef, undef, undef, undef, undef, undef, undef, undef, undef, undef, undef, undef, undef, undef, undef, undef, undef, undef, undef, undef, undef, undef, undef, undef, undef, undef, undef, undef, undef, undef], []⟩ (by kernel_rfl) ?_
  refine wpList_nil ?_
  refine wp_seq ?_
  refine wp_region_lit ?_
  refine g_pure 3 ⟨#[.int .i64 f, .int .i64 kind, .slice a n c, undef, undef, undef, .bool false, .pointer none, .pointer (some ⟨b1, 0, none⟩), undef, .pointer none, .int .i64 0, .iface 36 (.int .i64 18), undef, undef, undef, undef, undef, undef, .pointer none, .slice (some ⟨b2, 0, none⟩) 2 2, .int .i64 2, .int .i64 0, .bool true, .pointer (some ⟨b2, 0, none⟩), .pointer none, .tuple #[.int .i64 0, .iface 36 (.int .i64 18)], .pointer none, .tuple #[.int .i64 0, .iface 36 (.int .i64 18)], .int .i64 0, .iface 36 (.int .i64 18), undef, .pointer none, .int .i64 kind, .slice a n c, undef, undef, undef, undef, undef, undef, undef, undef, undef, undef, undef, undef, undef, undef, undef, undef, undef, undef, undef, undef, undef, undef, undef, undef, undef, undef, undef, undef, undef, undef, undef, undef, undef, undef, undef, undef, undef, undef, undef, undef, undef, undef, undef, undef, undef, undef, undef, undef, undef, undef, undef, undef, undef, undef, undef, undef, undef, undef, undef, undef, undef, undef, undef, undef, undef], []⟩ (by kernel_rfl) ?_
  refine g_op (by kernel_rfl) (op_call 5 #[.pointer none, .int .i64 kind, .slice a n c] rfl rfl (fun _ _ => by kernel_rfl) (by kernel_rfl) ((allocN_Lay_nil _ _ _).mono ?_))
  rintro e W4 ⟨rfl, hb4⟩
  refine ⟨_, rfl, ?_⟩
  replace hB := Bl.next hB hb4
  replace k1 := k1.below hb4
  replace k2 := k2.below hb4
  refine g_pure 5 ⟨#[.int .i64 f, .int .i64 kind, .slice a n c, undef, undef, undef, .bool false, .pointer none, .pointer (some ⟨b1, 0, none⟩), undef, .pointer none, .int .i64 0, .iface 36 (.int .i64 18), .int .i64 0, .iface 36 (.int .i64 18), undef, undef, undef, undef, .pointer none, .slice (some ⟨b2, 0, none⟩) 2 2, .int .i64 2, .int .i64 0, .bool true, .pointer (some ⟨b2, 0, none⟩), .pointer none, .tuple #[.int .i64 0, .iface 36 (.int .i64 18)], .pointer none, .tuple #[.int .i64 0, .iface 36 (.int .i64 18)], .int .i64 0, .iface 36 (.int .i64 18), .tuple #[.int .i64 0, .iface 36 (.int .i64 18)], .pointer none, .int .i64 kind, .slice a n c, .tuple #[.int .i64 0, .iface 36 (.int .i64 18)], .int .i64 0, .iface 36 (.int .i64 18), undef, undef, undef, undef, undef, undef, undef, undef, undef, undef, undef, undef, undef, undef, undef, undef, undef, undef, undef, undef, undef, undef, undef, undef, undef, undef, undef, undef, undef, undef, undef, undef, undef, undef, undef, undef, undef, undef, undef, undef, undef, undef, undef, undef, undef, undef, undef, undef, undef, undef, undef, undef, undef, undef, undef, undef, undef, undef, undef, undef, undef, undef], []⟩ (by kernel_rfl) ?_
  refine wpList_nil ?_
  refine wp_seq ?_
  refine wp_region_lit ?_
  refine g_pure 4 ⟨#[.int .i64 f, .int .i64 kind, .slice a n c, undef, undef, undef, .bool false, .pointer none, .pointer (some ⟨b1, 0, none⟩), undef, .pointer none, .int .i64 0, .iface 36 (.int .i64 18), .int .i64 0, .iface 36 (.int .i64 18), undef, undef, undef, undef, .pointer none, .slice (some ⟨b2, 0, none⟩) 2 2, .int .i64 2, .int .i64 0, .bool true, .pointer (some ⟨b2, 0, none⟩), .pointer none, .tuple #[.int .i64 0, .iface 36 (.int .i64 18)], .pointer none, .tuple #[.int .i64 0, .iface 36 (.int .i64 18)], .int .i64 0, .iface 36 (.int .i64 18), .tuple #[.int .i64 0, .iface 36 (.int .i64 18)], .pointer none, .int .i64 kind, .slice a n c, .tuple #[.int .i64 0, .iface 36 (.int .i64 18)], .int .i64 0, .iface 36 (.int .i64 18), .int .i64 0, .bool false, .bool false, .iface 36 (.int .i64 18), undef, undef, undef, undef, undef, undef, undef, undef, undef, undef, undef, undef, undef, undef, undef, undef, undef, undef, undef, undef, undef, undef, undef, undef, undef, undef, undef, undef, undef, undef, undef, undef, undef, undef, undef, undef, undef, undef, undef, undef, undef, undef, undef, undef, undef, undef, undef, undef, undef, undef, undef, undef, undef, undef, undef, undef, undef, undef], []⟩ (by kernel_rfl) ?_
  refine g_op (by kernel_rfl) (op_call 6 #[.iface 36 (.int .i64 18)] rfl rfl (fun _ _ => by kernel_rfl) (by kernel_rfl) ((fault_Code (some 18) [] _ _ (hg.below hB) rfl).mono ?_))
  rintro e W5 ⟨rfl, hb5⟩
  refine ⟨_, rfl, ?_⟩
  replace hB := Bl.next hB hb5
  replace k1 := k1.below hb5
  replace k2 := k2.below hb5
  refine g_pure 8 ⟨#[.int .i64 f, .int .i64 kind, .slice a n c, undef, undef, undef, .bool false, .pointer none, .pointer (some ⟨b1, 0, none⟩), undef, .pointer none, .int .i64 0, .iface 36 (.int .i64 18), .int .i64 0, .iface 36 (.int .i64 18), undef, undef, undef, undef, .pointer none, .slice (some ⟨b2, 0, none⟩) 2 2, .int .i64 2, .int .i64 0, .bool true, .pointer (some ⟨b2, 0, none⟩), .pointer none, .tuple #[.int .i64 0, .iface 36 (.int .i64 18)], .pointer none, .tuple #[.int .i64 0, .iface 36 (.int .i64 18)], .int .i64 0, .iface 36 (.int .i64 18), .tuple #[.int .i64 0, .iface 36 (.int .i64 18)], .pointer none, .int .i64 kind, .slice a n c, .tuple #[.int .i64 0, .iface 36 (.int .i64 18)], .int .i64 0, .iface 36 (.int .i64 18), .int .i64 0, .bool false, .bool false, .iface 36 (.int .i64 18), .int .i64 18, .bool false, .bool false, .bool false, .int .i64 0, .bool false, .bool false, .bool false, .iface 36 (.int .i64 18), undef, undef, undef, undef, undef, undef, undef, undef, undef, undef, undef, undef, undef, undef, undef, undef, undef, undef, undef, undef, undef, undef, undef, undef, undef, undef, undef, undef, undef, undef, undef, undef, undef, undef, undef, undef, undef, undef, undef, undef, undef, undef, undef, undef, undef, undef, undef, undef, undef], []⟩ (by kernel_rfl) ?_
  refine g_op (by kernel_rfl) (op_call 6 #[.iface 36 (.int .i64 18)] rfl rfl (fun _ _ => by kernel_rfl) (by kernel_rfl) ((fault_Code (some 18) [] _ _ (hg.below hB) rfl).mono ?_))
  rintro e W6 ⟨rfl, hb6⟩
  refine ⟨_, rfl, ?_⟩
  replace hB := Bl.next hB hb6
  replace k1 := k1.below hb6
  replace k2 := k2.below hb6
  refine g_pure 4 ⟨#[.int .i64 f, .int .i64 kind, .slice a n c, undef, undef, undef, .bool false, .pointer none, .pointer (some ⟨b1, 0, none⟩), undef, .pointer none, .int .i64 0, .iface 36 (.int .i64 18), .int .i64 0, .iface 36 (.int .i64 18), undef, undef, undef, undef, .pointer none, .slice (some ⟨b2, 0, none⟩) 2 2, .int .i64 2, .int .i64 0, .bool true, .pointer (some ⟨b2, 0, none⟩), .pointer none, .tuple #[.int .i64 0, .iface 36 (.int .i64 18)], .pointer none, .tuple #[.int .i64 0, .iface 36 (.int .i64 18)], .int .i64 0, .iface 36 (.int .i64 18), .tuple #[.int .i64 0, .iface 36 (.int .i64 18)], .pointer none, .int .i64 kind, .slice a n c, .tuple #[.int .i64 0, .iface 36 (.int .i64 18)], .int .i64 0, .iface 36 (.int .i64 18), .int .i64 0, .bool false, .bool false, .iface 36 (.int .i64 18), .int .i64 18, .bool false, .bool false, .bool false, .int .i64 0, .bool false, .bool false, .bool false, .iface 36 (.int .i64 18), .int .i64 18, .bool false, .bool false, .bool false, .pointer none, undef, undef, undef, undef, undef, undef, undef, undef, undef, undef, undef, undef, undef, undef, undef, undef, undef, undef, undef, undef, undef, undef, undef, undef, undef, undef, undef, undef, undef, undef, undef, undef, undef, undef, undef, undef, undef, undef, undef, undef, undef, undef, undef, undef], []⟩ (by kernel_rfl) ?_
  refine g_op (by kernel_rfl) (op_call 7 #[.pointer none] rfl rfl (fun _ _ => by kernel_rfl) (by kernel_rfl) ((allocN_Left_nil _).mono ?_))
  rintro e W7 ⟨rfl, hb7⟩
  refine ⟨_, rfl, ?_⟩
  replace hB := Bl.next hB hb7
  replace k1 := k1.below hb7
  replace k2 := k2.below hb7
  refine g_pure 1 ⟨#[.int .i64 f, .int .i64 kind, .slice a n c, undef, undef, undef, .bool false, .pointer none, .pointer (some ⟨b1, 0, none⟩), undef, .pointer none, .int .i64 0, .iface 36 (.int .i64 18), .int .i64 0, .iface 36 (.int .i64 18), undef, undef, undef, undef, .pointer none, .slice (some ⟨b2, 0, none⟩) 2 2, .int .i64 2, .int .i64 0, .bool true, .pointer (some ⟨b2, 0, none⟩), .pointer none, .tuple #[.int .i64 0, .iface 36 (.int .i64 18)], .pointer none, .tuple #[.int .i64 0, .iface 36 (.int .i64 18)], .int .i64 0, .iface 36 (.int .i64 18), .tuple #[.int .i64 0, .iface 36 (.int .i64 18)], .pointer none, .int .i64 kind, .slice a n c, .tuple #[.int .i64 0, .iface 36 (.int .i64 18)], .int .i64 0, .iface 36 (.int .i64 18), .int .i64 0, .bool false, .bool false, .iface 36 (.int .i64 18), .int .i64 18, .bool false, .bool false, .bool false, .int .i64 0, .bool false, .bool false, .bool false, .iface 36 (.int .i64 18), .int .i64 18, .bool false, .bool false, .bool false, .pointer none, .int .i64 0, .pointer none, undef, undef, undef, undef, undef, undef, undef, undef, undef, undef, undef, undef, undef, undef, undef, undef, undef, undef, undef, undef, undef, undef, undef, undef, undef, undef, undef, undef, undef, undef, undef, undef, undef, undef, undef, undef, undef, undef, undef, undef, undef, undef], []⟩ (by kernel_rfl) ?_
  refine g_op (by kernel_rfl) (op_call 8 #[.pointer none] rfl rfl (fun _ _ => by kernel_rfl) (by kernel_rfl) ((allocN_Used_nil _).mono ?_))
  rintro e W8 ⟨rfl, hb8⟩
  refine ⟨_, rfl, ?_⟩
  replace hB := Bl.next hB hb8
  replace k1 := k1.below hb8
  replace k2 := k2.below hb8
  refine g_pure 2 ⟨#[.int .i64 f, .int .i64 kind, .slice a n c, undef, undef, undef, .bool false, .pointer none, .pointer (some ⟨b1, 0, none⟩), undef, .pointer none, .int .i64 0, .iface 36 (.int .i64 18), .int .i64 0, .iface 36 (.int .i64 18), undef, undef, undef, undef, .pointer none, .slice (some ⟨b2, 0, none⟩) 2 2, .int .i64 2, .int .i64 0, .bool true, .pointer (some ⟨b2, 0, none⟩), .pointer none, .tuple #[.int .i64 0, .iface 36 (.int .i64 18)], .pointer none, .tuple #[.int .i64 0, .iface 36 (.int .i64 18)], .int .i64 0, .iface 36 (.int .i64 18), .tuple #[.int .i64 0, .iface 36 (.int .i64 18)], .pointer none, .int .i64 kind, .slice a n c, .tuple #[.int .i64 0, .iface 36 (.int .i64 18)], .int .i64 0, .iface 36 (.int .i64 18), .int .i64 0, .bool false, .bool false, .iface 36 (.int .i64 18), .int .i64 18, .bool false, .bool false, .bool false, .int .i64 0, .bool false, .bool false, .bool false, .iface 36 (.int .i64 18), .int .i64 18, .bool false, .bool false, .bool false, .pointer none, .int .i64 0, .pointer none, .int .i64 0, .int .i64 0, .pointer none, undef, undef, undef, undef, undef, undef, undef, undef, undef, undef, undef, undef, undef, undef, undef, undef, undef, undef, undef, undef, undef, undef, undef, undef, undef, undef, undef, undef, undef, undef, undef, undef, undef, undef, undef, undef, undef, undef, undef], []⟩ (by kernel_rfl) ?_
  refine g_op (by kernel_rfl) (op_call 9 #[.pointer none, .int .i64 3] rfl rfl (fun _ _ => by kernel_rfl) (by kernel_rfl) ((allocN_Ahead_nil _).mono ?_))
  rintro e W9 ⟨rfl, hb9⟩
  refine ⟨_, rfl, ?_⟩
  replace hB := Bl.next hB hb9
  replace k1 := k1.below hb9
  replace k2 := k2.below hb9
  refine g_pure 6 ⟨#[.int .i64 f, .int .i64 kind, .slice a n c, undef, undef, undef, .bool false, .pointer none, .pointer (some ⟨b1, 0, none⟩), undef, .pointer none, .int .i64 0, .iface 36 (.int .i64 18), .int .i64 0, .iface 36 (.int .i64 18), undef, undef, undef, undef, .pointer none, .slice (some ⟨b2, 0, none⟩) 2 2, .int .i64 2, .int .i64 0, .bool true, .pointer (some ⟨b2, 0, none⟩), .pointer none, .tuple #[.int .i64 0, .iface 36 (.int .i64 18)], .pointer none, .tuple #[.int .i64 0, .iface 36 (.int .i64 18)], .int .i64 0, .iface 36 (.int .i64 18), .tuple #[.int .i64 0, .iface 36 (.int .i64 18)], .pointer none, .int .i64 kind, .slice a n c, .tuple #[.int .i64 0, .iface 36 (.int .i64 18)], .int .i64 0, .iface 36 (.int .i64 18), .int .i64 0, .bool false, .bool false, .iface 36 (.int .i64 18), .int .i64 18, .bool false, .bool false, .bool false, .int .i64 0, .bool false, .bool false, .bool false, .iface 36 (.int .i64 18), .int .i64 18, .bool false, .bool false, .bool false, .pointer none, .int .i64 0, .pointer none, .int .i64 0, .int .i64 0, .pointer none, .slice none 0 0, .int .i64 0, .int .i64 0, .bool false, .bool false, .bool false, .pointer none, undef, undef, undef, undef, undef, undef, undef, undef, undef, undef, undef, undef, undef, undef, undef, undef, undef, undef, undef, undef, undef, undef, undef, undef, undef, undef, undef, undef, undef, undef, undef, undef], []⟩ (by kernel_rfl) ?_
  refine g_op (by kernel_rfl) (op_call 10 #[.pointer none] rfl rfl (fun _ _ => by kernel_rfl) (by kernel_rfl) ((allocN_Image_nil _).mono ?_))
  rintro e W10 ⟨rfl, hb10⟩
  refine ⟨_, rfl, ?_⟩
  replace hB := Bl.next hB hb10
  replace k1 := k1.below hb10
  replace k2 := k2.below hb10
  refine g_pure 2 ⟨#[.int .i64 f, .int .i64 kind, .slice a n c, undef, undef, undef, .bool false, .pointer none, .pointer (some ⟨b1, 0, none⟩), undef, .pointer none, .int .i64 0, .iface 36 (.int .i64 18), .int .i64 0, .iface 36 (.int .i64 18), undef, undef, undef, undef, .pointer none, .slice (some ⟨b2, 0, none⟩) 2 2, .int .i64 2, .int .i64 0, .bool true, .pointer (some ⟨b2, 0, none⟩), .pointer none, .tuple #[.int .i64 0, .iface 36 (.int .i64 18)], .pointer none, .tuple #[.int .i64 0, .iface 36 (.int .i64 18)], .int .i64 0, .iface 36 (.int .i64 18), .tuple #[.int .i64 0, .iface 36 (.int .i64 18)], .pointer none, .int .i64 kind, .slice a n c, .tuple #[.int .i64 0, .iface 36 (.int .i64 18)], .int .i64 0, .iface 36 (.int .i64 18), .int .i64 0, .bool false, .bool false, .iface 36 (.int .i64 18), .int .i64 18, .bool false, .bool false, .bool false, .int .i64 0, .bool false, .bool false, .bool false, .iface 36 (.int .i64 18), .int .i64 18, .bool false, .bool false, .bool false, .pointer none, .int .i64 0, .pointer none, .int .i64 0, .int .i64 0, .pointer none, .slice none 0 0, .int .i64 0, .int .i64 0, .bool false, .bool false, .bool false, .pointer none, .pointer none, .bool false, .bool false, undef, undef, undef, undef, undef, undef, undef, undef, undef, undef, undef, undef, undef, undef, undef, undef, undef, undef, undef, undef, undef, undef, undef, undef, undef, undef, undef, undef, undef], []⟩ (by kernel_rfl) ?_
  refine wpList_nil ?_
  refine wp_cond_false rfl ?_
  refine wp_skip ?_
  refine wp_region_lit ?_
  refine g_pure 2 ⟨#[.int .i64 f, .int .i64 kind, .slice a n c, undef, undef, undef, .bool false, .pointer none, .pointer (some ⟨b1, 0, none⟩), undef, .pointer none, .int .i64 0, .iface 36 (.int .i64 18), .int .i64 0, .iface 36 (.int .i64 18), undef, undef, undef, undef, .pointer none, .slice (some ⟨b2, 0, none⟩) 2 2, .int .i64 2, .int .i64 1, .bool true, .pointer (some ⟨b2, 0, none⟩), .pointer none, .tuple #[.int .i64 0, .iface 36 (.int .i64 18)], .pointer none, .tuple #[.int .i64 0, .iface 36 (.int .i64 18)], .int .i64 0, .iface 36 (.int .i64 18), .tuple #[.int .i64 0, .iface 36 (.int .i64 18)], .pointer none, .int .i64 kind, .slice a n c, .tuple #[.int .i64 0, .iface 36 (.int .i64 18)], .int .i64 0, .iface 36 (.int .i64 18), .int .i64 0, .bool false, .bool false, .iface 36 (.int .i64 18), .int .i64 18, .bool false, .bool false, .bool false, .int .i64 0, .bool false, .bool false, .bool false, .iface 36 (.int .i64 18), .int .i64 18, .bool false, .bool false, .bool false, .pointer none, .int .i64 0, .pointer none, .int .i64 0, .int .i64 0, .pointer none, .slice none 0 0, .int .i64 0, .int .i64 0, .bool false, .bool false, .bool false, .pointer none, .pointer none, .bool false, .bool false, .int .i64 1, undef, undef, undef, undef, undef, undef, undef, undef, undef, undef, undef, undef, undef, undef, undef, undef, undef, undef, undef, undef, undef, undef, undef, undef, undef, undef, undef, undef], []⟩ (by kernel_rfl) ?_
  refine wpList_nil ?_
  refine g_round ?_
  refine wp_seq ?_
  refine wp_region_lit ?_
  refine g_pure 1 ⟨#[.int .i64 f, .int .i64 kind, .slice a n c, undef, undef, undef, .bool false, .pointer none, .pointer (some ⟨b1, 0, none⟩), undef, .pointer none, .int .i64 0, .iface 36 (.int .i64 18), .int .i64 0, .iface 36 (.int .i64 18), undef, undef, undef, undef, .pointer none, .slice (some ⟨b2, 0, none⟩) 2 2, .int .i64 2, .int .i64 1, .bool true, .pointer (some ⟨b2, 0, none⟩), .pointer none, .tuple #[.int .i64 0, .iface 36 (.int .i64 18)], .pointer none, .tuple #[.int .i64 0, .iface 36 (.int .i64 18)], .int .i64 0, .iface 36 (.int .i64 18), .tuple #[.int .i64 0, .iface 36 (.int .i64 18)], .pointer none, .int .i64 kind, .slice a n c, .tuple #[.int .i64 0, .iface 36 (.int .i64 18)], .int .i64 0, .iface 36 (.int .i64 18), .int .i64 0, .bool false, .bool false, .iface 36 (.int .i64 18), .int .i64 18, .bool false, .bool false, .bool false, .int .i64 0, .bool false, .bool false, .bool false, .iface 36 (.int .i64 18), .int .i64 18, .bool false, .bool false, .bool false, .pointer none, .int .i64 0, .pointer none, .int .i64 0, .int .i64 0, .pointer none, .slice none 0 0, .int .i64 0, .int .i64 0, .bool false, .bool false, .bool false, .pointer none, .pointer none, .bool false, .bool false, .int .i64 1, undef, undef, undef, undef, undef, undef, undef, undef, undef, undef, undef, undef, undef, undef, undef, undef, undef, undef, undef, undef, undef, undef, undef, undef, undef, undef, undef, undef], []⟩ (by kernel_rfl) ?_
  refine wpList_nil ?_
  refine wp_seq ?_
  refine wp_cond_true rfl ?_
  refine wp_skip ?_
  refine wp_seq ?_
  refine wp_block ?_
  refine wp_seq ?_
  refine wp_region_lit ?_
  refine g_pure 1 ⟨#[.int .i64 f, .int .i64 kind, .slice a n c, undef, undef, undef, .bool false, .pointer none, .pointer (some ⟨b1, 0, none⟩), undef, .pointer none, .int .i64 0, .iface 36 (.int .i64 18), .int .i64 0, .iface 36 (.int .i64 18), undef, undef, undef, undef, .pointer none, .slice (some ⟨b2, 0, none⟩) 2 2, .int .i64 2, .int .i64 1, .bool true, .pointer (some ⟨b2, 1, none⟩), .pointer none, .tuple #[.int .i64 0, .iface 36 (.int .i64 18)], .pointer none, .tuple #[.int .i64 0, .iface 36 (.int .i64 18)], .int .i64 0, .iface 36 (.int .i64 18), .tuple #[.int .i64 0, .iface 36 (.int .i64 18)], .pointer none, .int .i64 kind, .slice a n c, .tuple #[.int .i64 0, .iface 36 (.int .i64 18)], .int .i64 0, .iface 36 (.int .i64 18), .int .i64 0, .bool false, .bool false, .iface 36 (.int .i64 18), .int .i64 18, .bool false, .bool false, .bool false, .int .i64 0, .bool false, .bool false, .bool false, .iface 36 (.int .i64 18), .int .i64 18, .bool false, .bool false, .bool false, .pointer none, .int .i64 0, .pointer none, .int .i64 0, .int .i64 0, .pointer none, .slice none 0 0, .int .i64 0, .int .i64 0, .bool false, .bool false, .bool false, .pointer none, .pointer none, .bool false, .bool false, .int .i64 1, undef, undef, undef, undef, undef, undef, undef, undef, undef, undef, undef, undef, undef, undef, undef, undef, undef, undef, undef, undef, undef, undef, undef, undef, undef, undef, undef, undef], []⟩ (by kernel_rfl) ?_
  refine g_op (by kernel_rfl) (op_load _ (.pointer (some ⟨b1, 0, none⟩)) rfl rfl (by kernel_rfl) (k2.cell (i := 1) rfl) ?_)
  refine g_pure 1 ⟨#[.int .i64 f, .int .i64 kind, .slice a n c, undef, undef, undef, .bool false, .pointer none, .pointer (some ⟨b1, 0, none⟩), undef, .pointer (some ⟨b1, 0, none⟩), .int .i64 0, .iface 36 (.int .i64 18), .int .i64 0, .iface 36 (.int .i64 18), undef, undef, undef, undef, .pointer none, .slice (some ⟨b2, 0, none⟩) 2 2, .int .i64 2, .int .i64 1, .bool true, .pointer (some ⟨b2, 1, none⟩), .pointer (some ⟨b1, 0, none⟩), .tuple #[.int .i64 0, .iface 36 (.int .i64 18)], .pointer none, .tuple #[.int .i64 0, .iface 36 (.int .i64 18)], .int .i64 0, .iface 36 (.int .i64 18), .tuple #[.int .i64 0, .iface 36 (.int .i64 18)], .pointer none, .int .i64 kind, .slice a n c, .tuple #[.int .i64 0, .iface 36 (.int .i64 18)], .int .i64 0, .iface 36 (.int .i64 18), .int .i64 0, .bool false, .bool false, .iface 36 (.int .i64 18), .int .i64 18, .bool false, .bool false, .bool false, .int .i64 0, .bool false, .bool false, .bool false, .iface 36 (.int .i64 18), .int .i64 18, .bool false, .bool false, .bool false, .pointer none, .int .i64 0, .pointer none, .int .i64 0, .int .i64 0, .pointer none, .slice none 0 0, .int .i64 0, .int .i64 0, .bool false, .bool false, .bool false, .pointer none, .pointer none, .bool false, .bool false, .int .i64 1, undef, undef, undef, undef, undef, undef, undef, undef, undef, undef, undef, undef, undef, undef, undef, undef, undef, undef, undef, undef, undef, undef, undef, undef, undef, undef, undef, undef], []⟩ (by kernel_rfl) ?_
  refine wpList_nil ?_
  refine wp_seq ?_
  refine wp_region_lit ?_
  refine g_pure 1 ⟨#[.int .i64 f, .int .i64 kind, .slice a n c, undef, undef, undef, .bool false, .pointer none, .pointer (some ⟨b1, 0, none⟩), undef, .pointer (some ⟨b1, 0, none⟩), .int .i64 0, .iface 36 (.int .i64 18), .int .i64 0, .iface 36 (.int .i64 18), undef, undef, undef, undef, .pointer none, .slice (some ⟨b2, 0, none⟩) 2 2, .int .i64 2, .int .i64 1, .bool true, .pointer (some ⟨b2, 1, none⟩), .pointer (some ⟨b1, 0, none⟩), .tuple #[.int .i64 0, .iface 36 (.int .i64 18)], .pointer (some ⟨b1, 0, none⟩), .tuple #[.int .i64 0, .iface 36 (.int .i64 18)], .int .i64 0, .iface 36 (.int .i64 18), .tuple #[.int .i64 0, .iface 36 (.int .i64 18)], .pointer none, .int .i64 kind, .slice a n c, .tuple #[.int .i64 0, .iface 36 (.int .i64 18)], .int .i64 0, .iface 36 (.int .i64 18), .int .i64 0, .bool false, .bool false, .iface 36 (.int .i64 18), .int .i64 18, .bool false, .bool false, .bool false, .int .i64 0, .bool false, .bool false, .bool false, .iface 36 (.int .i64 18), .int .i64 18, .bool false, .bool false, .bool false, .pointer none, .int .i64 0, .pointer none, .int .i64 0, .int .i64 0, .pointer none, .slice none 0 0, .int .i64 0, .int .i64 0, .bool false, .bool false, .bool false, .pointer none, .pointer none, .bool false, .bool false, .int .i64 1, undef, undef, undef, undef, undef, undef, undef, undef, undef, undef, undef, undef, undef, undef, undef, undef, undef, undef, undef, undef, undef, undef, undef, undef, undef, undef, undef, undef], []⟩ (by kernel_rfl) ?_
  refine g_op (by kernel_rfl) (op_call 4 #[.pointer (some ⟨b1, 0, none⟩)] rfl rfl (fun _ _ => by kernel_rfl) (by kernel_rfl) ((allocN_Next_zero b1 _ k1).mono ?_))
  rintro e W11 ⟨rfl, hb11⟩
  refine ⟨_, rfl, ?_⟩
  replace hB := Bl.next hB hb11
  replace k1 := k1.below hb11
  replace k2 := k2.below hb11
  refine g_pure 5 ⟨#[.int .i64 f, .int .i64 kind, .slice a n c, undef, undef, undef, .bool false, .pointer none, .pointer (some ⟨b1, 0, none⟩), undef, .pointer (some ⟨b1, 0, none⟩), .int .i64 0, .iface 36 (.int .i64 18), .int .i64 0, .iface 36 (.int .i64 18), undef, undef, undef, undef, .pointer none, .slice (some ⟨b2, 0, none⟩) 2 2, .int .i64 2, .int .i64 1, .bool true, .pointer (some ⟨b2, 1, none⟩), .pointer (some ⟨b1, 0, none⟩), .tuple #[.int .i64 0, .iface 36 (.int .i64 18)], .pointer (some ⟨b1, 0, none⟩), .tuple #[.int .i64 0, .iface 36 (.int .i64 18)], .int .i64 0, .iface 36 (.int .i64 18), .tuple #[.int .i64 0, .iface 36 (.int .i64 18)], .pointer none, .int .i64 kind, .slice a n c, .tuple #[.int .i64 0, .iface 36 (.int .i64 18)], .int .i64 0, .iface 36 (.int .i64 18), .int .i64 0, .bool false, .bool false, .iface 36 (.int .i64 18), .int .i64 18, .bool false, .bool false, .bool false, .int .i64 0, .bool false, .bool false, .bool false, .iface 36 (.int .i64 18), .int .i64 18, .bool false, .bool false, .bool false, .pointer none, .int .i64 0, .pointer none, .int .i64 0, .int .i64 0, .pointer none, .slice none 0 0, .int .i64 0, .int .i64 0, .bool false, .bool false, .bool false, .pointer none, .pointer none, .bool false, .bool false, .int .i64 1, undef, undef, undef, undef, undef, undef, undef, undef, undef, undef, undef, undef, undef, undef, undef, undef, undef, undef, undef, undef, undef, undef, undef, undef, undef, undef, undef, undef], []⟩ (by kernel_rfl) ?_
  refine wpList_nil ?_
  refine wp_seq ?_
  refine wp_region_lit ?_
  refine g_pure 3 ⟨#[.int .i64 f, .int .i64 kind, .slice a n c, undef, undef, undef, .bool false, .pointer none, .pointer (some ⟨b1, 0, none⟩), undef, .pointer (some ⟨b1, 0, none⟩), .int .i64 0, .iface 36 (.int .i64 18), .int .i64 0, .iface 36 (.int .i64 18), undef, undef, undef, undef, .pointer none, .slice (some ⟨b2, 0, none⟩) 2 2, .int .i64 2, .int .i64 1, .bool true, .pointer (some ⟨b2, 1, none⟩), .pointer (some ⟨b1, 0, none⟩), .tuple #[.int .i64 0, .iface 36 (.int .i64 18)], .pointer (some ⟨b1, 0, none⟩), .tuple #[.int .i64 0, .iface 36 (.int .i64 18)], .int .i64 0, .iface 36 (.int .i64 18), .tuple #[.int .i64 0, .iface 36 (.int .i64 18)], .pointer (some ⟨b1, 0, none⟩), .int .i64 kind, .slice a n c, .tuple #[.int .i64 0, .iface 36 (.int .i64 18)], .int .i64 0, .iface 36 (.int .i64 18), .int .i64 0, .bool false, .bool false, .iface 36 (.int .i64 18), .int .i64 18, .bool false, .bool false, .bool false, .int .i64 0, .bool false, .bool false, .bool false, .iface 36 (.int .i64 18), .int .i64 18, .bool false, .bool false, .bool false, .pointer none, .int .i64 0, .pointer none, .int .i64 0, .int .i64 0, .pointer none, .slice none 0 0, .int .i64 0, .int .i64 0, .bool false, .bool false, .bool false, .pointer none, .pointer none, .bool false, .bool false, .int .i64 1, undef, undef, undef, undef, undef, undef, undef, undef, undef, undef, undef, undef, undef, undef, undef, undef, undef, undef, undef, undef, undef, undef, undef, undef, undef, undef, undef, undef], []⟩ (by kernel_rfl) ?_
  refine g_op (by kernel_rfl) (op_call 5 #[.pointer (some ⟨b1, 0, none⟩), .int .i64 kind, .slice a n c] rfl rfl (fun _ _ => by kernel_rfl) (by kernel_rfl) ((allocN_Lay_zero _ _ b1 _ k1).mono ?_))
  rintro e W12 ⟨rfl, hb12⟩
  refine ⟨_, rfl, ?_⟩
  replace hB := Bl.next hB hb12
  replace k1 := k1.below hb12
  replace k2 := k2.below hb12
  refine g_pure 5 ⟨#[.int .i64 f, .int .i64 kind, .slice a n c, undef, undef, undef, .bool false, .pointer none, .pointer (some ⟨b1, 0, none⟩), undef, .pointer (some ⟨b1, 0, none⟩), .int .i64 0, .iface 36 (.int .i64 18), .int .i64 0, .iface 36 (.int .i64 18), undef, undef, undef, undef, .pointer none, .slice (some ⟨b2, 0, none⟩) 2 2, .int .i64 2, .int .i64 1, .bool true, .pointer (some ⟨b2, 1, none⟩), .pointer (some ⟨b1, 0, none⟩), .tuple #[.int .i64 0, .iface 36 (.int .i64 18)], .pointer (some ⟨b1, 0, none⟩), .tuple #[.int .i64 0, .iface 36 (.int .i64 18)], .int .i64 0, .iface 36 (.int .i64 18), .tuple #[.int .i64 0, .iface 36 (.int .i64 18)], .pointer (some ⟨b1, 0, none⟩), .int .i64 kind, .slice a n c, .tuple #[.int .i64 0, .iface 36 (.int .i64 18)], .int .i64 0, .iface 36 (.int .i64 18), .int .i64 0, .bool false, .bool false, .iface 36 (.int .i64 18), .int .i64 18, .bool false, .bool false, .bool false, .int .i64 0, .bool false, .bool false, .bool false, .iface 36 (.int .i64 18), .int .i64 18, .bool false, .bool false, .bool false, .pointer none, .int .i64 0, .pointer none, .int .i64 0, .int .i64 0, .pointer none, .slice none 0 0, .int .i64 0, .int .i64 0, .bool false, .bool false, .bool false, .pointer none, .pointer none, .bool false, .bool false, .int .i64 1, undef, undef, undef, undef, undef, undef, undef, undef, undef, undef, undef, undef, undef, undef, undef, undef, undef, undef, undef, undef, undef, undef, undef, undef, undef, undef, undef, undef], []⟩ (by kernel_rfl) ?_
  refine wpList_nil ?_
  refine wp_seq ?_
  refine wp_region_lit ?_
  refine g_pure 4 ⟨#[.int .i64 f, .int .i64 kind, .slice a n c, undef, undef, undef, .bool false, .pointer none, .pointer (some ⟨b1, 0, none⟩), undef, .pointer (some ⟨b1, 0, none⟩), .int .i64 0, .iface 36 (.int .i64 18), .int .i64 0, .iface 36 (.int .i64 18), undef, undef, undef, undef, .pointer none, .slice (some ⟨b2, 0, none⟩) 2 2, .int .i64 2, .int .i64 1, .bool true, .pointer (some ⟨b2, 1, none⟩), .pointer (some ⟨b1, 0, none⟩), .tuple #[.int .i64 0, .iface 36 (.int .i64 18)], .pointer (some ⟨b1, 0, none⟩), .tuple #[.int .i64 0, .iface 36 (.int .i64 18)], .int .i64 0, .iface 36 (.int .i64 18), .tuple #[.int .i64 0, .iface 36 (.int .i64 18)], .pointer (some ⟨b1, 0, none⟩), .int .i64 kind, .slice a n c, .tuple #[.int .i64 0, .iface 36 (.int .i64 18)], .int .i64 0, .iface 36 (.int .i64 18), .int .i64 0, .bool false, .bool false, .iface 36 (.int .i64 18), .int .i64 18, .bool false, .bool false, .bool false, .int .i64 0, .bool false, .bool false, .bool false, .iface 36 (.int .i64 18), .int .i64 18, .bool false, .bool false, .bool false, .pointer none, .int .i64 0, .pointer none, .int .i64 0, .int .i64 0, .pointer none, .slice none 0 0, .int .i64 0, .int .i64 0, .bool false, .bool false, .bool false, .pointer none, .pointer none, .bool false, .bool false, .int .i64 1, undef, undef, undef, undef, undef, undef, undef, undef, undef, undef, undef, undef, undef, undef, undef, undef, undef, undef, undef, undef, undef, undef, undef, undef, undef, undef, undef, undef], []⟩ (by kernel_rfl) ?_
  refine g_op (by kernel_rfl) (op_call 6 #[.iface 36 (.int .i64 18)] rfl rfl (fun _ _ => by kernel_rfl) (by kernel_rfl) ((fault_Code (some 18) [] _ _ (hg.below hB) rfl).mono ?_))
  rintro e W13 ⟨rfl, hb13⟩
  refine ⟨_, rfl, ?_⟩
  replace hB := Bl.next hB hb13
  replace k1 := k1.below hb13
  replace k2 := k2.below hb13
  refine g_pure 8 ⟨#[.int .i64 f, .int .i64 kind, .slice a n c, undef, undef, undef, .bool false, .pointer none, .pointer (some ⟨b1, 0, none⟩), undef, .pointer (some ⟨b1, 0, none⟩), .int .i64 0, .iface 36 (.int .i64 18), .int .i64 0, .iface 36 (.int .i64 18), undef, undef, undef, undef, .pointer none, .slice (some ⟨b2, 0, none⟩) 2 2, .int .i64 2, .int .i64 1, .bool true, .pointer (some ⟨b2, 1, none⟩), .pointer (some ⟨b1, 0, none⟩), .tuple #[.int .i64 0, .iface 36 (.int .i64 18)], .pointer (some ⟨b1, 0, none⟩), .tuple #[.int .i64 0, .iface 36 (.int .i64 18)], .int .i64 0, .iface 36 (.int .i64 18), .tuple #[.int .i64 0, .iface 36 (.int .i64 18)], .pointer (some ⟨b1, 0, none⟩), .int .i64 kind, .slice a n c, .tuple #[.int .i64 0, .iface 36 (.int .i64 18)], .int .i64 0, .iface 36 (.int .i64 18), .int .i64 0, .bool false, .bool false, .iface 36 (.int .i64 18), .int .i64 18, .bool false, .bool false, .bool false, .int .i64 0, .bool false, .bool false, .bool false, .iface 36 (.int .i64 18), .int .i64 18, .bool false, .bool false, .bool false, .pointer none, .int .i64 0, .pointer none, .int .i64 0, .int .i64 0, .pointer none, .slice none 0 0, .int .i64 0, .int .i64 0, .bool false, .bool false, .bool false, .pointer none, .pointer none, .bool false, .bool false, .int .i64 1, undef, undef, undef, undef, undef, undef, undef, undef, undef, undef, undef, undef, undef, undef, undef, undef, undef, undef, undef, undef, undef, undef, undef, undef, undef, undef, undef, undef], []⟩ (by kernel_rfl) ?_
  refine g_op (by kernel_rfl) (op_call 6 #[.iface 36 (.int .i64 18)] rfl rfl (fun _ _ => by kernel_rfl) (by kernel_rfl) ((fault_Code (some 18) [] _ _ (hg.below hB) rfl).mono ?_))
  rintro e W14 ⟨rfl, hb14⟩
  refine ⟨_, rfl, ?_⟩
  replace hB := Bl.next hB hb14
  replace k1 := k1.below hb14
  replace k2 := k2.below hb14
  refine g_pure 4 ⟨#[.int .i64 f, .int .i64 kind, .slice a n c, undef, undef, undef, .bool false, .pointer none, .pointer (some ⟨b1, 0, none⟩), undef, .pointer (some ⟨b1, 0, none⟩), .int .i64 0, .iface 36 (.int .i64 18), .int .i64 0, .iface 36 (.int .i64 18), undef, undef, undef, undef, .pointer none, .slice (some ⟨b2, 0, none⟩) 2 2, .int .i64 2, .int .i64 1, .bool true, .pointer (some ⟨b2, 1, none⟩), .pointer (some ⟨b1, 0, none⟩), .tuple #[.int .i64 0, .iface 36 (.int .i64 18)], .pointer (some ⟨b1, 0, none⟩), .tuple #[.int .i64 0, .iface 36 (.int .i64 18)], .int .i64 0, .iface 36 (.int .i64 18), .tuple #[.int .i64 0, .iface 36 (.int .i64 18)], .pointer (some ⟨b1, 0, none⟩), .int .i64 kind, .slice a n c, .tuple #[.int .i64 0, .iface 36 (.int .i64 18)], .int .i64 0, .iface 36 (.int .i64 18), .int .i64 0, .bool false, .bool false, .iface 36 (.int .i64 18), .int .i64 18, .bool false, .bool false, .bool false, .int .i64 0, .bool false, .bool false, .bool false, .iface 36 (.int .i64 18), .int .i64 18, .bool false, .bool false, .bool false, .pointer (some ⟨b1, 0, none⟩), .int .i64 0, .pointer none, .int .i64 0, .int .i64 0, .pointer none, .slice none 0 0, .int .i64 0, .int .i64 0, .bool false, .bool false, .bool false, .pointer none, .pointer none, .bool false, .bool false, .int .i64 1, undef, undef, undef, undef, undef, undef, undef, undef, undef, undef, undef, undef, undef, undef, undef, undef, undef, undef, undef, undef, undef, undef, undef, undef, undef, undef, undef, undef], []⟩ (by kernel_rfl) ?_
  refine g_op (by kernel_rfl) (op_call 7 #[.pointer (some ⟨b1, 0, none⟩)] rfl rfl (fun _ _ => by kernel_rfl) (by kernel_rfl) ((allocN_Left_zero b1 _ k1).mono ?_))
  rintro e W15 ⟨rfl, hb15⟩
  refine ⟨_, rfl, ?_⟩
  replace hB := Bl.next hB hb15
  replace k1 := k1.below hb15
  replace k2 := k2.below hb15
  refine g_pure 1 ⟨#[.int .i64 f, .int .i64 kind, .slice a n c, undef, undef, undef, .bool false, .pointer none, .pointer (some ⟨b1, 0, none⟩), undef, .pointer (some ⟨b1, 0, none⟩), .int .i64 0, .iface 36 (.int .i64 18), .int .i64 0, .iface 36 (.int .i64 18), undef, undef, undef, undef, .pointer none, .slice (some ⟨b2, 0, none⟩) 2 2, .int .i64 2, .int .i64 1, .bool true, .pointer (some ⟨b2, 1, none⟩), .pointer (some ⟨b1, 0, none⟩), .tuple #[.int .i64 0, .iface 36 (.int .i64 18)], .pointer (some ⟨b1, 0, none⟩), .tuple #[.int .i64 0, .iface 36 (.int .i64 18)], .int .i64 0, .iface 36 (.int .i64 18), .tuple #[.int .i64 0, .iface 36 (.int .i64 18)], .pointer (some ⟨b1, 0, none⟩), .int .i64 kind, .slice a n c, .tuple #[.int .i64 0, .iface 36 (.int .i64 18)], .int .i64 0, .iface 36 (.int .i64 18), .int .i64 0, .bool false, .bool false, .iface 36 (.int .i64 18), .int .i64 18, .bool false, .bool false, .bool false, .int .i64 0, .bool false, .bool false, .bool false, .iface 36 (.int .i64 18), .int .i64 18, .bool false, .bool false, .bool false, .pointer (some ⟨b1, 0, none⟩), .int .i64 0, .pointer (some ⟨b1, 0, none⟩), .int .i64 0, .int .i64 0, .pointer none, .slice none 0 0, .int .i64 0, .int .i64 0, .bool false, .bool false, .bool false, .pointer none, .pointer none, .bool false, .bool false, .int .i64 1, undef, undef, undef, undef, undef, undef, undef, undef, undef, undef, undef, undef, undef, undef, undef, undef, undef, undef, undef, undef, undef, undef, undef, undef, undef, undef, undef, undef], []⟩ (by kernel_rfl) ?_
  refine g_op (by kernel_rfl) (op_call 8 #[.pointer (some ⟨b1, 0, none⟩)] rfl rfl (fun _ _ => by kernel_rfl) (by kernel_rfl) ((allocN_Used_zero b1 _ k1).mono ?_))
  rintro e W16 ⟨rfl, hb16⟩
  refine ⟨_, rfl, ?_⟩
  replace hB := Bl.next hB hb16
  replace k1 := k1.below hb16
  replace k2 := k2.below hb16
  refine g_pure 2 ⟨#[.int .i64 f, .int .i64 kind, .slice a n c, undef, undef, undef, .bool false, .pointer none, .pointer (some ⟨b1, 0, none⟩), undef, .pointer (some ⟨b1, 0, none⟩), .int .i64 0, .iface 36 (.int .i64 18), .int .i64 0, .iface 36 (.int .i64 18), undef, undef, undef, undef, .pointer none, .slice (some ⟨b2, 0, none⟩) 2 2, .int .i64 2, .int .i64 1, .bool true, .pointer (some ⟨b2, 1, none⟩), .pointer (some ⟨b1, 0, none⟩), .tuple #[.int .i64 0, .iface 36 (.int .i64 18)], .pointer (some ⟨b1, 0, none⟩), .tuple #[.int .i64 0, .iface 36 (.int .i64 18)], .int .i64 0, .iface 36 (.int .i64 18), .tuple #[.int .i64 0, .iface 36 (.int .i64 18)], .pointer (some ⟨b1, 0, none⟩), .int .i64 kind, .slice a n c, .tuple #[.int .i64 0, .iface 36 (.int .i64 18)], .int .i64 0, .iface 36 (.int .i64 18), .int .i64 0, .bool false, .bool false, .iface 36 (.int .i64 18), .int .i64 18, .bool false, .bool false, .bool false, .int .i64 0, .bool false, .bool false, .bool false, .iface 36 (.int .i64 18), .int .i64 18, .bool false, .bool false, .bool false, .pointer (some ⟨b1, 0, none⟩), .int .i64 0, .pointer (some ⟨b1, 0, none⟩), .int .i64 0, .int .i64 0, .pointer (some ⟨b1, 0, none⟩), .slice none 0 0, .int .i64 0, .int .i64 0, .bool false, .bool false, .bool false, .pointer none, .pointer none, .bool false, .bool false, .int .i64 1, undef, undef, undef, undef, undef, undef, undef, undef, undef, undef, undef, undef, undef, undef, undef, undef, undef, undef, undef, undef, undef, undef, undef, undef, undef, undef, undef, undef], []⟩ (by kernel_rfl) ?_
  refine g_op (by kernel_rfl) (op_call 9 #[.pointer (some ⟨b1, 0, none⟩), .int .i64 3] rfl rfl (fun _ _ => by kernel_rfl) (by kernel_rfl) ((allocN_Ahead_zero b1 _ k1).mono ?_))
  rintro e W17 ⟨rfl, hb17⟩
  refine ⟨_, rfl, ?_⟩
  replace hB := Bl.next hB hb17
  replace k1 := k1.below hb17
  replace k2 := k2.below hb17
  refine g_pure 6 ⟨#[.int .i64 f, .int .i64 kind, .slice a n c, undef, undef, undef, .bool false, .pointer none, .pointer (some ⟨b1, 0, none⟩), undef, .pointer (some ⟨b1, 0, none⟩), .int .i64 0, .iface 36 (.int .i64 18), .int .i64 0, .iface 36 (.int .i64 18), undef, undef, undef, undef, .pointer none, .slice (some ⟨b2, 0, none⟩) 2 2, .int .i64 2, .int .i64 1, .bool true, .pointer (some ⟨b2, 1, none⟩), .pointer (some ⟨b1, 0, none⟩), .tuple #[.int .i64 0, .iface 36 (.int .i64 18)], .pointer (some ⟨b1, 0, none⟩), .tuple #[.int .i64 0, .iface 36 (.int .i64 18)], .int .i64 0, .iface 36 (.int .i64 18), .tuple #[.int .i64 0, .iface 36 (.int .i64 18)], .pointer (some ⟨b1, 0, none⟩), .int .i64 kind, .slice a n c, .tuple #[.int .i64 0, .iface 36 (.int .i64 18)], .int .i64 0, .iface 36 (.int .i64 18), .int .i64 0, .bool false, .bool false, .iface 36 (.int .i64 18), .int .i64 18, .bool false, .bool false, .bool false, .int .i64 0, .bool false, .bool false, .bool false, .iface 36 (.int .i64 18), .int .i64 18, .bool false, .bool false, .bool false, .pointer (some ⟨b1, 0, none⟩), .int .i64 0, .pointer (some ⟨b1, 0, none⟩), .int .i64 0, .int .i64 0, .pointer (some ⟨b1, 0, none⟩), .slice none 0 0, .int .i64 0, .int .i64 0, .bool false, .bool false, .bool false, .pointer (some ⟨b1, 0, none⟩), .pointer none, .bool false, .bool false, .int .i64 1, undef, undef, undef, undef, undef, undef, undef, undef, undef, undef, undef, undef, undef, undef, undef, undef, undef, undef, undef, undef, undef, undef, undef, undef, undef, undef, undef, undef], []⟩ (by kernel_rfl) ?_
  refine g_op (by kernel_rfl) (op_call 10 #[.pointer (some ⟨b1, 0, none⟩)] rfl rfl (fun _ _ => by kernel_rfl) (by kernel_rfl) ((allocN_Image_zero b1 _ k1).mono ?_))
  rintro e W18 ⟨rfl, hb18⟩
  refine ⟨_, rfl, ?_⟩
  replace hB := Bl.next hB hb18
  replace k1 := k1.below hb18
  replace k2 := k2.below hb18
  refine g_pure 2 ⟨#[.int .i64 f, .int .i64 kind, .slice a n c, undef, undef, undef, .bool false, .pointer none, .pointer (some ⟨b1, 0, none⟩), undef, .pointer (some ⟨b1, 0, none⟩), .int .i64 0, .iface 36 (.int .i64 18), .int .i64 0, .iface 36 (.int .i64 18), undef, undef, undef, undef, .pointer none, .slice (some ⟨b2, 0, none⟩) 2 2, .int .i64 2, .int .i64 1, .bool true, .pointer (some ⟨b2, 1, none⟩), .pointer (some ⟨b1, 0, none⟩), .tuple #[.int .i64 0, .iface 36 (.int .i64 18)], .pointer (some ⟨b1, 0, none⟩), .tuple #[.int .i64 0, .iface 36 (.int .i64 18)], .int .i64 0, .iface 36 (.int .i64 18), .tuple #[.int .i64 0, .iface 36 (.int .i64 18)], .pointer (some ⟨b1, 0, none⟩), .int .i64 kind, .slice a n c, .tuple #[.int .i64 0, .iface 36 (.int .i64 18)], .int .i64 0, .iface 36 (.int .i64 18), .int .i64 0, .bool false, .bool false, .iface 36 (.int .i64 18), .int .i64 18, .bool false, .bool false, .bool false, .int .i64 0, .bool false, .bool false, .bool false, .iface 36 (.int .i64 18), .int .i64 18, .bool false, .bool false, .bool false, .pointer (some ⟨b1, 0, none⟩), .int .i64 0, .pointer (some ⟨b1, 0, none⟩), .int .i64 0, .int .i64 0, .pointer (some ⟨b1, 0, none⟩), .slice none 0 0, .int .i64 0, .int .i64 0, .bool false, .bool false, .bool false, .pointer (some ⟨b1, 0, none⟩), .pointer none, .bool false, .bool false, .int .i64 1, undef, undef, undef, undef, undef, undef, undef, undef, undef, undef, undef, undef, undef, undef, undef, undef, undef, undef, undef, undef, undef, undef, undef, undef, undef, undef, undef, undef], []⟩ (by kernel_rfl) ?_
  refine wpList_nil ?_
  refine wp_cond_false rfl ?_
  refine wp_skip ?_
  refine wp_region_lit ?_
  refine g_pure 2 ⟨#[.int .i64 f, .int .i64 kind, .slice a n c, undef, undef, undef, .bool false, .pointer none, .pointer (some ⟨b1, 0, none⟩), undef, .pointer (some ⟨b1, 0, none⟩), .int .i64 0, .iface 36 (.int .i64 18), .int .i64 0, .iface 36 (.int .i64 18), undef, undef, undef, undef, .pointer none, .slice (some ⟨b2, 0, none⟩) 2 2, .int .i64 2, .int .i64 2, .bool true, .pointer (some ⟨b2, 1, none⟩), .pointer (some ⟨b1, 0, none⟩), .tuple #[.int .i64 0, .iface 36 (.int .i64 18)], .pointer (some ⟨b1, 0, none⟩), .tuple #[.int .i64 0, .iface 36 (.int .i64 18)], .int .i64 0, .iface 36 (.int .i64 18), .tuple #[.int .i64 0, .iface 36 (.int .i64 18)], .pointer (some ⟨b1, 0, none⟩), .int .i64 kind, .slice a n c, .tuple #[.int .i64 0, .iface 36 (.int .i64 18)], .int .i64 0, .iface 36 (.int .i64 18), .int .i64 0, .bool false, .bool false, .iface 36 (.int .i64 18), .int .i64 18, .bool false, .bool false, .bool false, .int .i64 0, .bool false, .bool false, .bool false, .iface 36 (.int .i64 18), .int .i64 18, .bool false, .bool false, .bool false, .pointer (some ⟨b1, 0, none⟩), .int .i64 0, .pointer (some ⟨b1, 0, none⟩), .int .i64 0, .int .i64 0, .pointer (some ⟨b1, 0, none⟩), .slice none 0 0, .int .i64 0, .int .i64 0, .bool false, .bool false, .bool false, .pointer (some ⟨b1, 0, none⟩), .pointer none, .bool false, .bool false, .int .i64 2, undef, undef, undef, undef, undef, undef, undef, undef, undef, undef, undef, undef, undef, undef, undef, undef, undef, undef, undef, undef, undef, undef, undef, undef, undef, undef, undef, undef], []⟩ (by kernel_rfl) ?_
  refine wpList_nil ?_
  refine g_round ?_
  refine wp_seq ?_
  refine wp_region_lit ?_
  refine g_pure 1 ⟨#[.int .i64 f, .int .i64 kind, .slice a n c, undef, undef, undef, .bool false, .pointer none, .pointer (some ⟨b1, 0, none⟩), undef, .pointer (some ⟨b1, 0, none⟩), .int .i64 0, .iface 36 (.int .i64 18), .int .i64 0, .iface 36 (.int .i64 18), undef, undef, undef, undef, .pointer none, .slice (some ⟨b2, 0, none⟩) 2 2, .int .i64 2, .int .i64 2, .bool false, .pointer (some ⟨b2, 1, none⟩), .pointer (some ⟨b1, 0, none⟩), .tuple #[.int .i64 0, .iface 36 (.int .i64 18)], .pointer (some ⟨b1, 0, none⟩), .tuple #[.int .i64 0, .iface 36 (.int .i64 18)], .int .i64 0, .iface 36 (.int .i64 18), .tuple #[.int .i64 0, .iface 36 (.int .i64 18)], .pointer (some ⟨b1, 0, none⟩), .int .i64 kind, .slice a n c, .tuple #[.int .i64 0, .iface 36 (.int .i64 18)], .int .i64 0, .iface 36 (.int .i64 18), .int .i64 0, .bool false, .bool false, .iface 36 (.int .i64 18), .int .i64 18, .bool false, .bool false, .bool false, .int .i64 0, .bool false, .bool false, .bool false, .iface 36 (.int .i64 18), .int .i64 18, .bool false, .bool false, .bool false, .pointer (some ⟨b1, 0, none⟩), .int .i64 0, .pointer (some ⟨b1, 0, none⟩), .int .i64 0, .int .i64 0, .pointer (some ⟨b1, 0, none⟩), .slice none 0 0, .int .i64 0, .int .i64 0, .bool false, .bool false, .bool false, .pointer (some ⟨b1, 0, none⟩), .pointer none, .bool false, .bool false, .int .i64 2, undef, undef, undef, undef, undef, undef, undef, undef, undef, undef, undef, undef, undef, undef, undef, undef, undef, undef, undef, undef, undef, undef, undef, undef, undef, undef, undef, undef], []⟩ (by kernel_rfl) ?_
  refine wpList_nil ?_
  refine wp_seq ?_
  refine wp_cond_false rfl ?_
  refine wp_exit ?_
  refine then_exit ?_
  refine then_exit ?_
  refine inBlock_hit ?_
  refine wp_seq ?_
  refine wp_region_lit ?_
  refine g_pure 1 ⟨#[.int .i64 f, .int .i64 kind, .slice a n c, undef, undef, undef, .bool false, .pointer none, .pointer (some ⟨b1, 0, none⟩), undef, .pointer (some ⟨b1, 0, none⟩), .int .i64 0, .iface 36 (.int .i64 18), .int .i64 0, .iface 36 (.int .i64 18), undef, undef, undef, undef, .pointer none, .slice (some ⟨b2, 0, none⟩) 2 2, .int .i64 2, .int .i64 2, .bool false, .pointer (some ⟨b2, 1, none⟩), .pointer (some ⟨b1, 0, none⟩), .tuple #[.int .i64 0, .iface 36 (.int .i64 18)], .pointer (some ⟨b1, 0, none⟩), .tuple #[.int .i64 0, .iface 36 (.int .i64 18)], .int .i64 0, .iface 36 (.int .i64 18), .tuple #[.int .i64 0, .iface 36 (.int .i64 18)], .pointer (some ⟨b1, 0, none⟩), .int .i64 kind, .slice a n c, .tuple #[.int .i64 0, .iface 36 (.int .i64 18)], .int .i64 0, .iface 36 (.int .i64 18), .int .i64 0, .bool false, .bool false, .iface 36 (.int .i64 18), .int .i64 18, .bool false, .bool false, .bool false, .int .i64 0, .bool false, .bool false, .bool false, .iface 36 (.int .i64 18), .int .i64 18, .bool false, .bool false, .bool false, .pointer (some ⟨b1, 0, none⟩), .int .i64 0, .pointer (some ⟨b1, 0, none⟩), .int .i64 0, .int .i64 0, .pointer (some ⟨b1, 0, none⟩), .slice none 0 0, .int .i64 0, .int .i64 0, .bool false, .bool false, .bool false, .pointer (some ⟨b1, 0, none⟩), .pointer none, .bool false, .bool false, .int .i64 2, undef, .int .i64 f, undef, undef, undef, undef, undef, undef, undef, undef, undef, undef, undef, undef, undef, undef, undef, undef, undef, undef, undef, undef, undef, undef, undef, undef, undef, undef], []⟩ (by kernel_rfl) ?_
  refine g_op (by kernel_rfl) (op_call 11 #[.pointer none, .int .i64 f] rfl rfl (fun _ _ => by kernel_rfl) (by kernel_rfl) ((allocN_New f _).mono ?_))
  rintro e W19 ⟨rfl, hb19⟩
  refine ⟨_, rfl, ?_⟩
  replace hB := Bl.next hB hb19
  replace k1 := k1.below hb19
  replace k2 := k2.below hb19
  refine g_pure 5 ⟨#[.int .i64 f, .int .i64 kind, .slice a n c, undef, undef, undef, .bool false, .pointer none, .pointer (some ⟨b1, 0, none⟩), undef, .pointer (some ⟨b1, 0, none⟩), .int .i64 0, .iface 36 (.int .i64 18), .int .i64 0, .iface 36 (.int .i64 18), .pointer none, .iface 36 (.int .i64 1), undef, undef, .pointer none, .slice (some ⟨b2, 0, none⟩) 2 2, .int .i64 2, .int .i64 2, .bool false, .pointer (some ⟨b2, 1, none⟩), .pointer (some ⟨b1, 0, none⟩), .tuple #[.int .i64 0, .iface 36 (.int .i64 18)], .pointer (some ⟨b1, 0, none⟩), .tuple #[.int .i64 0, .iface 36 (.int .i64 18)], .int .i64 0, .iface 36 (.int .i64 18), .tuple #[.int .i64 0, .iface 36 (.int .i64 18)], .pointer (some ⟨b1, 0, none⟩), .int .i64 kind, .slice a n c, .tuple #[.int .i64 0, .iface 36 (.int .i64 18)], .int .i64 0, .iface 36 (.int .i64 18), .int .i64 0, .bool false, .bool false, .iface 36 (.int .i64 18), .int .i64 18, .bool false, .bool false, .bool false, .int .i64 0, .bool false, .bool false, .bool false, .iface 36 (.int .i64 18), .int .i64 18, .bool false, .bool false, .bool false, .pointer (some ⟨b1, 0, none⟩), .int .i64 0, .pointer (some ⟨b1, 0, none⟩), .int .i64 0, .int .i64 0, .pointer (some ⟨b1, 0, none⟩), .slice none 0 0, .int .i64 0, .int .i64 0, .bool false, .bool false, .bool false, .pointer (some ⟨b1, 0, none⟩), .pointer none, .bool false, .bool false, .int .i64 2, .tuple #[.pointer none, .iface 36 (.int .i64 1)], .int .i64 f, .tuple #[.pointer none, .iface 36 (.int .i64 1)], .pointer none, .iface 36 (.int .i64 1), undef, undef, undef, undef, undef, undef, undef, undef, undef, undef, undef, undef, undef, undef, undef, undef, undef, undef, undef, undef, undef, undef, undef], []⟩ (by kernel_rfl) ?_
  refine wpList_nil ?_
  refine wp_seq ?_
  refine wp_region_lit ?_
  refine g_op (by kernel_rfl) (op_call 12 #[.pointer none, .slice none 0 0] rfl rfl (fun _ _ => by kernel_rfl) (by kernel_rfl) ((allocN_From _).mono ?_))
  rintro e W20 ⟨rfl, hb20⟩
  refine ⟨_, rfl, ?_⟩
  replace hB := Bl.next hB hb20
  replace k1 := k1.below hb20
  replace k2 := k2.below hb20
  refine g_pure 5 ⟨#[.int .i64 f, .int .i64 kind, .slice a n c, undef, undef, undef, .bool false, .pointer none, .pointer (some ⟨b1, 0, none⟩), undef, .pointer (some ⟨b1, 0, none⟩), .int .i64 0, .iface 36 (.int .i64 18), .int .i64 0, .iface 36 (.int .i64 18), .pointer none, .iface 36 (.int .i64 1), .pointer none, .iface 36 (.int .i64 1), .pointer none, .slice (some ⟨b2, 0, none⟩) 2 2, .int .i64 2, .int .i64 2, .bool false, .pointer (some ⟨b2, 1, none⟩), .pointer (some ⟨b1, 0, none⟩), .tuple #[.int .i64 0, .iface 36 (.int .i64 18)], .pointer (some ⟨b1, 0, none⟩), .tuple #[.int .i64 0, .iface 36 (.int .i64 18)], .int .i64 0, .iface 36 (.int .i64 18), .tuple #[.int .i64 0, .iface 36 (.int .i64 18)], .pointer (some ⟨b1, 0, none⟩), .int .i64 kind, .slice a n c, .tuple #[.int .i64 0, .iface 36 (.int .i64 18)], .int .i64 0, .iface 36 (.int .i64 18), .int .i64 0, .bool false, .bool false, .iface 36 (.int .i64 18), .int .i64 18, .bool false, .bool false, .bool false, .int .i64 0, .bool false, .bool false, .bool false, .iface 36 (.int .i64 18), .int .i64 18, .bool false, .bool false, .bool false, .pointer (some ⟨b1, 0, none⟩), .int .i64 0, .pointer (some ⟨b1, 0, none⟩), .int .i64 0, .int .i64 0, .pointer (some ⟨b1, 0, none⟩), .slice none 0 0, .int .i64 0, .int .i64 0, .bool false, .bool false, .bool false, .pointer (some ⟨b1, 0, none⟩), .pointer none, .bool false, .bool false, .int .i64 2, .tuple #[.pointer none, .iface 36 (.int .i64 1)], .int .i64 f, .tuple #[.pointer none, .iface 36 (.int .i64 1)], .pointer none, .iface 36 (.int .i64 1), .tuple #[.pointer none, .iface 36 (.int .i64 1)], .tuple #[.pointer none, .iface 36 (.int .i64 1)], .pointer none, .iface 36 (.int .i64 1), undef, undef, undef, undef, undef, undef, undef, undef, undef, undef, undef, undef, undef, undef, undef, undef, undef, undef, undef], []⟩ (by kernel_rfl) ?_
  refine wpList_nil ?_
  refine wp_seq ?_
  refine wp_region_lit ?_
  refine g_pure 4 ⟨#[.int .i64 f, .int .i64 kind, .slice a n c, undef, undef, undef, .bool false, .pointer none, .pointer (some ⟨b1, 0, none⟩), undef, .pointer (some ⟨b1, 0, none⟩), .int .i64 0, .iface 36 (.int .i64 18), .int .i64 0, .iface 36 (.int .i64 18), .pointer none, .iface 36 (.int .i64 1), .pointer none, .iface 36 (.int .i64 1), .pointer none, .slice (some ⟨b2, 0, none⟩) 2 2, .int .i64 2, .int .i64 2, .bool false, .pointer (some ⟨b2, 1, none⟩), .pointer (some ⟨b1, 0, none⟩), .tuple #[.int .i64 0, .iface 36 (.int .i64 18)], .pointer (some ⟨b1, 0, none⟩), .tuple #[.int .i64 0, .iface 36 (.int .i64 18)], .int .i64 0, .iface 36 (.int .i64 18), .tuple #[.int .i64 0, .iface 36 (.int .i64 18)], .pointer (some ⟨b1, 0, none⟩), .int .i64 kind, .slice a n c, .tuple #[.int .i64 0, .iface 36 (.int .i64 18)], .int .i64 0, .iface 36 (.int .i64 18), .int .i64 0, .bool false, .bool false, .iface 36 (.int .i64 18), .int .i64 18, .bool false, .bool false, .bool false, .int .i64 0, .bool false, .bool false, .bool false, .iface 36 (.int .i64 18), .int .i64 18, .bool false, .bool false, .bool false, .pointer (some ⟨b1, 0, none⟩), .int .i64 0, .pointer (some ⟨b1, 0, none⟩), .int .i64 0, .int .i64 0, .pointer (some ⟨b1, 0, none⟩), .slice none 0 0, .int .i64 0, .int .i64 0, .bool false, .bool false, .bool false, .pointer (some ⟨b1, 0, none⟩), .pointer none, .bool false, .bool false, .int .i64 2, .tuple #[.pointer none, .iface 36 (.int .i64 1)], .int .i64 f, .tuple #[.pointer none, .iface 36 (.int .i64 1)], .pointer none, .iface 36 (.int .i64 1), .tuple #[.pointer none, .iface 36 (.int .i64 1)], .tuple #[.pointer none, .iface 36 (.int .i64 1)], .pointer none, .iface 36 (.int .i64 1), .pointer none, .bool true, .bool true, .iface 36 (.int .i64 1), undef, undef, undef, undef, undef, undef, undef, undef, undef, undef, undef, undef, undef, undef, undef], []⟩ (by kernel_rfl) ?_
  refine g_op (by kernel_rfl) (op_call 6 #[.iface 36 (.int .i64 1)] rfl rfl (fun _ _ => by kernel_rfl) (by kernel_rfl) ((fault_Code (some 1) [] _ _ (hg.below hB) rfl).mono ?_))
  rintro e W21 ⟨rfl, hb21⟩
  refine ⟨_, rfl, ?_⟩
  replace hB := Bl.next hB hb21
  replace k1 := k1.below hb21
  replace k2 := k2.below hb21
  refine g_pure 8 ⟨#[.int .i64 f, .int .i64 kind, .slice a n c, undef, undef, undef, .bool false, .pointer none, .pointer (some ⟨b1, 0, none⟩), undef, .pointer (some ⟨b1, 0, none⟩), .int .i64 0, .iface 36 (.int .i64 18), .int .i64 0, .iface 36 (.int .i64 18), .pointer none, .iface 36 (.int .i64 1), .pointer none, .iface 36 (.int .i64 1), .pointer none, .slice (some ⟨b2, 0, none⟩) 2 2, .int .i64 2, .int .i64 2, .bool false, .pointer (some ⟨b2, 1, none⟩), .pointer (some ⟨b1, 0, none⟩), .tuple #[.int .i64 0, .iface 36 (.int .i64 18)], .pointer (some ⟨b1, 0, none⟩), .tuple #[.int .i64 0, .iface 36 (.int .i64 18)], .int .i64 0, .iface 36 (.int .i64 18), .tuple #[.int .i64 0, .iface 36 (.int .i64 18)], .pointer (some ⟨b1, 0, none⟩), .int .i64 kind, .slice a n c, .tuple #[.int .i64 0, .iface 36 (.int .i64 18)], .int .i64 0, .iface 36 (.int .i64 18), .int .i64 0, .bool false, .bool false, .iface 36 (.int .i64 18), .int .i64 18, .bool false, .bool false, .bool false, .int .i64 0, .bool false, .bool false, .bool false, .iface 36 (.int .i64 18), .int .i64 18, .bool false, .bool false, .bool false, .pointer (some ⟨b1, 0, none⟩), .int .i64 0, .pointer (some ⟨b1, 0, none⟩), .int .i64 0, .int .i64 0, .pointer (some ⟨b1, 0, none⟩), .slice none 0 0, .int .i64 0, .int .i64 0, .bool false, .bool false, .bool false, .pointer (some ⟨b1, 0, none⟩), .pointer none, .bool false, .bool false, .int .i64 2, .tuple #[.pointer none, .iface 36 (.int .i64 1)], .int .i64 f, .tuple #[.pointer none, .iface 36 (.int .i64 1)], .pointer none, .iface 36 (.int .i64 1), .tuple #[.pointer none, .iface 36 (.int .i64 1)], .tuple #[.pointer none, .iface 36 (.int .i64 1)], .pointer none, .iface 36 (.int .i64 1), .pointer none, .bool true, .bool true, .iface 36 (.int .i64 1), .int .i64 1, .bool true, .bool true, .bool true, .pointer none, .bool true, .bool true, .bool true, .iface 36 (.int .i64 1), undef, undef, undef, undef, undef, undef], []⟩ (by kernel_rfl) ?_
  refine g_op (by kernel_rfl) (op_call 6 #[.iface 36 (.int .i64 1)] rfl rfl (fun _ _ => by kernel_rfl) (by kernel_rfl) ((fault_Code (some 1) [] _ _ (hg.below hB) rfl).mono ?_))
  rintro e W22 ⟨rfl, hb22⟩
  refine ⟨_, rfl, ?_⟩
  replace hB := Bl.next hB hb22
  replace k1 := k1.below hb22
  replace k2 := k2.below hb22
  refine g_pure 3 ⟨#[.int .i64 f, .int .i64 kind, .slice a n c, undef, undef, undef, .bool false, .pointer none, .pointer (some ⟨b1, 0, none⟩), undef, .pointer (some ⟨b1, 0, none⟩), .int .i64 0, .iface 36 (.int .i64 18), .int .i64 0, .iface 36 (.int .i64 18), .pointer none, .iface 36 (.int .i64 1), .pointer none, .iface 36 (.int .i64 1), .pointer none, .slice (some ⟨b2, 0, none⟩) 2 2, .int .i64 2, .int .i64 2, .bool false, .pointer (some ⟨b2, 1, none⟩), .pointer (some ⟨b1, 0, none⟩), .tuple #[.int .i64 0, .iface 36 (.int .i64 18)], .pointer (some ⟨b1, 0, none⟩), .tuple #[.int .i64 0, .iface 36 (.int .i64 18)], .int .i64 0, .iface 36 (.int .i64 18), .tuple #[.int .i64 0, .iface 36 (.int .i64 18)], .pointer (some ⟨b1, 0, none⟩), .int .i64 kind, .slice a n c, .tuple #[.int .i64 0, .iface 36 (.int .i64 18)], .int .i64 0, .iface 36 (.int .i64 18), .int .i64 0, .bool false, .bool false, .iface 36 (.int .i64 18), .int .i64 18, .bool false, .bool false, .bool false, .int .i64 0, .bool false, .bool false, .bool false, .iface 36 (.int .i64 18), .int .i64 18, .bool false, .bool false, .bool false, .pointer (some ⟨b1, 0, none⟩), .int .i64 0, .pointer (some ⟨b1, 0, none⟩), .int .i64 0, .int .i64 0, .pointer (some ⟨b1, 0, none⟩), .slice none 0 0, .int .i64 0, .int .i64 0, .bool false, .bool false, .bool false, .pointer (some ⟨b1, 0, none⟩), .pointer none, .bool false, .bool false, .int .i64 2, .tuple #[.pointer none, .iface 36 (.int .i64 1)], .int .i64 f, .tuple #[.pointer none, .iface 36 (.int .i64 1)], .pointer none, .iface 36 (.int .i64 1), .tuple #[.pointer none, .iface 36 (.int .i64 1)], .tuple #[.pointer none, .iface 36 (.int .i64 1)], .pointer none, .iface 36 (.int .i64 1), .pointer none, .bool true, .bool true, .iface 36 (.int .i64 1), .int .i64 1, .bool true, .bool true, .bool true, .pointer none, .bool true, .bool true, .bool true, .iface 36 (.int .i64 1), .int .i64 1, .bool true, .bool true, .bool true, undef, undef], []⟩ (by kernel_rfl) ?_
  refine g_op (by kernel_rfl) (op_call 13 #[] rfl rfl (fun _ _ => by kernel_rfl) (by kernel_rfl) ((lives16 _).mono ?_))
  rintro e W23 ⟨rfl, hb23⟩
  refine ⟨_, rfl, ?_⟩
  replace hB := Bl.next hB hb23
  replace k1 := k1.below hb23
  replace k2 := k2.below hb23
  refine g_pure 2 ⟨#[.int .i64 f, .int .i64 kind, .slice a n c, undef, undef, undef, .bool true, .pointer none, .pointer (some ⟨b1, 0, none⟩), undef, .pointer (some ⟨b1, 0, none⟩), .int .i64 0, .iface 36 (.int .i64 18), .int .i64 0, .iface 36 (.int .i64 18), .pointer none, .iface 36 (.int .i64 1), .pointer none, .iface 36 (.int .i64 1), .pointer none, .slice (some ⟨b2, 0, none⟩) 2 2, .int .i64 2, .int .i64 2, .bool false, .pointer (some ⟨b2, 1, none⟩), .pointer (some ⟨b1, 0, none⟩), .tuple #[.int .i64 0, .iface 36 (.int .i64 18)], .pointer (some ⟨b1, 0, none⟩), .tuple #[.int .i64 0, .iface 36 (.int .i64 18)], .int .i64 0, .iface 36 (.int .i64 18), .tuple #[.int .i64 0, .iface 36 (.int .i64 18)], .pointer (some ⟨b1, 0, none⟩), .int .i64 kind, .slice a n c, .tuple #[.int .i64 0, .iface 36 (.int .i64 18)], .int .i64 0, .iface 36 (.int .i64 18), .int .i64 0, .bool false, .bool false, .iface 36 (.int .i64 18), .int .i64 18, .bool false, .bool false, .bool false, .int .i64 0, .bool false, .bool false, .bool false, .iface 36 (.int .i64 18), .int .i64 18, .bool false, .bool false, .bool false, .pointer (some ⟨b1, 0, none⟩), .int .i64 0, .pointer (some ⟨b1, 0, none⟩), .int .i64 0, .int .i64 0, .pointer (some ⟨b1, 0, none⟩), .slice none 0 0, .int .i64 0, .int .i64 0, .bool false, .bool false, .bool false, .pointer (some ⟨b1, 0, none⟩), .pointer none, .bool false, .bool false, .int .i64 2, .tuple #[.pointer none, .iface 36 (.int .i64 1)], .int .i64 f, .tuple #[.pointer none, .iface 36 (.int .i64 1)], .pointer none, .iface 36 (.int .i64 1), .tuple #[.pointer none, .iface 36 (.int .i64 1)], .tuple #[.pointer none, .iface 36 (.int .i64 1)], .pointer none, .iface 36 (.int .i64 1), .pointer none, .bool true, .bool true, .iface 36 (.int .i64 1), .int .i64 1, .bool true, .bool true, .bool true, .pointer none, .bool true, .bool true, .bool true, .iface 36 (.int .i64 1), .int .i64 1, .bool true, .bool true, .bool true, .bool true, .bool true], []⟩ (by kernel_rfl) ?_
  refine wpList_nil ?_
  refine wp_ret ?_
  show bodyPost _ _ _ .ret _ _
  exact g_ret (.bool true) rfl (by kernel_rfl) ⟨rfl, hB⟩
end Go.Proofs.YtcmbnkfkbdccoaaDoor

