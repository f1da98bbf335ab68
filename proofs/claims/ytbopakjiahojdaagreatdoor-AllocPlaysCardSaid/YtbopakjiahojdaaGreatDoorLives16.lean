/- strconv.Itoa at 14, and the lives of law 16. -/
import Derived.Test.YtbopakjiahojdaaGreatDoorAllocPl
import Derived.Test.YtbopakjiahojdaaGreatDoorErrText
import Derived.Test.YtbopakjiahojdaaGreatDoorDoor
namespace Go.Proofs.YtbopakjiahojdaaGreatDoor
open Go.RowKit Go.Extern.Stop Go.Stop Go.Extern
set_option linter.unusedVariables false
attribute [local irreducible] wpList wpAnyH Code.wp Oper.wp

set_option maxRecDepth 100000 in
set_option maxHeartbeats 1000000 in
theorem small_14 (w : World) :
    Calls Tryz.prog 156 #[.int .i64 14] w (Ret (.string ⟨#[49, 52]⟩) w) := by
  refine calls_of_wp Tryz.func156 rfl ?_
  refine g_fr ⟨#[.int .i64 14, undef, undef, undef, undef, undef, undef, undef, undef, undef, undef, undef, undef, undef, undef], []⟩ (by kernel_rfl) ?_
  refine wp_seq ?_
  refine wp_region_lit ?_
  refine g_pv 1 [(2, .string ⟨#[]⟩)] (by kernel_rfl) ?_
  refine wpList_nil ?_
  refine wp_seq ?_
  refine wp_seq ?_
  refine wp_region_lit ?_
  refine g_pv 2 [(3, .int .i64 14), (4, .bool false)] (by kernel_rfl) ?_
  refine wpList_nil ?_
  refine wp_cond_false (by kernel_rfl) ?_
  refine wp_skip ?_
  refine wp_seq ?_
  refine wp_region_lit ?_
  refine g_pv 7 [(9, .int .i64 14), (10, .int .i64 28), (11, .int .i64 14), (12, .int .i64 28), (13, .int .i64 30), (14, .string ⟨#[49, 52]⟩), (2, .string ⟨#[49, 52]⟩)] (by kernel_rfl) ?_
  refine wpList_nil ?_
  refine wp_ret ?_
  exact g_ret (.string ⟨#[49, 52]⟩) (by kernel_rfl) (by kernel_rfl) ⟨rfl, (Below.refl w.heap.size _)⟩
set_option maxRecDepth 100000 in
set_option maxHeartbeats 1000000 in
theorem FormatInt_14 (w : World) :
    Calls Tryz.prog 155 #[.int .i64 14, .int .i64 10] w (Ret (.string ⟨#[49, 52]⟩) w) := by
  refine calls_of_wp Tryz.func155 rfl ?_
  refine g_fr ⟨#[.int .i64 14, .int .i64 10, undef, undef, undef, undef, undef, undef, undef, undef, undef, undef, undef, undef, undef, undef, undef, undef, undef, undef, undef, undef, undef, undef, undef, undef, undef, undef, undef, undef, undef, undef, undef, undef, undef, undef, undef, undef, undef, undef, undef, undef, undef, undef, undef, undef, undef, undef, undef, undef, undef, undef, undef, undef], []⟩ (by kernel_rfl) ?_
  refine wp_seq ?_
  refine wp_region_lit ?_
  refine g_pv 1 [(4, .string ⟨#[]⟩)] (by kernel_rfl) ?_
  refine wpList_nil ?_
  refine wp_seq ?_
  refine wp_seq ?_
  refine wp_region_lit ?_
  refine g_pv 2 [(10, .int .i64 10), (11, .bool true)] (by kernel_rfl) ?_
  refine wpList_nil ?_
  refine wp_cond_true (by kernel_rfl) ?_
  refine wp_seq ?_
  refine wp_seq ?_
  refine wp_region_lit ?_
  refine g_pv 6 [(12, .int .i64 14), (13, .bool true), (14, .bool true), (15, .int .i64 14), (16, .bool true), (17, .bool true)] (by kernel_rfl) ?_
  refine wpList_nil ?_
  refine wp_cond_true (by kernel_rfl) ?_
  refine wp_seq ?_
  refine wp_region_lit ?_
  refine g_pv 1 [(18, .int .i64 14)] (by kernel_rfl) ?_
  refine g_op (by kernel_rfl) (op_call (lb := #[]) 156 #[.int .i64 14] rfl (by kernel_rfl) (fun _ _ => by kernel_rfl) (by kernel_rfl) ((small_14 _).mono ?_))
  rintro e W1 ⟨rfl, hb1⟩
  refine ⟨_, rfl, ?_⟩
  have hB := hb1
  refine g_pv 1 [(4, .string ⟨#[49, 52]⟩)] (by kernel_rfl) ?_
  refine wpList_nil ?_
  refine wp_ret (then_ret (then_ret ?_))
  exact g_ret (.string ⟨#[49, 52]⟩) (by kernel_rfl) (by kernel_rfl) ⟨rfl, hB⟩
set_option maxRecDepth 100000 in
set_option maxHeartbeats 1000000 in
theorem iItoa_14 (w : World) :
    Calls Tryz.prog 154 #[.int .i64 14] w (Ret (.string ⟨#[49, 52]⟩) w) := by
  refine calls_of_wp Tryz.func154 rfl ?_
  refine g_fr ⟨#[.int .i64 14, undef, undef, undef, undef], []⟩ (by kernel_rfl) ?_
  refine wp_seq ?_
  refine wp_region_lit ?_
  refine g_pv 1 [(2, .string ⟨#[]⟩)] (by kernel_rfl) ?_
  refine wpList_nil ?_
  refine wp_seq ?_
  refine wp_region_lit ?_
  refine g_pv 1 [(3, .int .i64 14)] (by kernel_rfl) ?_
  refine g_op (by kernel_rfl) (op_call (lb := #[]) 155 #[.int .i64 14, .int .i64 10] rfl (by kernel_rfl) (fun _ _ => by kernel_rfl) (by kernel_rfl) ((FormatInt_14 _).mono ?_))
  rintro e W1 ⟨rfl, hb1⟩
  refine ⟨_, rfl, ?_⟩
  have hB := hb1
  refine g_pv 1 [(2, .string ⟨#[49, 52]⟩)] (by kernel_rfl) ?_
  refine wpList_nil ?_
  refine wp_ret ?_
  exact g_ret (.string ⟨#[49, 52]⟩) (by kernel_rfl) (by kernel_rfl) ⟨rfl, hB⟩
set_option maxRecDepth 100000 in
set_option maxHeartbeats 1000000 in
theorem Itoa_14 (w : World) :
    Calls Tryz.prog 153 #[.int .i64 14] w (Ret (.string ⟨#[49, 52]⟩) w) := by
  refine calls_of_wp Tryz.func153 rfl ?_
  refine g_fr ⟨#[.int .i64 14, undef, undef, undef, undef], []⟩ (by kernel_rfl) ?_
  refine wp_seq ?_
  refine wp_region_lit ?_
  refine g_pv 1 [(2, .string ⟨#[]⟩)] (by kernel_rfl) ?_
  refine wpList_nil ?_
  refine wp_seq ?_
  refine wp_region_lit ?_
  refine g_pv 1 [(3, .int .i64 14)] (by kernel_rfl) ?_
  refine g_op (by kernel_rfl) (op_call (lb := #[]) 154 #[.int .i64 14] rfl (by kernel_rfl) (fun _ _ => by kernel_rfl) (by kernel_rfl) ((iItoa_14 _).mono ?_))
  rintro e W1 ⟨rfl, hb1⟩
  refine ⟨_, rfl, ?_⟩
  have hB := hb1
  refine g_pv 1 [(2, .string ⟨#[49, 52]⟩)] (by kernel_rfl) ?_
  refine wpList_nil ?_
  refine wp_ret ?_
  exact g_ret (.string ⟨#[49, 52]⟩) (by kernel_rfl) (by kernel_rfl) ⟨rfl, hB⟩
theorem itoa14 : (Lib.itoa 14).toArray = #[49, 52] := by decide +kernel
theorem Itoas.at14 (w : World) : Itoas w 14 := fun W _ => by
  have := Itoa_14 W
  rwa [show (#[49, 52] : Array UInt8) = (Lib.itoa 14).toArray from itoa14.symm] at this
theorem text14 : textB [] (some 14) = ⟨#[101, 114, 114, 111, 114, 32, 49, 52]⟩ := by
  have h : numB 14 = ⟨#[49, 52]⟩ := by unfold numB; rw [itoa14]
  unfold textB; rw [h]; rfl
theorem fault_Text14 (w : World) : Calls Tryz.prog 51 #[.iface 40 (.int .i64 14)] w (Ret (.string ⟨#[101, 114, 114, 111, 114, 32, 49, 52]⟩) w) := by
  have := fault_Text (some 14) [] _ w (by decide) (show ErrV w [] (some 14) (.iface 40 (.int .i64 14)) from rfl) (fun _ => rfl) (fun b hb => by
    rcases hb with hb | hb
    · cases hb
    · obtain rfl : b = 14 := by injection hb with h; exact h.symm
      exact ⟨Itoas.at14 w, by unfold numB; rw [itoa14]; decide⟩)
  rwa [text14] at this
set_option maxRecDepth 100000 in
set_option maxHeartbeats 1000000 in
theorem lives16 (w : World) :
    Calls Tryz.prog 20 #[] w (Ret (.bool true) w) := by
  refine calls_of_wp Tryz.func20 rfl ?_
  refine g_fr ⟨#[undef, undef, undef, undef, undef, undef, undef, undef, undef, undef, undef, undef, undef, undef, undef, undef, undef, undef, undef, undef, undef, undef, undef, undef, undef, undef, undef, undef, undef, undef, undef, undef, undef, undef, undef, undef, undef, undef, undef, undef, undef, undef, undef, undef, undef, undef, undef, undef, undef, undef, undef, undef, undef, undef, undef], []⟩ (by kernel_rfl) ?_
  refine wp_seq ?_
  refine wp_region_lit ?_
  refine g_pv 1 [(0, .bool false)] (by kernel_rfl) ?_
  refine wpList_nil ?_
  refine wp_seq ?_
  refine wp_region_lit ?_
  refine g_op (by kernel_rfl) (op_make 768 (.int .u8 0) 1 1 ((List.replicate 768 (0 : UInt8)).map bv) rfl (by kernel_rfl) (by kernel_rfl) Tryz.underlying29 (by kernel_rfl) rfl (by omega) (by omega) (zerosB 768) ?_)
  intro b1 W1 n1
  have g1 := n1.ge (Below.refl w.heap.size _)
  have hB := n1.below
  have k1 := n1.blk
  have o2 := own_of_blk (size := 1) (n := 768) k1 g1 (by rw [List.length_map, List.length_replicate]) (by unfold maxLen; omega)
  refine g_op (by kernel_rfl) (op_call (lb := #[]) 21 #[.slice (some ⟨b1, 0, none⟩) 768 768] rfl (by kernel_rfl) (fun _ _ => by kernel_rfl) (by kernel_rfl) ((image_OfN (some ⟨b1, 0, none⟩) 768 768 768 (List.replicate 768 (0 : UInt8)) _ List.length_replicate (by decide) (bys_of (own_sl o2) List.length_replicate) (by decide) (by decide)).mono ?_))
  rintro e W3 ⟨_, rfl, hb3, bi, pi, ci, rfl, gi, ki, hd⟩
  refine ⟨_, rfl, ?_⟩
  replace hB := Bl.next hB hb3
  have hs9 := hB.size
  have hs4 : w.heap.size ≤ (W3).heap.size := hB.size
  refine g_op (by kernel_rfl) (op_call (lb := #[]) 22 #[.pointer (some ⟨bi, 0, none⟩), .int .i64 1] rfl (by kernel_rfl) (fun _ _ => by kernel_rfl) (by kernel_rfl) ((alloc_NewN bi pi 768 ci 1 2 1 rfl (by decide) _ ki (by decide) (by decide) (by decide)).mono ?_))
  rintro e W4 ⟨_, rfl, hb4, ba, pa, ca, rfl, ga, ka, ho⟩
  refine ⟨_, rfl, ?_⟩
  replace hB := Bl.next hB hb4
  replace ki := ki.below hb4
  replace ho := own_mono ho hs4
  replace ga := Nat.le_trans hs9 ga
  refine g_pv 5 [(9, .tuple #[.pointer (some ⟨ba, 0, none⟩), .nilIface]), (13, .pointer (some ⟨ba, 0, none⟩)), (14, .nilIface), (1, .pointer (some ⟨ba, 0, none⟩)), (2, .nilIface)] (by kernel_rfl) ?_
  refine wpList_nil ?_
  refine wp_seq ?_
  refine wp_seq ?_
  refine wp_region_lit ?_
  refine g_pv 6 [(15, .nilIface), (16, .bool false), (17, .bool false), (18, .pointer (some ⟨ba, 0, none⟩)), (19, .bool false), (20, .bool false)] (by kernel_rfl) ?_
  refine wpList_nil ?_
  refine wp_cond_false (by kernel_rfl) ?_
  refine wp_skip ?_
  refine wp_seq ?_
  refine wp_region_lit ?_
  refine g_pv 1 [(22, .pointer (some ⟨ba, 0, none⟩))] (by kernel_rfl) ?_
  refine g_op (by kernel_rfl) (op_call (lb := #[]) 25 #[.pointer (some ⟨ba, 0, none⟩)] rfl (by kernel_rfl) (fun _ _ => by kernel_rfl) (by kernel_rfl) ((alloc_Next w.heap.size ba pa 2 ca 0 (rngJ 1 2) (rngJ_len 1 2) bi 1 (rngJ_get (by decide)) _ ka ho ga hB.size (by decide) (by decide)).mono ?_))
  rintro e W5 ⟨rfl, hb5, hO5, _, kA, ho⟩
  refine ⟨_, rfl, ?_⟩
  replace hB := hB.trans hb5
  replace ki := ki.only hO5 (by decide)
  refine g_pv 5 [(21, .tuple #[.int .i64 1, .nilIface]), (24, .int .i64 1), (25, .nilIface), (3, .int .i64 1), (4, .nilIface)] (by kernel_rfl) ?_
  refine wpList_nil ?_
  refine wp_seq ?_
  refine wp_region_lit ?_
  refine g_pv 1 [(27, .pointer (some ⟨ba, 0, none⟩))] (by kernel_rfl) ?_
  refine g_op (by kernel_rfl) (op_call (lb := #[]) 25 #[.pointer (some ⟨ba, 0, none⟩)] rfl (by kernel_rfl) (fun _ _ => by kernel_rfl) (by kernel_rfl) ((alloc_Next w.heap.size ba pa 2 ca 1 (rngJ 1 2) (rngJ_len 1 2) bi 2 (rngJ_get (by decide)) _ kA ho ga hB.size (by decide) (by decide)).mono ?_))
  rintro e W6 ⟨rfl, hb6, hO6, _, kA, ho⟩
  refine ⟨_, rfl, ?_⟩
  replace hB := hB.trans hb6
  replace ki := ki.only hO6 (by decide)
  refine g_pv 5 [(26, .tuple #[.int .i64 2, .nilIface]), (29, .int .i64 2), (30, .nilIface), (5, .int .i64 2), (6, .nilIface)] (by kernel_rfl) ?_
  refine wpList_nil ?_
  refine wp_seq ?_
  refine wp_region_lit ?_
  refine g_pv 1 [(32, .pointer (some ⟨ba, 0, none⟩))] (by kernel_rfl) ?_
  refine g_op (by kernel_rfl) (op_call (lb := #[]) 25 #[.pointer (some ⟨ba, 0, none⟩)] rfl (by kernel_rfl) (fun _ _ => by kernel_rfl) (by kernel_rfl) ((alloc_Next_none ba bi pa 2 ca 2 _ kA (by decide)).mono ?_))
  rintro e W7 ⟨rfl, hb7⟩
  refine ⟨_, rfl, ?_⟩
  replace hB := Bl.next hB hb7
  replace ki := ki.below hb7
  replace kA := kA.below hb7
  replace ho := own_below ho hb7
  refine g_pv 5 [(31, .tuple #[.int .i64 0, .iface 40 (.int .i64 14)]), (34, .int .i64 0), (35, .iface 40 (.int .i64 14)), (7, .int .i64 0), (8, .iface 40 (.int .i64 14))] (by kernel_rfl) ?_
  refine wpList_nil ?_
  refine wp_seq ?_
  refine wp_region_lit ?_
  refine g_pv 16 [(36, .int .i64 1), (37, .bool true), (38, .bool true), (39, .nilIface), (40, .bool true), (41, .bool true), (42, .bool true), (43, .int .i64 2), (44, .bool true), (45, .bool true), (46, .bool true), (47, .nilIface), (48, .bool true), (49, .bool true), (50, .bool true), (51, .iface 40 (.int .i64 14))] (by kernel_rfl) ?_
  refine g_op (by kernel_rfl) (op_call (lb := #[]) 51 #[.iface 40 (.int .i64 14)] rfl (by kernel_rfl) (fun _ _ => by kernel_rfl) (by kernel_rfl) ((fault_Text14 _).mono ?_))
  rintro e W8 ⟨rfl, hb8⟩
  refine ⟨_, rfl, ?_⟩
  replace hB := Bl.next hB hb8
  replace ki := ki.below hb8
  replace kA := kA.below hb8
  replace ho := own_below ho hb8
  refine g_pv 3 [(53, .bool true), (54, .bool true), (0, .bool true)] (by kernel_rfl) ?_
  refine wpList_nil ?_
  refine wp_ret ?_
  exact g_ret (.bool true) (by kernel_rfl) (by kernel_rfl) ⟨rfl, hB⟩
end Go.Proofs.YtbopakjiahojdaaGreatDoor

