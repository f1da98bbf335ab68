/- The lives of law 14. -/
import Derived.Test.YtoiblgeheblddaaScan
import Derived.Test.YtoiblgeheblddaaSealOpen
import Derived.Test.YtoiblgeheblddaaImgWr
import Derived.Test.YtoiblgeheblddaaNodePut
namespace Go.Proofs.Ytoiblgeheblddaa
open Go.RowKit Go.Extern.Stop Go.Stop Go.Extern
set_option linter.unusedVariables false
attribute [local irreducible] wpList wpAnyH Code.wp Oper.wp

def li14 : List UInt8 := nodeP 12 8 (headB 2 true 0 12 8) [] [] 0
def im14 : List UInt8 := putB (List.replicate 512 0) (1 * 256) (sealB 2 1 li14)
theorem li14_len : li14.length = 244 := by decide +kernel
theorem li14_ok : nodeTE li14 2 = 0 := by decide +kernel
theorem im14_blk : blkB im14 1 = sealB 2 1 li14 := blkB_put (sealB_len (by rw [li14_len]; decide)) (by rw [List.length_replicate]; decide)
theorem im14_len : im14.length = 512 := by unfold im14; rw [putB_len (by rw [sealB_len (by rw [li14_len]; decide), List.length_replicate]; decide), List.length_replicate]
theorem im14_in : inB im14 1 = li14 := by
  rw [inB_in (no := 1) (j := 1) rfl, im14_blk, in_seal (by rw [li14_len]; decide)]
  unfold inSeal; rw [li14_len]; exact List.append_nil _
theorem im14_ok : nodeErr im14 1 2 = 0 := by
  unfold nodeErr
  rw [inE_in (no := 1) (j := 1) im14_len rfl (by decide), im14_blk, if_pos (open_seal (by decide) (by decide) (by decide) (by decide) (by rw [li14_len]; decide)), im14_in, li14_ok]
theorem im14_c : nodC (inB im14 1) = 0 := by rw [im14_in]; decide +kernel
theorem im14_l : nodL (inB im14 1) = true := by rw [im14_in]; decide +kernel
theorem im14_look : lookE im14 [] 1 2 0 281474976710656 0 = 0 := by
  unfold lookE
  rw [if_neg (by decide), if_neg (by decide), if_neg (by rw [im14_ok]; decide), im14_c, if_neg (by decide), if_neg (by simp)]
theorem scan14 : scanW im14 1 2 9 = ⟨[], [1], 1, 1, [], false⟩ := by
  unfold scanW visitF
  rw [if_neg (by decide), if_neg (by rw [show ws0.deep = 0 from rfl, im14_look]; decide), if_pos im14_l, im14_c]
  rfl
theorem walk_Scan14 (B b : Nat) (p : Option Addr) (n c : Nat) (w : World) (hI : ImgR B b p n c im14 w) :
    Calls Try.prog 6 #[.pointer (some ⟨b, 0, none⟩), .int .i64 1, .int .i64 2, .int .i64 9] w (RetS (fun _ r => ∃ pe pb pf ce cb cf, r = .agg #[.slice pe 0 ce, .slice pb 1 cb, .int .i64 1, .int .i64 1, .slice pf 0 cf]) w) := by
  refine (walk_Scan B b p n c im14 1 2 9 w (by decide) hI).mono ?_
  rintro e W ⟨pe, pb, pf, ce, cb, cf, fv, rfl, hb, _⟩
  rw [scan14]
  exact ⟨_, rfl, hb, pe, pb, pf, ce, cb, cf, rfl⟩
theorem ok14 : NodeOk 2 true 0 12 8 [] [] := ⟨by decide, by decide, rfl, rfl, rfl, rfl, by decide, fun h => (nomatch h), fun i h => absurd h (Nat.not_lt_zero i), fun j h => absurd h (Nat.not_lt_zero (j + 1)), fun i h => absurd h (Nat.not_lt_zero i)⟩
set_option maxRecDepth 100000 in
set_option maxHeartbeats 4000000 in
theorem lives14 (w : World) :
    Calls Try.prog 4 #[] w (Ret (.bool true) w) := by
  refine calls_of_wp Try.func4 rfl ?_
  refine g_fr ⟨#[undef, undef, undef, undef, undef, undef, undef, undef, undef, undef, undef, undef, undef, undef, undef, undef, undef, undef, undef, undef, undef, undef, undef, undef, undef, undef, undef, undef, undef, undef, undef, undef, undef, undef, undef, undef, undef, undef, undef, undef, undef, undef], []⟩ (by kernel_rfl) ?_
  refine wp_seq ?_
  refine wp_region_lit ?_
  refine g_pv 1 [(0, .bool false)] (by kernel_rfl) ?_
  refine wpList_nil ?_
  refine wp_seq ?_
  refine wp_region_lit ?_
  refine g_op (by kernel_rfl) (op_make 512 (.int .u8 0) 1 1 ((List.replicate 512 (0 : UInt8)).map bv) rfl (by kernel_rfl) (by kernel_rfl) Try.underlying22 (by kernel_rfl) rfl (by omega) (by omega) (zerosB 512) ?_)
  intro b1 W1 n1
  have g1 := n1.ge (Below.refl w.heap.size _)
  have hB := n1.below
  have k1 := n1.blk
  have o2 := own_of_blk (size := 1) (n := 512) k1 g1 (by rw [List.length_map, List.length_replicate]) (by unfold maxLen; omega)
  have hs8 : w.heap.size ≤ (W1).heap.size := hB.size
  refine g_op (by kernel_rfl) (op_call (lb := #[]) 5 #[.slice (some ⟨b1, 0, none⟩) 512 512] rfl (by kernel_rfl) (fun _ _ => by kernel_rfl) (by kernel_rfl) ((image_OfR (some ⟨b1, 0, none⟩) 512 512 512 (List.replicate 512 (0 : UInt8)) _ List.length_replicate (by decide) (bys_of (own_sl o2) List.length_replicate) (by decide) (by decide)).mono ?_))
  rintro e W3 ⟨_, rfl, hb3, bi, pi, ci, rfl, _, hI⟩
  refine ⟨_, rfl, ?_⟩
  replace hB := Bl.next hB hb3
  replace hI := hI.mono hs8
  rw [List.take_of_length_le (by simp)] at hI
  refine g_pv 1 [(1, .pointer (some ⟨bi, 0, none⟩))] (by kernel_rfl) ?_
  refine wpList_nil ?_
  refine wp_seq ?_
  refine wp_region_lit ?_
  refine g_pv 1 [(8, .agg #[.int .i64 2, .bool true, .slice none 0 0, .slice none 0 0])] (by kernel_rfl) ?_
  have hs4 : w.heap.size ≤ (W3).heap.size := hB.size
  refine g_op (by kernel_rfl) (op_call (lb := #[]) 10 #[.agg #[.int .i64 2, .bool true, .slice none 0 0, .slice none 0 0]] rfl (by kernel_rfl) (fun _ _ => by kernel_rfl) (by kernel_rfl) ((node_Put 2 true 0 12 8 [] [] none none 0 0 _ ok14 (.inl ⟨none, 0, rfl, rfl, rfl⟩) (.inl ⟨none, 0, rfl, rfl, rfl⟩)).mono ?_))
  rintro e W4 ⟨_, rfl, hb4, pz, cz, rfl, oz⟩
  refine ⟨_, rfl, ?_⟩
  replace hB := Bl.next hB hb4
  replace hI := hI.below hb4
  replace oz := own_mono oz hs4
  change World.ownsRow _ _ _ _ _ _ (li14.map bv) at oz
  refine g_pv 5 [(7, .tuple #[.slice pz 244 cz, .int .i64 0]), (10, .slice pz 244 cz), (11, .int .i64 0), (2, .slice pz 244 cz), (3, .int .i64 0)] (by kernel_rfl) ?_
  refine wpList_nil ?_
  refine wp_seq ?_
  refine wp_seq ?_
  refine wp_region_lit ?_
  refine g_pv 5 [(12, .int .i64 0), (13, .bool false), (14, .bool false), (15, .pointer (some ⟨bi, 0, none⟩)), (16, .slice pz 244 cz)] (by kernel_rfl) ?_
  refine g_op (by kernel_rfl) (op_call (lb := #[]) 11 #[.pointer (some ⟨bi, 0, none⟩), .int .i64 1, .int .i64 2, .slice pz 244 cz] rfl (by kernel_rfl) (fun _ _ => by kernel_rfl) (by kernel_rfl) ((block_WriteR w.heap.size bi pi 512 ci 1 1 (List.replicate 512 (0 : UInt8)) 2 pz cz 244 li14 _ rfl li14_len hI (by decide) (by decide) (by decide) (bys_of (own_sl oz) li14_len) (by decide) hB.size).mono ?_))
  rintro e W5 ⟨rfl, hb5, hO5, hI⟩
  refine ⟨_, rfl, ?_⟩
  replace hB := hB.trans hb5
  rw [show putB (List.replicate 512 (0 : UInt8)) (1 * 256) (sealB 2 (1 : Nat) li14) = im14 from rfl] at hI
  refine g_pv 2 [(18, .bool false), (19, .bool false)] (by kernel_rfl) ?_
  refine wpList_nil ?_
  refine wp_cond_false (by kernel_rfl) ?_
  refine wp_skip ?_
  refine wp_seq ?_
  refine wp_region_lit ?_
  refine g_pv 1 [(20, .pointer (some ⟨bi, 0, none⟩))] (by kernel_rfl) ?_
  refine g_op (by kernel_rfl) (op_call (lb := #[]) 6 #[.pointer (some ⟨bi, 0, none⟩), .int .i64 1, .int .i64 2, .int .i64 9] rfl (by kernel_rfl) (fun _ _ => by kernel_rfl) (by kernel_rfl) ((walk_Scan14 w.heap.size bi pi 512 ci _ hI).mono ?_))
  rintro e W6 ⟨_, rfl, hb6, pe, pb, pf, ce, cb, cf, rfl⟩
  refine ⟨_, rfl, ?_⟩
  replace hB := Bl.next hB hb6
  replace hI := hI.below hb6
  refine g_op (by kernel_rfl) (op_alloc [.slice none 0 0, .slice none 0 0, .int .i64 0, .int .i64 0, .slice none 0 0] rfl (by kernel_rfl) ?_)
  intro b7 W7 n7
  have g7 := n7.ge hB
  replace hB := Bl.next hB n7.below
  replace hI := hI.below n7.below
  have k7 := n7.blk
  refine g_op (by kernel_rfl) (op_storev (b := b7) (off := 0) [.slice pe 0 ce, .slice pb 1 cb, .int .i64 1, .int .i64 1, .slice pf 0 cf] rfl (by kernel_rfl) (by kernel_rfl) (by kernel_rfl) (by first | decide | simp [Value.oneCell']) k7 (by first | decide | simp) ?_)
  intro W8 u8 k8
  change Blk _ _ [.slice pe 0 ce, .slice pb 1 cb, .int .i64 1, .int .i64 1, .slice pf 0 cf] _ at k8
  replace hB := u8.below hB g7
  replace hI := hI.only (Only.of_upd (T := [30]) u8 k7 (by decide)) (by decide)
  refine wpList_nil ?_
  refine wp_seq ?_
  refine wp_region_lit ?_
  refine g_pv 1 [(22, .pointer (some ⟨b7, 0, none⟩))] (by kernel_rfl) ?_
  refine g_op (by kernel_rfl) (op_load ⟨b7, 0, none⟩ (.slice pe 0 ce) rfl (by kernel_rfl) (by kernel_rfl) (k8.cell (i := 0) rfl) ?_)
  refine g_pv 4 [(24, .int .i64 0), (25, .bool true), (26, .bool true), (27, .pointer (some ⟨b7, 2, none⟩))] (by kernel_rfl) ?_
  refine g_op (by kernel_rfl) (op_load ⟨b7, 2, none⟩ (.int .i64 1) rfl (by kernel_rfl) (by kernel_rfl) (k8.cell (i := 2) rfl) ?_)
  refine g_pv 4 [(29, .bool true), (30, .bool true), (31, .bool true), (32, .pointer (some ⟨b7, 3, none⟩))] (by kernel_rfl) ?_
  refine g_op (by kernel_rfl) (op_load ⟨b7, 3, none⟩ (.int .i64 1) rfl (by kernel_rfl) (by kernel_rfl) (k8.cell (i := 3) rfl) ?_)
  refine g_pv 4 [(34, .bool true), (35, .bool true), (36, .bool true), (37, .pointer (some ⟨b7, 1, none⟩))] (by kernel_rfl) ?_
  refine g_op (by kernel_rfl) (op_load ⟨b7, 1, none⟩ (.slice pb 1 cb) rfl (by kernel_rfl) (by kernel_rfl) (k8.cell (i := 1) rfl) ?_)
  refine g_pv 4 [(39, .int .i64 1), (40, .bool true), (41, .bool true), (0, .bool true)] (by kernel_rfl) ?_
  refine wpList_nil ?_
  refine wp_ret ?_
  exact g_ret (.bool true) (by kernel_rfl) (by kernel_rfl) ⟨rfl, hB⟩
end Go.Proofs.Ytoiblgeheblddaa

