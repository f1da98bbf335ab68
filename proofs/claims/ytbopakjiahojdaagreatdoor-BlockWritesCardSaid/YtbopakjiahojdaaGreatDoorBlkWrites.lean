/- The statement BlockWrites, walked. -/
import Derived.Test.YtbopakjiahojdaaGreatDoorBlkWr
namespace Go.Proofs.YtbopakjiahojdaaGreatDoor
open Go.RowKit Go.Extern.Stop Go.Stop Go.Extern
set_option linter.unusedVariables false
attribute [local irreducible] wpList wpAnyH Code.wp Oper.wp

set_option maxRecDepth 100000 in
set_option maxHeartbeats 4000000 in
theorem blockWrites_law (a : Option Addr) (c : Nat) (l : List UInt8) (no kind : Int) (ai : Option Addr) (ca : Nat) (li : List UInt8) (w : World) (h : Bys w (.slice a l.length c) l) (hin : Bys w (.slice ai li.length ca) li) (hg : ErrT w) :
    Calls Tryz.prog 5 #[.slice a l.length c, .int .i64 no, .int .i64 kind, .slice ai li.length ca] w (Ret (.bool true) w) := by
  have hcap := h.cap rfl
  refine calls_of_wp Tryz.func5 rfl ?_
  refine g_fr ⟨#[.slice a l.length c, .int .i64 no, .int .i64 kind, .slice ai li.length ca, undef, undef, undef, undef, undef, undef, undef, undef, undef, undef, undef, undef, undef, undef, undef, undef, undef, undef, undef, undef, undef, undef, undef, undef, undef, undef, undef, undef, undef, undef, undef, undef, undef, undef, undef, undef, undef, undef, undef, undef, undef, undef, undef, undef, undef, undef, undef], []⟩ (by kernel_rfl) ?_
  refine wp_seq ?_
  refine wp_region_lit ?_
  refine g_pv 1 [(8, .bool false)] (by kernel_rfl) ?_
  refine wpList_nil ?_
  refine wp_seq ?_
  refine wp_seq ?_
  refine wp_region_lit ?_
  refine g_pv 4 [(13, .slice a l.length c), (14, .int .i64 (↑l.length : Int)), (15, .bool (decide ((↑l.length : Int) > (6000 : Int)))), (16, .bool (decide ((↑l.length : Int) > (6000 : Int))))] (by kernel_rfl) ?_
  rcases Bool.eq_false_or_eq_true (decide ((↑l.length : Int) > (6000 : Int))) with hc1 | hc1
  · refine g_b [15, 16] _ _ hc1 (by kernel_rfl) ?_
    have hc1 := of_decide_eq_true hc1
    refine g_pv 4 [(17, undef), (18, undef), (19, undef), (20, .bool true)] (by kernel_rfl) ?_
    refine wpList_nil ?_
    refine wp_cond_true (by kernel_rfl) ?_
    refine wp_seq ?_
    refine wp_region_lit ?_
    refine g_op (by kernel_rfl) (op_call (lb := #[]) 33 #[] rfl (by kernel_rfl) (fun _ _ => by kernel_rfl) (by kernel_rfl) ((lives11 _).mono ?_))
    rintro e W2 ⟨rfl, hb2⟩
    refine ⟨_, rfl, ?_⟩
    have hB := hb2
    refine g_pv 1 [(8, .bool true)] (by kernel_rfl) ?_
    refine wpList_nil ?_
    refine wp_ret (then_ret ?_)
    exact g_ret (.bool true) (by kernel_rfl) (by kernel_rfl) ⟨rfl, hB⟩
  · refine g_b [15, 16] _ _ hc1 (by kernel_rfl) ?_
    have hc1 := of_decide_eq_false hc1
    refine g_pv 4 [(17, .slice ai li.length ca), (18, .int .i64 (↑li.length : Int)), (19, .bool (decide ((↑li.length : Int) > (600 : Int)))), (20, .bool (decide ((↑li.length : Int) > (600 : Int))))] (by kernel_rfl) ?_
    refine wpList_nil ?_
    refine wp_cond_split (t := decide ((↑li.length : Int) > (600 : Int))) (by kernel_rfl) (fun hc3 => ?_) (fun hc3 => ?_)
    · have hc3 := of_decide_eq_true hc3
      refine wp_seq ?_
      refine wp_region_lit ?_
      refine g_op (by kernel_rfl) (op_call (lb := #[]) 33 #[] rfl (by kernel_rfl) (fun _ _ => by kernel_rfl) (by kernel_rfl) ((lives11 _).mono ?_))
      rintro e W4 ⟨rfl, hb4⟩
      refine ⟨_, rfl, ?_⟩
      have hB := hb4
      refine g_pv 1 [(8, .bool true)] (by kernel_rfl) ?_
      refine wpList_nil ?_
      refine wp_ret (then_ret ?_)
      exact g_ret (.bool true) (by kernel_rfl) (by kernel_rfl) ⟨rfl, hB⟩
    · have hc3 := of_decide_eq_false hc3
      refine wp_skip ?_
      refine wp_seq ?_
      refine wp_region_lit ?_
      refine g_pv 1 [(22, .slice a l.length c)] (by kernel_rfl) ?_
      have hs8 : w.heap.size ≤ (w).heap.size := (Below.refl w.heap.size _).size
      refine g_op (by kernel_rfl) (op_call (lb := #[]) 21 #[.slice a l.length c] rfl (by kernel_rfl) (fun _ _ => by kernel_rfl) (by kernel_rfl) ((image_OfR a c l.length ((l.length / 256) * 256) l _ rfl (by omega) (h.below (Below.refl w.heap.size _)) (by omega) hcap).mono ?_))
      rintro e W5 ⟨_, rfl, hb5, bi, pi, ci, rfl, _, hI⟩
      refine ⟨_, rfl, ?_⟩
      have hB := hb5
      replace hI := hI.mono hs8
      refine g_pv 1 [(24, .slice a l.length c)] (by kernel_rfl) ?_
      have hs9 : w.heap.size ≤ (W5).heap.size := hB.size
      refine g_op (by kernel_rfl) (op_call (lb := #[]) 9 #[.slice a l.length c] rfl (by kernel_rfl) (fun _ _ => by kernel_rfl) (by kernel_rfl) ((ref_OfN a c l.length (l.length / 256) l _ rfl (by omega) (h.below hB) (by omega)).mono ?_))
      rintro e W6 ⟨_, rfl, hb6, bj, pj, cj, rfl, _, hJ⟩
      refine ⟨_, rfl, ?_⟩
      replace hB := Bl.next hB hb6
      replace hI := hI.below hb6
      replace hJ := hJ.mono hs9
      refine g_pv 2 [(9, .pointer (some ⟨bi, 0, none⟩)), (10, .pointer (some ⟨bj, 0, none⟩))] (by kernel_rfl) ?_
      refine wpList_nil ?_
      refine wp_seq ?_
      refine wp_region_lit ?_
      refine g_pv 4 [(26, .pointer (some ⟨bi, 0, none⟩)), (27, .int .i64 no), (28, .int .i64 kind), (29, .slice ai li.length ca)] (by kernel_rfl) ?_
      refine g_op (by kernel_rfl) (op_call (lb := #[]) 34 #[.pointer (some ⟨bi, 0, none⟩), .int .i64 no, .int .i64 kind, .slice ai li.length ca] rfl (by kernel_rfl) (fun _ _ => by kernel_rfl) (by kernel_rfl) ((block_WriteG w.heap.size bi pi (l.length / 256) ((l.length / 256) * 256) ci (l.take (l.length / 256 * 256)) no kind ai ca li _ rfl hI (hin.below hB) hB.size).mono ?_))
      rintro e W7 ⟨ve, rfl, hb7, hO7, hI, hv⟩
      refine ⟨_, rfl, ?_⟩
      replace hB := hB.trans hb7
      replace hJ := hJ.only hO7 (by decide)
      refine g_pv 1 [(11, ve)] (by kernel_rfl) ?_
      refine wpList_nil ?_
      refine wp_seq ?_
      refine wp_region_lit ?_
      refine g_pv 4 [(31, .pointer (some ⟨bj, 0, none⟩)), (32, .int .i64 no), (33, .int .i64 kind), (34, .slice ai li.length ca)] (by kernel_rfl) ?_
      have hs7 : w.heap.size ≤ (W7).heap.size := hB.size
      refine g_op (by kernel_rfl) (op_call (lb := #[]) 35 #[.pointer (some ⟨bj, 0, none⟩), .int .i64 no, .int .i64 kind, .slice ai li.length ca] rfl (by kernel_rfl) (fun _ _ => by kernel_rfl) (by kernel_rfl) ((ref11_Write w.heap.size bj pj (l.length / 256) cj (l.take (l.length / 256 * 256)) no kind ai ca li _ hJ (hin.below hB) hB.size).mono ?_))
      rintro e W8 ⟨a5, c5, rfl, hb8, hO8, hJ, h5⟩
      refine ⟨_, rfl, ?_⟩
      replace hB := hB.trans hb8
      replace hI := hI.only hO8 (by decide)
      replace hv := hv.only hO8 (by decide)
      replace h5 := own_mono h5 hs7
      refine g_op (by kernel_rfl) (op_alloc [.slice none 0 0, .int .i64 0] rfl (by kernel_rfl) ?_)
      intro b9 W9 n9
      have g9 := n9.ge hB
      replace hB := Bl.next hB n9.below
      replace hI := hI.below n9.below
      replace hJ := hJ.below n9.below
      replace hv := hv.below n9.below
      replace h5 := own_below h5 n9.below
      have k9 := n9.blk
      refine g_op (by kernel_rfl) (op_storev (b := b9) (off := 0) [.slice a5 ((fltL no (wrE kind no (l.length / 256) li)).length) c5, .int .i64 (wrE kind no (l.length / 256) li)] rfl (by kernel_rfl) (by kernel_rfl) (by kernel_rfl) (by first | decide | simp [Value.oneCell']) k9 (by first | decide | simp) ?_)
      intro W10 u10 k10
      change Blk _ _ [.slice a5 ((fltL no (wrE kind no (l.length / 256) li)).length) c5, .int .i64 (wrE kind no (l.length / 256) li)] _ at k10
      replace hB := u10.below hB g9
      replace hI := hI.only (Only.of_upd (T := [33]) u10 k9 (by decide)) (by decide)
      replace hJ := hJ.only (Only.of_upd (T := [33]) u10 k9 (by decide)) (by decide)
      replace hv := hv.only (Only.of_upd (T := [33]) u10 k9 (by decide)) (by decide)
      replace h5 := u10.own2 h5 k9 (by decide)
      refine wpList_nil ?_
      refine wp_seq ?_
      replace hB := Bl.next hB (below_drew W10)
      replace k10 := k10.below (below_drew W10)
      replace hI := hI.below (below_drew W10)
      replace hJ := hJ.below (below_drew W10)
      replace hv := hv.below (below_drew W10)
      replace h5 := own_below h5 (below_drew W10)
      refine h_reg (Below (W10.drew).heap.size (W10.drew)) 16 rfl #[false, false, false, false, false, false, false, false, false, false, false, false, false, false, false, false] rfl (by kernel_rfl) (Below.refl _ _) ?_
      intro hS11
      have hBd13 := hB
      have kd13_b9 := k10
      refine h_pv [0] 15 rfl #[true, false, false, false, false, false, false, false, false, false, false, false, false, false, false, false] [(36, ve)] (by kernel_rfl) (fun _ _ _ _ _ h => h) (by kernel_rfl) hS11 ?_
      refine h_loadv (b := b9) (off := 0) 1 14 rfl [.slice a5 ((fltL no (wrE kind no (l.length / 256) li)).length) c5, .int .i64 (wrE kind no (l.length / 256) li)] _ rfl (by kernel_rfl) (by kernel_rfl) (by kernel_rfl) (fun _ _ _ _ _ h => h) (by kernel_rfl) rfl (by kernel_rfl) Tryz.underlying33 rfl (by kernel_rfl) (fun V hV => (kd13_b9.below hV).whole) hS11 ?_
      refine h_one 2 13 rfl (by kernel_rfl) rfl (by kernel_rfl) (op_call (lb := #[]) 36 #[ve, .agg #[.slice a5 ((fltL no (wrE kind no (l.length / 256) li)).length) c5, .int .i64 (wrE kind no (l.length / 256) li)]] rfl (by kernel_rfl) (fun _ _ => by kernel_rfl) (by kernel_rfl) ((law11_same no (wrE kind no (l.length / 256) li) ve a5 c5 _ (hg.below hB) hv (by have := own_sl h5; unfold Ints; exact this)).mono ?_))
      rintro e W14 ⟨rfl, hb14⟩
      refine ⟨_, rfl, ?_⟩
      replace hB := Bl.next hB hb14
      replace k10 := k10.below hb14
      replace hI := hI.below hb14
      replace hJ := hJ.below hb14
      replace hv := hv.below hb14
      replace h5 := own_below h5 hb14
      have hS15 : Below (W10.drew).heap.size (W10.drew) (W14) := Bl.next hS11 hb14
      refine ⟨hS15, ?_⟩
      refine h_pv [3, 4, 7] 10 rfl #[true, true, true, true, true, false, false, true, false, false, false, false, false, false, false, false] [(39, .bool true), (40, .pointer (some ⟨bi, 0, none⟩)), (43, .pointer (some ⟨bj, 0, none⟩))] (by kernel_rfl) (fun _ _ _ _ _ h => h) (by kernel_rfl) hS15 ?_
      have hs16 : w.heap.size ≤ (W14).heap.size := hB.size
      refine h_one 5 9 rfl (by kernel_rfl) rfl (by kernel_rfl) (op_call (lb := #[]) 18 #[.pointer (some ⟨bi, 0, none⟩)] rfl (by kernel_rfl) (fun _ _ => by kernel_rfl) (by kernel_rfl) ((image_Bytes bi pi ((l.length / 256) * 256) ci (wrL kind no (l.length / 256) li (l.take (l.length / 256 * 256))) _ hI.blk (bys_of (own_sl hI.row) hI.len) hI.len (by omega)).mono ?_))
      rintro e W16 ⟨_, rfl, hb16, b1_⟩
      refine ⟨_, rfl, ?_⟩
      replace hB := Bl.next hB hb16
      replace k10 := k10.below hb16
      replace hI := hI.below hb16
      replace hJ := hJ.below hb16
      replace hv := hv.below hb16
      replace h5 := own_below h5 hb16
      replace b1_ := own_mono b1_ hs16
      unfold OwnB at b1_
      rw [hI.len] at b1_
      obtain ⟨q1, d1, rfl⟩ := (own_sl b1_).slice
      have hS17 : Below (W10.drew).heap.size (W10.drew) (W16) := Bl.next hS15 hb16
      refine ⟨hS17, ?_⟩
      refine h_two 6 8 8 rfl (by kernel_rfl) rfl rfl (by kernel_rfl) (by kernel_rfl) ?_ ?_
      · refine op_val (run_bstr rfl (by kernel_rfl) (bys_of (own_sl b1_) hJ.hl) hJ.hl Tryz.underlying29 Tryz.underlying5 Tryz.underlying9) ?_
        have hS18 : Below (W10.drew).heap.size (W10.drew) (W16) := hS17
        refine ⟨hS18, ?_⟩
        have hs19 : w.heap.size ≤ (W16).heap.size := hB.size
        refine h_one 8 7 rfl (by kernel_rfl) rfl (by kernel_rfl) (op_call (lb := #[]) 19 #[.pointer (some ⟨bj, 0, none⟩)] rfl (by kernel_rfl) (fun _ _ => by kernel_rfl) (by kernel_rfl) ((ref_ImgBytes w.heap.size bj pj (l.length / 256) cj (wrL kind no (l.length / 256) li (l.take (l.length / 256 * 256))) _ hJ).mono ?_))
        rintro e W19 ⟨_, rfl, hb19, q2, d2, rfl, b2_⟩
        refine ⟨_, rfl, ?_⟩
        replace hB := Bl.next hB hb19
        replace k10 := k10.below hb19
        replace hI := hI.below hb19
        replace hJ := hJ.below hb19
        replace hv := hv.below hb19
        replace h5 := own_below h5 hb19
        replace b1_ := own_below b1_ hb19
        replace b2_ := own_mono b2_ hs19
        have hS20 : Below (W10.drew).heap.size (W10.drew) (W19) := Bl.next hS18 hb19
        refine ⟨hS20, ?_⟩
        refine h_one 9 6 rfl (by kernel_rfl) rfl (by kernel_rfl) (op_val (run_bstr rfl (by kernel_rfl) (bys_of (own_sl b2_) hJ.hl) hJ.hl Tryz.underlying29 Tryz.underlying5 Tryz.underlying9) ?_)
        have hS21 : Below (W10.drew).heap.size (W10.drew) (W19) := hS20
        refine ⟨hS21, ?_⟩
        refine h_pv [10, 11, 12] 3 rfl #[true, true, true, true, true, true, true, true, true, true, true, true, true, false, false, false] [(46, .bool ((⟨(wrL kind no (l.length / 256) li (l.take (l.length / 256 * 256))).toArray⟩ : ByteArray).toList == (⟨(wrL kind no (l.length / 256) li (l.take (l.length / 256 * 256))).toArray⟩ : ByteArray).toList)), (47, .bool ((⟨(wrL kind no (l.length / 256) li (l.take (l.length / 256 * 256))).toArray⟩ : ByteArray).toList == (⟨(wrL kind no (l.length / 256) li (l.take (l.length / 256 * 256))).toArray⟩ : ByteArray).toList)), (48, .bool ((⟨(wrL kind no (l.length / 256) li (l.take (l.length / 256 * 256))).toArray⟩ : ByteArray).toList == (⟨(wrL kind no (l.length / 256) li (l.take (l.length / 256 * 256))).toArray⟩ : ByteArray).toList))] (by kernel_rfl) (fun _ _ _ _ _ h => h) (by kernel_rfl) hS21 ?_
        have hc22 : (((⟨(wrL kind no (l.length / 256) li (l.take (l.length / 256 * 256))).toArray⟩ : ByteArray).toList == (⟨(wrL kind no (l.length / 256) li (l.take (l.length / 256 * 256))).toArray⟩ : ByteArray).toList) : Bool) = true := by simp
        refine h_b [46, 47, 48] _ _ hc22 (by kernel_rfl) ?_
        refine h_one 13 2 rfl (by kernel_rfl) rfl (by kernel_rfl) (op_call (lb := #[]) 33 #[] rfl (by kernel_rfl) (fun _ _ => by kernel_rfl) (by kernel_rfl) ((lives11 _).mono ?_))
        rintro e W23 ⟨rfl, hb23⟩
        refine ⟨_, rfl, ?_⟩
        replace hB := Bl.next hB hb23
        replace k10 := k10.below hb23
        replace hI := hI.below hb23
        replace hJ := hJ.below hb23
        replace hv := hv.below hb23
        replace h5 := own_below h5 hb23
        replace b1_ := own_below b1_ hb23
        replace b2_ := own_below b2_ hb23
        have hS24 : Below (W10.drew).heap.size (W10.drew) (W23) := Bl.next hS21 hb23
        refine ⟨hS24, ?_⟩
        refine h_pv [14, 15] 0 rfl #[true, true, true, true, true, true, true, true, true, true, true, true, true, true, true, true] [(50, .bool true), (8, .bool true)] (by kernel_rfl) (fun _ _ _ _ _ h => h) (by kernel_rfl) hS24 ?_
        refine h_done _ (by kernel_rfl) ?_
        refine wp_ret ?_
        exact g_ret (.bool true) (by kernel_rfl) (by kernel_rfl) ⟨rfl, hB⟩
      · have hs25 : w.heap.size ≤ (W16).heap.size := hB.size
        refine op_call (lb := #[]) 19 #[.pointer (some ⟨bj, 0, none⟩)] rfl (by kernel_rfl) (fun _ _ => by kernel_rfl) (by kernel_rfl) ((ref_ImgBytes w.heap.size bj pj (l.length / 256) cj (wrL kind no (l.length / 256) li (l.take (l.length / 256 * 256))) _ hJ).mono ?_)
        rintro e W25 ⟨_, rfl, hb25, q2, d2, rfl, b2_⟩
        refine ⟨_, rfl, ?_⟩
        replace hB := Bl.next hB hb25
        replace k10 := k10.below hb25
        replace hI := hI.below hb25
        replace hJ := hJ.below hb25
        replace hv := hv.below hb25
        replace h5 := own_below h5 hb25
        replace b1_ := own_below b1_ hb25
        replace b2_ := own_mono b2_ hs25
        have hS26 : Below (W10.drew).heap.size (W10.drew) (W25) := Bl.next hS17 hb25
        refine ⟨hS26, ?_⟩
        refine h_two 6 9 7 rfl (by kernel_rfl) rfl rfl (by kernel_rfl) (by kernel_rfl) ?_ ?_
        · refine op_val (run_bstr rfl (by kernel_rfl) (bys_of (own_sl b1_) hJ.hl) hJ.hl Tryz.underlying29 Tryz.underlying5 Tryz.underlying9) ?_
          have hS27 : Below (W10.drew).heap.size (W10.drew) (W25) := hS26
          refine ⟨hS27, ?_⟩
          refine h_one 9 6 rfl (by kernel_rfl) rfl (by kernel_rfl) (op_val (run_bstr rfl (by kernel_rfl) (bys_of (own_sl b2_) hJ.hl) hJ.hl Tryz.underlying29 Tryz.underlying5 Tryz.underlying9) ?_)
          have hS28 : Below (W10.drew).heap.size (W10.drew) (W25) := hS27
          refine ⟨hS28, ?_⟩
          refine h_pv [10, 11, 12] 3 rfl #[true, true, true, true, true, true, true, true, true, true, true, true, true, false, false, false] [(46, .bool ((⟨(wrL kind no (l.length / 256) li (l.take (l.length / 256 * 256))).toArray⟩ : ByteArray).toList == (⟨(wrL kind no (l.length / 256) li (l.take (l.length / 256 * 256))).toArray⟩ : ByteArray).toList)), (47, .bool ((⟨(wrL kind no (l.length / 256) li (l.take (l.length / 256 * 256))).toArray⟩ : ByteArray).toList == (⟨(wrL kind no (l.length / 256) li (l.take (l.length / 256 * 256))).toArray⟩ : ByteArray).toList)), (48, .bool ((⟨(wrL kind no (l.length / 256) li (l.take (l.length / 256 * 256))).toArray⟩ : ByteArray).toList == (⟨(wrL kind no (l.length / 256) li (l.take (l.length / 256 * 256))).toArray⟩ : ByteArray).toList))] (by kernel_rfl) (fun _ _ _ _ _ h => h) (by kernel_rfl) hS28 ?_
          have hc29 : (((⟨(wrL kind no (l.length / 256) li (l.take (l.length / 256 * 256))).toArray⟩ : ByteArray).toList == (⟨(wrL kind no (l.length / 256) li (l.take (l.length / 256 * 256))).toArray⟩ : ByteArray).toList) : Bool) = true := by simp
          refine h_b [46, 47, 48] _ _ hc29 (by kernel_rfl) ?_
          refine h_one 13 2 rfl (by kernel_rfl) rfl (by kernel_rfl) (op_call (lb := #[]) 33 #[] rfl (by kernel_rfl) (fun _ _ => by kernel_rfl) (by kernel_rfl) ((lives11 _).mono ?_))
          rintro e W30 ⟨rfl, hb30⟩
          refine ⟨_, rfl, ?_⟩
          replace hB := Bl.next hB hb30
          replace k10 := k10.below hb30
          replace hI := hI.below hb30
          replace hJ := hJ.below hb30
          replace hv := hv.below hb30
          replace h5 := own_below h5 hb30
          replace b1_ := own_below b1_ hb30
          replace b2_ := own_below b2_ hb30
          have hS31 : Below (W10.drew).heap.size (W10.drew) (W30) := Bl.next hS28 hb30
          refine ⟨hS31, ?_⟩
          refine h_pv [14, 15] 0 rfl #[true, true, true, true, true, true, true, true, true, true, true, true, true, true, true, true] [(50, .bool true), (8, .bool true)] (by kernel_rfl) (fun _ _ _ _ _ h => h) (by kernel_rfl) hS31 ?_
          refine h_done _ (by kernel_rfl) ?_
          refine wp_ret ?_
          exact g_ret (.bool true) (by kernel_rfl) (by kernel_rfl) ⟨rfl, hB⟩
        · refine op_val (run_bstr rfl (by kernel_rfl) (bys_of (own_sl b2_) hJ.hl) hJ.hl Tryz.underlying29 Tryz.underlying5 Tryz.underlying9) ?_
          have hS32 : Below (W10.drew).heap.size (W10.drew) (W25) := hS26
          refine ⟨hS32, ?_⟩
          refine h_one 6 6 rfl (by kernel_rfl) rfl (by kernel_rfl) (op_val (run_bstr rfl (by kernel_rfl) (bys_of (own_sl b1_) hJ.hl) hJ.hl Tryz.underlying29 Tryz.underlying5 Tryz.underlying9) ?_)
          have hS33 : Below (W10.drew).heap.size (W10.drew) (W25) := hS32
          refine ⟨hS33, ?_⟩
          refine h_pv [10, 11, 12] 3 rfl #[true, true, true, true, true, true, true, true, true, true, true, true, true, false, false, false] [(46, .bool ((⟨(wrL kind no (l.length / 256) li (l.take (l.length / 256 * 256))).toArray⟩ : ByteArray).toList == (⟨(wrL kind no (l.length / 256) li (l.take (l.length / 256 * 256))).toArray⟩ : ByteArray).toList)), (47, .bool ((⟨(wrL kind no (l.length / 256) li (l.take (l.length / 256 * 256))).toArray⟩ : ByteArray).toList == (⟨(wrL kind no (l.length / 256) li (l.take (l.length / 256 * 256))).toArray⟩ : ByteArray).toList)), (48, .bool ((⟨(wrL kind no (l.length / 256) li (l.take (l.length / 256 * 256))).toArray⟩ : ByteArray).toList == (⟨(wrL kind no (l.length / 256) li (l.take (l.length / 256 * 256))).toArray⟩ : ByteArray).toList))] (by kernel_rfl) (fun _ _ _ _ _ h => h) (by kernel_rfl) hS33 ?_
          have hc34 : (((⟨(wrL kind no (l.length / 256) li (l.take (l.length / 256 * 256))).toArray⟩ : ByteArray).toList == (⟨(wrL kind no (l.length / 256) li (l.take (l.length / 256 * 256))).toArray⟩ : ByteArray).toList) : Bool) = true := by simp
          refine h_b [46, 47, 48] _ _ hc34 (by kernel_rfl) ?_
          refine h_one 13 2 rfl (by kernel_rfl) rfl (by kernel_rfl) (op_call (lb := #[]) 33 #[] rfl (by kernel_rfl) (fun _ _ => by kernel_rfl) (by kernel_rfl) ((lives11 _).mono ?_))
          rintro e W35 ⟨rfl, hb35⟩
          refine ⟨_, rfl, ?_⟩
          replace hB := Bl.next hB hb35
          replace k10 := k10.below hb35
          replace hI := hI.below hb35
          replace hJ := hJ.below hb35
          replace hv := hv.below hb35
          replace h5 := own_below h5 hb35
          replace b1_ := own_below b1_ hb35
          replace b2_ := own_below b2_ hb35
          have hS36 : Below (W10.drew).heap.size (W10.drew) (W35) := Bl.next hS33 hb35
          refine ⟨hS36, ?_⟩
          refine h_pv [14, 15] 0 rfl #[true, true, true, true, true, true, true, true, true, true, true, true, true, true, true, true] [(50, .bool true), (8, .bool true)] (by kernel_rfl) (fun _ _ _ _ _ h => h) (by kernel_rfl) hS36 ?_
          refine h_done _ (by kernel_rfl) ?_
          refine wp_ret ?_
          exact g_ret (.bool true) (by kernel_rfl) (by kernel_rfl) ⟨rfl, hB⟩
end Go.Proofs.YtbopakjiahojdaaGreatDoor

