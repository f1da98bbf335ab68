/- The document's answer for the layers 3 and 11: an image's blocks, Of, Write, Bytes; Write of a block. -/
import Derived.Test.YtbopakjiahojdaaGreatDoorRef04
import Derived.Test.YtbopakjiahojdaaGreatDoorErrRef
namespace Go.Proofs.YtbopakjiahojdaaGreatDoor
open Go.RowKit Go.Extern.Stop Go.Stop Go.Extern
set_option linter.unusedVariables false
attribute [local irreducible] wpList wpAnyH Code.wp Oper.wp

def blksL (l : List UInt8) (k : Nat) : List (List UInt8) := (List.range k).map (blkB l)
theorem blksL_len (l : List UInt8) (k : Nat) : (blksL l k).length = k := by simp [blksL]
theorem blksL_snoc (l : List UInt8) (k : Nat) : blksL l (k + 1) = blksL l k ++ [blkB l k] := by simp [blksL, List.range_succ]
theorem blksL_get (l : List UInt8) {k i : Nat} (h : i < k) : (blksL l k).getD i [] = blkB l i := by simp [blksL, List.getD, List.getElem?_range h]
theorem blkB_take {l : List UInt8} {i m : Nat} (h : i < m) : blkB (l.take (m * 256)) i = blkB l i := by
  unfold blkB
  rw [List.drop_take, List.take_take, Nat.min_eq_left (by omega)]
theorem blksL_take {l : List UInt8} {k : Nat} : blksL (l.take (k * 256)) k = blksL l k := List.map_congr_left fun i hi => blkB_take (List.mem_range.1 hi)
theorem blksL_set {l x : List UInt8} {k j : Nat} (hx : x.length = 256) (hl : k * 256 ≤ l.length) (hj : j < k) : (blksL l k).set j x = blksL (putB l (j * 256) x) k := by
  apply List.ext_getElem?
  intro i
  by_cases hi : i < k
  · rw [List.getElem?_set]
    have e1 : ∀ l : List UInt8, (blksL l k)[i]? = some (blkB l i) := fun l => by simp [blksL, List.getElem?_range hi]
    rw [e1, e1]
    by_cases h : j = i
    · subst h; rw [if_pos rfl, blksL_len, if_pos hi, blkB_put hx (by omega)]
    · rw [if_neg h, blkB_put_other hx (by omega) (by omega) (by omega)]
  · rw [List.getElem?_eq_none (by rw [List.length_set, blksL_len]; omega), List.getElem?_eq_none (by rw [blksL_len]; omega)]
theorem take_blk {l : List UInt8} {i : Nat} : l.take (i * 256) ++ blkB l i = l.take ((i + 1) * 256) := by
  unfold blkB
  rw [Nat.add_mul, Nat.one_mul, List.take_add]
/-- an image of the document's at block bm: k blocks, their bytes l -/
structure RefI (B bm : Nat) (p : Option Addr) (k c : Nat) (l : List UInt8) (w : World) : Prop where
  blk : Blk w bm [.slice p k c] 77
  row : w.ownsRow B 9 1 (.slice p k c) k ((blksL l k).map sv)
  hk : k ≤ 14400
  hl : l.length = k * 256
theorem RefI.below {B bm : Nat} {p : Option Addr} {k c : Nat} {l : List UInt8} {w W : World} (h : RefI B bm p k c l w) (hb : Below w.heap.size w W) : RefI B bm p k c l W := ⟨h.blk.below hb, own_below h.row hb, h.hk, h.hl⟩
theorem RefI.only {B bm : Nat} {p : Option Addr} {k c : Nat} {l : List UInt8} {w W : World} {T : List TypeId} (h : RefI B bm p k c l w) (hO : Only T w W) (hT : T.contains 77 = false ∧ T.contains 9 = false) : RefI B bm p k c l W := ⟨h.blk.only hO hT.1, own_only h.row hO hT.2, h.hk, h.hl⟩
theorem RefI.mono {B B' bm : Nat} {p : Option Addr} {k c : Nat} {l : List UInt8} {w : World} (h : RefI B bm p k c l w) (hB : B' ≤ B) : RefI B' bm p k c l w := ⟨h.blk, own_mono h.row hB, h.hk, h.hl⟩
theorem RefI.base {B bm : Nat} {p : Option Addr} {k c : Nat} {l : List UInt8} {w : World} (h : RefI B bm p k c l w) (hn : 0 < k) : ∃ g, p = some ⟨g, 0, none⟩ := by
  rcases h.row.2 with ⟨_, h0⟩ | ⟨g, cap, cur, hv, _, _, hc, _⟩
  · omega
  · simp only [Value.slice.injEq] at hv
    obtain ⟨rfl, _, rfl⟩ := hv
    exact ⟨g, rfl⟩
set_option maxRecDepth 100000 in
set_option maxHeartbeats 1000000 in
theorem ref_Of (a : Option Addr) (c : Nat) (l : List UInt8) (w : World) (h : Bys w (.slice a l.length c) l) (hl : l.length ≤ 100000000) :
    Calls Tryz.prog 9 #[.slice a l.length c] w (RetS (fun w' r => ∃ bm p c2, r = .pointer (some ⟨bm, 0, none⟩) ∧ w.heap.size ≤ bm ∧ RefI w.heap.size bm p (min (l.length / 256) 14400) c2 (l.take (min (l.length / 256) 14400 * 256)) w') w) := by
  refine calls_of_wp Tryz.func9 rfl ?_
  refine g_fr ⟨#[.slice a l.length c, undef, undef, undef, undef, undef, undef, undef, undef, undef, undef, undef, undef, undef, undef, undef, undef, undef, undef, undef, undef, undef, undef, undef, undef, undef, undef, undef, undef, undef, undef, undef], []⟩ (by kernel_rfl) ?_
  refine wp_seq ?_
  refine wp_region_lit ?_
  refine g_pv 1 [(2, .pointer none)] (by kernel_rfl) ?_
  refine wpList_nil ?_
  refine wp_seq ?_
  refine wp_region_lit ?_
  refine g_pv 1 [(4, .agg #[.slice none 0 0])] (by kernel_rfl) ?_
  refine g_op (by kernel_rfl) (op_box [.slice none 0 0] rfl (by kernel_rfl) ?_)
  intro b1 W1 n1
  have g1 := n1.ge (Below.refl w.heap.size _)
  have hB := n1.below
  have k1 := n1.blk
  refine g_pv 1 [(3, .pointer (some ⟨b1, 0, none⟩))] (by kernel_rfl) ?_
  refine wpList_nil ?_
  refine wp_seq ?_
  refine wp_block ?_
  refine g_fr ⟨#[.slice a l.length c, undef, .pointer none, .pointer (some ⟨b1, 0, none⟩), .agg #[.slice none 0 0], .pointer (some ⟨b1, 0, none⟩), undef, undef, undef, undef, undef, undef, undef, undef, undef, undef, undef, undef, undef, undef, undef, undef, undef, undef, undef, undef, undef, undef, undef, undef, undef, undef], []⟩ (by kernel_rfl) ?_
  refine wp_loop (fun act V => ∃ (k : Nat) (p : Option Addr) (cp : Nat) (a2 : Option Addr) (c2 : Nat) (l2 : List UInt8) (x2 : Nat → Value), act = ⟨#[.slice a2 l2.length c2, undef, .pointer none, .pointer (some ⟨b1, 0, none⟩), .agg #[.slice none 0 0], .pointer (some ⟨b1, 0, none⟩), (x2 0), (x2 1), (x2 2), (x2 3), (x2 4), (x2 5), (x2 6), (x2 7), (x2 8), (x2 9), (x2 10), (x2 11), (x2 12), (x2 13), (x2 14), (x2 15), (x2 16), (x2 17), (x2 18), (x2 19), (x2 20), (x2 21), (x2 22), (x2 23), (x2 24), undef], []⟩ ∧ Below w.heap.size w V ∧ Blk V b1 ([.slice p k cp]) 77 ∧ V.ownsRow w.heap.size 9 1 (.slice p k cp) k ((blksL l k).map sv) ∧ Bys w (.slice a2 l2.length c2) l2 ∧ l2 = l.drop (k * 256) ∧ k * 256 ≤ l.length ∧ k ≤ 14400) (fun act V => (lenOf (act.tmps.getD 0 undef))) ⟨0, none, 0, _, _, _, (pk [undef, undef, undef, undef, undef, undef, undef, undef, undef, undef, undef, undef, undef, undef, undef, undef, undef, undef, undef, undef, undef, undef, undef, undef, undef]), rfl, hB, k1, World.ownsRow_nil _ _ _ _, h, by simp, by omega, by decide⟩ ?_
  rintro _ W2 ⟨k, p, cp, a2, c2, l2, x2, rfl, hB, k2_b1, ho, hen, hl2, hk1, hk2⟩
  have hcap := hen.cap rfl
  have hl2n : l2.length = l.length - k * 256 := by rw [hl2]; simp
  refine wp_seq ?_
  refine wp_seq ?_
  refine wp_region_lit ?_
  refine g_pv 4 [(6, .slice a2 l2.length c2), (7, .int .i64 (↑l2.length : Int)), (8, .bool (decide ((↑l2.length : Int) ≥ (256 : Int)))), (9, .bool (decide ((↑l2.length : Int) ≥ (256 : Int))))] (by kernel_rfl) ?_
  rcases Bool.eq_false_or_eq_true (decide ((↑l2.length : Int) ≥ (256 : Int))) with hc3 | hc3
  · refine g_b [8, 9] _ _ hc3 (by kernel_rfl) ?_
    have hc3 := of_decide_eq_true hc3
    refine g_pv 3 [(10, .pointer (some ⟨b1, 0, none⟩)), (11, .pointer (some ⟨b1, 0, none⟩)), (12, .pointer (some ⟨b1, 0, none⟩))] (by kernel_rfl) ?_
    refine g_op (by kernel_rfl) (op_load ⟨b1, 0, none⟩ (.slice p k cp) rfl (by kernel_rfl) (by kernel_rfl) (k2_b1.cell (i := 0) rfl) ?_)
    refine g_pv 3 [(14, .int .i64 (↑k : Int)), (15, .bool (decide ((↑k : Int) < (14400 : Int)))), (16, .bool (decide ((↑k : Int) < (14400 : Int))))] (by kernel_rfl) ?_
    refine wpList_nil ?_
    refine wp_cond_split (t := decide ((↑k : Int) < (14400 : Int))) (by kernel_rfl) (fun hc4 => ?_) (fun hc4 => ?_)
    · have hc4 := of_decide_eq_true hc4
      refine wp_skip ?_
      refine wp_block ?_
      refine wp_seq ?_
      replace hB := Bl.next hB (below_drew W2)
      replace k2_b1 := k2_b1.below (below_drew W2)
      replace ho := own_below ho (below_drew W2)
      refine h_reg (Below w.heap.size (W2.drew)) 13 rfl #[false, false, false, false, false, false, false, false, false, false, false, false, false] rfl (by kernel_rfl) (Below.refl _ _) ?_
      intro hS5
      have hBd7 := hB
      have kd7_b1 := k2_b1
      have fd_ho := ho
      refine h_pv [0, 1, 2, 3, 5] 8 rfl #[true, true, true, true, false, true, false, false, false, false, false, false, false] [(17, .pointer (some ⟨b1, 0, none⟩)), (18, .pointer (some ⟨b1, 0, none⟩)), (19, .pointer (some ⟨b1, 0, none⟩)), (20, .pointer (some ⟨b1, 0, none⟩)), (22, .slice a2 l2.length c2)] (by kernel_rfl) (fun _ _ _ _ _ h => h) (by kernel_rfl) hS5 ?_
      refine h_val 6 7 rfl (.slice a2 256 c2) rfl (by kernel_rfl) (by kernel_rfl) (by kernel_rfl) (fun _ _ _ _ _ h => h) (by kernel_rfl) (fun V hV => run_sliceH (k := 256) (b := a2) (n := l2.length) (c := c2) (i := 256) (ki := .i64) rfl (by kernel_rfl) (by kernel_rfl) rfl (by omega) Tryz.underlying29 (by kernel_rfl) V) hS5 ?_
      refine h_val 7 6 rfl (.string ⟨(l2.take 256).toArray⟩) rfl (by kernel_rfl) (by kernel_rfl) (by kernel_rfl) (fun _ _ _ _ _ h => h) (by kernel_rfl) (fun V hV => run_bstr rfl (by kernel_rfl) ((Bys.take hen rfl 256 (by omega)).below (hBd7.trans hV)) (by simp; omega) Tryz.underlying29 Tryz.underlying5 Tryz.underlying9) hS5 ?_
      refine h_two 4 8 5 rfl (by kernel_rfl) rfl rfl (by kernel_rfl) (by kernel_rfl) ?_ ?_
      · refine op_load ⟨b1, 0, none⟩ (.slice p k cp) rfl (by kernel_rfl) (by kernel_rfl) (k2_b1.cell (i := 0) rfl) ?_
        have hS8 : Below w.heap.size (W2.drew) (W2.drew) := hS5
        refine ⟨hS8, ?_⟩
        refine h_one 8 4 rfl (by kernel_rfl) rfl (by kernel_rfl) (op_buildSlice 9 [.string ⟨(l2.take 256).toArray⟩] rfl (by kernel_rfl) ?_)
        intro b9 W9 n9
        have d9_b1 := n9.ne k2_b1
        have g9 := n9.ge hB
        have r9_ho := own_ne ho n9
        replace hB := Bl.next hB n9.below
        replace k2_b1 := k2_b1.below n9.below
        replace ho := own_below ho n9.below
        have k9 := n9.blk
        have hS10 : Below w.heap.size (W2.drew) (W9) := Bl.nextB hS8 (Nat.le_trans (Nat.le_refl _) hBd7.size) n9.below
        refine ⟨hS10, ?_⟩
        refine h_one 9 3 rfl (by kernel_rfl) rfl (by kernel_rfl) (op_app (e := 9) (n := k) (xs := (blksL l k).map sv) (m := 1) (news := [.string ⟨(l2.take 256).toArray⟩]) (.string ⟨#[]⟩) 1 16 (k + 1) ((blksL l (k + 1)).map sv) rfl Tryz.underlying75 (by kernel_rfl) rfl (by decide) (by kernel_rfl) ho (by kernel_rfl) (k9.sl 1 1 (by decide) (by decide)) rfl (by simp [Value.oneCell']) (by unfold maxLen; omega) (by omega) hB.size (by rfl) (by rw [blksL_snoc, List.map_append, show blkB l k = l2.take 256 from by rw [hl2]; rfl]; rfl) ?_)
        intro p11 c11 W11 o11 hg11 hb11
        replace k2_b1 := k2_b1.grown hg11 ho (by decide)
        replace hB := hB.trans hb11
        have hS12 : Below w.heap.size (W2.drew) (W11) := hS10.trans hb11
        refine ⟨hS12, ?_⟩
        refine h_pv [10, 11] 1 rfl #[true, true, true, true, true, true, true, true, true, true, true, true, false] [(27, .pointer (some ⟨b1, 0, none⟩)), (28, .pointer (some ⟨b1, 0, none⟩))] (by kernel_rfl) (fun _ _ _ _ _ h => h) (by kernel_rfl) hS12 ?_
        refine h_one 12 0 rfl (by kernel_rfl) rfl (by kernel_rfl) (op_store (v := .slice p11 (k + 1) c11) (b := b1) (off := 0) rfl (by kernel_rfl) (by kernel_rfl) (by kernel_rfl) rfl k2_b1 (by first | decide | simp) ?_)
        intro W13 u13 k13
        change Blk _ _ [.slice p11 (k + 1) c11] _ at k13
        replace hB := u13.below hB g1
        replace o11 := u13.own2 o11 k2_b1 (by decide)
        have hS14 : Below w.heap.size (W2.drew) (W13) := u13.below hS12 g1
        refine ⟨hS14, ?_⟩
        refine h_done _ (by kernel_rfl) ?_
        refine wp_region_lit ?_
        refine g_pv 1 [(29, .slice a2 l2.length c2)] (by kernel_rfl) ?_
        refine g_op (by kernel_rfl) (op_val (run_sliceLA (k := 256) (b := a2) (n := l2.length) (c := c2) (i := 256) (ki := .i64) 1 rfl (by kernel_rfl) (by kernel_rfl) rfl (by omega) Tryz.underlying29 (by kernel_rfl) _) ?_)
        refine g_pv 1 [(0, .slice (cutA a2 256 c2 1) (l2.length - 256) (c2 - 256))] (by kernel_rfl) ?_
        refine wpList_nil ?_
        refine g_nfr ⟨#[.slice (cutA a2 256 c2 1) (l2.length - 256) (c2 - 256), undef, .pointer none, .pointer (some ⟨b1, 0, none⟩), .agg #[.slice none 0 0], .pointer (some ⟨b1, 0, none⟩), .slice a2 l2.length c2, .int .i64 (↑l2.length : Int), .bool true, .bool true, .pointer (some ⟨b1, 0, none⟩), .pointer (some ⟨b1, 0, none⟩), .pointer (some ⟨b1, 0, none⟩), .slice p k cp, .int .i64 (↑k : Int), .bool (decide ((↑k : Int) < (14400 : Int))), .bool (decide ((↑k : Int) < (14400 : Int))), .pointer (some ⟨b1, 0, none⟩), .pointer (some ⟨b1, 0, none⟩), .pointer (some ⟨b1, 0, none⟩), .pointer (some ⟨b1, 0, none⟩), .slice p k cp, .slice a2 l2.length c2, .slice a2 256 c2, .string ⟨(l2.take 256).toArray⟩, .slice (some ⟨b9, 0, none⟩) 1 1, .slice p11 (k + 1) c11, .pointer (some ⟨b1, 0, none⟩), .pointer (some ⟨b1, 0, none⟩), .slice a2 l2.length c2, .slice (cutA a2 256 c2 1) (l2.length - 256) (c2 - 256), undef], []⟩ (by kernel_rfl) ?_
        refine g_nfr ⟨#[.slice (cutA a2 256 c2 1) ((l2.drop 256).length) (c2 - 256), undef, .pointer none, .pointer (some ⟨b1, 0, none⟩), .agg #[.slice none 0 0], .pointer (some ⟨b1, 0, none⟩), .slice a2 l2.length c2, .int .i64 (↑l2.length : Int), .bool true, .bool true, .pointer (some ⟨b1, 0, none⟩), .pointer (some ⟨b1, 0, none⟩), .pointer (some ⟨b1, 0, none⟩), .slice p k cp, .int .i64 (↑k : Int), .bool (decide ((↑k : Int) < (14400 : Int))), .bool (decide ((↑k : Int) < (14400 : Int))), .pointer (some ⟨b1, 0, none⟩), .pointer (some ⟨b1, 0, none⟩), .pointer (some ⟨b1, 0, none⟩), .pointer (some ⟨b1, 0, none⟩), .slice p k cp, .slice a2 l2.length c2, .slice a2 256 c2, .string ⟨(l2.take 256).toArray⟩, .slice (some ⟨b9, 0, none⟩) 1 1, .slice p11 (k + 1) c11, .pointer (some ⟨b1, 0, none⟩), .pointer (some ⟨b1, 0, none⟩), .slice a2 l2.length c2, .slice (cutA a2 256 c2 1) (l2.length - 256) (c2 - 256), undef], []⟩ (by rw [List.length_drop]) ?_
        refine ⟨⟨k + 1, _, _, _, _, (l2.drop 256), (pk [.slice a2 l2.length c2, .int .i64 (↑l2.length : Int), .bool true, .bool true, .pointer (some ⟨b1, 0, none⟩), .pointer (some ⟨b1, 0, none⟩), .pointer (some ⟨b1, 0, none⟩), .slice p k cp, .int .i64 (↑k : Int), .bool (decide ((↑k : Int) < (14400 : Int))), .bool (decide ((↑k : Int) < (14400 : Int))), .pointer (some ⟨b1, 0, none⟩), .pointer (some ⟨b1, 0, none⟩), .pointer (some ⟨b1, 0, none⟩), .pointer (some ⟨b1, 0, none⟩), .slice p k cp, .slice a2 l2.length c2, .slice a2 256 c2, .string ⟨(l2.take 256).toArray⟩, .slice (some ⟨b9, 0, none⟩) 1 1, .slice p11 (k + 1) c11, .pointer (some ⟨b1, 0, none⟩), .pointer (some ⟨b1, 0, none⟩), .slice a2 l2.length c2, .slice (cutA a2 256 c2 1) (l2.length - 256) (c2 - 256)]), rfl, hB, k13, o11, (by have := Bys.cut hen rfl 256 l2.length (by omega) (Nat.le_refl _); rw [List.take_of_length_le (by simp)] at this; rwa [show (l2.drop 256).length = l2.length - 256 by simp]), by rw [hl2, List.drop_drop, Nat.add_mul, Nat.one_mul], by omega, by omega⟩, ?_⟩
        show ((l2.drop 256).length) < l2.length
        rw [List.length_drop]; omega
      · refine op_buildSlice 9 [.string ⟨(l2.take 256).toArray⟩] rfl (by kernel_rfl) ?_
        intro b15 W15 n15
        have d15_b1 := n15.ne k2_b1
        have g15 := n15.ge hB
        have r15_ho := own_ne ho n15
        replace hB := Bl.next hB n15.below
        replace k2_b1 := k2_b1.below n15.below
        replace ho := own_below ho n15.below
        have k15 := n15.blk
        have hS16 : Below w.heap.size (W2.drew) (W15) := Bl.nextB hS5 (Nat.le_trans (Nat.le_refl _) hBd7.size) n15.below
        refine ⟨hS16, ?_⟩
        refine h_one 4 4 rfl (by kernel_rfl) rfl (by kernel_rfl) (op_load ⟨b1, 0, none⟩ (.slice p k cp) rfl (by kernel_rfl) (by kernel_rfl) (k2_b1.cell (i := 0) rfl) ?_)
        have hS17 : Below w.heap.size (W2.drew) (W15) := hS16
        refine ⟨hS17, ?_⟩
        refine h_one 9 3 rfl (by kernel_rfl) rfl (by kernel_rfl) (op_app (e := 9) (n := k) (xs := (blksL l k).map sv) (m := 1) (news := [.string ⟨(l2.take 256).toArray⟩]) (.string ⟨#[]⟩) 1 16 (k + 1) ((blksL l (k + 1)).map sv) rfl Tryz.underlying75 (by kernel_rfl) rfl (by decide) (by kernel_rfl) ho (by kernel_rfl) (k15.sl 1 1 (by decide) (by decide)) rfl (by simp [Value.oneCell']) (by unfold maxLen; omega) (by omega) hB.size (by rfl) (by rw [blksL_snoc, List.map_append, show blkB l k = l2.take 256 from by rw [hl2]; rfl]; rfl) ?_)
        intro p18 c18 W18 o18 hg18 hb18
        replace k2_b1 := k2_b1.grown hg18 ho (by decide)
        replace hB := hB.trans hb18
        have hS19 : Below w.heap.size (W2.drew) (W18) := hS17.trans hb18
        refine ⟨hS19, ?_⟩
        refine h_pv [10, 11] 1 rfl #[true, true, true, true, true, true, true, true, true, true, true, true, false] [(27, .pointer (some ⟨b1, 0, none⟩)), (28, .pointer (some ⟨b1, 0, none⟩))] (by kernel_rfl) (fun _ _ _ _ _ h => h) (by kernel_rfl) hS19 ?_
        refine h_one 12 0 rfl (by kernel_rfl) rfl (by kernel_rfl) (op_store (v := .slice p18 (k + 1) c18) (b := b1) (off := 0) rfl (by kernel_rfl) (by kernel_rfl) (by kernel_rfl) rfl k2_b1 (by first | decide | simp) ?_)
        intro W20 u20 k20
        change Blk _ _ [.slice p18 (k + 1) c18] _ at k20
        replace hB := u20.below hB g1
        replace o18 := u20.own2 o18 k2_b1 (by decide)
        have hS21 : Below w.heap.size (W2.drew) (W20) := u20.below hS19 g1
        refine ⟨hS21, ?_⟩
        refine h_done _ (by kernel_rfl) ?_
        refine wp_region_lit ?_
        refine g_pv 1 [(29, .slice a2 l2.length c2)] (by kernel_rfl) ?_
        refine g_op (by kernel_rfl) (op_val (run_sliceLA (k := 256) (b := a2) (n := l2.length) (c := c2) (i := 256) (ki := .i64) 1 rfl (by kernel_rfl) (by kernel_rfl) rfl (by omega) Tryz.underlying29 (by kernel_rfl) _) ?_)
        refine g_pv 1 [(0, .slice (cutA a2 256 c2 1) (l2.length - 256) (c2 - 256))] (by kernel_rfl) ?_
        refine wpList_nil ?_
        refine g_nfr ⟨#[.slice (cutA a2 256 c2 1) (l2.length - 256) (c2 - 256), undef, .pointer none, .pointer (some ⟨b1, 0, none⟩), .agg #[.slice none 0 0], .pointer (some ⟨b1, 0, none⟩), .slice a2 l2.length c2, .int .i64 (↑l2.length : Int), .bool true, .bool true, .pointer (some ⟨b1, 0, none⟩), .pointer (some ⟨b1, 0, none⟩), .pointer (some ⟨b1, 0, none⟩), .slice p k cp, .int .i64 (↑k : Int), .bool (decide ((↑k : Int) < (14400 : Int))), .bool (decide ((↑k : Int) < (14400 : Int))), .pointer (some ⟨b1, 0, none⟩), .pointer (some ⟨b1, 0, none⟩), .pointer (some ⟨b1, 0, none⟩), .pointer (some ⟨b1, 0, none⟩), .slice p k cp, .slice a2 l2.length c2, .slice a2 256 c2, .string ⟨(l2.take 256).toArray⟩, .slice (some ⟨b15, 0, none⟩) 1 1, .slice p18 (k + 1) c18, .pointer (some ⟨b1, 0, none⟩), .pointer (some ⟨b1, 0, none⟩), .slice a2 l2.length c2, .slice (cutA a2 256 c2 1) (l2.length - 256) (c2 - 256), undef], []⟩ (by kernel_rfl) ?_
        refine g_nfr ⟨#[.slice (cutA a2 256 c2 1) ((l2.drop 256).length) (c2 - 256), undef, .pointer none, .pointer (some ⟨b1, 0, none⟩), .agg #[.slice none 0 0], .pointer (some ⟨b1, 0, none⟩), .slice a2 l2.length c2, .int .i64 (↑l2.length : Int), .bool true, .bool true, .pointer (some ⟨b1, 0, none⟩), .pointer (some ⟨b1, 0, none⟩), .pointer (some ⟨b1, 0, none⟩), .slice p k cp, .int .i64 (↑k : Int), .bool (decide ((↑k : Int) < (14400 : Int))), .bool (decide ((↑k : Int) < (14400 : Int))), .pointer (some ⟨b1, 0, none⟩), .pointer (some ⟨b1, 0, none⟩), .pointer (some ⟨b1, 0, none⟩), .pointer (some ⟨b1, 0, none⟩), .slice p k cp, .slice a2 l2.length c2, .slice a2 256 c2, .string ⟨(l2.take 256).toArray⟩, .slice (some ⟨b15, 0, none⟩) 1 1, .slice p18 (k + 1) c18, .pointer (some ⟨b1, 0, none⟩), .pointer (some ⟨b1, 0, none⟩), .slice a2 l2.length c2, .slice (cutA a2 256 c2 1) (l2.length - 256) (c2 - 256), undef], []⟩ (by rw [List.length_drop]) ?_
        refine ⟨⟨k + 1, _, _, _, _, (l2.drop 256), (pk [.slice a2 l2.length c2, .int .i64 (↑l2.length : Int), .bool true, .bool true, .pointer (some ⟨b1, 0, none⟩), .pointer (some ⟨b1, 0, none⟩), .pointer (some ⟨b1, 0, none⟩), .slice p k cp, .int .i64 (↑k : Int), .bool (decide ((↑k : Int) < (14400 : Int))), .bool (decide ((↑k : Int) < (14400 : Int))), .pointer (some ⟨b1, 0, none⟩), .pointer (some ⟨b1, 0, none⟩), .pointer (some ⟨b1, 0, none⟩), .pointer (some ⟨b1, 0, none⟩), .slice p k cp, .slice a2 l2.length c2, .slice a2 256 c2, .string ⟨(l2.take 256).toArray⟩, .slice (some ⟨b15, 0, none⟩) 1 1, .slice p18 (k + 1) c18, .pointer (some ⟨b1, 0, none⟩), .pointer (some ⟨b1, 0, none⟩), .slice a2 l2.length c2, .slice (cutA a2 256 c2 1) (l2.length - 256) (c2 - 256)]), rfl, hB, k20, o18, (by have := Bys.cut hen rfl 256 l2.length (by omega) (Nat.le_refl _); rw [List.take_of_length_le (by simp)] at this; rwa [show (l2.drop 256).length = l2.length - 256 by simp]), by rw [hl2, List.drop_drop, Nat.add_mul, Nat.one_mul], by omega, by omega⟩, ?_⟩
        show ((l2.drop 256).length) < l2.length
        rw [List.length_drop]; omega
    · have hc4 := of_decide_eq_false hc4
      refine wp_exit ?_
      refine then_exit ?_
      refine then_exit ?_
      refine inBlock_hit ?_
      refine wp_seq ?_
      refine wp_region_lit ?_
      refine g_pv 2 [(31, .pointer (some ⟨b1, 0, none⟩)), (2, .pointer (some ⟨b1, 0, none⟩))] (by kernel_rfl) ?_
      refine wpList_nil ?_
      refine wp_ret ?_
      refine g_ret (.pointer (some ⟨b1, 0, none⟩)) (by kernel_rfl) (by kernel_rfl) ?_
      obtain rfl : k = min (l.length / 256) 14400 := by omega
      exact ⟨_, rfl, hB, _, _, _, rfl, g1, k2_b1, by rw [blksL_take]; exact ho, by omega, by simp; omega⟩
  · refine g_b [8, 9] _ _ hc3 (by kernel_rfl) ?_
    have hc3 := of_decide_eq_false hc3
    refine g_pv 7 [(10, undef), (11, undef), (12, undef), (13, undef), (14, undef), (15, undef), (16, .bool false)] (by kernel_rfl) ?_
    refine wpList_nil ?_
    refine wp_cond_false (by kernel_rfl) ?_
    refine wp_exit ?_
    refine then_exit ?_
    refine then_exit ?_
    refine inBlock_hit ?_
    refine wp_seq ?_
    refine wp_region_lit ?_
    refine g_pv 2 [(31, .pointer (some ⟨b1, 0, none⟩)), (2, .pointer (some ⟨b1, 0, none⟩))] (by kernel_rfl) ?_
    refine wpList_nil ?_
    refine wp_ret ?_
    refine g_ret (.pointer (some ⟨b1, 0, none⟩)) (by kernel_rfl) (by kernel_rfl) ?_
    obtain rfl : k = min (l.length / 256) 14400 := by omega
    exact ⟨_, rfl, hB, _, _, _, rfl, g1, k2_b1, by rw [blksL_take]; exact ho, by omega, by simp; omega⟩
set_option maxRecDepth 100000 in
set_option maxHeartbeats 1000000 in
theorem ref_ImgBytes (B bm : Nat) (p : Option Addr) (k c : Nat) (l : List UInt8) (w : World) (hI : RefI B bm p k c l w) :
    Calls Tryz.prog 19 #[.pointer (some ⟨bm, 0, none⟩)] w (RetS (fun w' r => ∃ p2 c2, r = .slice p2 (k * 256) c2 ∧ w'.ownsRow w.heap.size 5 1 (.slice p2 (k * 256) c2) (k * 256) (l.map bv)) w) := by
  have hk := hI.blk
  have hkl := hI.hk
  have hll := hI.hl
  have hr := own_sl hI.row
  refine calls_of_wp Tryz.func19 rfl ?_
  refine g_fr ⟨#[.pointer (some ⟨bm, 0, none⟩), undef, undef, undef, undef, undef, undef, undef, undef, undef, undef, undef, undef, undef, undef, undef, undef, undef, undef, undef, undef, undef, undef, undef], []⟩ (by kernel_rfl) ?_
  refine wp_seq ?_
  refine wp_region_lit ?_
  refine g_pv 1 [(2, .slice none 0 0)] (by kernel_rfl) ?_
  refine wpList_nil ?_
  refine wp_seq ?_
  refine wp_region_lit ?_
  refine g_pv 1 [(3, .slice none 0 0)] (by kernel_rfl) ?_
  refine wpList_nil ?_
  refine wp_seq ?_
  refine wp_seq ?_
  refine wp_region_lit ?_
  refine g_pv 1 [(4, .int .i64 0)] (by kernel_rfl) ?_
  refine wpList_nil ?_
  refine wp_block ?_
  refine g_fr ⟨#[.pointer (some ⟨bm, 0, none⟩), undef, .slice none 0 0, .slice none 0 0, .int .i64 0, undef, undef, undef, undef, undef, undef, undef, undef, undef, undef, undef, undef, undef, undef, undef, undef, undef, undef, undef], []⟩ (by kernel_rfl) ?_
  refine g_fr ⟨#[.pointer (some ⟨bm, 0, none⟩), undef, .slice none 0 0, .slice none (0 * 256) 0, .int .i64 0, undef, undef, undef, undef, undef, undef, undef, undef, undef, undef, undef, undef, undef, undef, undef, undef, undef, undef, undef], []⟩ (by rw [Nat.zero_mul]) ?_
  have hB := Below.refl w.heap.size w
  refine wp_loop (fun act V => ∃ (i : Nat) (pb : Option Addr) (cb : Nat) (x1 : Nat → Value), act = ⟨#[.pointer (some ⟨bm, 0, none⟩), undef, .slice none 0 0, .slice pb (i * 256) cb, .int .i64 (↑i : Int), (x1 0), (x1 1), (x1 2), (x1 3), (x1 4), (x1 5), (x1 6), (x1 7), (x1 8), (x1 9), (x1 10), (x1 11), (x1 12), (x1 13), (x1 14), (x1 15), (x1 16), (x1 17), undef], []⟩ ∧ Below w.heap.size w V ∧ Blk V bm ([.slice p k c]) 77 ∧ V.ownsRow w.heap.size 5 1 (.slice pb (i * 256) cb) (i * 256) ((l.take (i * 256)).map bv) ∧ i ≤ k) (fun act V => k - ((intOf (act.tmps.getD 4 undef))).toNat) ⟨0, _, _, (pk [undef, undef, undef, undef, undef, undef, undef, undef, undef, undef, undef, undef, undef, undef, undef, undef, undef, undef]), rfl, hB, hk, by rw [Nat.zero_mul]; exact World.ownsRow_nil _ _ _ _, Nat.zero_le _⟩ ?_
  rintro _ W1 ⟨i, pb, cb, x1, rfl, hB, k1_bm, hb_, hi⟩
  refine wp_seq ?_
  refine wp_seq ?_
  refine wp_region_lit ?_
  refine g_pv 4 [(5, .int .i64 (↑i : Int)), (6, .pointer (some ⟨bm, 0, none⟩)), (7, .pointer (some ⟨bm, 0, none⟩)), (8, .pointer (some ⟨bm, 0, none⟩))] (by kernel_rfl) ?_
  refine g_op (by kernel_rfl) (op_load ⟨bm, 0, none⟩ (.slice p k c) rfl (by kernel_rfl) (by kernel_rfl) (k1_bm.cell (i := 0) rfl) ?_)
  refine g_pv 2 [(10, .int .i64 (↑k : Int)), (11, .bool (decide ((↑i : Int) < (↑k : Int))))] (by kernel_rfl) ?_
  refine wpList_nil ?_
  refine wp_cond_split (t := decide ((↑i : Int) < (↑k : Int))) (by kernel_rfl) (fun hc2 => ?_) (fun hc2 => ?_)
  · have hc2 := of_decide_eq_true hc2
    refine wp_skip ?_
    refine wp_seq ?_
    refine wp_block ?_
    refine wp_region_lit ?_
    refine g_pv 4 [(14, .slice pb (i * 256) cb), (15, .pointer (some ⟨bm, 0, none⟩)), (16, .pointer (some ⟨bm, 0, none⟩)), (17, .pointer (some ⟨bm, 0, none⟩))] (by kernel_rfl) ?_
    refine g_op (by kernel_rfl) (op_load ⟨bm, 0, none⟩ (.slice p k c) rfl (by kernel_rfl) (by kernel_rfl) (k1_bm.cell (i := 0) rfl) ?_)
    refine g_pv 1 [(19, .int .i64 (↑i : Int))] (by kernel_rfl) ?_
    refine g_op (by kernel_rfl) (op_val (run_indexA (size := 1) (k := i) (b := p) (n := k) (c := c) (i := (↑i : Int)) (ki := .i64) rfl (by kernel_rfl) (by kernel_rfl) rfl (by omega) (Strs.elem hr (blksL_len l k) (k := i) (by omega)).1 Tryz.underlying75 (by kernel_rfl) W1) ?_)
    refine g_op (by kernel_rfl) (op_load (elemAddr p (i * 1)) (.string ⟨((blksL l k).getD i []).toArray⟩) rfl (by kernel_rfl) (by kernel_rfl) (Strs.elem (hr.below hB) (blksL_len l k) (k := i) (by omega)).2 ?_)
    have hge3 : (blksL l k).getD i [] = blkB l i := blksL_get l (by omega)
    have hgl3 : ((blksL l k).getD i []).length = 256 := by rw [hge3]; exact blkB_len (by omega)
    refine g_op (by kernel_rfl) (op_appS ((blksL l k).getD i []) ((i + 1) * 256) ((l.take ((i + 1) * 256)).map bv) rfl Tryz.underlying29 Tryz.underlying9 (by kernel_rfl) (by kernel_rfl) hb_ (by kernel_rfl) (by omega) hB.size (by omega) (by rw [hge3, ← List.map_append, take_blk]) ?_)
    intro p3 c3 W3 o3 hg3 hb3
    replace k1_bm := k1_bm.grown hg3 hb_ (by decide)
    replace hB := hB.trans hb3
    refine g_pv 1 [(3, .slice p3 ((i + 1) * 256) c3)] (by kernel_rfl) ?_
    refine wpList_nil ?_
    refine wp_region_lit ?_
    refine g_pv 1 [(12, .int .i64 (↑i : Int))] (by kernel_rfl) ?_
    refine g_op (by kernel_rfl) (op_wrap .i64 ((↑i : Int) + 1) (↑(i + 1) : Int) (by kernel_rfl) ((show IntKind.i64.wrap ((↑i : Int) + 1) = ((↑i : Int) + 1) from by first | exact IntWalk.i64_in _ (by omega) | (simp only [IntKind.wrap]; omega)).trans (by omega)) ?_)
    refine g_pv 1 [(4, .int .i64 (↑(i + 1) : Int))] (by kernel_rfl) ?_
    refine wpList_nil ?_
    refine g_nfr ⟨#[.pointer (some ⟨bm, 0, none⟩), undef, .slice none 0 0, .slice p3 ((i + 1) * 256) c3, .int .i64 (↑(i + 1) : Int), .int .i64 (↑i : Int), .pointer (some ⟨bm, 0, none⟩), .pointer (some ⟨bm, 0, none⟩), .pointer (some ⟨bm, 0, none⟩), .slice p k c, .int .i64 (↑k : Int), .bool (decide ((↑i : Int) < (↑k : Int))), .int .i64 (↑i : Int), .int .i64 (↑(i + 1) : Int), .slice pb (i * 256) cb, .pointer (some ⟨bm, 0, none⟩), .pointer (some ⟨bm, 0, none⟩), .pointer (some ⟨bm, 0, none⟩), .slice p k c, .int .i64 (↑i : Int), .pointer (some (elemAddr p (i * 1))), .string ⟨((blksL l k).getD i []).toArray⟩, .slice p3 ((i + 1) * 256) c3, undef], []⟩ (by kernel_rfl) ?_
    refine ⟨⟨i + 1, _, _, (pk [.int .i64 (↑i : Int), .pointer (some ⟨bm, 0, none⟩), .pointer (some ⟨bm, 0, none⟩), .pointer (some ⟨bm, 0, none⟩), .slice p k c, .int .i64 (↑k : Int), .bool (decide ((↑i : Int) < (↑k : Int))), .int .i64 (↑i : Int), .int .i64 (↑(i + 1) : Int), .slice pb (i * 256) cb, .pointer (some ⟨bm, 0, none⟩), .pointer (some ⟨bm, 0, none⟩), .pointer (some ⟨bm, 0, none⟩), .slice p k c, .int .i64 (↑i : Int), .pointer (some (elemAddr p (i * 1))), .string ⟨((blksL l k).getD i []).toArray⟩, .slice p3 ((i + 1) * 256) c3]), rfl, hB, k1_bm, o3, by omega⟩, ?_⟩
    show k - ((↑(i + 1) : Int)).toNat < k - ((↑i : Int)).toNat
    omega
  · have hc2 := of_decide_eq_false hc2
    refine wp_exit ?_
    refine then_exit ?_
    refine then_exit ?_
    refine inBlock_hit ?_
    refine wp_seq ?_
    refine wp_region_lit ?_
    refine g_pv 2 [(23, .slice pb (i * 256) cb), (2, .slice pb (i * 256) cb)] (by kernel_rfl) ?_
    refine wpList_nil ?_
    refine wp_ret ?_
    refine g_ret (.slice pb (i * 256) cb) (by kernel_rfl) (by kernel_rfl) ?_
    obtain rfl : i = k := by omega
    rw [List.take_of_length_le (by omega)] at hb_
    exact ⟨_, rfl, hB, _, _, rfl, hb_⟩
set_option maxRecDepth 100000 in
set_option maxHeartbeats 1000000 in
theorem ref_ImgWrite_out (B bm : Nat) (p : Option Addr) (k c : Nat) (l : List UInt8) (w : World) (hI : RefI B bm p k c l w) (no : Int) (x : Value) (ho : ¬ (0 ≤ no ∧ no < (k : Int))) :
    Calls Tryz.prog 66 #[.pointer (some ⟨bm, 0, none⟩), .int .i64 no, x] w (Ret (.int .i64 3) w) := by
  have hk := hI.blk
  have hkl := hI.hk
  have hll := hI.hl
  refine calls_of_wp Tryz.func66 rfl ?_
  refine g_fr ⟨#[.pointer (some ⟨bm, 0, none⟩), .int .i64 no, x, undef, undef, undef, undef, undef, undef, undef, undef, undef, undef, undef, undef, undef, undef, undef, undef, undef, undef, undef, undef, undef, undef, undef, undef, undef, undef], []⟩ (by kernel_rfl) ?_
  refine wp_seq ?_
  refine wp_region_lit ?_
  refine g_pv 1 [(6, .int .i64 0)] (by kernel_rfl) ?_
  refine wpList_nil ?_
  refine wp_seq ?_
  refine wp_seq ?_
  refine wp_region_lit ?_
  refine g_pv 3 [(7, .int .i64 no), (8, .bool (decide (no < (0 : Int)))), (9, .bool (decide (no < (0 : Int))))] (by kernel_rfl) ?_
  rcases Bool.eq_false_or_eq_true (decide (no < (0 : Int))) with hc1 | hc1
  · refine g_b [8, 9] _ _ hc1 (by kernel_rfl) ?_
    have hc1 := of_decide_eq_true hc1
    refine g_pv 8 [(10, undef), (11, undef), (12, undef), (13, undef), (14, undef), (15, undef), (16, undef), (17, .bool true)] (by kernel_rfl) ?_
    refine wpList_nil ?_
    refine wp_cond_true (by kernel_rfl) ?_
    refine wp_seq ?_
    refine wp_region_lit ?_
    refine g_pv 1 [(6, .int .i64 3)] (by kernel_rfl) ?_
    refine wpList_nil ?_
    refine wp_ret (then_ret ?_)
    exact g_ret (.int .i64 3) (by kernel_rfl) (by kernel_rfl) ⟨rfl, (Below.refl w.heap.size _)⟩
  · refine g_b [8, 9] _ _ hc1 (by kernel_rfl) ?_
    have hc1 := of_decide_eq_false hc1
    refine g_pv 4 [(10, .int .i64 no), (11, .pointer (some ⟨bm, 0, none⟩)), (12, .pointer (some ⟨bm, 0, none⟩)), (13, .pointer (some ⟨bm, 0, none⟩))] (by kernel_rfl) ?_
    refine g_op (by kernel_rfl) (op_load ⟨bm, 0, none⟩ (.slice p k c) rfl (by kernel_rfl) (by kernel_rfl) (hk.cell (i := 0) rfl) ?_)
    refine g_pv 3 [(15, .int .i64 (↑k : Int)), (16, .bool (decide (no ≥ (↑k : Int)))), (17, .bool (decide (no ≥ (↑k : Int))))] (by kernel_rfl) ?_
    refine wpList_nil ?_
    refine wp_cond_split (t := decide (no ≥ (↑k : Int))) (by kernel_rfl) (fun _ => ?_) (fun hh => absurd (hh.symm.trans (show (decide (no ≥ (↑k : Int)) : Bool) = true from decide_eq_true (by omega))) (by decide))
    refine wp_seq ?_
    refine wp_region_lit ?_
    refine g_pv 1 [(6, .int .i64 3)] (by kernel_rfl) ?_
    refine wpList_nil ?_
    refine wp_ret (then_ret ?_)
    exact g_ret (.int .i64 3) (by kernel_rfl) (by kernel_rfl) ⟨rfl, (Below.refl w.heap.size _)⟩
set_option maxRecDepth 100000 in
set_option maxHeartbeats 1000000 in
theorem ref_ImgWrite_raw (B bm g Bx : Nat) (k c j : Nat) (cur : List Value) (a : Option Addr) (cx : Nat) (lx : List UInt8) (w : World) (hk : Blk w bm [.slice (some ⟨g, 0, none⟩) k c] 77) (kg : Blk w g cur 9) (hne : bm ≠ g) (hcl : k ≤ cur.length) (hj : j < k) (hx : w.ownsRow Bx 5 1 (.slice a 256 cx) 256 (lx.map bv)) (hlx : lx.length = 256) (hBw : B ≤ w.heap.size) (hBg : B ≤ g) :
    Calls Tryz.prog 66 #[.pointer (some ⟨bm, 0, none⟩), .int .i64 (↑j : Int), .slice a 256 cx] w ((fun e w' => e = .returned (.int .i64 0) ∧ Below B w w' ∧ Only [9] w w' ∧ Blk w' g (cur.set j (sv lx)) 9)) := by
  refine calls_of_wp Tryz.func66 rfl ?_
  refine g_fr ⟨#[.pointer (some ⟨bm, 0, none⟩), .int .i64 (↑j : Int), .slice a 256 cx, undef, undef, undef, undef, undef, undef, undef, undef, undef, undef, undef, undef, undef, undef, undef, undef, undef, undef, undef, undef, undef, undef, undef, undef, undef, undef], []⟩ (by kernel_rfl) ?_
  refine wp_seq ?_
  refine wp_region_lit ?_
  refine g_pv 1 [(6, .int .i64 0)] (by kernel_rfl) ?_
  refine wpList_nil ?_
  refine wp_seq ?_
  refine wp_seq ?_
  refine wp_region_lit ?_
  refine g_pv 3 [(7, .int .i64 (↑j : Int)), (8, .bool (decide ((↑j : Int) < (0 : Int)))), (9, .bool (decide ((↑j : Int) < (0 : Int))))] (by kernel_rfl) ?_
  have hc1 : (decide ((↑j : Int) < (0 : Int)) : Bool) = false := decide_eq_false (by omega)
  refine g_b [8, 9] _ _ hc1 (by kernel_rfl) ?_
  refine g_pv 4 [(10, .int .i64 (↑j : Int)), (11, .pointer (some ⟨bm, 0, none⟩)), (12, .pointer (some ⟨bm, 0, none⟩)), (13, .pointer (some ⟨bm, 0, none⟩))] (by kernel_rfl) ?_
  refine g_op (by kernel_rfl) (op_load ⟨bm, 0, none⟩ (.slice (some ⟨g, 0, none⟩) k c) rfl (by kernel_rfl) (by kernel_rfl) (hk.cell (i := 0) rfl) ?_)
  refine g_pv 3 [(15, .int .i64 (↑k : Int)), (16, .bool (decide ((↑j : Int) ≥ (↑k : Int)))), (17, .bool (decide ((↑j : Int) ≥ (↑k : Int))))] (by kernel_rfl) ?_
  refine wpList_nil ?_
  refine wp_cond_split (t := decide ((↑j : Int) ≥ (↑k : Int))) (by kernel_rfl) (fun hh => absurd (hh.symm.trans (show (decide ((↑j : Int) ≥ (↑k : Int)) : Bool) = false from decide_eq_false (by omega))) (by decide)) (fun _ => ?_)
  refine wp_skip ?_
  refine wp_seq ?_
  refine wp_seq ?_
  refine wp_region_lit ?_
  refine g_pv 3 [(18, .slice a 256 cx), (19, .int .i64 256), (20, .bool false)] (by kernel_rfl) ?_
  refine wpList_nil ?_
  refine wp_cond_false (by kernel_rfl) ?_
  refine wp_skip ?_
  refine wp_seq ?_
  have hO : Only [9] w _ := (Only.of_below (below_drew w))
  have hB := Bl.nextB (Below.refl B w) hBw (below_drew w)
  replace hk := hk.below (below_drew w)
  replace kg := kg.below (below_drew w)
  replace hx := own_below hx (below_drew w)
  refine h_reg (BelowBut (w.drew) g) 9 rfl #[false, false, false, false, false, false, false, false, false] rfl (by kernel_rfl) ((Below.refl _ _).but _) ?_
  intro hS3
  have hBd5 := hB
  have kd5_bm := hk
  have kd5_g := kg
  have fd_hx := hx
  have hOd5 := hO
  refine h_pv [0, 1, 2] 6 rfl #[true, true, true, false, false, false, false, false, false] [(21, .pointer (some ⟨bm, 0, none⟩)), (22, .pointer (some ⟨bm, 0, none⟩)), (23, .pointer (some ⟨bm, 0, none⟩))] (by kernel_rfl) (fun _ _ _ _ _ h => h) (by kernel_rfl) hS3 ?_
  refine h_load 3 5 rfl ⟨bm, 0, none⟩ (.slice (some ⟨g, 0, none⟩) k c) rfl (by kernel_rfl) (by kernel_rfl) (by kernel_rfl) (fun _ _ _ _ _ h => h) (by kernel_rfl) rfl (by kernel_rfl) (by kernel_rfl) (fun V hV => ((hV.blk kd5_bm hne).cell (i := 0) rfl)) hS3 ?_
  refine h_pv [4, 5] 3 rfl #[true, true, true, true, true, true, false, false, false] [(25, .int .i64 (↑j : Int)), (26, .slice a 256 cx)] (by kernel_rfl) (fun _ _ _ _ _ h => h) (by kernel_rfl) hS3 ?_
  refine h_val 6 2 rfl (.string ⟨lx.toArray⟩) rfl (by kernel_rfl) (by kernel_rfl) (by kernel_rfl) (fun _ _ _ _ _ h => h) (by kernel_rfl) (fun V hV => run_bstr rfl (by kernel_rfl) (bys_of (own_sl (hV.own2 fd_hx kd5_g (by decide))) hlx) hlx Tryz.underlying29 Tryz.underlying5 Tryz.underlying9) hS3 ?_
  refine h_one 7 1 rfl (by kernel_rfl) rfl (by kernel_rfl) (op_index (size := 1) (k := j) (b := g) (off := 0) (n := k) (c := c) (i := (↑j : Int)) (ki := .i64) rfl (by kernel_rfl) (by kernel_rfl) rfl (by omega) Tryz.underlying75 (by kernel_rfl) ?_)
  have hS6 : BelowBut (w.drew) g (w.drew) := hS3
  refine ⟨hS6, ?_⟩
  refine h_one 8 0 rfl (by kernel_rfl) rfl (by kernel_rfl) (op_store (v := .string ⟨lx.toArray⟩) (b := g) (off := (0 + j * 1)) rfl (by kernel_rfl) (by kernel_rfl) (by kernel_rfl) rfl kg (by omega) ?_)
  intro W7 u7 k7
  replace k7 : Blk W7 g (cur.set j (sv lx)) 9 := by rw [← (show cur.set (0 + j * 1) (.string ⟨lx.toArray⟩) = cur.set j (sv lx) from by rw [Nat.zero_add, Nat.mul_one]; rfl)]; exact k7
  replace hO := hO.trans (Only.of_upd u7 kg (by decide))
  replace hB := u7.below hB hBg
  replace hk := u7.blk hk hne
  replace hx := u7.own2 hx kg (by decide)
  have hS8 : BelowBut (w.drew) g (W7) := hS6.upd u7
  refine ⟨hS8, ?_⟩
  refine h_done _ (by kernel_rfl) ?_
  refine wp_seq ?_
  refine wp_region_lit ?_
  refine g_pv 1 [(6, .int .i64 0)] (by kernel_rfl) ?_
  refine wpList_nil ?_
  refine wp_ret ?_
  exact g_ret (.int .i64 0) (by kernel_rfl) (by kernel_rfl) ⟨rfl, hB, hO, k7⟩
def WroteI (B bm : Nat) (p : Option Addr) (k c : Nat) (l : List UInt8) (v : Value) (w : World) (e : Ending) (w' : World) : Prop :=
  e = .returned v ∧ Below B w w' ∧ Only [9] w w' ∧ RefI B bm p k c l w'
theorem ref_ImgWrite (B bm Bx : Nat) (p : Option Addr) (k c : Nat) (l : List UInt8) (j : Nat) (a : Option Addr) (cx : Nat) (lx : List UInt8) (w : World) (hI : RefI B bm p k c l w) (hj : j < k) (hx : w.ownsRow Bx 5 1 (.slice a 256 cx) 256 (lx.map bv)) (hlx : lx.length = 256) (hBw : B ≤ w.heap.size) :
    Calls Tryz.prog 66 #[.pointer (some ⟨bm, 0, none⟩), .int .i64 (j : Int), .slice a 256 cx] w (WroteI B bm p k c (putB l (j * 256) lx) (.int .i64 0) w) := by
  obtain ⟨g, rfl⟩ := hI.base (by omega)
  have hrow := hI.row
  have hge := own_ge hrow
  have hne := own_blk_ne hI.blk hrow (by decide)
  have hkl := hI.hk
  have hll := hI.hl
  obtain ⟨hl1, h2⟩ := hrow
  rcases h2 with ⟨h2, _⟩ | ⟨g', cap, cur, hv, hg, hh, hc, hm, hsz, htk⟩
  · cases h2
  · simp only [Value.slice.injEq, Option.some.injEq, Addr.mk.injEq] at hv
    obtain ⟨⟨rfl, _⟩, _, rfl⟩ := hv
    have hb : Blk w g cur.toList 9 := by unfold Blk; simpa using hh
    refine (ref_ImgWrite_raw B bm g Bx k c j cur.toList a cx lx w hI.blk hb hne (by simp; omega) hj hx hlx hBw hge).mono ?_
    rintro e W ⟨rfl, hB, hO, k2⟩
    refine ⟨rfl, hB, hO, hI.blk.only hO (by decide), ⟨by rw [List.length_map, blksL_len, Nat.mul_one], .inr ⟨g, c, (cur.toList.set j (sv lx)).toArray, rfl, hg, k2, hc, hm, by simpa using hsz, ?_⟩⟩, hkl, by rw [putB_len (by omega), hll]⟩
    rw [← blksL_set hlx (by omega) hj, List.map_set, ← htk]
    simp [List.take_set]
/-- the document's fault of a number at a block -/
def fltL (no er : Int) : List Int := if er = 0 then [] else [no]
theorem fltL_nz {no er : Int} (h : er ≠ 0) : fltL no er = [no] := if_neg h
set_option maxRecDepth 100000 in
set_option maxHeartbeats 1000000 in
theorem ref05_At_z (no : Int) (w : World) :
    Calls Tryz.prog 96 #[.int .i64 no, .agg #[.slice none 0 0, .int .i64 0]] w (Ret (.agg #[.slice none 0 0, .int .i64 0]) w) := by
  refine calls_of_wp Tryz.func96 rfl ?_
  refine g_fr ⟨#[.int .i64 no, .agg #[.slice none 0 0, .int .i64 0], undef, undef, undef, undef, undef, undef, undef, undef, undef, undef, undef, undef, undef, undef, undef], []⟩ (by kernel_rfl) ?_
  refine wp_seq ?_
  refine wp_region_lit ?_
  refine g_op (by kernel_rfl) (op_box [.slice none 0 0, .int .i64 0] rfl (by kernel_rfl) ?_)
  intro b1 W1 n1
  have g1 := n1.ge (Below.refl w.heap.size _)
  have hB := n1.below
  have k1 := n1.blk
  refine g_op (by kernel_rfl) (op_alloc [.slice none 0 0, .int .i64 0] rfl (by kernel_rfl) ?_)
  intro b2 W2 n2
  have d2_b1 := n2.ne k1
  have g2 := n2.ge hB
  replace hB := Bl.next hB n2.below
  replace k1 := k1.below n2.below
  have k2 := n2.blk
  refine wpList_nil ?_
  refine wp_seq ?_
  refine wp_seq ?_
  refine wp_region_lit ?_
  refine g_pv 1 [(5, .pointer (some ⟨b1, 1, none⟩))] (by kernel_rfl) ?_
  refine g_op (by kernel_rfl) (op_load ⟨b1, 1, none⟩ (.int .i64 0) rfl (by kernel_rfl) (by kernel_rfl) (k1.cell (i := 1) rfl) ?_)
  refine g_pv 1 [(7, .bool true)] (by kernel_rfl) ?_
  refine wpList_nil ?_
  refine wp_cond_true (by kernel_rfl) ?_
  refine wp_seq ?_
  refine wp_region_lit ?_
  refine g_pv 1 [(8, .agg #[.slice none 0 0, .int .i64 0])] (by kernel_rfl) ?_
  refine g_op (by kernel_rfl) (op_storev (b := b2) (off := 0) [.slice none 0 0, .int .i64 0] rfl (by kernel_rfl) (by kernel_rfl) (by kernel_rfl) (by first | decide | simp [Value.oneCell']) k2 (by first | decide | simp) ?_)
  intro W3 u3 k3
  change Blk _ _ [.slice none 0 0, .int .i64 0] _ at k3
  replace hB := u3.below hB g2
  replace k1 := u3.blk k1 (Ne.symm (Ne.symm d2_b1))
  refine wpList_nil ?_
  refine wp_ret (then_ret ?_)
  exact g_ret (.agg #[.slice none 0 0, .int .i64 0]) (by kernel_rfl) (res_c (d := _) (cs := [.slice none 0 0, .int .i64 0]) rfl (by kernel_rfl) k3.whole Tryz.underlying33 rfl (by kernel_rfl)) ⟨rfl, hB⟩
set_option maxRecDepth 100000 in
set_option maxHeartbeats 1000000 in
theorem ref05_At_n (no er : Int) (w : World) (he : er ≠ 0) :
    Calls Tryz.prog 96 #[.int .i64 no, .agg #[.slice none 0 0, .int .i64 er]] w (RetS (fun w' r => ∃ a c, r = .agg #[.slice a 1 c, .int .i64 er] ∧ w'.ownsRow w.heap.size 3 1 (.slice a 1 c) 1 [.int .i64 no]) w) := by
  refine calls_of_wp Tryz.func96 rfl ?_
  refine g_fr ⟨#[.int .i64 no, .agg #[.slice none 0 0, .int .i64 er], undef, undef, undef, undef, undef, undef, undef, undef, undef, undef, undef, undef, undef, undef, undef], []⟩ (by kernel_rfl) ?_
  refine wp_seq ?_
  refine wp_region_lit ?_
  refine g_op (by kernel_rfl) (op_box [.slice none 0 0, .int .i64 er] rfl (by kernel_rfl) ?_)
  intro b1 W1 n1
  have g1 := n1.ge (Below.refl w.heap.size _)
  have hB := n1.below
  have k1 := n1.blk
  refine g_op (by kernel_rfl) (op_alloc [.slice none 0 0, .int .i64 0] rfl (by kernel_rfl) ?_)
  intro b2 W2 n2
  have d2_b1 := n2.ne k1
  have g2 := n2.ge hB
  replace hB := Bl.next hB n2.below
  replace k1 := k1.below n2.below
  have k2 := n2.blk
  refine wpList_nil ?_
  refine wp_seq ?_
  refine wp_seq ?_
  refine wp_region_lit ?_
  refine g_pv 1 [(5, .pointer (some ⟨b1, 1, none⟩))] (by kernel_rfl) ?_
  refine g_op (by kernel_rfl) (op_load ⟨b1, 1, none⟩ (.int .i64 er) rfl (by kernel_rfl) (by kernel_rfl) (k1.cell (i := 1) rfl) ?_)
  refine g_pv 1 [(7, .bool (er == (0 : Int)))] (by kernel_rfl) ?_
  refine wpList_nil ?_
  refine wp_cond_split (t := (er == (0 : Int))) (by kernel_rfl) (fun hh => absurd (hh.symm.trans (show ((er == (0 : Int)) : Bool) = false from beq_false_of_ne he)) (by decide)) (fun _ => ?_)
  refine wp_skip ?_
  refine wp_seq ?_
  replace hB := Bl.next hB (below_drew W2)
  replace k1 := k1.below (below_drew W2)
  replace k2 := k2.below (below_drew W2)
  refine h_reg (Below w.heap.size (W2.drew)) 9 rfl #[false, false, false, false, false, false, false, false, false] rfl (by kernel_rfl) (Below.refl _ _) ?_
  intro hS4
  have hBd6 := hB
  have kd6_b1 := k1
  have kd6_b2 := k2
  refine h_pv [0, 2, 5] 6 rfl #[true, false, true, false, false, true, false, false, false] [(9, .int .i64 no), (11, .pointer (some ⟨b1, 0, none⟩)), (14, .pointer (some ⟨b1, 1, none⟩))] (by kernel_rfl) (fun _ _ _ _ _ h => h) (by kernel_rfl) hS4 ?_
  refine h_three 1 3 6 5 rfl (by kernel_rfl) rfl rfl rfl (by kernel_rfl) (by kernel_rfl) (by kernel_rfl) ?_ ?_ ?_
  · refine op_buildSlice 3 [.int .i64 no] rfl (by kernel_rfl) ?_
    intro b7 W7 n7
    have d7_b1 := n7.ne k1
    have d7_b2 := n7.ne k2
    have g7 := n7.ge hB
    replace hB := Bl.next hB n7.below
    replace k1 := k1.below n7.below
    replace k2 := k2.below n7.below
    have k7 := n7.blk
    have hS8 : Below w.heap.size (W2.drew) (W7) := Bl.nextB hS4 (Nat.le_trans (Nat.le_refl _) hBd6.size) n7.below
    refine ⟨hS8, ?_⟩
    refine h_two 3 6 4 rfl (by kernel_rfl) rfl rfl (by kernel_rfl) (by kernel_rfl) ?_ ?_
    · refine op_load ⟨b1, 0, none⟩ (.slice none 0 0) rfl (by kernel_rfl) (by kernel_rfl) (k1.cell (i := 0) rfl) ?_
      have hS9 : Below w.heap.size (W2.drew) (W7) := hS8
      refine ⟨hS9, ?_⟩
      refine h_two 4 6 3 rfl (by kernel_rfl) rfl rfl (by kernel_rfl) (by kernel_rfl) ?_ ?_
      · have o10 := own_of_blk (size := 1) (n := 1) k7 g7 rfl (by decide)
        refine op_app (e := 3) (n := 1) (xs := [.int .i64 no]) (m := 0) (news := []) (.int .i64 0) 1 8 (1) ([.int .i64 no]) rfl Tryz.underlying31 (by kernel_rfl) rfl (by decide) (by kernel_rfl) o10 (by kernel_rfl) (.inl ⟨none, 0, rfl, rfl, rfl⟩) rfl (by simp) (by unfold maxLen; omega) (by omega) hB.size (by rfl) (by rfl) ?_
        intro p11 c11 W11 o11 hg11 hb11
        replace k1 := k1.grown hg11 o10 (by decide)
        replace k2 := k2.grown hg11 o10 (by decide)
        replace hB := hB.trans hb11
        have hS12 : Below w.heap.size (W2.drew) (W11) := hS9.trans hb11
        refine ⟨hS12, ?_⟩
        refine h_one 6 2 rfl (by kernel_rfl) rfl (by kernel_rfl) (op_load ⟨b1, 1, none⟩ (.int .i64 er) rfl (by kernel_rfl) (by kernel_rfl) (k1.cell (i := 1) rfl) ?_)
        have hS13 : Below w.heap.size (W2.drew) (W11) := hS12
        refine ⟨hS13, ?_⟩
        refine h_pv [7] 1 rfl #[true, true, true, true, true, true, true, true, false] [(16, .agg #[.slice p11 1 c11, .int .i64 er])] (by kernel_rfl) (fun _ _ _ _ _ h => h) (by kernel_rfl) hS13 ?_
        refine h_one 8 0 rfl (by kernel_rfl) rfl (by kernel_rfl) (op_storev (b := b2) (off := 0) [.slice p11 1 c11, .int .i64 er] rfl (by kernel_rfl) (by kernel_rfl) (by kernel_rfl) (by first | decide | simp [Value.oneCell']) k2 (by first | decide | simp) ?_)
        intro W14 u14 k14
        change Blk _ _ [.slice p11 1 c11, .int .i64 er] _ at k14
        replace hB := u14.below hB g2
        replace k1 := u14.blk k1 (Ne.symm (Ne.symm d2_b1))
        replace o11 := u14.own2 o11 k2 (by decide)
        have hS15 : Below w.heap.size (W2.drew) (W14) := u14.below hS13 g2
        refine ⟨hS15, ?_⟩
        refine h_done _ (by kernel_rfl) ?_
        refine wp_ret ?_
        exact g_ret (.agg #[.slice p11 1 c11, .int .i64 er]) (by kernel_rfl) (res_c (d := _) (cs := [.slice p11 1 c11, .int .i64 er]) rfl (by kernel_rfl) k14.whole Tryz.underlying33 rfl (by kernel_rfl)) ⟨_, rfl, hB, _, _, rfl, o11⟩
      · refine op_load ⟨b1, 1, none⟩ (.int .i64 er) rfl (by kernel_rfl) (by kernel_rfl) (k1.cell (i := 1) rfl) ?_
        have hS16 : Below w.heap.size (W2.drew) (W7) := hS9
        refine ⟨hS16, ?_⟩
        have o17 := own_of_blk (size := 1) (n := 1) k7 g7 rfl (by decide)
        refine h_one 4 2 rfl (by kernel_rfl) rfl (by kernel_rfl) (op_app (e := 3) (n := 1) (xs := [.int .i64 no]) (m := 0) (news := []) (.int .i64 0) 1 8 (1) ([.int .i64 no]) rfl Tryz.underlying31 (by kernel_rfl) rfl (by decide) (by kernel_rfl) o17 (by kernel_rfl) (.inl ⟨none, 0, rfl, rfl, rfl⟩) rfl (by simp) (by unfold maxLen; omega) (by omega) hB.size (by rfl) (by rfl) ?_)
        intro p18 c18 W18 o18 hg18 hb18
        replace k1 := k1.grown hg18 o17 (by decide)
        replace k2 := k2.grown hg18 o17 (by decide)
        replace hB := hB.trans hb18
        have hS19 : Below w.heap.size (W2.drew) (W18) := hS16.trans hb18
        refine ⟨hS19, ?_⟩
        refine h_pv [7] 1 rfl #[true, true, true, true, true, true, true, true, false] [(16, .agg #[.slice p18 1 c18, .int .i64 er])] (by kernel_rfl) (fun _ _ _ _ _ h => h) (by kernel_rfl) hS19 ?_
        refine h_one 8 0 rfl (by kernel_rfl) rfl (by kernel_rfl) (op_storev (b := b2) (off := 0) [.slice p18 1 c18, .int .i64 er] rfl (by kernel_rfl) (by kernel_rfl) (by kernel_rfl) (by first | decide | simp [Value.oneCell']) k2 (by first | decide | simp) ?_)
        intro W20 u20 k20
        change Blk _ _ [.slice p18 1 c18, .int .i64 er] _ at k20
        replace hB := u20.below hB g2
        replace k1 := u20.blk k1 (Ne.symm (Ne.symm d2_b1))
        replace o18 := u20.own2 o18 k2 (by decide)
        have hS21 : Below w.heap.size (W2.drew) (W20) := u20.below hS19 g2
        refine ⟨hS21, ?_⟩
        refine h_done _ (by kernel_rfl) ?_
        refine wp_ret ?_
        exact g_ret (.agg #[.slice p18 1 c18, .int .i64 er]) (by kernel_rfl) (res_c (d := _) (cs := [.slice p18 1 c18, .int .i64 er]) rfl (by kernel_rfl) k20.whole Tryz.underlying33 rfl (by kernel_rfl)) ⟨_, rfl, hB, _, _, rfl, o18⟩
    · refine op_load ⟨b1, 1, none⟩ (.int .i64 er) rfl (by kernel_rfl) (by kernel_rfl) (k1.cell (i := 1) rfl) ?_
      have hS22 : Below w.heap.size (W2.drew) (W7) := hS8
      refine ⟨hS22, ?_⟩
      refine h_one 3 3 rfl (by kernel_rfl) rfl (by kernel_rfl) (op_load ⟨b1, 0, none⟩ (.slice none 0 0) rfl (by kernel_rfl) (by kernel_rfl) (k1.cell (i := 0) rfl) ?_)
      have hS23 : Below w.heap.size (W2.drew) (W7) := hS22
      refine ⟨hS23, ?_⟩
      have o24 := own_of_blk (size := 1) (n := 1) k7 g7 rfl (by decide)
      refine h_one 4 2 rfl (by kernel_rfl) rfl (by kernel_rfl) (op_app (e := 3) (n := 1) (xs := [.int .i64 no]) (m := 0) (news := []) (.int .i64 0) 1 8 (1) ([.int .i64 no]) rfl Tryz.underlying31 (by kernel_rfl) rfl (by decide) (by kernel_rfl) o24 (by kernel_rfl) (.inl ⟨none, 0, rfl, rfl, rfl⟩) rfl (by simp) (by unfold maxLen; omega) (by omega) hB.size (by rfl) (by rfl) ?_)
      intro p25 c25 W25 o25 hg25 hb25
      replace k1 := k1.grown hg25 o24 (by decide)
      replace k2 := k2.grown hg25 o24 (by decide)
      replace hB := hB.trans hb25
      have hS26 : Below w.heap.size (W2.drew) (W25) := hS23.trans hb25
      refine ⟨hS26, ?_⟩
      refine h_pv [7] 1 rfl #[true, true, true, true, true, true, true, true, false] [(16, .agg #[.slice p25 1 c25, .int .i64 er])] (by kernel_rfl) (fun _ _ _ _ _ h => h) (by kernel_rfl) hS26 ?_
      refine h_one 8 0 rfl (by kernel_rfl) rfl (by kernel_rfl) (op_storev (b := b2) (off := 0) [.slice p25 1 c25, .int .i64 er] rfl (by kernel_rfl) (by kernel_rfl) (by kernel_rfl) (by first | decide | simp [Value.oneCell']) k2 (by first | decide | simp) ?_)
      intro W27 u27 k27
      change Blk _ _ [.slice p25 1 c25, .int .i64 er] _ at k27
      replace hB := u27.below hB g2
      replace k1 := u27.blk k1 (Ne.symm (Ne.symm d2_b1))
      replace o25 := u27.own2 o25 k2 (by decide)
      have hS28 : Below w.heap.size (W2.drew) (W27) := u27.below hS26 g2
      refine ⟨hS28, ?_⟩
      refine h_done _ (by kernel_rfl) ?_
      refine wp_ret ?_
      exact g_ret (.agg #[.slice p25 1 c25, .int .i64 er]) (by kernel_rfl) (res_c (d := _) (cs := [.slice p25 1 c25, .int .i64 er]) rfl (by kernel_rfl) k27.whole Tryz.underlying33 rfl (by kernel_rfl)) ⟨_, rfl, hB, _, _, rfl, o25⟩
  · refine op_load ⟨b1, 0, none⟩ (.slice none 0 0) rfl (by kernel_rfl) (by kernel_rfl) (k1.cell (i := 0) rfl) ?_
    have hS29 : Below w.heap.size (W2.drew) (W2.drew) := hS4
    refine ⟨hS29, ?_⟩
    refine h_two 1 6 4 rfl (by kernel_rfl) rfl rfl (by kernel_rfl) (by kernel_rfl) ?_ ?_
    · refine op_buildSlice 3 [.int .i64 no] rfl (by kernel_rfl) ?_
      intro b30 W30 n30
      have d30_b1 := n30.ne k1
      have d30_b2 := n30.ne k2
      have g30 := n30.ge hB
      replace hB := Bl.next hB n30.below
      replace k1 := k1.below n30.below
      replace k2 := k2.below n30.below
      have k30 := n30.blk
      have hS31 : Below w.heap.size (W2.drew) (W30) := Bl.nextB hS29 (Nat.le_trans (Nat.le_refl _) hBd6.size) n30.below
      refine ⟨hS31, ?_⟩
      refine h_two 4 6 3 rfl (by kernel_rfl) rfl rfl (by kernel_rfl) (by kernel_rfl) ?_ ?_
      · have o32 := own_of_blk (size := 1) (n := 1) k30 g30 rfl (by decide)
        refine op_app (e := 3) (n := 1) (xs := [.int .i64 no]) (m := 0) (news := []) (.int .i64 0) 1 8 (1) ([.int .i64 no]) rfl Tryz.underlying31 (by kernel_rfl) rfl (by decide) (by kernel_rfl) o32 (by kernel_rfl) (.inl ⟨none, 0, rfl, rfl, rfl⟩) rfl (by simp) (by unfold maxLen; omega) (by omega) hB.size (by rfl) (by rfl) ?_
        intro p33 c33 W33 o33 hg33 hb33
        replace k1 := k1.grown hg33 o32 (by decide)
        replace k2 := k2.grown hg33 o32 (by decide)
        replace hB := hB.trans hb33
        have hS34 : Below w.heap.size (W2.drew) (W33) := hS31.trans hb33
        refine ⟨hS34, ?_⟩
        refine h_one 6 2 rfl (by kernel_rfl) rfl (by kernel_rfl) (op_load ⟨b1, 1, none⟩ (.int .i64 er) rfl (by kernel_rfl) (by kernel_rfl) (k1.cell (i := 1) rfl) ?_)
        have hS35 : Below w.heap.size (W2.drew) (W33) := hS34
        refine ⟨hS35, ?_⟩
        refine h_pv [7] 1 rfl #[true, true, true, true, true, true, true, true, false] [(16, .agg #[.slice p33 1 c33, .int .i64 er])] (by kernel_rfl) (fun _ _ _ _ _ h => h) (by kernel_rfl) hS35 ?_
        refine h_one 8 0 rfl (by kernel_rfl) rfl (by kernel_rfl) (op_storev (b := b2) (off := 0) [.slice p33 1 c33, .int .i64 er] rfl (by kernel_rfl) (by kernel_rfl) (by kernel_rfl) (by first | decide | simp [Value.oneCell']) k2 (by first | decide | simp) ?_)
        intro W36 u36 k36
        change Blk _ _ [.slice p33 1 c33, .int .i64 er] _ at k36
        replace hB := u36.below hB g2
        replace k1 := u36.blk k1 (Ne.symm (Ne.symm d2_b1))
        replace o33 := u36.own2 o33 k2 (by decide)
        have hS37 : Below w.heap.size (W2.drew) (W36) := u36.below hS35 g2
        refine ⟨hS37, ?_⟩
        refine h_done _ (by kernel_rfl) ?_
        refine wp_ret ?_
        exact g_ret (.agg #[.slice p33 1 c33, .int .i64 er]) (by kernel_rfl) (res_c (d := _) (cs := [.slice p33 1 c33, .int .i64 er]) rfl (by kernel_rfl) k36.whole Tryz.underlying33 rfl (by kernel_rfl)) ⟨_, rfl, hB, _, _, rfl, o33⟩
      · refine op_load ⟨b1, 1, none⟩ (.int .i64 er) rfl (by kernel_rfl) (by kernel_rfl) (k1.cell (i := 1) rfl) ?_
        have hS38 : Below w.heap.size (W2.drew) (W30) := hS31
        refine ⟨hS38, ?_⟩
        have o39 := own_of_blk (size := 1) (n := 1) k30 g30 rfl (by decide)
        refine h_one 4 2 rfl (by kernel_rfl) rfl (by kernel_rfl) (op_app (e := 3) (n := 1) (xs := [.int .i64 no]) (m := 0) (news := []) (.int .i64 0) 1 8 (1) ([.int .i64 no]) rfl Tryz.underlying31 (by kernel_rfl) rfl (by decide) (by kernel_rfl) o39 (by kernel_rfl) (.inl ⟨none, 0, rfl, rfl, rfl⟩) rfl (by simp) (by unfold maxLen; omega) (by omega) hB.size (by rfl) (by rfl) ?_)
        intro p40 c40 W40 o40 hg40 hb40
        replace k1 := k1.grown hg40 o39 (by decide)
        replace k2 := k2.grown hg40 o39 (by decide)
        replace hB := hB.trans hb40
        have hS41 : Below w.heap.size (W2.drew) (W40) := hS38.trans hb40
        refine ⟨hS41, ?_⟩
        refine h_pv [7] 1 rfl #[true, true, true, true, true, true, true, true, false] [(16, .agg #[.slice p40 1 c40, .int .i64 er])] (by kernel_rfl) (fun _ _ _ _ _ h => h) (by kernel_rfl) hS41 ?_
        refine h_one 8 0 rfl (by kernel_rfl) rfl (by kernel_rfl) (op_storev (b := b2) (off := 0) [.slice p40 1 c40, .int .i64 er] rfl (by kernel_rfl) (by kernel_rfl) (by kernel_rfl) (by first | decide | simp [Value.oneCell']) k2 (by first | decide | simp) ?_)
        intro W42 u42 k42
        change Blk _ _ [.slice p40 1 c40, .int .i64 er] _ at k42
        replace hB := u42.below hB g2
        replace k1 := u42.blk k1 (Ne.symm (Ne.symm d2_b1))
        replace o40 := u42.own2 o40 k2 (by decide)
        have hS43 : Below w.heap.size (W2.drew) (W42) := u42.below hS41 g2
        refine ⟨hS43, ?_⟩
        refine h_done _ (by kernel_rfl) ?_
        refine wp_ret ?_
        exact g_ret (.agg #[.slice p40 1 c40, .int .i64 er]) (by kernel_rfl) (res_c (d := _) (cs := [.slice p40 1 c40, .int .i64 er]) rfl (by kernel_rfl) k42.whole Tryz.underlying33 rfl (by kernel_rfl)) ⟨_, rfl, hB, _, _, rfl, o40⟩
    · refine op_load ⟨b1, 1, none⟩ (.int .i64 er) rfl (by kernel_rfl) (by kernel_rfl) (k1.cell (i := 1) rfl) ?_
      have hS44 : Below w.heap.size (W2.drew) (W2.drew) := hS29
      refine ⟨hS44, ?_⟩
      refine h_one 1 3 rfl (by kernel_rfl) rfl (by kernel_rfl) (op_buildSlice 3 [.int .i64 no] rfl (by kernel_rfl) ?_)
      intro b45 W45 n45
      have d45_b1 := n45.ne k1
      have d45_b2 := n45.ne k2
      have g45 := n45.ge hB
      replace hB := Bl.next hB n45.below
      replace k1 := k1.below n45.below
      replace k2 := k2.below n45.below
      have k45 := n45.blk
      have hS46 : Below w.heap.size (W2.drew) (W45) := Bl.nextB hS44 (Nat.le_trans (Nat.le_refl _) hBd6.size) n45.below
      refine ⟨hS46, ?_⟩
      have o47 := own_of_blk (size := 1) (n := 1) k45 g45 rfl (by decide)
      refine h_one 4 2 rfl (by kernel_rfl) rfl (by kernel_rfl) (op_app (e := 3) (n := 1) (xs := [.int .i64 no]) (m := 0) (news := []) (.int .i64 0) 1 8 (1) ([.int .i64 no]) rfl Tryz.underlying31 (by kernel_rfl) rfl (by decide) (by kernel_rfl) o47 (by kernel_rfl) (.inl ⟨none, 0, rfl, rfl, rfl⟩) rfl (by simp) (by unfold maxLen; omega) (by omega) hB.size (by rfl) (by rfl) ?_)
      intro p48 c48 W48 o48 hg48 hb48
      replace k1 := k1.grown hg48 o47 (by decide)
      replace k2 := k2.grown hg48 o47 (by decide)
      replace hB := hB.trans hb48
      have hS49 : Below w.heap.size (W2.drew) (W48) := hS46.trans hb48
      refine ⟨hS49, ?_⟩
      refine h_pv [7] 1 rfl #[true, true, true, true, true, true, true, true, false] [(16, .agg #[.slice p48 1 c48, .int .i64 er])] (by kernel_rfl) (fun _ _ _ _ _ h => h) (by kernel_rfl) hS49 ?_
      refine h_one 8 0 rfl (by kernel_rfl) rfl (by kernel_rfl) (op_storev (b := b2) (off := 0) [.slice p48 1 c48, .int .i64 er] rfl (by kernel_rfl) (by kernel_rfl) (by kernel_rfl) (by first | decide | simp [Value.oneCell']) k2 (by first | decide | simp) ?_)
      intro W50 u50 k50
      change Blk _ _ [.slice p48 1 c48, .int .i64 er] _ at k50
      replace hB := u50.below hB g2
      replace k1 := u50.blk k1 (Ne.symm (Ne.symm d2_b1))
      replace o48 := u50.own2 o48 k2 (by decide)
      have hS51 : Below w.heap.size (W2.drew) (W50) := u50.below hS49 g2
      refine ⟨hS51, ?_⟩
      refine h_done _ (by kernel_rfl) ?_
      refine wp_ret ?_
      exact g_ret (.agg #[.slice p48 1 c48, .int .i64 er]) (by kernel_rfl) (res_c (d := _) (cs := [.slice p48 1 c48, .int .i64 er]) rfl (by kernel_rfl) k50.whole Tryz.underlying33 rfl (by kernel_rfl)) ⟨_, rfl, hB, _, _, rfl, o48⟩
  · refine op_load ⟨b1, 1, none⟩ (.int .i64 er) rfl (by kernel_rfl) (by kernel_rfl) (k1.cell (i := 1) rfl) ?_
    have hS52 : Below w.heap.size (W2.drew) (W2.drew) := hS4
    refine ⟨hS52, ?_⟩
    refine h_two 1 3 4 rfl (by kernel_rfl) rfl rfl (by kernel_rfl) (by kernel_rfl) ?_ ?_
    · refine op_buildSlice 3 [.int .i64 no] rfl (by kernel_rfl) ?_
      intro b53 W53 n53
      have d53_b1 := n53.ne k1
      have d53_b2 := n53.ne k2
      have g53 := n53.ge hB
      replace hB := Bl.next hB n53.below
      replace k1 := k1.below n53.below
      replace k2 := k2.below n53.below
      have k53 := n53.blk
      have hS54 : Below w.heap.size (W2.drew) (W53) := Bl.nextB hS52 (Nat.le_trans (Nat.le_refl _) hBd6.size) n53.below
      refine ⟨hS54, ?_⟩
      refine h_one 3 3 rfl (by kernel_rfl) rfl (by kernel_rfl) (op_load ⟨b1, 0, none⟩ (.slice none 0 0) rfl (by kernel_rfl) (by kernel_rfl) (k1.cell (i := 0) rfl) ?_)
      have hS55 : Below w.heap.size (W2.drew) (W53) := hS54
      refine ⟨hS55, ?_⟩
      have o56 := own_of_blk (size := 1) (n := 1) k53 g53 rfl (by decide)
      refine h_one 4 2 rfl (by kernel_rfl) rfl (by kernel_rfl) (op_app (e := 3) (n := 1) (xs := [.int .i64 no]) (m := 0) (news := []) (.int .i64 0) 1 8 (1) ([.int .i64 no]) rfl Tryz.underlying31 (by kernel_rfl) rfl (by decide) (by kernel_rfl) o56 (by kernel_rfl) (.inl ⟨none, 0, rfl, rfl, rfl⟩) rfl (by simp) (by unfold maxLen; omega) (by omega) hB.size (by rfl) (by rfl) ?_)
      intro p57 c57 W57 o57 hg57 hb57
      replace k1 := k1.grown hg57 o56 (by decide)
      replace k2 := k2.grown hg57 o56 (by decide)
      replace hB := hB.trans hb57
      have hS58 : Below w.heap.size (W2.drew) (W57) := hS55.trans hb57
      refine ⟨hS58, ?_⟩
      refine h_pv [7] 1 rfl #[true, true, true, true, true, true, true, true, false] [(16, .agg #[.slice p57 1 c57, .int .i64 er])] (by kernel_rfl) (fun _ _ _ _ _ h => h) (by kernel_rfl) hS58 ?_
      refine h_one 8 0 rfl (by kernel_rfl) rfl (by kernel_rfl) (op_storev (b := b2) (off := 0) [.slice p57 1 c57, .int .i64 er] rfl (by kernel_rfl) (by kernel_rfl) (by kernel_rfl) (by first | decide | simp [Value.oneCell']) k2 (by first | decide | simp) ?_)
      intro W59 u59 k59
      change Blk _ _ [.slice p57 1 c57, .int .i64 er] _ at k59
      replace hB := u59.below hB g2
      replace k1 := u59.blk k1 (Ne.symm (Ne.symm d2_b1))
      replace o57 := u59.own2 o57 k2 (by decide)
      have hS60 : Below w.heap.size (W2.drew) (W59) := u59.below hS58 g2
      refine ⟨hS60, ?_⟩
      refine h_done _ (by kernel_rfl) ?_
      refine wp_ret ?_
      exact g_ret (.agg #[.slice p57 1 c57, .int .i64 er]) (by kernel_rfl) (res_c (d := _) (cs := [.slice p57 1 c57, .int .i64 er]) rfl (by kernel_rfl) k59.whole Tryz.underlying33 rfl (by kernel_rfl)) ⟨_, rfl, hB, _, _, rfl, o57⟩
    · refine op_load ⟨b1, 0, none⟩ (.slice none 0 0) rfl (by kernel_rfl) (by kernel_rfl) (k1.cell (i := 0) rfl) ?_
      have hS61 : Below w.heap.size (W2.drew) (W2.drew) := hS52
      refine ⟨hS61, ?_⟩
      refine h_one 1 3 rfl (by kernel_rfl) rfl (by kernel_rfl) (op_buildSlice 3 [.int .i64 no] rfl (by kernel_rfl) ?_)
      intro b62 W62 n62
      have d62_b1 := n62.ne k1
      have d62_b2 := n62.ne k2
      have g62 := n62.ge hB
      replace hB := Bl.next hB n62.below
      replace k1 := k1.below n62.below
      replace k2 := k2.below n62.below
      have k62 := n62.blk
      have hS63 : Below w.heap.size (W2.drew) (W62) := Bl.nextB hS61 (Nat.le_trans (Nat.le_refl _) hBd6.size) n62.below
      refine ⟨hS63, ?_⟩
      have o64 := own_of_blk (size := 1) (n := 1) k62 g62 rfl (by decide)
      refine h_one 4 2 rfl (by kernel_rfl) rfl (by kernel_rfl) (op_app (e := 3) (n := 1) (xs := [.int .i64 no]) (m := 0) (news := []) (.int .i64 0) 1 8 (1) ([.int .i64 no]) rfl Tryz.underlying31 (by kernel_rfl) rfl (by decide) (by kernel_rfl) o64 (by kernel_rfl) (.inl ⟨none, 0, rfl, rfl, rfl⟩) rfl (by simp) (by unfold maxLen; omega) (by omega) hB.size (by rfl) (by rfl) ?_)
      intro p65 c65 W65 o65 hg65 hb65
      replace k1 := k1.grown hg65 o64 (by decide)
      replace k2 := k2.grown hg65 o64 (by decide)
      replace hB := hB.trans hb65
      have hS66 : Below w.heap.size (W2.drew) (W65) := hS63.trans hb65
      refine ⟨hS66, ?_⟩
      refine h_pv [7] 1 rfl #[true, true, true, true, true, true, true, true, false] [(16, .agg #[.slice p65 1 c65, .int .i64 er])] (by kernel_rfl) (fun _ _ _ _ _ h => h) (by kernel_rfl) hS66 ?_
      refine h_one 8 0 rfl (by kernel_rfl) rfl (by kernel_rfl) (op_storev (b := b2) (off := 0) [.slice p65 1 c65, .int .i64 er] rfl (by kernel_rfl) (by kernel_rfl) (by kernel_rfl) (by first | decide | simp [Value.oneCell']) k2 (by first | decide | simp) ?_)
      intro W67 u67 k67
      change Blk _ _ [.slice p65 1 c65, .int .i64 er] _ at k67
      replace hB := u67.below hB g2
      replace k1 := u67.blk k1 (Ne.symm (Ne.symm d2_b1))
      replace o65 := u67.own2 o65 k2 (by decide)
      have hS68 : Below w.heap.size (W2.drew) (W67) := u67.below hS66 g2
      refine ⟨hS68, ?_⟩
      refine h_done _ (by kernel_rfl) ?_
      refine wp_ret ?_
      exact g_ret (.agg #[.slice p65 1 c65, .int .i64 er]) (by kernel_rfl) (res_c (d := _) (cs := [.slice p65 1 c65, .int .i64 er]) rfl (by kernel_rfl) k67.whole Tryz.underlying33 rfl (by kernel_rfl)) ⟨_, rfl, hB, _, _, rfl, o65⟩
def FltO (no er : Int) (w : World) (e : Ending) (w' : World) : Prop := ∃ a c, e = .returned (.agg #[.slice a (fltL no er).length c, .int .i64 er]) ∧ Below w.heap.size w w' ∧ w'.ownsRow w.heap.size 3 1 (.slice a (fltL no er).length c) (fltL no er).length ((fltL no er).map (Value.int .i64))
theorem ref05_AtP (no er : Int) (w : World) : Calls Tryz.prog 96 #[.int .i64 no, .agg #[.slice none 0 0, .int .i64 er]] w (FltO no er w) := by
  by_cases he : er = 0
  · subst he
    refine (ref05_At_z no w).mono ?_
    rintro e W ⟨rfl, hb⟩
    exact ⟨none, 0, rfl, hb, World.ownsRow_nil _ _ _ _⟩
  · refine (ref05_At_n no er w he).mono ?_
    rintro e W ⟨_, rfl, hb, a, c, rfl, ho⟩
    rw [FltO, fltL_nz he]
    exact ⟨a, c, rfl, hb, ho⟩
set_option maxRecDepth 100000 in
set_option maxHeartbeats 1000000 in
theorem ref11_At (no er : Int) (w : World) :
    Calls Tryz.prog 65 #[.int .i64 no, .int .i64 er] w (FltO no er w) := by
  refine calls_of_wp Tryz.func65 rfl ?_
  refine g_fr ⟨#[.int .i64 no, .int .i64 er, undef, undef, undef, undef, undef, undef, undef], []⟩ (by kernel_rfl) ?_
  refine wp_seq ?_
  refine wp_region_lit ?_
  refine g_op (by kernel_rfl) (op_alloc [.slice none 0 0, .int .i64 0] rfl (by kernel_rfl) ?_)
  intro b1 W1 n1
  have g1 := n1.ge (Below.refl w.heap.size _)
  have hB := n1.below
  have k1 := n1.blk
  refine wpList_nil ?_
  refine wp_seq ?_
  refine wp_region_lit ?_
  refine g_pv 3 [(5, .int .i64 no), (6, .int .i64 er), (7, .agg #[.slice none 0 0, .int .i64 er])] (by kernel_rfl) ?_
  have hs2 : w.heap.size ≤ (W1).heap.size := hB.size
  refine g_op (by kernel_rfl) (op_call (lb := #[]) 96 #[.int .i64 no, .agg #[.slice none 0 0, .int .i64 er]] rfl (by kernel_rfl) (fun _ _ => by kernel_rfl) (by kernel_rfl) ((ref05_AtP no er _).mono ?_))
  rintro e W2 ⟨a5, c5, rfl, hb2, hs5⟩
  refine ⟨_, rfl, ?_⟩
  replace hB := Bl.next hB hb2
  replace k1 := k1.below hb2
  replace hs5 := own_mono hs5 hs2
  refine g_op (by kernel_rfl) (op_storev (b := b1) (off := 0) [.slice a5 ((fltL no er).length) c5, .int .i64 er] rfl (by kernel_rfl) (by kernel_rfl) (by kernel_rfl) (by first | decide | simp [Value.oneCell']) k1 (by first | decide | simp) ?_)
  intro W3 u3 k3
  change Blk _ _ [.slice a5 ((fltL no er).length) c5, .int .i64 er] _ at k3
  replace hB := u3.below hB g1
  replace hs5 := u3.own2 hs5 k1 (by decide)
  refine wpList_nil ?_
  refine wp_ret ?_
  exact g_ret (.agg #[.slice a5 ((fltL no er).length) c5, .int .i64 er]) (by kernel_rfl) (res_c (d := _) (cs := [.slice a5 ((fltL no er).length) c5, .int .i64 er]) rfl (by kernel_rfl) k3.whole Tryz.underlying33 rfl (by kernel_rfl)) ⟨_, _, rfl, hB, hs5⟩
/-- the number that a block's writing hands back -/
def wrE (kind no : Int) (k : Nat) (li : List UInt8) : Int := if sealE kind no li = 0 then (if 0 ≤ no ∧ no < (k : Int) then 0 else 3) else sealE kind no li
/-- the image behind it -/
def wrL (kind no : Int) (k : Nat) (li l : List UInt8) : List UInt8 := if wrE kind no k li = 0 then putB l (no.toNat * 256) (sealB kind no li) else l
theorem wrL_len {kind no : Int} {k : Nat} {li l : List UInt8} (hl : l.length = k * 256) (hs : li.length ≤ 244 ∨ wrE kind no k li ≠ 0) : (wrL kind no k li l).length = k * 256 := by
  unfold wrL
  split
  · rename_i h
    have h1 : sealE kind no li = 0 := by unfold wrE at h; split at h; assumption; rename_i h2; exact absurd h h2
    have h2 : 0 ≤ no ∧ no < (k : Int) := by unfold wrE at h; rw [if_pos h1] at h; split at h; assumption; cases h
    have h3 : li.length ≤ 244 := by
      rcases hs with hs | hs
      · exact hs
      · exact absurd h hs
    rw [putB_len (by rw [sealB_len h3]; omega), hl]
  · exact hl
def RefWr (B bm : Nat) (p : Option Addr) (k c : Nat) (l : List UInt8) (no er : Int) (w : World) (e : Ending) (w' : World) : Prop :=
  ∃ a c2, e = .returned (.agg #[.slice a (fltL no er).length c2, .int .i64 er]) ∧ Below B w w' ∧ Only [9] w w' ∧ RefI B bm p k c l w' ∧ w'.ownsRow w.heap.size 3 1 (.slice a (fltL no er).length c2) (fltL no er).length ((fltL no er).map (Value.int .i64))
theorem ref_Seal_err (kind no : Int) (a : Option Addr) (c : Nat) (li : List UInt8) (w : World) (h : Bys w (.slice a li.length c) li) (hs : sealE kind no li ≠ 0) :
    Calls Tryz.prog 64 #[.int .i64 kind, .int .i64 no, .slice a li.length c] w (Ret (.tuple #[.slice none 0 0, .int .i64 (sealE kind no li)]) w) := by
  refine (ref_Seal kind no a c li w h).mono ?_
  rintro e W (⟨_, rfl, hb⟩ | ⟨h0, _⟩)
  · exact ⟨rfl, hb⟩
  · exact absurd h0 hs
theorem ref_Seal_yes (kind no : Int) (a : Option Addr) (c : Nat) (li : List UInt8) (w : World) (h : Bys w (.slice a li.length c) li) (hs : sealE kind no li = 0) :
    Calls Tryz.prog 64 #[.int .i64 kind, .int .i64 no, .slice a li.length c] w (fun e w' => li.length ≤ 244 ∧ ∃ p c, e = .returned (.tuple #[.slice p 256 c, .int .i64 0]) ∧ Below w.heap.size w w' ∧ w'.ownsRow w.heap.size 5 1 (.slice p 256 c) 256 ((sealB kind no li).map bv)) := by
  refine (ref_Seal kind no a c li w h).mono ?_
  rintro e W (⟨h0, _⟩ | ⟨_, _, hl, p, c2, rfl, hb, ho⟩)
  · exact absurd hs h0
  · exact ⟨hl, p, c2, rfl, hb, ho⟩
set_option maxRecDepth 100000 in
set_option maxHeartbeats 1000000 in
theorem ref11_Write_bad (B bm : Nat) (p : Option Addr) (k c : Nat) (l : List UInt8) (no kind : Int) (a : Option Addr) (ca : Nat) (li : List UInt8) (w : World) (hI : RefI B bm p k c l w) (hin : Bys w (.slice a li.length ca) li) (hBw : B ≤ w.heap.size) (hs : sealE kind no li ≠ 0) :
    Calls Tryz.prog 35 #[.pointer (some ⟨bm, 0, none⟩), .int .i64 no, .int .i64 kind, .slice a li.length ca] w (RefWr B bm p k c l no (sealE kind no li) w) := by
  refine calls_of_wp Tryz.func35 rfl ?_
  refine g_fr ⟨#[.pointer (some ⟨bm, 0, none⟩), .int .i64 no, .int .i64 kind, .slice a li.length ca, undef, undef, undef, undef, undef, undef, undef, undef, undef, undef, undef, undef, undef, undef, undef, undef, undef, undef, undef, undef, undef, undef, undef, undef, undef], []⟩ (by kernel_rfl) ?_
  refine wp_seq ?_
  refine wp_region_lit ?_
  refine g_op (by kernel_rfl) (op_alloc [.slice none 0 0, .int .i64 0] rfl (by kernel_rfl) ?_)
  intro b1 W1 n1
  have g1 := n1.ge0 (Below.refl B _)
  have hO : Only [9] w _ := (Only.of_below n1.below)
  have hB := Bl.nextB (Below.refl B w) hBw n1.below
  replace hI := hI.below n1.below
  replace hin := hin.below n1.below
  have k1 := n1.blk
  refine wpList_nil ?_
  refine wp_seq ?_
  refine wp_region_lit ?_
  refine g_pv 3 [(12, .int .i64 kind), (13, .int .i64 no), (14, .slice a li.length ca)] (by kernel_rfl) ?_
  refine g_op (by kernel_rfl) (op_call (lb := #[]) 64 #[.int .i64 kind, .int .i64 no, .slice a li.length ca] rfl (by kernel_rfl) (fun _ _ => by kernel_rfl) (by kernel_rfl) ((ref_Seal_err kind no a ca li _ hin hs).mono ?_))
  rintro e W2 ⟨rfl, hb2⟩
  refine ⟨_, rfl, ?_⟩
  replace hO := hO.trans (Only.of_below hb2)
  replace hB := Bl.nextB hB hBw hb2
  replace k1 := k1.below hb2
  replace hI := hI.below hb2
  replace hin := hin.below hb2
  refine g_pv 5 [(11, .tuple #[.slice none 0 0, .int .i64 (sealE kind no li)]), (16, .slice none 0 0), (17, .int .i64 (sealE kind no li)), (9, .slice none 0 0), (10, .int .i64 (sealE kind no li))] (by kernel_rfl) ?_
  refine wpList_nil ?_
  refine wp_seq ?_
  refine wp_seq ?_
  refine wp_region_lit ?_
  refine g_pv 2 [(18, .int .i64 (sealE kind no li)), (19, .bool ((sealE kind no li) != (0 : Int)))] (by kernel_rfl) ?_
  refine wpList_nil ?_
  refine wp_cond_split (t := ((sealE kind no li) != (0 : Int))) (by kernel_rfl) (fun _ => ?_) (fun hh => absurd (hh.symm.trans (show (((sealE kind no li) != (0 : Int)) : Bool) = true from bne_iff_ne.2 hs)) (by decide))
  refine wp_seq ?_
  refine wp_region_lit ?_
  refine g_pv 2 [(20, .int .i64 no), (21, .int .i64 (sealE kind no li))] (by kernel_rfl) ?_
  have hs4 : w.heap.size ≤ (W2).heap.size := hB.size
  refine g_op (by kernel_rfl) (op_call (lb := #[]) 65 #[.int .i64 no, .int .i64 (sealE kind no li)] rfl (by kernel_rfl) (fun _ _ => by kernel_rfl) (by kernel_rfl) ((ref11_At no (sealE kind no li) _).mono ?_))
  rintro e W4 ⟨a5, c5, rfl, hb4, hs5⟩
  refine ⟨_, rfl, ?_⟩
  replace hO := hO.trans (Only.of_below hb4)
  replace hB := Bl.nextB hB hBw hb4
  replace k1 := k1.below hb4
  replace hI := hI.below hb4
  replace hs5 := own_mono hs5 hs4
  refine g_op (by kernel_rfl) (op_storev (b := b1) (off := 0) [.slice a5 ((fltL no (sealE kind no li)).length) c5, .int .i64 (sealE kind no li)] rfl (by kernel_rfl) (by kernel_rfl) (by kernel_rfl) (by first | decide | simp [Value.oneCell']) k1 (by first | decide | simp) ?_)
  intro W5 u5 k5
  change Blk _ _ [.slice a5 ((fltL no (sealE kind no li)).length) c5, .int .i64 (sealE kind no li)] _ at k5
  replace hO := (Only.upd_new hO u5 g1)
  replace hB := u5.below hB (Nat.le_trans hBw g1)
  replace hI := hI.only (Only.of_upd (T := [33]) u5 k1 (by decide)) (by decide)
  replace hs5 := u5.own2 hs5 k1 (by decide)
  refine wpList_nil ?_
  refine wp_ret (then_ret ?_)
  exact g_ret (.agg #[.slice a5 ((fltL no (sealE kind no li)).length) c5, .int .i64 (sealE kind no li)]) (by kernel_rfl) (res_c (d := _) (cs := [.slice a5 ((fltL no (sealE kind no li)).length) c5, .int .i64 (sealE kind no li)]) rfl (by kernel_rfl) k5.whole Tryz.underlying33 rfl (by kernel_rfl)) ⟨_, _, rfl, hB, hO, hI, hs5⟩
set_option maxRecDepth 100000 in
set_option maxHeartbeats 1000000 in
theorem ref11_Write_out (B bm : Nat) (p : Option Addr) (k c : Nat) (l : List UInt8) (no kind : Int) (a : Option Addr) (ca : Nat) (li : List UInt8) (w : World) (hI : RefI B bm p k c l w) (hin : Bys w (.slice a li.length ca) li) (hBw : B ≤ w.heap.size) (hs : sealE kind no li = 0) (ho : ¬ (0 ≤ no ∧ no < (k : Int))) :
    Calls Tryz.prog 35 #[.pointer (some ⟨bm, 0, none⟩), .int .i64 no, .int .i64 kind, .slice a li.length ca] w (RefWr B bm p k c l no 3 w) := by
  refine calls_of_wp Tryz.func35 rfl ?_
  refine g_fr ⟨#[.pointer (some ⟨bm, 0, none⟩), .int .i64 no, .int .i64 kind, .slice a li.length ca, undef, undef, undef, undef, undef, undef, undef, undef, undef, undef, undef, undef, undef, undef, undef, undef, undef, undef, undef, undef, undef, undef, undef, undef, undef], []⟩ (by kernel_rfl) ?_
  refine wp_seq ?_
  refine wp_region_lit ?_
  refine g_op (by kernel_rfl) (op_alloc [.slice none 0 0, .int .i64 0] rfl (by kernel_rfl) ?_)
  intro b1 W1 n1
  have g1 := n1.ge0 (Below.refl B _)
  have hO : Only [9] w _ := (Only.of_below n1.below)
  have hB := Bl.nextB (Below.refl B w) hBw n1.below
  replace hI := hI.below n1.below
  replace hin := hin.below n1.below
  have k1 := n1.blk
  refine wpList_nil ?_
  refine wp_seq ?_
  refine wp_region_lit ?_
  refine g_pv 3 [(12, .int .i64 kind), (13, .int .i64 no), (14, .slice a li.length ca)] (by kernel_rfl) ?_
  have hs2 : w.heap.size ≤ (W1).heap.size := hB.size
  refine g_op (by kernel_rfl) (op_call (lb := #[]) 64 #[.int .i64 kind, .int .i64 no, .slice a li.length ca] rfl (by kernel_rfl) (fun _ _ => by kernel_rfl) (by kernel_rfl) ((ref_Seal_yes kind no a ca li _ hin hs).mono ?_))
  rintro e W2 ⟨hl4, p2, c2, rfl, hb2, h2⟩
  refine ⟨_, rfl, ?_⟩
  replace hO := hO.trans (Only.of_below hb2)
  replace hB := Bl.nextB hB hBw hb2
  replace k1 := k1.below hb2
  replace hI := hI.below hb2
  replace hin := hin.below hb2
  replace h2 := own_mono h2 hs2
  refine g_pv 5 [(11, .tuple #[.slice p2 256 c2, .int .i64 0]), (16, .slice p2 256 c2), (17, .int .i64 0), (9, .slice p2 256 c2), (10, .int .i64 0)] (by kernel_rfl) ?_
  refine wpList_nil ?_
  refine wp_seq ?_
  refine wp_seq ?_
  refine wp_region_lit ?_
  refine g_pv 2 [(18, .int .i64 0), (19, .bool false)] (by kernel_rfl) ?_
  refine wpList_nil ?_
  refine wp_cond_false (by kernel_rfl) ?_
  refine wp_skip ?_
  refine wp_seq ?_
  refine wp_region_lit ?_
  refine g_pv 4 [(23, .int .i64 no), (24, .pointer (some ⟨bm, 0, none⟩)), (25, .int .i64 no), (26, .slice p2 256 c2)] (by kernel_rfl) ?_
  refine g_op (by kernel_rfl) (op_call (lb := #[]) 66 #[.pointer (some ⟨bm, 0, none⟩), .int .i64 no, .slice p2 256 c2] rfl (by kernel_rfl) (fun _ _ => by kernel_rfl) (by kernel_rfl) ((ref_ImgWrite_out B bm p k c l _ hI no _ ho).mono ?_))
  rintro e W3 ⟨rfl, hb3⟩
  refine ⟨_, rfl, ?_⟩
  replace hO := hO.trans (Only.of_below hb3)
  replace hB := Bl.nextB hB hBw hb3
  replace k1 := k1.below hb3
  replace hI := hI.below hb3
  replace h2 := own_below h2 hb3
  have hs4 : w.heap.size ≤ (W3).heap.size := hB.size
  refine g_op (by kernel_rfl) (op_call (lb := #[]) 65 #[.int .i64 no, .int .i64 3] rfl (by kernel_rfl) (fun _ _ => by kernel_rfl) (by kernel_rfl) ((ref11_At no 3 _).mono ?_))
  rintro e W4 ⟨a5, c5, rfl, hb4, hs5⟩
  refine ⟨_, rfl, ?_⟩
  replace hO := hO.trans (Only.of_below hb4)
  replace hB := Bl.nextB hB hBw hb4
  replace k1 := k1.below hb4
  replace hI := hI.below hb4
  replace h2 := own_below h2 hb4
  replace hs5 := own_mono hs5 hs4
  refine g_op (by kernel_rfl) (op_storev (b := b1) (off := 0) [.slice a5 ((fltL no 3).length) c5, .int .i64 3] rfl (by kernel_rfl) (by kernel_rfl) (by kernel_rfl) (by first | decide | simp [Value.oneCell']) k1 (by first | decide | simp) ?_)
  intro W5 u5 k5
  change Blk _ _ [.slice a5 ((fltL no 3).length) c5, .int .i64 3] _ at k5
  replace hO := (Only.upd_new hO u5 g1)
  replace hB := u5.below hB (Nat.le_trans hBw g1)
  replace hI := hI.only (Only.of_upd (T := [33]) u5 k1 (by decide)) (by decide)
  replace h2 := u5.own2 h2 k1 (by decide)
  replace hs5 := u5.own2 hs5 k1 (by decide)
  refine wpList_nil ?_
  refine wp_ret ?_
  exact g_ret (.agg #[.slice a5 ((fltL no 3).length) c5, .int .i64 3]) (by kernel_rfl) (res_c (d := _) (cs := [.slice a5 ((fltL no 3).length) c5, .int .i64 3]) rfl (by kernel_rfl) k5.whole Tryz.underlying33 rfl (by kernel_rfl)) ⟨_, _, rfl, hB, hO, hI, hs5⟩
set_option maxRecDepth 100000 in
set_option maxHeartbeats 1000000 in
theorem ref11_Write_in (B bm : Nat) (p : Option Addr) (k c : Nat) (l : List UInt8) (j : Nat) (kind : Int) (a : Option Addr) (ca : Nat) (li : List UInt8) (w : World) (hI : RefI B bm p k c l w) (hin : Bys w (.slice a li.length ca) li) (hBw : B ≤ w.heap.size) (hs : sealE kind j li = 0) (hj : j < k) :
    Calls Tryz.prog 35 #[.pointer (some ⟨bm, 0, none⟩), .int .i64 (↑j : Int), .int .i64 kind, .slice a li.length ca] w (RefWr B bm p k c (putB l (j * 256) (sealB kind j li)) (j : Int) 0 w) := by
  refine calls_of_wp Tryz.func35 rfl ?_
  refine g_fr ⟨#[.pointer (some ⟨bm, 0, none⟩), .int .i64 (↑j : Int), .int .i64 kind, .slice a li.length ca, undef, undef, undef, undef, undef, undef, undef, undef, undef, undef, undef, undef, undef, undef, undef, undef, undef, undef, undef, undef, undef, undef, undef, undef, undef], []⟩ (by kernel_rfl) ?_
  refine wp_seq ?_
  refine wp_region_lit ?_
  refine g_op (by kernel_rfl) (op_alloc [.slice none 0 0, .int .i64 0] rfl (by kernel_rfl) ?_)
  intro b1 W1 n1
  have g1 := n1.ge0 (Below.refl B _)
  have hO : Only [9] w _ := (Only.of_below n1.below)
  have hB := Bl.nextB (Below.refl B w) hBw n1.below
  replace hI := hI.below n1.below
  replace hin := hin.below n1.below
  have k1 := n1.blk
  refine wpList_nil ?_
  refine wp_seq ?_
  refine wp_region_lit ?_
  refine g_pv 3 [(12, .int .i64 kind), (13, .int .i64 (↑j : Int)), (14, .slice a li.length ca)] (by kernel_rfl) ?_
  have hs2 : w.heap.size ≤ (W1).heap.size := hB.size
  refine g_op (by kernel_rfl) (op_call (lb := #[]) 64 #[.int .i64 kind, .int .i64 (↑j : Int), .slice a li.length ca] rfl (by kernel_rfl) (fun _ _ => by kernel_rfl) (by kernel_rfl) ((ref_Seal_yes kind j a ca li _ hin hs).mono ?_))
  rintro e W2 ⟨hl4, p2, c2, rfl, hb2, h2⟩
  refine ⟨_, rfl, ?_⟩
  replace hO := hO.trans (Only.of_below hb2)
  replace hB := Bl.nextB hB hBw hb2
  replace k1 := k1.below hb2
  replace hI := hI.below hb2
  replace hin := hin.below hb2
  replace h2 := own_mono h2 hs2
  refine g_pv 5 [(11, .tuple #[.slice p2 256 c2, .int .i64 0]), (16, .slice p2 256 c2), (17, .int .i64 0), (9, .slice p2 256 c2), (10, .int .i64 0)] (by kernel_rfl) ?_
  refine wpList_nil ?_
  refine wp_seq ?_
  refine wp_seq ?_
  refine wp_region_lit ?_
  refine g_pv 2 [(18, .int .i64 0), (19, .bool false)] (by kernel_rfl) ?_
  refine wpList_nil ?_
  refine wp_cond_false (by kernel_rfl) ?_
  refine wp_skip ?_
  refine wp_seq ?_
  refine wp_region_lit ?_
  refine g_pv 4 [(23, .int .i64 (↑j : Int)), (24, .pointer (some ⟨bm, 0, none⟩)), (25, .int .i64 (↑j : Int)), (26, .slice p2 256 c2)] (by kernel_rfl) ?_
  refine g_op (by kernel_rfl) (op_call (lb := #[]) 66 #[.pointer (some ⟨bm, 0, none⟩), .int .i64 (↑j : Int), .slice p2 256 c2] rfl (by kernel_rfl) (fun _ _ => by kernel_rfl) (by kernel_rfl) ((ref_ImgWrite B bm _ p k c l j p2 c2 (sealB kind j li) _ hI hj h2 (sealB_len hl4) (Nat.le_trans hBw hB.size)).mono ?_))
  rintro e W3 ⟨rfl, hb3, hO3, hI⟩
  refine ⟨_, rfl, ?_⟩
  replace hO := hO.trans hO3
  replace hB := hB.trans hb3
  replace k1 := k1.only hO3 (by decide)
  have hs4 : w.heap.size ≤ (W3).heap.size := hB.size
  refine g_op (by kernel_rfl) (op_call (lb := #[]) 65 #[.int .i64 (↑j : Int), .int .i64 0] rfl (by kernel_rfl) (fun _ _ => by kernel_rfl) (by kernel_rfl) ((ref11_At (↑j : Int) 0 _).mono ?_))
  rintro e W4 ⟨a5, c5, rfl, hb4, hs5⟩
  refine ⟨_, rfl, ?_⟩
  replace hO := hO.trans (Only.of_below hb4)
  replace hB := Bl.nextB hB hBw hb4
  replace k1 := k1.below hb4
  replace hI := hI.below hb4
  replace hs5 := own_mono hs5 hs4
  refine g_op (by kernel_rfl) (op_storev (b := b1) (off := 0) [.slice a5 ((fltL (↑j : Int) 0).length) c5, .int .i64 0] rfl (by kernel_rfl) (by kernel_rfl) (by kernel_rfl) (by first | decide | simp [Value.oneCell']) k1 (by first | decide | simp) ?_)
  intro W5 u5 k5
  change Blk _ _ [.slice a5 ((fltL (↑j : Int) 0).length) c5, .int .i64 0] _ at k5
  replace hO := (Only.upd_new hO u5 g1)
  replace hB := u5.below hB (Nat.le_trans hBw g1)
  replace hI := hI.only (Only.of_upd (T := [33]) u5 k1 (by decide)) (by decide)
  replace hs5 := u5.own2 hs5 k1 (by decide)
  refine wpList_nil ?_
  refine wp_ret ?_
  exact g_ret (.agg #[.slice a5 ((fltL (↑j : Int) 0).length) c5, .int .i64 0]) (by kernel_rfl) (res_c (d := _) (cs := [.slice a5 ((fltL (↑j : Int) 0).length) c5, .int .i64 0]) rfl (by kernel_rfl) k5.whole Tryz.underlying33 rfl (by kernel_rfl)) ⟨_, _, rfl, hB, hO, hI, hs5⟩
theorem ref11_Write (B bm : Nat) (p : Option Addr) (k c : Nat) (l : List UInt8) (no kind : Int) (a : Option Addr) (ca : Nat) (li : List UInt8) (w : World) (hI : RefI B bm p k c l w) (hin : Bys w (.slice a li.length ca) li) (hBw : B ≤ w.heap.size) :
    Calls Tryz.prog 35 #[.pointer (some ⟨bm, 0, none⟩), .int .i64 no, .int .i64 kind, .slice a li.length ca] w (RefWr B bm p k c (wrL kind no k li l) no (wrE kind no k li) w) := by
  by_cases hs : sealE kind no li = 0
  · by_cases ho : 0 ≤ no ∧ no < (k : Int)
    · have he : wrE kind no k li = 0 := by unfold wrE; rw [if_pos hs, if_pos ho]
      obtain ⟨j, rfl⟩ : ∃ j : Nat, no = j := ⟨no.toNat, by omega⟩
      rw [wrL, if_pos he, he]
      exact ref11_Write_in B bm p k c l j kind a ca li w hI hin hBw hs (by omega)
    · have he : wrE kind no k li = 3 := by unfold wrE; rw [if_pos hs, if_neg ho]
      rw [wrL, if_neg (by rw [he]; decide), he]
      exact ref11_Write_out B bm p k c l no kind a ca li w hI hin hBw hs ho
  · have he : wrE kind no k li = sealE kind no li := by unfold wrE; rw [if_neg hs]
    rw [wrL, if_neg (by rw [he]; exact hs), he]
    exact ref11_Write_bad B bm p k c l no kind a ca li w hI hin hBw hs
end Go.Proofs.YtbopakjiahojdaaGreatDoor

