/- block.Bits, whatever lies in the image. -/
import Derived.Test.YtbopakjiahojdaaGreatDoorSealOpen
namespace Go.Proofs.YtbopakjiahojdaaGreatDoor
open Go.RowKit Go.Extern.Stop Go.Stop Go.Extern
set_option linter.unusedVariables false
attribute [local irreducible] wpList wpAnyH Code.wp Oper.wp

theorem seal_OpenN (kind no : Int) (a : Option Addr) (n c : Nat) (l : List UInt8) (w : World) (hn : l.length = n) (h : Bys w (.slice a n c) l) : Calls Tryz.prog 108 #[.slice a n c, .int .i64 kind, .int .i64 no] w (OpenP kind no l w) := by
  subst hn; exact seal_Open kind no a c l w h
theorem bits_ReadN (a : Option Addr) (n c : Nat) (l : List UInt8) (w : World) (hn : l.length = n) (hl : n ≤ 100000000) (h : Bys w (.slice a n c) l) : Calls Tryz.prog 86 #[.slice a n c] w (BitsP l w) := by
  subst hn; exact bits_Read a c l w hl h
def bitsOkB (l : List UInt8) : Bool := decide (l.length = 244) && decide (rawN l 0 4 ≤ 960) && (List.range 960).all fun i => decide (i < rawN l 0 4) || bitN l i == 0
theorem bitsOkB_iff (l : List UInt8) : bitsOkB l = true ↔ bitsOk l := by
  unfold bitsOkB bitsOk
  simp only [Bool.and_eq_true, decide_eq_true_eq, List.all_eq_true, List.mem_range, Bool.or_eq_true, beq_iff_eq]
  constructor
  · rintro ⟨⟨h1, h2⟩, h3⟩
    exact ⟨h1, h2, fun i hi hc => (h3 i hi).resolve_left (by omega)⟩
  · rintro ⟨h1, h2, h3⟩
    exact ⟨⟨h1, h2⟩, fun i hi => by by_cases h : i < rawN l 0 4; exact .inl h; exact .inr (h3 i hi (by omega))⟩
/-- the number of Bits' error -/
def bitsErr (l : List UInt8) (no : Int) : Int := if inE l 3 no = 0 then (if bitsOkB (inB l no) then 0 else 7) else inE l 3 no
def BlkBitsP (l : List UInt8) (no : Int) (w : World) (e : Ending) (w' : World) : Prop :=
  (bitsErr l no ≠ 0 ∧ ∃ b, e = .returned (.tuple #[.slice none 0 0, .iface 133 (.pointer (some ⟨b, 0, none⟩))]) ∧ Below w.heap.size w w' ∧ ErrV w' [some no] (some (bitsErr l no)) (.iface 133 (.pointer (some ⟨b, 0, none⟩)))) ∨
  (bitsErr l no = 0 ∧ ∃ p c, e = .returned (.tuple #[.slice p (rawN (inB l no) 0 4) c, .nilIface]) ∧ Below w.heap.size w w' ∧ w'.ownsRow w.heap.size 3 1 (.slice p (rawN (inB l no) 0 4) c) (rawN (inB l no) 0 4) ((bitsL (inB l no) (rawN (inB l no) 0 4)).map nv))
set_option maxRecDepth 100000 in
set_option maxHeartbeats 1000000 in
theorem readB (B b : Nat) (p : Option Addr) (n c : Nat) (l : List UInt8) (no : Int) (w : World) (hI : ImgR B b p n c l w) :
    Calls Tryz.prog 85 #[.pointer (some ⟨b, 0, none⟩), .int .i64 no, .int .i64 3, .func (.func 86) #[] #[]] w (BlkBitsP l no w) := by
  refine calls_of_wp Tryz.func85 rfl ?_
  refine g_fr ⟨#[.pointer (some ⟨b, 0, none⟩), .int .i64 no, .int .i64 3, .func (.func 86) #[] #[], undef, undef, undef, undef, undef, undef, undef, undef, undef, undef, undef, undef, undef, undef, undef, undef, undef, undef, undef, undef, undef, undef, undef, undef, undef, undef, undef, undef, undef, undef, undef, undef, undef, undef, undef, undef, undef, undef, undef, undef, undef, undef, undef, undef, undef, undef, undef, undef, undef, undef, undef, undef], []⟩ (by kernel_rfl) ?_
  refine wp_seq ?_
  refine wp_region_lit ?_
  refine g_pv 2 [(8, .slice none 0 0), (9, .nilIface)] (by kernel_rfl) ?_
  refine wpList_nil ?_
  refine wp_seq ?_
  refine wp_region_lit ?_
  refine g_pv 1 [(10, .slice none 0 0)] (by kernel_rfl) ?_
  refine wpList_nil ?_
  refine wp_seq ?_
  refine wp_region_lit ?_
  refine g_pv 2 [(16, .pointer (some ⟨b, 0, none⟩)), (17, .int .i64 no)] (by kernel_rfl) ?_
  have hs1 : w.heap.size ≤ (w).heap.size := (Below.refl w.heap.size _).size
  refine g_op (by kernel_rfl) (op_call (lb := #[]) 107 #[.pointer (some ⟨b, 0, none⟩), .int .i64 no] rfl (by kernel_rfl) (fun _ _ => by kernel_rfl) (by kernel_rfl) ((image_Read B b p n c l no _ (hI.below (Below.refl w.heap.size _))).mono ?_))
  rintro e W1 hq1
  rcases hq1 with ⟨ho, vr, rfl, hb1⟩ | ⟨j, hk, hj, p2, c2, rfl, hb1, ho⟩
  · refine ⟨_, rfl, ?_⟩
    have hB := hb1
    refine g_pv 5 [(15, .tuple #[vr, .int .i64 3]), (19, vr), (20, .int .i64 3), (11, vr), (12, .int .i64 3)] (by kernel_rfl) ?_
    refine wpList_nil ?_
    refine wp_seq ?_
    refine wp_seq ?_
    refine wp_region_lit ?_
    refine g_pv 2 [(21, .int .i64 3), (22, .bool true)] (by kernel_rfl) ?_
    refine wpList_nil ?_
    refine wp_cond_true (by kernel_rfl) ?_
    refine wp_seq ?_
    refine wp_region_lit ?_
    refine g_pv 4 [(23, .slice none 0 0), (24, .int .i64 no), (25, .int .i64 3), (26, .iface 40 (.int .i64 3))] (by kernel_rfl) ?_
    refine g_op (by kernel_rfl) (op_call (lb := #[]) 63 #[.int .i64 no, .iface 40 (.int .i64 3)] rfl (by kernel_rfl) (fun _ _ => by kernel_rfl) (by kernel_rfl) ((block_told no 3 _).mono ?_))
    rintro e W2 ⟨_, rfl, hb2, hv2⟩
    refine ⟨_, rfl, ?_⟩
    replace hB := Bl.next hB hb2
    rw [if_neg (by decide), if_neg (by decide)] at hv2
    have hq2 := hv2
    obtain ⟨bf2, vf2, rfl, _, _⟩ := hq2
    refine g_pv 2 [(8, .slice none 0 0), (9, .iface 133 (.pointer (some ⟨bf2, 0, none⟩)))] (by kernel_rfl) ?_
    refine wpList_nil ?_
    refine wp_ret (then_ret ?_)
    refine g_ret (.tuple #[.slice none 0 0, .iface 133 (.pointer (some ⟨bf2, 0, none⟩))]) (by kernel_rfl) (by kernel_rfl) ?_
    have he : bitsErr l no = 3 := by unfold bitsErr; rw [inE_out hI.len ho]; rfl
    exact .inl ⟨by rw [he]; decide, _, rfl, hB, by rw [he]; exact hv2⟩
  · refine ⟨_, rfl, ?_⟩
    have hB := hb1
    replace ho := own_mono ho hs1
    have hj2 : j < l.length / 256 := by rw [hI.len]; exact hj
    have hlj := blkB_len hj2
    have he2 := inE_in (l := l) (kind := 3) hI.len hk hj
    refine g_pv 5 [(15, .tuple #[.slice p2 256 c2, .int .i64 0]), (19, .slice p2 256 c2), (20, .int .i64 0), (11, .slice p2 256 c2), (12, .int .i64 0)] (by kernel_rfl) ?_
    refine wpList_nil ?_
    refine wp_seq ?_
    refine wp_seq ?_
    refine wp_region_lit ?_
    refine g_pv 2 [(21, .int .i64 0), (22, .bool false)] (by kernel_rfl) ?_
    refine wpList_nil ?_
    refine wp_cond_false (by kernel_rfl) ?_
    refine wp_skip ?_
    refine wp_seq ?_
    refine wp_region_lit ?_
    refine g_pv 3 [(29, .slice p2 256 c2), (30, .int .i64 3), (31, .int .i64 no)] (by kernel_rfl) ?_
    have hs3 : w.heap.size ≤ (W1).heap.size := hB.size
    refine g_op (by kernel_rfl) (op_call (lb := #[]) 108 #[.slice p2 256 c2, .int .i64 3, .int .i64 no] rfl (by kernel_rfl) (fun _ _ => by kernel_rfl) (by kernel_rfl) ((seal_OpenN 3 no p2 256 c2 (blkB l j) _ hlj (bys_of (own_sl ho) hlj)).mono ?_))
    rintro e W3 hq3
    rcases hq3 with ⟨hs, rfl, hb3⟩ | ⟨hs, p3, c3, rfl, hb3, h3⟩
    · refine ⟨_, rfl, ?_⟩
      replace hB := Bl.next hB hb3
      replace ho := own_below ho hb3
      refine g_pv 5 [(28, .tuple #[.slice none 0 0, .int .i64 (openE 3 no (blkB l j))]), (33, .slice none 0 0), (34, .int .i64 (openE 3 no (blkB l j))), (13, .slice none 0 0), (12, .int .i64 (openE 3 no (blkB l j)))] (by kernel_rfl) ?_
      refine wpList_nil ?_
      refine wp_seq ?_
      refine wp_seq ?_
      refine wp_region_lit ?_
      refine g_pv 2 [(35, .int .i64 (openE 3 no (blkB l j))), (36, .bool ((openE 3 no (blkB l j)) != (0 : Int)))] (by kernel_rfl) ?_
      refine wpList_nil ?_
      refine wp_cond_split (t := ((openE 3 no (blkB l j)) != (0 : Int))) (by kernel_rfl) (fun _ => ?_) (fun hh => absurd (hh.symm.trans (show (((openE 3 no (blkB l j)) != (0 : Int)) : Bool) = true from bne_iff_ne.2 hs)) (by decide))
      refine wp_seq ?_
      refine wp_region_lit ?_
      refine g_pv 4 [(37, .slice none 0 0), (38, .int .i64 no), (39, .int .i64 (openE 3 no (blkB l j))), (40, .iface 40 (.int .i64 (openE 3 no (blkB l j))))] (by kernel_rfl) ?_
      refine g_op (by kernel_rfl) (op_call (lb := #[]) 63 #[.int .i64 no, .iface 40 (.int .i64 (openE 3 no (blkB l j)))] rfl (by kernel_rfl) (fun _ _ => by kernel_rfl) (by kernel_rfl) ((block_told no (openE 3 no (blkB l j)) _).mono ?_))
      rintro e W5 ⟨_, rfl, hb5, hv5⟩
      refine ⟨_, rfl, ?_⟩
      replace hB := Bl.next hB hb5
      replace ho := own_below ho hb5
      rw [if_neg hs, if_neg hs] at hv5
      have hq5 := hv5
      obtain ⟨bf5, vf5, rfl, _, _⟩ := hq5
      refine g_pure 2 ⟨#[.pointer (some ⟨b, 0, none⟩), .int .i64 no, .int .i64 3, .func (.func 86) #[] #[], undef, undef, undef, undef, .slice none 0 0, .iface 133 (.pointer (some ⟨bf5, 0, none⟩)), .slice none 0 0, .slice p2 256 c2, .int .i64 (openE 3 no (blkB l j)), .slice none 0 0, undef, .tuple #[.slice p2 256 c2, .int .i64 0], .pointer (some ⟨b, 0, none⟩), .int .i64 no, .tuple #[.slice p2 256 c2, .int .i64 0], .slice p2 256 c2, .int .i64 0, .int .i64 0, .bool false, undef, undef, undef, undef, undef, .tuple #[.slice none 0 0, .int .i64 (openE 3 no (blkB l j))], .slice p2 256 c2, .int .i64 3, .int .i64 no, .tuple #[.slice none 0 0, .int .i64 (openE 3 no (blkB l j))], .slice none 0 0, .int .i64 (openE 3 no (blkB l j)), .int .i64 (openE 3 no (blkB l j)), .bool ((openE 3 no (blkB l j)) != (0 : Int)), .slice none 0 0, .int .i64 no, .int .i64 (openE 3 no (blkB l j)), .iface 40 (.int .i64 (openE 3 no (blkB l j))), .iface 133 (.pointer (some ⟨bf5, 0, none⟩)), undef, undef, undef, undef, undef, undef, undef, undef, undef, undef, undef, undef, undef, undef], []⟩ (by kernel_rfl) ?_
      refine wpList_nil ?_
      refine wp_ret (then_ret ?_)
      refine g_ret (.tuple #[.slice none 0 0, .iface 133 (.pointer (some ⟨bf5, 0, none⟩))]) (by kernel_rfl) (by kernel_rfl) ?_
      have he : bitsErr l no = openE 3 no (blkB l j) := by unfold bitsErr; rw [he2, if_neg hs]
      exact .inl ⟨by rw [he]; exact hs, _, rfl, hB, by rw [he]; exact hv5⟩
    · refine ⟨_, rfl, ?_⟩
      replace hB := Bl.next hB hb3
      replace ho := own_below ho hb3
      replace h3 := own_mono h3 hs3
      have hin : ((blkB l j).drop 8).take 244 = inB l no := (inB_in hk).symm
      have hil := inB_len hI.len hk hj
      rw [hin] at h3
      refine g_pv 5 [(28, .tuple #[.slice p3 244 c3, .int .i64 0]), (33, .slice p3 244 c3), (34, .int .i64 0), (13, .slice p3 244 c3), (12, .int .i64 0)] (by kernel_rfl) ?_
      refine wpList_nil ?_
      refine wp_seq ?_
      refine wp_seq ?_
      refine wp_region_lit ?_
      refine g_pv 2 [(35, .int .i64 0), (36, .bool false)] (by kernel_rfl) ?_
      refine wpList_nil ?_
      refine wp_cond_false (by kernel_rfl) ?_
      refine wp_skip ?_
      refine wp_seq ?_
      refine wp_region_lit ?_
      refine g_pv 2 [(43, .func (.func 86) #[] #[]), (44, .slice p3 244 c3)] (by kernel_rfl) ?_
      have hs6 : w.heap.size ≤ (W3).heap.size := hB.size
      refine g_op (by kernel_rfl) (op_call (lb := #[]) 86 #[.slice p3 244 c3] rfl (by kernel_rfl) (fun _ _ => by kernel_rfl) (by kernel_rfl) ((bits_ReadN p3 244 c3 (inB l no) _ hil (by decide) (bys_of (own_sl h3) hil)).mono ?_))
      rintro e W6 hq6
      rcases hq6 with ⟨hb0, rfl, hb6⟩ | ⟨hb0, p4, c4, rfl, hb6, h4⟩
      · refine ⟨_, rfl, ?_⟩
        replace hB := Bl.next hB hb6
        replace ho := own_below ho hb6
        replace h3 := own_below h3 hb6
        refine g_pure 5 ⟨#[.pointer (some ⟨b, 0, none⟩), .int .i64 no, .int .i64 3, .func (.func 86) #[] #[], undef, undef, undef, undef, .slice none 0 0, .nilIface, .slice none 0 0, .slice p2 256 c2, .int .i64 7, .slice p3 244 c3, .slice none 0 0, .tuple #[.slice p2 256 c2, .int .i64 0], .pointer (some ⟨b, 0, none⟩), .int .i64 no, .tuple #[.slice p2 256 c2, .int .i64 0], .slice p2 256 c2, .int .i64 0, .int .i64 0, .bool false, undef, undef, undef, undef, undef, .tuple #[.slice p3 244 c3, .int .i64 0], .slice p2 256 c2, .int .i64 3, .int .i64 no, .tuple #[.slice p3 244 c3, .int .i64 0], .slice p3 244 c3, .int .i64 0, .int .i64 0, .bool false, undef, undef, undef, undef, undef, .tuple #[.slice none 0 0, .int .i64 7], .func (.func 86) #[] #[], .slice p3 244 c3, .tuple #[.slice none 0 0, .int .i64 7], .slice none 0 0, .int .i64 7, undef, undef, undef, undef, undef, undef, undef, undef], []⟩ (by kernel_rfl) ?_
        refine wpList_nil ?_
        refine wp_seq ?_
        refine wp_seq ?_
        refine wp_region_lit ?_
        refine g_pv 2 [(48, .int .i64 7), (49, .bool true)] (by kernel_rfl) ?_
        refine wpList_nil ?_
        refine wp_cond_true (by kernel_rfl) ?_
        refine wp_seq ?_
        refine wp_region_lit ?_
        refine g_pv 4 [(50, .slice none 0 0), (51, .int .i64 no), (52, .int .i64 7), (53, .iface 40 (.int .i64 7))] (by kernel_rfl) ?_
        refine g_op (by kernel_rfl) (op_call (lb := #[]) 63 #[.int .i64 no, .iface 40 (.int .i64 7)] rfl (by kernel_rfl) (fun _ _ => by kernel_rfl) (by kernel_rfl) ((block_told no 7 _).mono ?_))
        rintro e W7 ⟨_, rfl, hb7, hv7⟩
        refine ⟨_, rfl, ?_⟩
        replace hB := Bl.next hB hb7
        replace ho := own_below ho hb7
        replace h3 := own_below h3 hb7
        rw [if_neg (by decide), if_neg (by decide)] at hv7
        have hq7 := hv7
        obtain ⟨bf7, vf7, rfl, _, _⟩ := hq7
        refine g_pv 2 [(8, .slice none 0 0), (9, .iface 133 (.pointer (some ⟨bf7, 0, none⟩)))] (by kernel_rfl) ?_
        refine wpList_nil ?_
        refine wp_ret (then_ret ?_)
        refine g_ret (.tuple #[.slice none 0 0, .iface 133 (.pointer (some ⟨bf7, 0, none⟩))]) (by kernel_rfl) (by kernel_rfl) ?_
        have he : bitsErr l no = 7 := by unfold bitsErr; rw [he2, if_pos hs, if_neg (by rw [bitsOkB_iff]; exact hb0)]
        exact .inl ⟨by rw [he]; decide, _, rfl, hB, by rw [he]; exact hv7⟩
      · refine ⟨_, rfl, ?_⟩
        replace hB := Bl.next hB hb6
        replace ho := own_below ho hb6
        replace h3 := own_below h3 hb6
        replace h4 := own_mono h4 hs6
        refine g_pure 5 ⟨#[.pointer (some ⟨b, 0, none⟩), .int .i64 no, .int .i64 3, .func (.func 86) #[] #[], undef, undef, undef, undef, .slice none 0 0, .nilIface, .slice none 0 0, .slice p2 256 c2, .int .i64 0, .slice p3 244 c3, .slice p4 (rawN (inB l no) 0 4) c4, .tuple #[.slice p2 256 c2, .int .i64 0], .pointer (some ⟨b, 0, none⟩), .int .i64 no, .tuple #[.slice p2 256 c2, .int .i64 0], .slice p2 256 c2, .int .i64 0, .int .i64 0, .bool false, undef, undef, undef, undef, undef, .tuple #[.slice p3 244 c3, .int .i64 0], .slice p2 256 c2, .int .i64 3, .int .i64 no, .tuple #[.slice p3 244 c3, .int .i64 0], .slice p3 244 c3, .int .i64 0, .int .i64 0, .bool false, undef, undef, undef, undef, undef, .tuple #[.slice p4 (rawN (inB l no) 0 4) c4, .int .i64 0], .func (.func 86) #[] #[], .slice p3 244 c3, .tuple #[.slice p4 (rawN (inB l no) 0 4) c4, .int .i64 0], .slice p4 (rawN (inB l no) 0 4) c4, .int .i64 0, undef, undef, undef, undef, undef, undef, undef, undef], []⟩ (by kernel_rfl) ?_
        refine wpList_nil ?_
        refine wp_seq ?_
        refine wp_seq ?_
        refine wp_region_lit ?_
        refine g_pv 2 [(48, .int .i64 0), (49, .bool false)] (by kernel_rfl) ?_
        refine wpList_nil ?_
        refine wp_cond_false (by kernel_rfl) ?_
        refine wp_skip ?_
        refine wp_seq ?_
        refine wp_region_lit ?_
        refine g_pv 3 [(55, .slice p4 (rawN (inB l no) 0 4) c4), (8, .slice p4 (rawN (inB l no) 0 4) c4), (9, .nilIface)] (by kernel_rfl) ?_
        refine wpList_nil ?_
        refine wp_ret ?_
        exact g_ret (.tuple #[.slice p4 (rawN (inB l no) 0 4) c4, .nilIface]) (by kernel_rfl) (by kernel_rfl) (.inr ⟨by unfold bitsErr; rw [he2, if_pos hs, if_pos ((bitsOkB_iff _).2 hb0)], _, _, rfl, hB, h4⟩)
set_option maxRecDepth 100000 in
set_option maxHeartbeats 1000000 in
theorem block_Bits (B b : Nat) (p : Option Addr) (n c : Nat) (l : List UInt8) (no : Int) (w : World) (hI : ImgR B b p n c l w) :
    Calls Tryz.prog 60 #[.pointer (some ⟨b, 0, none⟩), .int .i64 no] w (BlkBitsP l no w) := by
  refine calls_of_wp Tryz.func60 rfl ?_
  refine g_fr ⟨#[.pointer (some ⟨b, 0, none⟩), .int .i64 no, undef, undef, undef, undef, undef, undef, undef, undef, undef], []⟩ (by kernel_rfl) ?_
  refine wp_seq ?_
  refine wp_region_lit ?_
  refine g_pv 2 [(4, .slice none 0 0), (5, .nilIface)] (by kernel_rfl) ?_
  refine wpList_nil ?_
  refine wp_seq ?_
  refine wp_region_lit ?_
  refine g_pv 2 [(6, .pointer (some ⟨b, 0, none⟩)), (7, .int .i64 no)] (by kernel_rfl) ?_
  have hs1 : w.heap.size ≤ (w).heap.size := (Below.refl w.heap.size _).size
  refine g_op (by kernel_rfl) (op_call (lb := #[]) 85 #[.pointer (some ⟨b, 0, none⟩), .int .i64 no, .int .i64 3, .func (.func 86) #[] #[]] rfl (by kernel_rfl) (fun _ _ => by kernel_rfl) (by kernel_rfl) ((readB B b p n c l no _ (hI.below (Below.refl w.heap.size _))).mono ?_))
  rintro e W1 hq1
  rcases hq1 with ⟨he, bf, rfl, hb1, hv⟩ | ⟨he, p4, c4, rfl, hb1, h4⟩
  · refine ⟨_, rfl, ?_⟩
    have hB := hb1
    refine g_pv 4 [(9, .slice none 0 0), (10, .iface 133 (.pointer (some ⟨bf, 0, none⟩))), (4, .slice none 0 0), (5, .iface 133 (.pointer (some ⟨bf, 0, none⟩)))] (by kernel_rfl) ?_
    refine wpList_nil ?_
    refine wp_ret ?_
    exact g_ret (.tuple #[.slice none 0 0, .iface 133 (.pointer (some ⟨bf, 0, none⟩))]) (by kernel_rfl) (by kernel_rfl) (.inl ⟨he, _, rfl, hB, hv⟩)
  · refine ⟨_, rfl, ?_⟩
    have hB := hb1
    replace h4 := own_mono h4 hs1
    refine g_pv 4 [(9, .slice p4 (rawN (inB l no) 0 4) c4), (10, .nilIface), (4, .slice p4 (rawN (inB l no) 0 4) c4), (5, .nilIface)] (by kernel_rfl) ?_
    refine wpList_nil ?_
    refine wp_ret ?_
    exact g_ret (.tuple #[.slice p4 (rawN (inB l no) 0 4) c4, .nilIface]) (by kernel_rfl) (by kernel_rfl) (.inr ⟨he, _, _, rfl, hB, h4⟩)
end Go.Proofs.YtbopakjiahojdaaGreatDoor

