/- code.Put returns the bytes with the number in them. -/
import Derived.Test.YtoiblgeheblddaaBytes
namespace Go.Proofs.Ytoiblgeheblddaa
open Go.RowKit Go.Extern.Stop Go.Stop Go.Extern
set_option linter.unusedVariables false
attribute [local irreducible] wpList wpAnyH Code.wp Oper.wp

set_option maxRecDepth 100000 in
set_option maxHeartbeats 1000000 in
theorem Put_2 (a : Option Addr) (c k : Nat) (l : List UInt8) (n : Int) (w : World) (h : Bys w (.slice a l.length c) l) (hl : l.length ≤ 100000) (hk : k + 2 ≤ l.length) (h0 : 0 ≤ n) (hb : n < 65536) :
    Calls Try.prog 46 #[.slice a l.length c, .int .i64 (↑k : Int), .int .i64 2, .int .i64 n] w (RetS (fun w' r => ∃ v, r = .tuple #[v, .int .i64 0] ∧ OwnB w.heap.size w' v (putB l k (leB n 2))) w) := by
  refine calls_of_wp Try.func46 rfl ?_
  refine g_fr ⟨#[.slice a l.length c, .int .i64 (↑k : Int), .int .i64 2, .int .i64 n, undef, undef, undef, undef, undef, undef, undef, undef, undef, undef, undef, undef, undef, undef, undef, undef, undef, undef, undef, undef, undef, undef, undef, undef, undef, undef, undef, undef, undef], []⟩ (by kernel_rfl) ?_
  refine wp_seq ?_
  refine wp_region_lit ?_
  refine g_pv 2 [(8, .slice none 0 0), (9, .int .i64 0)] (by kernel_rfl) ?_
  refine wpList_nil ?_
  refine wp_seq ?_
  refine wp_seq ?_
  refine wp_region_lit ?_
  refine g_pv 3 [(12, .slice a l.length c), (13, .int .i64 (↑k : Int)), (14, .int .i64 2)] (by kernel_rfl) ?_
  refine g_op (by kernel_rfl) (op_call (lb := #[]) 64 #[.slice a l.length c, .int .i64 (↑k : Int), .int .i64 2] rfl (by kernel_rfl) (fun _ _ => by kernel_rfl) (by kernel_rfl) ((there_2 a l.length c k hk (by omega) _).mono ?_))
  rintro e W1 ⟨rfl, hb1⟩
  refine ⟨_, rfl, ?_⟩
  have hB := hb1
  refine g_pv 1 [(10, .int .i64 0)] (by kernel_rfl) ?_
  refine wpList_nil ?_
  refine wp_seq ?_
  refine wp_region_lit ?_
  refine g_pv 2 [(16, .int .i64 0), (17, .bool false)] (by kernel_rfl) ?_
  refine wpList_nil ?_
  refine wp_cond_false (by kernel_rfl) ?_
  refine wp_skip ?_
  refine wp_seq ?_
  refine wp_seq ?_
  refine wp_region_lit ?_
  refine g_pv 2 [(19, .int .i64 n), (20, .int .i64 2)] (by kernel_rfl) ?_
  refine g_op (by kernel_rfl) (op_call (lb := #[]) 43 #[.int .i64 n, .int .i64 2] rfl (by kernel_rfl) (fun _ _ => by kernel_rfl) (by kernel_rfl) ((fits_2 n h0 hb _).mono ?_))
  rintro e W2 ⟨rfl, hb2⟩
  refine ⟨_, rfl, ?_⟩
  replace hB := Bl.next hB hb2
  refine g_pv 1 [(22, .bool false)] (by kernel_rfl) ?_
  refine wpList_nil ?_
  refine wp_cond_false (by kernel_rfl) ?_
  refine wp_skip ?_
  refine wp_seq ?_
  refine wp_region_lit ?_
  refine g_pv 1 [(23, .slice a l.length c)] (by kernel_rfl) ?_
  have hs3 : w.heap.size ≤ (W2).heap.size := hB.size
  refine g_op (by kernel_rfl) (op_call (lb := #[]) 12 #[.slice a l.length c] rfl (by kernel_rfl) (fun _ _ => by kernel_rfl) (by kernel_rfl) ((clone_bytes a c l _ (h.below hB) (by omega)).mono ?_))
  rintro e W3 ⟨_, rfl, hb3, ho⟩
  refine ⟨_, rfl, ?_⟩
  replace hB := Bl.next hB hb3
  replace ho := own_mono ho hs3
  obtain ⟨g, cap, rfl, hcap⟩ := OwnB.some ho (by omega)
  refine g_pv 1 [(11, .slice (some ⟨g, 0, none⟩) l.length cap)] (by kernel_rfl) ?_
  refine wpList_nil ?_
  refine wp_seq ?_
  replace hB := Bl.next hB (below_drew W3)
  replace ho := own_below ho (below_drew W3)
  refine h_reg (Below w.heap.size (W3.drew)) 7 rfl #[false, false, false, false, false, false, false] rfl (by kernel_rfl) (Below.refl _ _) ?_
  intro hS4
  have hBd6 := hB
  refine h_pv [0, 1] 5 rfl #[true, true, false, false, false, false, false] [(25, .slice (some ⟨g, 0, none⟩) l.length cap), (26, .int .i64 (↑k : Int))] (by kernel_rfl) (fun _ _ _ _ _ h => h) (by kernel_rfl) hS4 ?_
  refine h_val 2 4 rfl (.slice (some ⟨g, (0 + k * 1), none⟩) (l.length - k) (cap - k)) rfl (by kernel_rfl) (by kernel_rfl) (by kernel_rfl) (fun _ _ _ _ _ h => h) (by kernel_rfl) (fun V hV => run_sliceL (k := k) (b := g) (off := 0) (n := l.length) (c := cap) (i := (↑k : Int)) (ki := .i64) 1 rfl (by kernel_rfl) (by kernel_rfl) rfl (by omega) (by omega) Try.underlying22 (by kernel_rfl) V) hS4 ?_
  refine h_pv [3, 4] 2 rfl #[true, true, true, true, true, false, false] [(28, .int .i64 n), (29, .int .i64 2)] (by kernel_rfl) (fun _ _ _ _ _ h => h) (by kernel_rfl) hS4 ?_
  have hs7 : w.heap.size ≤ (W3.drew).heap.size := hB.size
  refine h_one 5 1 rfl (by kernel_rfl) rfl (by kernel_rfl) (op_call (lb := #[]) 44 #[.int .i64 n, .int .i64 2] rfl (by kernel_rfl) (fun _ _ => by kernel_rfl) (by kernel_rfl) ((bytes_2 n h0 _).mono ?_))
  rintro e W7 ⟨_, rfl, hb7, h2⟩
  refine ⟨_, rfl, ?_⟩
  replace hB := Bl.next hB hb7
  replace ho := own_below ho hb7
  replace h2 := own_mono h2 hs7
  obtain ⟨p2, c2, rfl⟩ := (own_sl h2).slice
  have hS8 : Below w.heap.size (W3.drew) (W7) := Bl.nextB hS4 (Nat.le_trans (Nat.le_refl _) hBd6.size) hb7
  refine ⟨hS8, ?_⟩
  refine h_one 6 0 rfl (by kernel_rfl) rfl (by kernel_rfl) (op_copy (dLen := (l.length - k)) (dCap := (cap - k)) (base := w.heap.size) (g := g) (off := (0 + k * 1)) (n := l.length) (cap := cap) (xs := l.map bv) ((leB n 2).length) ((leB n 2).map bv) ((putB l k (leB n 2)).map bv) rfl Try.underlying22 (by kernel_rfl) (by kernel_rfl) (by kernel_rfl) (own_sl h2) ho (by simp) (by simp [leB]; omega) (by simp [leB]; omega) (bv_one _) (hB.size) (by simp [putB, List.map_take, List.map_drop]) ?_)
  intro W9 o9 hg9 hb9
  replace hB := hB.trans hb9
  clear hg9
  have hS10 : Below w.heap.size (W3.drew) (W9) := hS8.trans hb9
  refine ⟨hS10, ?_⟩
  refine h_done _ (by kernel_rfl) ?_
  refine wp_seq ?_
  refine wp_region_lit ?_
  refine g_pv 3 [(32, .slice (some ⟨g, 0, none⟩) l.length cap), (8, .slice (some ⟨g, 0, none⟩) l.length cap), (9, .int .i64 0)] (by kernel_rfl) ?_
  refine wpList_nil ?_
  refine wp_ret ?_
  refine g_ret (.tuple #[.slice (some ⟨g, 0, none⟩) l.length cap, .int .i64 0]) (by kernel_rfl) (by kernel_rfl) ?_
  refine ⟨_, rfl, hB, _, rfl, ?_⟩
  unfold OwnB
  rw [show (putB l k (leB n 2)).length = l.length by simp [putB, leB]; omega]
  exact o9
set_option maxRecDepth 100000 in
set_option maxHeartbeats 1000000 in
theorem Put_4 (a : Option Addr) (c k : Nat) (l : List UInt8) (n : Int) (w : World) (h : Bys w (.slice a l.length c) l) (hl : l.length ≤ 100000) (hk : k + 4 ≤ l.length) (h0 : 0 ≤ n) (hb : n < 4294967296) :
    Calls Try.prog 46 #[.slice a l.length c, .int .i64 (↑k : Int), .int .i64 4, .int .i64 n] w (RetS (fun w' r => ∃ v, r = .tuple #[v, .int .i64 0] ∧ OwnB w.heap.size w' v (putB l k (leB n 4))) w) := by
  refine calls_of_wp Try.func46 rfl ?_
  refine g_fr ⟨#[.slice a l.length c, .int .i64 (↑k : Int), .int .i64 4, .int .i64 n, undef, undef, undef, undef, undef, undef, undef, undef, undef, undef, undef, undef, undef, undef, undef, undef, undef, undef, undef, undef, undef, undef, undef, undef, undef, undef, undef, undef, undef], []⟩ (by kernel_rfl) ?_
  refine wp_seq ?_
  refine wp_region_lit ?_
  refine g_pv 2 [(8, .slice none 0 0), (9, .int .i64 0)] (by kernel_rfl) ?_
  refine wpList_nil ?_
  refine wp_seq ?_
  refine wp_seq ?_
  refine wp_region_lit ?_
  refine g_pv 3 [(12, .slice a l.length c), (13, .int .i64 (↑k : Int)), (14, .int .i64 4)] (by kernel_rfl) ?_
  refine g_op (by kernel_rfl) (op_call (lb := #[]) 64 #[.slice a l.length c, .int .i64 (↑k : Int), .int .i64 4] rfl (by kernel_rfl) (fun _ _ => by kernel_rfl) (by kernel_rfl) ((there_4 a l.length c k hk (by omega) _).mono ?_))
  rintro e W1 ⟨rfl, hb1⟩
  refine ⟨_, rfl, ?_⟩
  have hB := hb1
  refine g_pv 1 [(10, .int .i64 0)] (by kernel_rfl) ?_
  refine wpList_nil ?_
  refine wp_seq ?_
  refine wp_region_lit ?_
  refine g_pv 2 [(16, .int .i64 0), (17, .bool false)] (by kernel_rfl) ?_
  refine wpList_nil ?_
  refine wp_cond_false (by kernel_rfl) ?_
  refine wp_skip ?_
  refine wp_seq ?_
  refine wp_seq ?_
  refine wp_region_lit ?_
  refine g_pv 2 [(19, .int .i64 n), (20, .int .i64 4)] (by kernel_rfl) ?_
  refine g_op (by kernel_rfl) (op_call (lb := #[]) 43 #[.int .i64 n, .int .i64 4] rfl (by kernel_rfl) (fun _ _ => by kernel_rfl) (by kernel_rfl) ((fits_4 n h0 hb _).mono ?_))
  rintro e W2 ⟨rfl, hb2⟩
  refine ⟨_, rfl, ?_⟩
  replace hB := Bl.next hB hb2
  refine g_pv 1 [(22, .bool false)] (by kernel_rfl) ?_
  refine wpList_nil ?_
  refine wp_cond_false (by kernel_rfl) ?_
  refine wp_skip ?_
  refine wp_seq ?_
  refine wp_region_lit ?_
  refine g_pv 1 [(23, .slice a l.length c)] (by kernel_rfl) ?_
  have hs3 : w.heap.size ≤ (W2).heap.size := hB.size
  refine g_op (by kernel_rfl) (op_call (lb := #[]) 12 #[.slice a l.length c] rfl (by kernel_rfl) (fun _ _ => by kernel_rfl) (by kernel_rfl) ((clone_bytes a c l _ (h.below hB) (by omega)).mono ?_))
  rintro e W3 ⟨_, rfl, hb3, ho⟩
  refine ⟨_, rfl, ?_⟩
  replace hB := Bl.next hB hb3
  replace ho := own_mono ho hs3
  obtain ⟨g, cap, rfl, hcap⟩ := OwnB.some ho (by omega)
  refine g_pv 1 [(11, .slice (some ⟨g, 0, none⟩) l.length cap)] (by kernel_rfl) ?_
  refine wpList_nil ?_
  refine wp_seq ?_
  replace hB := Bl.next hB (below_drew W3)
  replace ho := own_below ho (below_drew W3)
  refine h_reg (Below w.heap.size (W3.drew)) 7 rfl #[false, false, false, false, false, false, false] rfl (by kernel_rfl) (Below.refl _ _) ?_
  intro hS4
  have hBd6 := hB
  refine h_pv [0, 1] 5 rfl #[true, true, false, false, false, false, false] [(25, .slice (some ⟨g, 0, none⟩) l.length cap), (26, .int .i64 (↑k : Int))] (by kernel_rfl) (fun _ _ _ _ _ h => h) (by kernel_rfl) hS4 ?_
  refine h_val 2 4 rfl (.slice (some ⟨g, (0 + k * 1), none⟩) (l.length - k) (cap - k)) rfl (by kernel_rfl) (by kernel_rfl) (by kernel_rfl) (fun _ _ _ _ _ h => h) (by kernel_rfl) (fun V hV => run_sliceL (k := k) (b := g) (off := 0) (n := l.length) (c := cap) (i := (↑k : Int)) (ki := .i64) 1 rfl (by kernel_rfl) (by kernel_rfl) rfl (by omega) (by omega) Try.underlying22 (by kernel_rfl) V) hS4 ?_
  refine h_pv [3, 4] 2 rfl #[true, true, true, true, true, false, false] [(28, .int .i64 n), (29, .int .i64 4)] (by kernel_rfl) (fun _ _ _ _ _ h => h) (by kernel_rfl) hS4 ?_
  have hs7 : w.heap.size ≤ (W3.drew).heap.size := hB.size
  refine h_one 5 1 rfl (by kernel_rfl) rfl (by kernel_rfl) (op_call (lb := #[]) 44 #[.int .i64 n, .int .i64 4] rfl (by kernel_rfl) (fun _ _ => by kernel_rfl) (by kernel_rfl) ((bytes_4 n h0 _).mono ?_))
  rintro e W7 ⟨_, rfl, hb7, h2⟩
  refine ⟨_, rfl, ?_⟩
  replace hB := Bl.next hB hb7
  replace ho := own_below ho hb7
  replace h2 := own_mono h2 hs7
  obtain ⟨p2, c2, rfl⟩ := (own_sl h2).slice
  have hS8 : Below w.heap.size (W3.drew) (W7) := Bl.nextB hS4 (Nat.le_trans (Nat.le_refl _) hBd6.size) hb7
  refine ⟨hS8, ?_⟩
  refine h_one 6 0 rfl (by kernel_rfl) rfl (by kernel_rfl) (op_copy (dLen := (l.length - k)) (dCap := (cap - k)) (base := w.heap.size) (g := g) (off := (0 + k * 1)) (n := l.length) (cap := cap) (xs := l.map bv) ((leB n 4).length) ((leB n 4).map bv) ((putB l k (leB n 4)).map bv) rfl Try.underlying22 (by kernel_rfl) (by kernel_rfl) (by kernel_rfl) (own_sl h2) ho (by simp) (by simp [leB]; omega) (by simp [leB]; omega) (bv_one _) (hB.size) (by simp [putB, List.map_take, List.map_drop]) ?_)
  intro W9 o9 hg9 hb9
  replace hB := hB.trans hb9
  clear hg9
  have hS10 : Below w.heap.size (W3.drew) (W9) := hS8.trans hb9
  refine ⟨hS10, ?_⟩
  refine h_done _ (by kernel_rfl) ?_
  refine wp_seq ?_
  refine wp_region_lit ?_
  refine g_pv 3 [(32, .slice (some ⟨g, 0, none⟩) l.length cap), (8, .slice (some ⟨g, 0, none⟩) l.length cap), (9, .int .i64 0)] (by kernel_rfl) ?_
  refine wpList_nil ?_
  refine wp_ret ?_
  refine g_ret (.tuple #[.slice (some ⟨g, 0, none⟩) l.length cap, .int .i64 0]) (by kernel_rfl) (by kernel_rfl) ?_
  refine ⟨_, rfl, hB, _, rfl, ?_⟩
  unfold OwnB
  rw [show (putB l k (leB n 4)).length = l.length by simp [putB, leB]; omega]
  exact o9
end Go.Proofs.Ytoiblgeheblddaa

