/- node.Read, whatever the bytes. -/
import Derived.Test.YtoiblgeheblddaaRd2
import Derived.Test.YtoiblgeheblddaaNode
import Derived.Test.YtoiblgeheblddaaAllocPl
namespace Go.Proofs.Ytoiblgeheblddaa
open Go.RowKit Go.Extern.Stop Go.Stop Go.Extern
set_option linter.unusedVariables false
attribute [local irreducible] wpList wpAnyH Code.wp Oper.wp

def widG (t : Int) (leaf : Bool) : Nat := if 1 ≤ t ∧ t ≤ 5 then widN t leaf else 0
def maxG (t : Int) (leaf : Bool) : Nat := if 1 ≤ t ∧ t ≤ 5 then maxN t leaf else 0
theorem fitG (t : Int) (leaf : Bool) : 12 + maxG t leaf * 8 + maxG t leaf * widG t leaf ≤ 244 := by
  unfold maxG widG; split
  · exact fitN t leaf
  · decide
theorem maxG_le (t : Int) (leaf : Bool) : maxG t leaf ≤ 18 := by
  unfold maxG; split
  · exact (maxN_pos t leaf).2
  · decide
theorem widG_le (t : Int) (leaf : Bool) : widG t leaf ≤ 24 := by
  unfold widG; split
  · exact (widN_bd t leaf).2
  · decide
set_option maxRecDepth 100000 in
set_option maxHeartbeats 1000000 in
theorem node_Width_out (t : Int) (leaf : Bool) (w : World) (h : ¬ (1 ≤ t ∧ t ≤ 5)) :
    Calls Try.prog 21 #[.int .i64 t, .bool leaf] w (Ret (.int .i64 0) w) := by
  refine calls_of_wp Try.func21 rfl ?_
  refine g_fr ⟨#[.int .i64 t, .bool leaf, undef, undef, undef, undef, undef, undef, undef, undef, undef, undef, undef, undef, undef, undef, undef, undef, undef, undef, undef, undef, undef, undef, undef, undef, undef, undef, undef, undef, undef], []⟩ (by kernel_rfl) ?_
  refine wp_seq ?_
  refine wp_region_lit ?_
  refine g_pv 1 [(4, .int .i64 0)] (by kernel_rfl) ?_
  refine wpList_nil ?_
  refine wp_seq ?_
  refine wp_region_lit ?_
  refine g_pv 1 [(5, .int .i64 4)] (by kernel_rfl) ?_
  refine wpList_nil ?_
  refine wp_seq ?_
  refine wp_block ?_
  refine wp_seq ?_
  refine wp_region_lit ?_
  refine g_pv 3 [(7, .int .i64 t), (8, .bool (decide (t < (1 : Int)))), (9, .bool (decide (t < (1 : Int))))] (by kernel_rfl) ?_
  rcases Bool.eq_false_or_eq_true (decide (t < (1 : Int))) with hc1 | hc1
  · refine g_b [8, 9] _ _ hc1 (by kernel_rfl) ?_
    have hc1 := of_decide_eq_true hc1
    refine g_pv 4 [(10, undef), (11, undef), (12, .bool true), (6, .bool true)] (by kernel_rfl) ?_
    refine wpList_nil ?_
    refine wp_cond_true (by kernel_rfl) ?_
    refine wp_seq ?_
    refine wp_region_lit ?_
    refine g_pv 1 [(4, .int .i64 0)] (by kernel_rfl) ?_
    refine wpList_nil ?_
    refine wp_ret (inBlock_ret (then_ret ?_))
    exact g_ret (.int .i64 0) (by kernel_rfl) (by kernel_rfl) ⟨rfl, (Below.refl w.heap.size _)⟩
  · refine g_b [8, 9] _ _ hc1 (by kernel_rfl) ?_
    have hc1 := of_decide_eq_false hc1
    refine g_pv 4 [(10, .int .i64 t), (11, .bool (decide (t > (5 : Int)))), (12, .bool (decide (t > (5 : Int)))), (6, .bool (decide (t > (5 : Int))))] (by kernel_rfl) ?_
    refine wpList_nil ?_
    refine wp_cond_split (t := decide (t > (5 : Int))) (by kernel_rfl) (fun _ => ?_) (fun hh => absurd (hh.symm.trans (show (decide (t > (5 : Int)) : Bool) = true from decide_eq_true (by omega))) (by decide))
    refine wp_seq ?_
    refine wp_region_lit ?_
    refine g_pv 1 [(4, .int .i64 0)] (by kernel_rfl) ?_
    refine wpList_nil ?_
    refine wp_ret (inBlock_ret (then_ret ?_))
    exact g_ret (.int .i64 0) (by kernel_rfl) (by kernel_rfl) ⟨rfl, (Below.refl w.heap.size _)⟩
theorem node_WidthG (t : Int) (leaf : Bool) (w : World) : Calls Try.prog 21 #[.int .i64 t, .bool leaf] w (Ret (.int .i64 (widG t leaf : Int)) w) := by
  unfold widG
  by_cases h : 1 ≤ t ∧ t ≤ 5
  · rw [if_pos h]; exact node_Width t leaf h.1 h.2 w
  · rw [if_neg h]; exact node_Width_out t leaf w h
set_option maxRecDepth 100000 in
set_option maxHeartbeats 1000000 in
theorem node_Max_out (t : Int) (leaf : Bool) (w : World) (h : ¬ (1 ≤ t ∧ t ≤ 5)) :
    Calls Try.prog 22 #[.int .i64 t, .bool leaf] w (Ret (.int .i64 0) w) := by
  refine calls_of_wp Try.func22 rfl ?_
  refine g_fr ⟨#[.int .i64 t, .bool leaf, undef, undef, undef, undef, undef, undef, undef, undef, undef, undef, undef, undef, undef, undef], []⟩ (by kernel_rfl) ?_
  refine wp_seq ?_
  refine wp_region_lit ?_
  refine g_pv 1 [(4, .int .i64 0)] (by kernel_rfl) ?_
  refine wpList_nil ?_
  refine wp_seq ?_
  refine wp_region_lit ?_
  refine g_pv 2 [(6, .int .i64 t), (7, .bool leaf)] (by kernel_rfl) ?_
  refine g_op (by kernel_rfl) (op_call (lb := #[]) 21 #[.int .i64 t, .bool leaf] rfl (by kernel_rfl) (fun _ _ => by kernel_rfl) (by kernel_rfl) ((node_Width_out t leaf _ h).mono ?_))
  rintro e W1 ⟨rfl, hb1⟩
  refine ⟨_, rfl, ?_⟩
  have hB := hb1
  refine g_pv 1 [(5, .int .i64 0)] (by kernel_rfl) ?_
  refine wpList_nil ?_
  refine wp_seq ?_
  refine wp_seq ?_
  refine wp_region_lit ?_
  refine g_pv 2 [(9, .int .i64 0), (10, .bool true)] (by kernel_rfl) ?_
  refine wpList_nil ?_
  refine wp_cond_true (by kernel_rfl) ?_
  refine wp_seq ?_
  refine wp_region_lit ?_
  refine g_pv 1 [(4, .int .i64 0)] (by kernel_rfl) ?_
  refine wpList_nil ?_
  refine wp_ret (then_ret ?_)
  exact g_ret (.int .i64 0) (by kernel_rfl) (by kernel_rfl) ⟨rfl, hB⟩
theorem node_MaxG (t : Int) (leaf : Bool) (w : World) : Calls Try.prog 22 #[.int .i64 t, .bool leaf] w (Ret (.int .i64 (maxG t leaf : Int)) w) := by
  unfold maxG
  by_cases h : 1 ≤ t ∧ t ≤ 5
  · rw [if_pos h]; exact node_Max t leaf h.1 h.2 w
  · rw [if_neg h]; exact node_Max_out t leaf w h
/-- a key's number, by the last of the keys ahead -/
def keyR (L : List Int) (i : Nat) (k : Int) : Int := if k < 0 ∨ 281474976710655 < k then 2 else if 0 < i ∧ k ≤ L.getD (i - 1) 0 then 8 else 0
/-- the head of a node's bytes -/
def nodT (l : List UInt8) : Int := (rawN l 1 1 : Int)
def nodL (l : List UInt8) : Bool := (rawN l 0 1 : Int) == (1 : Int)
def nodC (l : List UInt8) : Nat := rawN l 2 2
def nodW (l : List UInt8) : Nat := widG (nodT l) (nodL l)
def nodM (l : List UInt8) : Nat := maxG (nodT l) (nodL l)
def shapeB (l : List UInt8) : Bool := decide (rawN l 0 1 ≤ 1 ∧ nodW l ≠ 0 ∧ rawN l 2 2 ≤ nodM l ∧ rawN l 4 2 = nodW l ∧ rawN l 6 2 = nodM l ∧ rawN l 8 4 = 0 ∧ (rawN l 0 1 = 1 ∨ 0 < rawN l 2 2))
def ShapeP (l : List UInt8) (w : World) (e : Ending) (w' : World) : Prop :=
  (shapeB l = false ∧ ∃ a b c, e = .returned (.tuple #[.agg #[.int .i64 a, .bool b, .slice none 0 0, .slice none 0 0], .int .i64 c, .bool false]) ∧ Below w.heap.size w w') ∨
  (shapeB l = true ∧ e = .returned (.tuple #[.agg #[.int .i64 (nodT l), .bool (nodL l), .slice none 0 0, .slice none 0 0], .int .i64 (nodC l : Int), .bool true]) ∧ Below w.heap.size w w')
theorem Unpack_okN (a : Option Addr) (n c : Nat) (l : List UInt8) (aw : Option Addr) (cw m : Nat) (ws : List Nat) (xs : List Nat) (W : World) (hn : l.length = n) (hm : ws.length = m) (hx : unpL l 0 ws = xs) (hk : ∀ i, i < ws.length → ws.getD i 0 = 1 ∨ ws.getD i 0 = 2 ∨ ws.getD i 0 = 4 ∨ ws.getD i 0 = 8) (hs : ws.sum ≤ n) (hl : n ≤ 100000000) (hw : ws.length ≤ 1000) (h : Bys W (.slice a n c) l) (hws : Sl W (.slice aw m cw) m (ws.map nv)) (hq : ∀ i, i < ws.length → (unpL l 0 ws).getD i 0 < 9223372036854775808) :
    Calls Try.prog 61 #[.slice a n c, .slice aw m cw] W (RetS (fun w' r => ∃ p c, r = .tuple #[.slice p m c, .int .i64 0] ∧ w'.ownsRow W.heap.size 3 1 (.slice p m c) m (xs.map nv)) W) := by
  subst hn hm hx; exact Unpack_ok a c l aw cw ws W hk hs hl hw h hws hq
def head6 (l : List UInt8) : List Nat := [rawN l 0 1, rawN l 1 1, rawN l 2 2, rawN l 4 2, rawN l 6 2, rawN l 8 4]
theorem head6_bd (l : List UInt8) (i : Nat) (hi : i < 6) : (unpL l 0 [1, 1, 2, 2, 2, 4]).getD i 0 < 9223372036854775808 := by
  have h1 := rawN_lt4 l 0 1 (by decide)
  have h2 := rawN_lt4 l 1 1 (by decide)
  have h3 := rawN_lt4 l 2 2 (by decide)
  have h4 := rawN_lt4 l 4 2 (by decide)
  have h5 := rawN_lt4 l 6 2 (by decide)
  have h6 := rawN_lt4 l 8 4 (by decide)
  obtain rfl | rfl | rfl | rfl | rfl | rfl : i = 0 ∨ i = 1 ∨ i = 2 ∨ i = 3 ∨ i = 4 ∨ i = 5 := by omega
  all_goals simp [unpL]
  all_goals omega
set_option maxRecDepth 100000 in
set_option maxHeartbeats 4000000 in
theorem node_shape (a : Option Addr) (c : Nat) (l : List UInt8) (w : World) (hl : l.length = 244) (h : Bys w (.slice a 244 c) l) :
    Calls Try.prog 36 #[.slice a 244 c] w (ShapeP l w) := by
  refine calls_of_wp Try.func36 rfl ?_
  refine g_fr ⟨#[.slice a 244 c, undef, undef, undef, undef, undef, undef, undef, undef, undef, undef, undef, undef, undef, undef, undef, undef, undef, undef, undef, undef, undef, undef, undef, undef, undef, undef, undef, undef, undef, undef, undef, undef, undef, undef, undef, undef, undef, undef, undef, undef, undef, undef, undef, undef, undef, undef, undef, undef, undef, undef, undef, undef, undef, undef, undef, undef, undef, undef, undef, undef, undef, undef, undef, undef, undef, undef, undef, undef, undef, undef, undef, undef, undef, undef, undef, undef, undef, undef, undef, undef, undef, undef, undef, undef, undef, undef, undef, undef, undef, undef, undef], []⟩ (by kernel_rfl) ?_
  refine wp_seq ?_
  refine wp_region_lit ?_
  refine g_op (by kernel_rfl) (op_alloc [.int .i64 0, .bool false, .slice none 0 0, .slice none 0 0] rfl (by kernel_rfl) ?_)
  intro b1 W1 n1
  have g1 := n1.ge (Below.refl w.heap.size _)
  have hB := n1.below
  have k1 := n1.blk
  refine g_pv 2 [(3, .int .i64 0), (4, .bool false)] (by kernel_rfl) ?_
  refine wpList_nil ?_
  refine wp_seq ?_
  refine wp_seq ?_
  refine wp_region_lit ?_
  refine g_pv 3 [(11, .slice a 244 c), (12, .int .i64 244), (13, .bool false)] (by kernel_rfl) ?_
  refine wpList_nil ?_
  refine wp_cond_false (by kernel_rfl) ?_
  refine wp_skip ?_
  refine wp_seq ?_
  refine wp_region_lit ?_
  refine g_pv 1 [(16, .slice a 244 c)] (by kernel_rfl) ?_
  refine g_op (by kernel_rfl) (op_buildSlice 3 [.int .i64 1, .int .i64 1, .int .i64 2, .int .i64 2, .int .i64 2, .int .i64 4] rfl (by kernel_rfl) ?_)
  intro b2 W2 n2
  have d2_b1 := n2.ne k1
  have g2 := n2.ge hB
  replace hB := Bl.next hB n2.below
  replace k1 := k1.below n2.below
  have k2 := n2.blk
  have hs3 : w.heap.size ≤ (W2).heap.size := hB.size
  refine g_op (by kernel_rfl) (op_call (lb := #[]) 61 #[.slice a 244 c, .slice (some ⟨b2, 0, none⟩) 6 6] rfl (by kernel_rfl) (fun _ _ => by kernel_rfl) (by kernel_rfl) ((Unpack_okN a 244 c l (some ⟨b2, 0, none⟩) 6 6 [1, 1, 2, 2, 2, 4] (head6 l) _ hl rfl rfl (by decide) (by decide) (by decide) (by decide) (h.below hB) (k2.sl 6 6 (by decide) (by decide)) (head6_bd l)).mono ?_))
  rintro e W3 ⟨_, rfl, hb3, p5, c5, rfl, h5⟩
  refine ⟨_, rfl, ?_⟩
  replace hB := Bl.next hB hb3
  replace k1 := k1.below hb3
  replace k2 := k2.below hb3
  replace h5 := own_mono h5 hs3
  refine g_pv 5 [(15, .tuple #[.slice p5 6 c5, .int .i64 0]), (19, .slice p5 6 c5), (20, .int .i64 0), (5, .slice p5 6 c5), (6, .int .i64 0)] (by kernel_rfl) ?_
  refine wpList_nil ?_
  refine wp_seq ?_
  replace hB := Bl.next hB (below_drew W3)
  replace k1 := k1.below (below_drew W3)
  replace k2 := k2.below (below_drew W3)
  replace h5 := own_below h5 (below_drew W3)
  refine h_reg (Below (W3.drew).heap.size (W3.drew)) 10 rfl #[false, false, false, false, false, false, false, false, false, false] rfl (by kernel_rfl) (Below.refl _ _) ?_
  intro hS4
  have hBd6 := hB
  have kd6_b1 := k1
  have kd6_b2 := k2
  have fd_h5 := h5
  refine h_pv [0] 9 rfl #[true, false, false, false, false, false, false, false, false, false] [(21, .slice p5 6 c5)] (by kernel_rfl) (fun _ _ _ _ _ h => h) (by kernel_rfl) hS4 ?_
  refine h_val 1 8 rfl (.pointer (some (elemAddr p5 (1 * 1)))) rfl (by kernel_rfl) (by kernel_rfl) (by kernel_rfl) (fun _ _ _ _ _ h => h) (by kernel_rfl) (fun V hV => run_indexA (size := 1) (k := 1) (b := p5) (n := 6) (c := c5) (i := 1) (ki := .i64) rfl (by kernel_rfl) (by kernel_rfl) rfl (by omega) (nv_elem (l := head6 l) (own_sl h5) rfl (k := 1) (by decide)).1 Try.underlying27 (by kernel_rfl) V) hS4 ?_
  refine h_load 2 7 rfl (elemAddr p5 (1 * 1)) (.int .i64 (↑(rawN l 1 1) : Int)) rfl (by kernel_rfl) (by kernel_rfl) (by kernel_rfl) (fun _ _ _ _ _ h => h) (by kernel_rfl) rfl (by kernel_rfl) (by kernel_rfl) (fun V hV => (nv_elem (l := head6 l) ((own_sl fd_h5).below hV) rfl (k := 1) (by decide)).2) hS4 ?_
  refine h_pv [3] 6 rfl #[true, true, true, true, false, false, false, false, false, false] [(24, .slice p5 6 c5)] (by kernel_rfl) (fun _ _ _ _ _ h => h) (by kernel_rfl) hS4 ?_
  refine h_val 4 5 rfl (.pointer (some (elemAddr p5 (0 * 1)))) rfl (by kernel_rfl) (by kernel_rfl) (by kernel_rfl) (fun _ _ _ _ _ h => h) (by kernel_rfl) (fun V hV => run_indexA (size := 1) (k := 0) (b := p5) (n := 6) (c := c5) (i := 0) (ki := .i64) rfl (by kernel_rfl) (by kernel_rfl) rfl (by omega) (nv_elem (l := head6 l) (own_sl h5) rfl (k := 0) (by decide)).1 Try.underlying27 (by kernel_rfl) V) hS4 ?_
  refine h_load 5 4 rfl (elemAddr p5 (0 * 1)) (.int .i64 (↑(rawN l 0 1) : Int)) rfl (by kernel_rfl) (by kernel_rfl) (by kernel_rfl) (fun _ _ _ _ _ h => h) (by kernel_rfl) rfl (by kernel_rfl) (by kernel_rfl) (fun V hV => (nv_elem (l := head6 l) ((own_sl fd_h5).below hV) rfl (k := 0) (by decide)).2) hS4 ?_
  refine h_pv [6, 7] 2 rfl #[true, true, true, true, true, true, true, true, false, false] [(27, .bool ((↑(rawN l 0 1) : Int) == (1 : Int))), (28, .agg #[.int .i64 (↑(rawN l 1 1) : Int), .bool ((↑(rawN l 0 1) : Int) == (1 : Int)), .slice none 0 0, .slice none 0 0])] (by kernel_rfl) (fun _ _ _ _ _ h => h) (by kernel_rfl) hS4 ?_
  refine h_one 8 1 rfl (by kernel_rfl) rfl (by kernel_rfl) (op_alloc [.int .i64 0, .bool false, .slice none 0 0, .slice none 0 0] rfl (by kernel_rfl) ?_)
  intro b7 W7 n7
  have d7_b1 := n7.ne k1
  have d7_b2 := n7.ne k2
  have g7 := n7.ge hB
  have gd_b7 : (W3.drew).heap.size ≤ b7 := by have := hS4.size; have := n7.at_; omega
  replace hB := Bl.next hB n7.below
  replace k1 := k1.below n7.below
  replace k2 := k2.below n7.below
  replace h5 := own_below h5 n7.below
  have k7 := n7.blk
  have hS8 : Below (W3.drew).heap.size (W3.drew) (W7) := Bl.next hS4 n7.below
  refine ⟨hS8, ?_⟩
  refine h_one 9 0 rfl (by kernel_rfl) rfl (by kernel_rfl) (op_storev (b := b7) (off := 0) [.int .i64 (↑(rawN l 1 1) : Int), .bool ((↑(rawN l 0 1) : Int) == (1 : Int)), .slice none 0 0, .slice none 0 0] rfl (by kernel_rfl) (by kernel_rfl) (by kernel_rfl) (by first | decide | simp [Value.oneCell']) k7 (by first | decide | simp) ?_)
  intro W9 u9 k9
  change Blk _ _ [.int .i64 (↑(rawN l 1 1) : Int), .bool ((↑(rawN l 0 1) : Int) == (1 : Int)), .slice none 0 0, .slice none 0 0] _ at k9
  replace hB := u9.below hB g7
  replace k1 := u9.blk k1 (Ne.symm (Ne.symm d7_b1))
  replace k2 := u9.blk k2 (Ne.symm (Ne.symm d7_b2))
  replace h5 := u9.own2 h5 k7 (by decide)
  have hS10 : Below (W3.drew).heap.size (W3.drew) (W9) := u9.below hS8 gd_b7
  refine ⟨hS10, ?_⟩
  refine h_done _ (by kernel_rfl) ?_
  refine wp_seq ?_
  refine wp_seq ?_
  refine wp_region_lit ?_
  refine g_pv 1 [(29, .slice p5 6 c5)] (by kernel_rfl) ?_
  refine g_op (by kernel_rfl) (op_val (run_indexA (size := 1) (k := 0) (b := p5) (n := 6) (c := c5) (i := 0) (ki := .i64) rfl (by kernel_rfl) (by kernel_rfl) rfl (by omega) (nv_elem (l := head6 l) (own_sl h5) rfl (k := 0) (by decide)).1 Try.underlying27 (by kernel_rfl) W9) ?_)
  refine g_op (by kernel_rfl) (op_load (elemAddr p5 (0 * 1)) (.int .i64 (↑(rawN l 0 1) : Int)) rfl (by kernel_rfl) (by kernel_rfl) (nv_elem (l := head6 l) (own_sl h5) rfl (k := 0) (by decide)).2 ?_)
  refine g_pv 2 [(32, .bool (decide ((↑(rawN l 0 1) : Int) > (1 : Int)))), (33, .bool (decide ((↑(rawN l 0 1) : Int) > (1 : Int))))] (by kernel_rfl) ?_
  rcases Bool.eq_false_or_eq_true (decide ((↑(rawN l 0 1) : Int) > (1 : Int))) with hc11 | hc11
  · refine g_b [32, 33] _ _ hc11 (by kernel_rfl) ?_
    have hc11 := of_decide_eq_true hc11
    refine g_pv 7 [(34, undef), (35, undef), (36, undef), (37, undef), (38, undef), (39, undef), (40, .bool true)] (by kernel_rfl) ?_
    refine wpList_nil ?_
    refine wp_cond_true (by kernel_rfl) ?_
    refine wp_seq ?_
    refine wp_region_lit ?_
    refine g_pv 1 [(41, .agg #[.int .i64 0, .bool false, .slice none 0 0, .slice none 0 0])] (by kernel_rfl) ?_
    refine g_op (by kernel_rfl) (op_storev (b := b1) (off := 0) [.int .i64 0, .bool false, .slice none 0 0, .slice none 0 0] rfl (by kernel_rfl) (by kernel_rfl) (by kernel_rfl) (by first | decide | simp [Value.oneCell']) k1 (by first | decide | simp) ?_)
    intro W12 u12 k12
    change Blk _ _ [.int .i64 0, .bool false, .slice none 0 0, .slice none 0 0] _ at k12
    replace hB := u12.below hB g1
    replace k2 := u12.blk k2 (Ne.symm d2_b1)
    replace k9 := u12.blk k9 (Ne.symm d7_b1)
    replace h5 := u12.own2 h5 k1 (by decide)
    refine g_pv 2 [(3, .int .i64 0), (4, .bool false)] (by kernel_rfl) ?_
    refine wpList_nil ?_
    refine wp_ret (then_ret ?_)
    exact g_ret (.tuple #[.agg #[.int .i64 0, .bool false, .slice none 0 0, .slice none 0 0], .int .i64 0, .bool false]) (by kernel_rfl) (res_ctt (d := _) (cs := [.int .i64 0, .bool false, .slice none 0 0, .slice none 0 0]) rfl (by kernel_rfl) (by kernel_rfl) (by kernel_rfl) k12.whole Try.underlying36 rfl (by kernel_rfl)) (.inl ⟨decide_eq_false (by omega), _, _, _, rfl, hB⟩)
  · refine g_b [32, 33] _ _ hc11 (by kernel_rfl) ?_
    have hc11 := of_decide_eq_false hc11
    refine g_pv 1 [(34, .pointer (some ⟨b7, 0, none⟩))] (by kernel_rfl) ?_
    refine g_op (by kernel_rfl) (op_load ⟨b7, 0, none⟩ (.int .i64 (↑(rawN l 1 1) : Int)) rfl (by kernel_rfl) (by kernel_rfl) (k9.cell (i := 0) rfl) ?_)
    refine g_pv 1 [(36, .pointer (some ⟨b7, 1, none⟩))] (by kernel_rfl) ?_
    refine g_op (by kernel_rfl) (op_load ⟨b7, 1, none⟩ (.bool ((↑(rawN l 0 1) : Int) == (1 : Int))) rfl (by kernel_rfl) (by kernel_rfl) (k9.cell (i := 1) rfl) ?_)
    refine g_op (by kernel_rfl) (op_call (lb := #[]) 21 #[.int .i64 (↑(rawN l 1 1) : Int), .bool ((↑(rawN l 0 1) : Int) == (1 : Int))] rfl (by kernel_rfl) (fun _ _ => by kernel_rfl) (by kernel_rfl) ((node_WidthG (nodT l) (nodL l) _).mono ?_))
    rintro e W13 ⟨rfl, hb13⟩
    refine ⟨_, rfl, ?_⟩
    replace hB := Bl.next hB hb13
    replace k1 := k1.below hb13
    replace k2 := k2.below hb13
    replace k9 := k9.below hb13
    replace h5 := own_below h5 hb13
    refine g_pv 2 [(39, .bool ((↑(nodW l) : Int) == (0 : Int))), (40, .bool ((↑(nodW l) : Int) == (0 : Int)))] (by kernel_rfl) ?_
    refine wpList_nil ?_
    refine wp_cond_split (t := ((↑(nodW l) : Int) == (0 : Int))) (by kernel_rfl) (fun hc14 => ?_) (fun hc14 => ?_)
    · have hc14 := eq_of_beq hc14
      refine wp_seq ?_
      refine wp_region_lit ?_
      refine g_pv 1 [(41, .agg #[.int .i64 0, .bool false, .slice none 0 0, .slice none 0 0])] (by kernel_rfl) ?_
      refine g_op (by kernel_rfl) (op_storev (b := b1) (off := 0) [.int .i64 0, .bool false, .slice none 0 0, .slice none 0 0] rfl (by kernel_rfl) (by kernel_rfl) (by kernel_rfl) (by first | decide | simp [Value.oneCell']) k1 (by first | decide | simp) ?_)
      intro W15 u15 k15
      change Blk _ _ [.int .i64 0, .bool false, .slice none 0 0, .slice none 0 0] _ at k15
      replace hB := u15.below hB g1
      replace k2 := u15.blk k2 (Ne.symm d2_b1)
      replace k9 := u15.blk k9 (Ne.symm d7_b1)
      replace h5 := u15.own2 h5 k1 (by decide)
      refine g_pv 2 [(3, .int .i64 0), (4, .bool false)] (by kernel_rfl) ?_
      refine wpList_nil ?_
      refine wp_ret (then_ret ?_)
      exact g_ret (.tuple #[.agg #[.int .i64 0, .bool false, .slice none 0 0, .slice none 0 0], .int .i64 0, .bool false]) (by kernel_rfl) (res_ctt (d := _) (cs := [.int .i64 0, .bool false, .slice none 0 0, .slice none 0 0]) rfl (by kernel_rfl) (by kernel_rfl) (by kernel_rfl) k15.whole Try.underlying36 rfl (by kernel_rfl)) (.inl ⟨decide_eq_false (by omega), _, _, _, rfl, hB⟩)
    · have hc14 := ne_of_beq_false hc14
      refine wp_skip ?_
      refine wp_seq ?_
      replace hB := Bl.next hB (below_drew W13)
      replace k1 := k1.below (below_drew W13)
      replace k2 := k2.below (below_drew W13)
      replace k9 := k9.below (below_drew W13)
      replace h5 := own_below h5 (below_drew W13)
      refine h_reg (Below (W13.drew).heap.size (W13.drew)) 12 rfl #[false, false, false, false, false, false, false, false, false, false, false, false] rfl (by kernel_rfl) (Below.refl _ _) ?_
      intro hS16
      have hBd18 := hB
      have kd18_b1 := k1
      have kd18_b2 := k2
      have kd18_b7 := k9
      have fd_h5 := h5
      refine h_pv [0] 11 rfl #[true, false, false, false, false, false, false, false, false, false, false, false] [(42, .pointer (some ⟨b7, 0, none⟩))] (by kernel_rfl) (fun _ _ _ _ _ h => h) (by kernel_rfl) hS16 ?_
      refine h_load 1 10 rfl ⟨b7, 0, none⟩ (.int .i64 (↑(rawN l 1 1) : Int)) rfl (by kernel_rfl) (by kernel_rfl) (by kernel_rfl) (fun _ _ _ _ _ h => h) (by kernel_rfl) rfl (by kernel_rfl) (by kernel_rfl) (fun V hV => ((kd18_b7.below hV).cell (i := 0) rfl)) hS16 ?_
      refine h_pv [2] 9 rfl #[true, true, true, false, false, false, false, false, false, false, false, false] [(44, .pointer (some ⟨b7, 1, none⟩))] (by kernel_rfl) (fun _ _ _ _ _ h => h) (by kernel_rfl) hS16 ?_
      refine h_load 3 8 rfl ⟨b7, 1, none⟩ (.bool ((↑(rawN l 0 1) : Int) == (1 : Int))) rfl (by kernel_rfl) (by kernel_rfl) (by kernel_rfl) (fun _ _ _ _ _ h => h) (by kernel_rfl) rfl (by kernel_rfl) (by kernel_rfl) (fun V hV => ((kd18_b7.below hV).cell (i := 1) rfl)) hS16 ?_
      refine h_pv [5] 7 rfl #[true, true, true, true, false, true, false, false, false, false, false, false] [(47, .pointer (some ⟨b7, 0, none⟩))] (by kernel_rfl) (fun _ _ _ _ _ h => h) (by kernel_rfl) hS16 ?_
      refine h_load 6 6 rfl ⟨b7, 0, none⟩ (.int .i64 (↑(rawN l 1 1) : Int)) rfl (by kernel_rfl) (by kernel_rfl) (by kernel_rfl) (fun _ _ _ _ _ h => h) (by kernel_rfl) rfl (by kernel_rfl) (by kernel_rfl) (fun V hV => ((kd18_b7.below hV).cell (i := 0) rfl)) hS16 ?_
      refine h_pv [7] 5 rfl #[true, true, true, true, false, true, true, true, false, false, false, false] [(49, .pointer (some ⟨b7, 1, none⟩))] (by kernel_rfl) (fun _ _ _ _ _ h => h) (by kernel_rfl) hS16 ?_
      refine h_load 8 4 rfl ⟨b7, 1, none⟩ (.bool ((↑(rawN l 0 1) : Int) == (1 : Int))) rfl (by kernel_rfl) (by kernel_rfl) (by kernel_rfl) (fun _ _ _ _ _ h => h) (by kernel_rfl) rfl (by kernel_rfl) (by kernel_rfl) (fun V hV => ((kd18_b7.below hV).cell (i := 1) rfl)) hS16 ?_
      refine h_one 4 3 rfl (by kernel_rfl) rfl (by kernel_rfl) (op_call (lb := #[]) 21 #[.int .i64 (↑(rawN l 1 1) : Int), .bool ((↑(rawN l 0 1) : Int) == (1 : Int))] rfl (by kernel_rfl) (fun _ _ => by kernel_rfl) (by kernel_rfl) ((node_WidthG (nodT l) (nodL l) _).mono ?_))
      rintro e W19 ⟨rfl, hb19⟩
      refine ⟨_, rfl, ?_⟩
      replace hB := Bl.next hB hb19
      replace k1 := k1.below hb19
      replace k2 := k2.below hb19
      replace k9 := k9.below hb19
      replace h5 := own_below h5 hb19
      have hS20 : Below (W13.drew).heap.size (W13.drew) (W19) := Bl.next hS16 hb19
      refine ⟨hS20, ?_⟩
      refine h_one 9 2 rfl (by kernel_rfl) rfl (by kernel_rfl) (op_call (lb := #[]) 22 #[.int .i64 (↑(rawN l 1 1) : Int), .bool ((↑(rawN l 0 1) : Int) == (1 : Int))] rfl (by kernel_rfl) (fun _ _ => by kernel_rfl) (by kernel_rfl) ((node_MaxG (nodT l) (nodL l) _).mono ?_))
      rintro e W21 ⟨rfl, hb21⟩
      refine ⟨_, rfl, ?_⟩
      replace hB := Bl.next hB hb21
      replace k1 := k1.below hb21
      replace k2 := k2.below hb21
      replace k9 := k9.below hb21
      replace h5 := own_below h5 hb21
      have hS22 : Below (W13.drew).heap.size (W13.drew) (W21) := Bl.next hS20 hb21
      refine ⟨hS22, ?_⟩
      refine h_pv [10, 11] 0 rfl #[true, true, true, true, true, true, true, true, true, true, true, true] [(8, .int .i64 (↑(nodW l) : Int)), (9, .int .i64 (↑(nodM l) : Int))] (by kernel_rfl) (fun _ _ _ _ _ h => h) (by kernel_rfl) hS22 ?_
      refine h_done _ (by kernel_rfl) ?_
      refine wp_seq ?_
      refine wp_region_lit ?_
      refine g_pv 1 [(52, .slice p5 6 c5)] (by kernel_rfl) ?_
      refine g_op (by kernel_rfl) (op_val (run_indexA (size := 1) (k := 2) (b := p5) (n := 6) (c := c5) (i := 2) (ki := .i64) rfl (by kernel_rfl) (by kernel_rfl) rfl (by omega) (nv_elem (l := head6 l) (own_sl h5) rfl (k := 2) (by decide)).1 Try.underlying27 (by kernel_rfl) W21) ?_)
      refine g_op (by kernel_rfl) (op_load (elemAddr p5 (2 * 1)) (.int .i64 (↑(rawN l 2 2) : Int)) rfl (by kernel_rfl) (by kernel_rfl) (nv_elem (l := head6 l) (own_sl h5) rfl (k := 2) (by decide)).2 ?_)
      refine g_pv 3 [(55, .int .i64 (↑(nodM l) : Int)), (56, .bool (decide ((↑(rawN l 2 2) : Int) ≤ (↑(nodM l) : Int)))), (57, .bool (decide ((↑(rawN l 2 2) : Int) ≤ (↑(nodM l) : Int))))] (by kernel_rfl) ?_
      rcases Bool.eq_false_or_eq_true (decide ((↑(rawN l 2 2) : Int) ≤ (↑(nodM l) : Int))) with hc23 | hc23
      · refine g_b [56, 57] _ _ hc23 (by kernel_rfl) ?_
        have hc23 := of_decide_eq_true hc23
        refine g_pv 1 [(58, .slice p5 6 c5)] (by kernel_rfl) ?_
        refine g_op (by kernel_rfl) (op_val (run_indexA (size := 1) (k := 3) (b := p5) (n := 6) (c := c5) (i := 3) (ki := .i64) rfl (by kernel_rfl) (by kernel_rfl) rfl (by omega) (nv_elem (l := head6 l) (own_sl h5) rfl (k := 3) (by decide)).1 Try.underlying27 (by kernel_rfl) W21) ?_)
        refine g_op (by kernel_rfl) (op_load (elemAddr p5 (3 * 1)) (.int .i64 (↑(rawN l 4 2) : Int)) rfl (by kernel_rfl) (by kernel_rfl) (nv_elem (l := head6 l) (own_sl h5) rfl (k := 3) (by decide)).2 ?_)
        refine g_pure 4 ⟨#[.slice a 244 c, undef, .pointer (some ⟨b1, 0, none⟩), .int .i64 0, .bool false, .slice p5 6 c5, .int .i64 0, .pointer (some ⟨b7, 0, none⟩), .int .i64 (↑(nodW l) : Int), .int .i64 (↑(nodM l) : Int), undef, .slice a 244 c, .int .i64 244, .bool false, undef, .tuple #[.slice p5 6 c5, .int .i64 0], .slice a 244 c, .slice (some ⟨b2, 0, none⟩) 6 6, .tuple #[.slice p5 6 c5, .int .i64 0], .slice p5 6 c5, .int .i64 0, .slice p5 6 c5, .pointer (some (elemAddr p5 (1 * 1))), .int .i64 (↑(rawN l 1 1) : Int), .slice p5 6 c5, .pointer (some (elemAddr p5 (0 * 1))), .int .i64 (↑(rawN l 0 1) : Int), .bool ((↑(rawN l 0 1) : Int) == (1 : Int)), .agg #[.int .i64 (↑(rawN l 1 1) : Int), .bool ((↑(rawN l 0 1) : Int) == (1 : Int)), .slice none 0 0, .slice none 0 0], .slice p5 6 c5, .pointer (some (elemAddr p5 (0 * 1))), .int .i64 (↑(rawN l 0 1) : Int), .bool false, .bool false, .pointer (some ⟨b7, 0, none⟩), .int .i64 (↑(rawN l 1 1) : Int), .pointer (some ⟨b7, 1, none⟩), .bool ((↑(rawN l 0 1) : Int) == (1 : Int)), .int .i64 (↑(nodW l) : Int), .bool ((↑(nodW l) : Int) == (0 : Int)), .bool ((↑(nodW l) : Int) == (0 : Int)), undef, .pointer (some ⟨b7, 0, none⟩), .int .i64 (↑(rawN l 1 1) : Int), .pointer (some ⟨b7, 1, none⟩), .bool ((↑(rawN l 0 1) : Int) == (1 : Int)), .int .i64 (↑(nodW l) : Int), .pointer (some ⟨b7, 0, none⟩), .int .i64 (↑(rawN l 1 1) : Int), .pointer (some ⟨b7, 1, none⟩), .bool ((↑(rawN l 0 1) : Int) == (1 : Int)), .int .i64 (↑(nodM l) : Int), .slice p5 6 c5, .pointer (some (elemAddr p5 (2 * 1))), .int .i64 (↑(rawN l 2 2) : Int), .int .i64 (↑(nodM l) : Int), .bool true, .bool true, .slice p5 6 c5, .pointer (some (elemAddr p5 (3 * 1))), .int .i64 (↑(rawN l 4 2) : Int), .int .i64 (↑(nodW l) : Int), .bool ((↑(rawN l 4 2) : Int) == (↑(nodW l) : Int)), .bool ((↑(rawN l 4 2) : Int) == (↑(nodW l) : Int)), .bool ((↑(rawN l 4 2) : Int) == (↑(nodW l) : Int)), undef, undef, undef, undef, undef, undef, undef, undef, undef, undef, undef, undef, undef, undef, undef, undef, undef, undef, undef, undef, undef, undef, undef, undef, undef, undef, undef], []⟩ (by kernel_rfl) ?_
        rcases Bool.eq_false_or_eq_true ((↑(rawN l 4 2) : Int) == (↑(nodW l) : Int)) with hc24 | hc24
        · refine g_b [62, 63, 64] _ _ hc24 (by kernel_rfl) ?_
          have hc24 := eq_of_beq hc24
          refine g_pv 1 [(65, .slice p5 6 c5)] (by kernel_rfl) ?_
          refine g_op (by kernel_rfl) (op_val (run_indexA (size := 1) (k := 4) (b := p5) (n := 6) (c := c5) (i := 4) (ki := .i64) rfl (by kernel_rfl) (by kernel_rfl) rfl (by omega) (nv_elem (l := head6 l) (own_sl h5) rfl (k := 4) (by decide)).1 Try.underlying27 (by kernel_rfl) W21) ?_)
          refine g_op (by kernel_rfl) (op_load (elemAddr p5 (4 * 1)) (.int .i64 (↑(rawN l 6 2) : Int)) rfl (by kernel_rfl) (by kernel_rfl) (nv_elem (l := head6 l) (own_sl h5) rfl (k := 4) (by decide)).2 ?_)
          refine g_pv 4 [(68, .int .i64 (↑(nodM l) : Int)), (69, .bool ((↑(rawN l 6 2) : Int) == (↑(nodM l) : Int))), (70, .bool ((↑(rawN l 6 2) : Int) == (↑(nodM l) : Int))), (71, .bool ((↑(rawN l 6 2) : Int) == (↑(nodM l) : Int)))] (by kernel_rfl) ?_
          rcases Bool.eq_false_or_eq_true ((↑(rawN l 6 2) : Int) == (↑(nodM l) : Int)) with hc25 | hc25
          · refine g_b [69, 70, 71] _ _ hc25 (by kernel_rfl) ?_
            have hc25 := eq_of_beq hc25
            refine g_pv 1 [(72, .slice p5 6 c5)] (by kernel_rfl) ?_
            refine g_op (by kernel_rfl) (op_val (run_indexA (size := 1) (k := 5) (b := p5) (n := 6) (c := c5) (i := 5) (ki := .i64) rfl (by kernel_rfl) (by kernel_rfl) rfl (by omega) (nv_elem (l := head6 l) (own_sl h5) rfl (k := 5) (by decide)).1 Try.underlying27 (by kernel_rfl) W21) ?_)
            refine g_op (by kernel_rfl) (op_load (elemAddr p5 (5 * 1)) (.int .i64 (↑(rawN l 8 4) : Int)) rfl (by kernel_rfl) (by kernel_rfl) (nv_elem (l := head6 l) (own_sl h5) rfl (k := 5) (by decide)).2 ?_)
            refine g_pv 3 [(75, .bool ((↑(rawN l 8 4) : Int) == (0 : Int))), (76, .bool ((↑(rawN l 8 4) : Int) == (0 : Int))), (77, .bool ((↑(rawN l 8 4) : Int) == (0 : Int)))] (by kernel_rfl) ?_
            rcases Bool.eq_false_or_eq_true ((↑(rawN l 8 4) : Int) == (0 : Int)) with hc26 | hc26
            · refine g_b [75, 76, 77] _ _ hc26 (by kernel_rfl) ?_
              have hc26 := eq_of_beq hc26
              refine g_pv 1 [(78, .pointer (some ⟨b7, 1, none⟩))] (by kernel_rfl) ?_
              refine g_op (by kernel_rfl) (op_load ⟨b7, 1, none⟩ (.bool ((↑(rawN l 0 1) : Int) == (1 : Int))) rfl (by kernel_rfl) (by kernel_rfl) (k9.cell (i := 1) rfl) ?_)
              refine g_pv 1 [(80, .bool ((↑(rawN l 0 1) : Int) == (1 : Int)))] (by kernel_rfl) ?_
              rcases Bool.eq_false_or_eq_true ((↑(rawN l 0 1) : Int) == (1 : Int)) with hc27 | hc27
              · refine g_b [27, 37, 45, 50, 79, 80] _ _ hc27 (by kernel_rfl) ?_
                have hc27 := eq_of_beq hc27
                refine g_pv 7 [(81, undef), (82, undef), (83, undef), (84, undef), (85, .bool true), (86, .bool true), (10, .bool true)] (by kernel_rfl) ?_
                refine wpList_nil ?_
                refine wp_seq ?_
                replace hB := Bl.next hB (below_drew W21)
                replace k1 := k1.below (below_drew W21)
                replace k2 := k2.below (below_drew W21)
                replace k9 := k9.below (below_drew W21)
                replace h5 := own_below h5 (below_drew W21)
                refine h_reg (BelowBut (W21.drew) b1) 8 rfl #[false, false, false, false, false, false, false, false] rfl (by kernel_rfl) ((Below.refl _ _).but _) ?_
                intro hS28
                have hBd30 := hB
                have kd30_b1 := k1
                have kd30_b2 := k2
                have kd30_b7 := k9
                have fd_h5 := h5
                refine h_loadv (b := b7) (off := 0) 0 7 rfl [.int .i64 (↑(rawN l 1 1) : Int), .bool ((↑(rawN l 0 1) : Int) == (1 : Int)), .slice none 0 0, .slice none 0 0] _ rfl (by kernel_rfl) (by kernel_rfl) (by kernel_rfl) (fun _ _ _ _ _ h => h) (by kernel_rfl) rfl (by kernel_rfl) Try.underlying36 rfl (by kernel_rfl) (fun V hV => (hV.blk kd30_b7 (Ne.symm d7_b1)).whole) hS28 ?_
                refine h_pv [1] 6 rfl #[true, true, false, false, false, false, false, false] [(88, .slice p5 6 c5)] (by kernel_rfl) (fun _ _ _ _ _ h => h) (by kernel_rfl) hS28 ?_
                refine h_val 2 5 rfl (.pointer (some (elemAddr p5 (2 * 1)))) rfl (by kernel_rfl) (by kernel_rfl) (by kernel_rfl) (fun _ _ _ _ _ h => h) (by kernel_rfl) (fun V hV => run_indexA (size := 1) (k := 2) (b := p5) (n := 6) (c := c5) (i := 2) (ki := .i64) rfl (by kernel_rfl) (by kernel_rfl) rfl (by omega) (nv_elem (l := head6 l) (own_sl h5) rfl (k := 2) (by decide)).1 Try.underlying27 (by kernel_rfl) V) hS28 ?_
                refine h_load 3 4 rfl (elemAddr p5 (2 * 1)) (.int .i64 (↑(rawN l 2 2) : Int)) rfl (by kernel_rfl) (by kernel_rfl) (by kernel_rfl) (fun _ _ _ _ _ h => h) (by kernel_rfl) rfl (by kernel_rfl) (by kernel_rfl) (fun V hV => (nv_elem (l := head6 l) (own_sl (hV.own2 fd_h5 kd30_b1 (by decide))) rfl (k := 2) (by decide)).2) hS28 ?_
                refine h_pv [4] 3 rfl #[true, true, true, true, true, false, false, false] [(91, .bool true)] (by kernel_rfl) (fun _ _ _ _ _ h => h) (by kernel_rfl) hS28 ?_
                refine h_one 5 2 rfl (by kernel_rfl) rfl (by kernel_rfl) (op_storev (b := b1) (off := 0) [.int .i64 (↑(rawN l 1 1) : Int), .bool ((↑(rawN l 0 1) : Int) == (1 : Int)), .slice none 0 0, .slice none 0 0] rfl (by kernel_rfl) (by kernel_rfl) (by kernel_rfl) (by first | decide | simp [Value.oneCell']) k1 (by first | decide | simp) ?_)
                intro W31 u31 k31
                change Blk _ _ [.int .i64 (↑(rawN l 1 1) : Int), .bool ((↑(rawN l 0 1) : Int) == (1 : Int)), .slice none 0 0, .slice none 0 0] _ at k31
                replace hB := u31.below hB g1
                replace k2 := u31.blk k2 (Ne.symm d2_b1)
                replace k9 := u31.blk k9 (Ne.symm d7_b1)
                replace h5 := u31.own2 h5 k1 (by decide)
                have hS32 : BelowBut (W21.drew) b1 (W31) := hS28.upd u31
                refine ⟨hS32, ?_⟩
                refine h_pv [6, 7] 0 rfl #[true, true, true, true, true, true, true, true] [(3, .int .i64 (↑(rawN l 2 2) : Int)), (4, .bool true)] (by kernel_rfl) (fun _ _ _ _ _ h => h) (by kernel_rfl) hS32 ?_
                refine h_done _ (by kernel_rfl) ?_
                refine wp_ret ?_
                exact g_ret (.tuple #[.agg #[.int .i64 (↑(rawN l 1 1) : Int), .bool ((↑(rawN l 0 1) : Int) == (1 : Int)), .slice none 0 0, .slice none 0 0], .int .i64 (↑(rawN l 2 2) : Int), .bool true]) (by kernel_rfl) (res_ctt (d := _) (cs := [.int .i64 (↑(rawN l 1 1) : Int), .bool ((↑(rawN l 0 1) : Int) == (1 : Int)), .slice none 0 0, .slice none 0 0]) rfl (by kernel_rfl) (by kernel_rfl) (by kernel_rfl) k31.whole Try.underlying36 rfl (by kernel_rfl)) (.inr ⟨decide_eq_true (by omega), rfl, hB⟩)
              · refine g_b [27, 37, 45, 50, 79, 80] _ _ hc27 (by kernel_rfl) ?_
                have hc27 := ne_of_beq_false hc27
                refine g_pv 1 [(81, .slice p5 6 c5)] (by kernel_rfl) ?_
                refine g_op (by kernel_rfl) (op_val (run_indexA (size := 1) (k := 2) (b := p5) (n := 6) (c := c5) (i := 2) (ki := .i64) rfl (by kernel_rfl) (by kernel_rfl) rfl (by omega) (nv_elem (l := head6 l) (own_sl h5) rfl (k := 2) (by decide)).1 Try.underlying27 (by kernel_rfl) W21) ?_)
                refine g_op (by kernel_rfl) (op_load (elemAddr p5 (2 * 1)) (.int .i64 (↑(rawN l 2 2) : Int)) rfl (by kernel_rfl) (by kernel_rfl) (nv_elem (l := head6 l) (own_sl h5) rfl (k := 2) (by decide)).2 ?_)
                refine g_pv 4 [(84, .bool (decide ((↑(rawN l 2 2) : Int) > (0 : Int)))), (85, .bool (decide ((↑(rawN l 2 2) : Int) > (0 : Int)))), (86, .bool (decide ((↑(rawN l 2 2) : Int) > (0 : Int)))), (10, .bool (decide ((↑(rawN l 2 2) : Int) > (0 : Int))))] (by kernel_rfl) ?_
                refine wpList_nil ?_
                refine wp_seq ?_
                replace hB := Bl.next hB (below_drew W21)
                replace k1 := k1.below (below_drew W21)
                replace k2 := k2.below (below_drew W21)
                replace k9 := k9.below (below_drew W21)
                replace h5 := own_below h5 (below_drew W21)
                refine h_reg (BelowBut (W21.drew) b1) 8 rfl #[false, false, false, false, false, false, false, false] rfl (by kernel_rfl) ((Below.refl _ _).but _) ?_
                intro hS33
                have hBd35 := hB
                have kd35_b1 := k1
                have kd35_b2 := k2
                have kd35_b7 := k9
                have fd_h5 := h5
                refine h_loadv (b := b7) (off := 0) 0 7 rfl [.int .i64 (↑(rawN l 1 1) : Int), .bool ((↑(rawN l 0 1) : Int) == (1 : Int)), .slice none 0 0, .slice none 0 0] _ rfl (by kernel_rfl) (by kernel_rfl) (by kernel_rfl) (fun _ _ _ _ _ h => h) (by kernel_rfl) rfl (by kernel_rfl) Try.underlying36 rfl (by kernel_rfl) (fun V hV => (hV.blk kd35_b7 (Ne.symm d7_b1)).whole) hS33 ?_
                refine h_pv [1] 6 rfl #[true, true, false, false, false, false, false, false] [(88, .slice p5 6 c5)] (by kernel_rfl) (fun _ _ _ _ _ h => h) (by kernel_rfl) hS33 ?_
                refine h_val 2 5 rfl (.pointer (some (elemAddr p5 (2 * 1)))) rfl (by kernel_rfl) (by kernel_rfl) (by kernel_rfl) (fun _ _ _ _ _ h => h) (by kernel_rfl) (fun V hV => run_indexA (size := 1) (k := 2) (b := p5) (n := 6) (c := c5) (i := 2) (ki := .i64) rfl (by kernel_rfl) (by kernel_rfl) rfl (by omega) (nv_elem (l := head6 l) (own_sl h5) rfl (k := 2) (by decide)).1 Try.underlying27 (by kernel_rfl) V) hS33 ?_
                refine h_load 3 4 rfl (elemAddr p5 (2 * 1)) (.int .i64 (↑(rawN l 2 2) : Int)) rfl (by kernel_rfl) (by kernel_rfl) (by kernel_rfl) (fun _ _ _ _ _ h => h) (by kernel_rfl) rfl (by kernel_rfl) (by kernel_rfl) (fun V hV => (nv_elem (l := head6 l) (own_sl (hV.own2 fd_h5 kd35_b1 (by decide))) rfl (k := 2) (by decide)).2) hS33 ?_
                refine h_pv [4] 3 rfl #[true, true, true, true, true, false, false, false] [(91, .bool (decide ((↑(rawN l 2 2) : Int) > (0 : Int))))] (by kernel_rfl) (fun _ _ _ _ _ h => h) (by kernel_rfl) hS33 ?_
                refine h_one 5 2 rfl (by kernel_rfl) rfl (by kernel_rfl) (op_storev (b := b1) (off := 0) [.int .i64 (↑(rawN l 1 1) : Int), .bool ((↑(rawN l 0 1) : Int) == (1 : Int)), .slice none 0 0, .slice none 0 0] rfl (by kernel_rfl) (by kernel_rfl) (by kernel_rfl) (by first | decide | simp [Value.oneCell']) k1 (by first | decide | simp) ?_)
                intro W36 u36 k36
                change Blk _ _ [.int .i64 (↑(rawN l 1 1) : Int), .bool ((↑(rawN l 0 1) : Int) == (1 : Int)), .slice none 0 0, .slice none 0 0] _ at k36
                replace hB := u36.below hB g1
                replace k2 := u36.blk k2 (Ne.symm d2_b1)
                replace k9 := u36.blk k9 (Ne.symm d7_b1)
                replace h5 := u36.own2 h5 k1 (by decide)
                have hS37 : BelowBut (W21.drew) b1 (W36) := hS33.upd u36
                refine ⟨hS37, ?_⟩
                refine h_pv [6, 7] 0 rfl #[true, true, true, true, true, true, true, true] [(3, .int .i64 (↑(rawN l 2 2) : Int)), (4, .bool (decide ((↑(rawN l 2 2) : Int) > (0 : Int))))] (by kernel_rfl) (fun _ _ _ _ _ h => h) (by kernel_rfl) hS37 ?_
                refine h_done _ (by kernel_rfl) ?_
                refine wp_ret ?_
                refine g_ret (.tuple #[.agg #[.int .i64 (↑(rawN l 1 1) : Int), .bool ((↑(rawN l 0 1) : Int) == (1 : Int)), .slice none 0 0, .slice none 0 0], .int .i64 (↑(rawN l 2 2) : Int), .bool (decide ((↑(rawN l 2 2) : Int) > (0 : Int)))]) (by kernel_rfl) (res_ctt (d := _) (cs := [.int .i64 (↑(rawN l 1 1) : Int), .bool ((↑(rawN l 0 1) : Int) == (1 : Int)), .slice none 0 0, .slice none 0 0]) rfl (by kernel_rfl) (by kernel_rfl) (by kernel_rfl) k36.whole Try.underlying36 rfl (by kernel_rfl)) ?_
                rcases Bool.eq_false_or_eq_true (decide ((↑(rawN l 2 2) : Int) > (0 : Int))) with hq | hq
                · have hq2 := of_decide_eq_true hq
                  rw [hq]; exact .inr ⟨decide_eq_true (by omega), rfl, hB⟩
                · have hq2 := of_decide_eq_false hq
                  rw [hq]; exact .inl ⟨decide_eq_false (by omega), _, _, _, rfl, hB⟩
            · refine g_b [75, 76, 77] _ _ hc26 (by kernel_rfl) ?_
              have hc26 := ne_of_beq_false hc26
              refine g_pv 10 [(78, undef), (79, undef), (80, undef), (81, undef), (82, undef), (83, undef), (84, undef), (85, undef), (86, .bool false), (10, .bool false)] (by kernel_rfl) ?_
              refine wpList_nil ?_
              refine wp_seq ?_
              replace hB := Bl.next hB (below_drew W21)
              replace k1 := k1.below (below_drew W21)
              replace k2 := k2.below (below_drew W21)
              replace k9 := k9.below (below_drew W21)
              replace h5 := own_below h5 (below_drew W21)
              refine h_reg (BelowBut (W21.drew) b1) 8 rfl #[false, false, false, false, false, false, false, false] rfl (by kernel_rfl) ((Below.refl _ _).but _) ?_
              intro hS38
              have hBd40 := hB
              have kd40_b1 := k1
              have kd40_b2 := k2
              have kd40_b7 := k9
              have fd_h5 := h5
              refine h_loadv (b := b7) (off := 0) 0 7 rfl [.int .i64 (↑(rawN l 1 1) : Int), .bool ((↑(rawN l 0 1) : Int) == (1 : Int)), .slice none 0 0, .slice none 0 0] _ rfl (by kernel_rfl) (by kernel_rfl) (by kernel_rfl) (fun _ _ _ _ _ h => h) (by kernel_rfl) rfl (by kernel_rfl) Try.underlying36 rfl (by kernel_rfl) (fun V hV => (hV.blk kd40_b7 (Ne.symm d7_b1)).whole) hS38 ?_
              refine h_pv [1] 6 rfl #[true, true, false, false, false, false, false, false] [(88, .slice p5 6 c5)] (by kernel_rfl) (fun _ _ _ _ _ h => h) (by kernel_rfl) hS38 ?_
              refine h_val 2 5 rfl (.pointer (some (elemAddr p5 (2 * 1)))) rfl (by kernel_rfl) (by kernel_rfl) (by kernel_rfl) (fun _ _ _ _ _ h => h) (by kernel_rfl) (fun V hV => run_indexA (size := 1) (k := 2) (b := p5) (n := 6) (c := c5) (i := 2) (ki := .i64) rfl (by kernel_rfl) (by kernel_rfl) rfl (by omega) (nv_elem (l := head6 l) (own_sl h5) rfl (k := 2) (by decide)).1 Try.underlying27 (by kernel_rfl) V) hS38 ?_
              refine h_load 3 4 rfl (elemAddr p5 (2 * 1)) (.int .i64 (↑(rawN l 2 2) : Int)) rfl (by kernel_rfl) (by kernel_rfl) (by kernel_rfl) (fun _ _ _ _ _ h => h) (by kernel_rfl) rfl (by kernel_rfl) (by kernel_rfl) (fun V hV => (nv_elem (l := head6 l) (own_sl (hV.own2 fd_h5 kd40_b1 (by decide))) rfl (k := 2) (by decide)).2) hS38 ?_
              refine h_pv [4] 3 rfl #[true, true, true, true, true, false, false, false] [(91, .bool false)] (by kernel_rfl) (fun _ _ _ _ _ h => h) (by kernel_rfl) hS38 ?_
              refine h_one 5 2 rfl (by kernel_rfl) rfl (by kernel_rfl) (op_storev (b := b1) (off := 0) [.int .i64 (↑(rawN l 1 1) : Int), .bool ((↑(rawN l 0 1) : Int) == (1 : Int)), .slice none 0 0, .slice none 0 0] rfl (by kernel_rfl) (by kernel_rfl) (by kernel_rfl) (by first | decide | simp [Value.oneCell']) k1 (by first | decide | simp) ?_)
              intro W41 u41 k41
              change Blk _ _ [.int .i64 (↑(rawN l 1 1) : Int), .bool ((↑(rawN l 0 1) : Int) == (1 : Int)), .slice none 0 0, .slice none 0 0] _ at k41
              replace hB := u41.below hB g1
              replace k2 := u41.blk k2 (Ne.symm d2_b1)
              replace k9 := u41.blk k9 (Ne.symm d7_b1)
              replace h5 := u41.own2 h5 k1 (by decide)
              have hS42 : BelowBut (W21.drew) b1 (W41) := hS38.upd u41
              refine ⟨hS42, ?_⟩
              refine h_pv [6, 7] 0 rfl #[true, true, true, true, true, true, true, true] [(3, .int .i64 (↑(rawN l 2 2) : Int)), (4, .bool false)] (by kernel_rfl) (fun _ _ _ _ _ h => h) (by kernel_rfl) hS42 ?_
              refine h_done _ (by kernel_rfl) ?_
              refine wp_ret ?_
              exact g_ret (.tuple #[.agg #[.int .i64 (↑(rawN l 1 1) : Int), .bool ((↑(rawN l 0 1) : Int) == (1 : Int)), .slice none 0 0, .slice none 0 0], .int .i64 (↑(rawN l 2 2) : Int), .bool false]) (by kernel_rfl) (res_ctt (d := _) (cs := [.int .i64 (↑(rawN l 1 1) : Int), .bool ((↑(rawN l 0 1) : Int) == (1 : Int)), .slice none 0 0, .slice none 0 0]) rfl (by kernel_rfl) (by kernel_rfl) (by kernel_rfl) k41.whole Try.underlying36 rfl (by kernel_rfl)) (.inl ⟨decide_eq_false (by omega), _, _, _, rfl, hB⟩)
          · refine g_b [69, 70, 71] _ _ hc25 (by kernel_rfl) ?_
            have hc25 := ne_of_beq_false hc25
            refine g_pv 16 [(72, undef), (73, undef), (74, undef), (75, undef), (76, .bool false), (77, .bool false), (78, undef), (79, undef), (80, undef), (81, undef), (82, undef), (83, undef), (84, undef), (85, undef), (86, .bool false), (10, .bool false)] (by kernel_rfl) ?_
            refine wpList_nil ?_
            refine wp_seq ?_
            replace hB := Bl.next hB (below_drew W21)
            replace k1 := k1.below (below_drew W21)
            replace k2 := k2.below (below_drew W21)
            replace k9 := k9.below (below_drew W21)
            replace h5 := own_below h5 (below_drew W21)
            refine h_reg (BelowBut (W21.drew) b1) 8 rfl #[false, false, false, false, false, false, false, false] rfl (by kernel_rfl) ((Below.refl _ _).but _) ?_
            intro hS43
            have hBd45 := hB
            have kd45_b1 := k1
            have kd45_b2 := k2
            have kd45_b7 := k9
            have fd_h5 := h5
            refine h_loadv (b := b7) (off := 0) 0 7 rfl [.int .i64 (↑(rawN l 1 1) : Int), .bool ((↑(rawN l 0 1) : Int) == (1 : Int)), .slice none 0 0, .slice none 0 0] _ rfl (by kernel_rfl) (by kernel_rfl) (by kernel_rfl) (fun _ _ _ _ _ h => h) (by kernel_rfl) rfl (by kernel_rfl) Try.underlying36 rfl (by kernel_rfl) (fun V hV => (hV.blk kd45_b7 (Ne.symm d7_b1)).whole) hS43 ?_
            refine h_pv [1] 6 rfl #[true, true, false, false, false, false, false, false] [(88, .slice p5 6 c5)] (by kernel_rfl) (fun _ _ _ _ _ h => h) (by kernel_rfl) hS43 ?_
            refine h_val 2 5 rfl (.pointer (some (elemAddr p5 (2 * 1)))) rfl (by kernel_rfl) (by kernel_rfl) (by kernel_rfl) (fun _ _ _ _ _ h => h) (by kernel_rfl) (fun V hV => run_indexA (size := 1) (k := 2) (b := p5) (n := 6) (c := c5) (i := 2) (ki := .i64) rfl (by kernel_rfl) (by kernel_rfl) rfl (by omega) (nv_elem (l := head6 l) (own_sl h5) rfl (k := 2) (by decide)).1 Try.underlying27 (by kernel_rfl) V) hS43 ?_
            refine h_load 3 4 rfl (elemAddr p5 (2 * 1)) (.int .i64 (↑(rawN l 2 2) : Int)) rfl (by kernel_rfl) (by kernel_rfl) (by kernel_rfl) (fun _ _ _ _ _ h => h) (by kernel_rfl) rfl (by kernel_rfl) (by kernel_rfl) (fun V hV => (nv_elem (l := head6 l) (own_sl (hV.own2 fd_h5 kd45_b1 (by decide))) rfl (k := 2) (by decide)).2) hS43 ?_
            refine h_pv [4] 3 rfl #[true, true, true, true, true, false, false, false] [(91, .bool false)] (by kernel_rfl) (fun _ _ _ _ _ h => h) (by kernel_rfl) hS43 ?_
            refine h_one 5 2 rfl (by kernel_rfl) rfl (by kernel_rfl) (op_storev (b := b1) (off := 0) [.int .i64 (↑(rawN l 1 1) : Int), .bool ((↑(rawN l 0 1) : Int) == (1 : Int)), .slice none 0 0, .slice none 0 0] rfl (by kernel_rfl) (by kernel_rfl) (by kernel_rfl) (by first | decide | simp [Value.oneCell']) k1 (by first | decide | simp) ?_)
            intro W46 u46 k46
            change Blk _ _ [.int .i64 (↑(rawN l 1 1) : Int), .bool ((↑(rawN l 0 1) : Int) == (1 : Int)), .slice none 0 0, .slice none 0 0] _ at k46
            replace hB := u46.below hB g1
            replace k2 := u46.blk k2 (Ne.symm d2_b1)
            replace k9 := u46.blk k9 (Ne.symm d7_b1)
            replace h5 := u46.own2 h5 k1 (by decide)
            have hS47 : BelowBut (W21.drew) b1 (W46) := hS43.upd u46
            refine ⟨hS47, ?_⟩
            refine h_pv [6, 7] 0 rfl #[true, true, true, true, true, true, true, true] [(3, .int .i64 (↑(rawN l 2 2) : Int)), (4, .bool false)] (by kernel_rfl) (fun _ _ _ _ _ h => h) (by kernel_rfl) hS47 ?_
            refine h_done _ (by kernel_rfl) ?_
            refine wp_ret ?_
            exact g_ret (.tuple #[.agg #[.int .i64 (↑(rawN l 1 1) : Int), .bool ((↑(rawN l 0 1) : Int) == (1 : Int)), .slice none 0 0, .slice none 0 0], .int .i64 (↑(rawN l 2 2) : Int), .bool false]) (by kernel_rfl) (res_ctt (d := _) (cs := [.int .i64 (↑(rawN l 1 1) : Int), .bool ((↑(rawN l 0 1) : Int) == (1 : Int)), .slice none 0 0, .slice none 0 0]) rfl (by kernel_rfl) (by kernel_rfl) (by kernel_rfl) k46.whole Try.underlying36 rfl (by kernel_rfl)) (.inl ⟨decide_eq_false (by omega), _, _, _, rfl, hB⟩)
        · refine g_b [62, 63, 64] _ _ hc24 (by kernel_rfl) ?_
          have hc24 := ne_of_beq_false hc24
          refine g_pv 23 [(65, undef), (66, undef), (67, undef), (68, undef), (69, undef), (70, .bool false), (71, .bool false), (72, undef), (73, undef), (74, undef), (75, undef), (76, .bool false), (77, .bool false), (78, undef), (79, undef), (80, undef), (81, undef), (82, undef), (83, undef), (84, undef), (85, undef), (86, .bool false), (10, .bool false)] (by kernel_rfl) ?_
          refine wpList_nil ?_
          refine wp_seq ?_
          replace hB := Bl.next hB (below_drew W21)
          replace k1 := k1.below (below_drew W21)
          replace k2 := k2.below (below_drew W21)
          replace k9 := k9.below (below_drew W21)
          replace h5 := own_below h5 (below_drew W21)
          refine h_reg (BelowBut (W21.drew) b1) 8 rfl #[false, false, false, false, false, false, false, false] rfl (by kernel_rfl) ((Below.refl _ _).but _) ?_
          intro hS48
          have hBd50 := hB
          have kd50_b1 := k1
          have kd50_b2 := k2
          have kd50_b7 := k9
          have fd_h5 := h5
          refine h_loadv (b := b7) (off := 0) 0 7 rfl [.int .i64 (↑(rawN l 1 1) : Int), .bool ((↑(rawN l 0 1) : Int) == (1 : Int)), .slice none 0 0, .slice none 0 0] _ rfl (by kernel_rfl) (by kernel_rfl) (by kernel_rfl) (fun _ _ _ _ _ h => h) (by kernel_rfl) rfl (by kernel_rfl) Try.underlying36 rfl (by kernel_rfl) (fun V hV => (hV.blk kd50_b7 (Ne.symm d7_b1)).whole) hS48 ?_
          refine h_pv [1] 6 rfl #[true, true, false, false, false, false, false, false] [(88, .slice p5 6 c5)] (by kernel_rfl) (fun _ _ _ _ _ h => h) (by kernel_rfl) hS48 ?_
          refine h_val 2 5 rfl (.pointer (some (elemAddr p5 (2 * 1)))) rfl (by kernel_rfl) (by kernel_rfl) (by kernel_rfl) (fun _ _ _ _ _ h => h) (by kernel_rfl) (fun V hV => run_indexA (size := 1) (k := 2) (b := p5) (n := 6) (c := c5) (i := 2) (ki := .i64) rfl (by kernel_rfl) (by kernel_rfl) rfl (by omega) (nv_elem (l := head6 l) (own_sl h5) rfl (k := 2) (by decide)).1 Try.underlying27 (by kernel_rfl) V) hS48 ?_
          refine h_load 3 4 rfl (elemAddr p5 (2 * 1)) (.int .i64 (↑(rawN l 2 2) : Int)) rfl (by kernel_rfl) (by kernel_rfl) (by kernel_rfl) (fun _ _ _ _ _ h => h) (by kernel_rfl) rfl (by kernel_rfl) (by kernel_rfl) (fun V hV => (nv_elem (l := head6 l) (own_sl (hV.own2 fd_h5 kd50_b1 (by decide))) rfl (k := 2) (by decide)).2) hS48 ?_
          refine h_pv [4] 3 rfl #[true, true, true, true, true, false, false, false] [(91, .bool false)] (by kernel_rfl) (fun _ _ _ _ _ h => h) (by kernel_rfl) hS48 ?_
          refine h_one 5 2 rfl (by kernel_rfl) rfl (by kernel_rfl) (op_storev (b := b1) (off := 0) [.int .i64 (↑(rawN l 1 1) : Int), .bool ((↑(rawN l 0 1) : Int) == (1 : Int)), .slice none 0 0, .slice none 0 0] rfl (by kernel_rfl) (by kernel_rfl) (by kernel_rfl) (by first | decide | simp [Value.oneCell']) k1 (by first | decide | simp) ?_)
          intro W51 u51 k51
          change Blk _ _ [.int .i64 (↑(rawN l 1 1) : Int), .bool ((↑(rawN l 0 1) : Int) == (1 : Int)), .slice none 0 0, .slice none 0 0] _ at k51
          replace hB := u51.below hB g1
          replace k2 := u51.blk k2 (Ne.symm d2_b1)
          replace k9 := u51.blk k9 (Ne.symm d7_b1)
          replace h5 := u51.own2 h5 k1 (by decide)
          have hS52 : BelowBut (W21.drew) b1 (W51) := hS48.upd u51
          refine ⟨hS52, ?_⟩
          refine h_pv [6, 7] 0 rfl #[true, true, true, true, true, true, true, true] [(3, .int .i64 (↑(rawN l 2 2) : Int)), (4, .bool false)] (by kernel_rfl) (fun _ _ _ _ _ h => h) (by kernel_rfl) hS52 ?_
          refine h_done _ (by kernel_rfl) ?_
          refine wp_ret ?_
          exact g_ret (.tuple #[.agg #[.int .i64 (↑(rawN l 1 1) : Int), .bool ((↑(rawN l 0 1) : Int) == (1 : Int)), .slice none 0 0, .slice none 0 0], .int .i64 (↑(rawN l 2 2) : Int), .bool false]) (by kernel_rfl) (res_ctt (d := _) (cs := [.int .i64 (↑(rawN l 1 1) : Int), .bool ((↑(rawN l 0 1) : Int) == (1 : Int)), .slice none 0 0, .slice none 0 0]) rfl (by kernel_rfl) (by kernel_rfl) (by kernel_rfl) k51.whole Try.underlying36 rfl (by kernel_rfl)) (.inl ⟨decide_eq_false (by omega), _, _, _, rfl, hB⟩)
      · refine g_b [56, 57] _ _ hc23 (by kernel_rfl) ?_
        have hc23 := of_decide_eq_false hc23
        refine g_pure 30 ⟨#[.slice a 244 c, undef, .pointer (some ⟨b1, 0, none⟩), .int .i64 0, .bool false, .slice p5 6 c5, .int .i64 0, .pointer (some ⟨b7, 0, none⟩), .int .i64 (↑(nodW l) : Int), .int .i64 (↑(nodM l) : Int), .bool false, .slice a 244 c, .int .i64 244, .bool false, undef, .tuple #[.slice p5 6 c5, .int .i64 0], .slice a 244 c, .slice (some ⟨b2, 0, none⟩) 6 6, .tuple #[.slice p5 6 c5, .int .i64 0], .slice p5 6 c5, .int .i64 0, .slice p5 6 c5, .pointer (some (elemAddr p5 (1 * 1))), .int .i64 (↑(rawN l 1 1) : Int), .slice p5 6 c5, .pointer (some (elemAddr p5 (0 * 1))), .int .i64 (↑(rawN l 0 1) : Int), .bool ((↑(rawN l 0 1) : Int) == (1 : Int)), .agg #[.int .i64 (↑(rawN l 1 1) : Int), .bool ((↑(rawN l 0 1) : Int) == (1 : Int)), .slice none 0 0, .slice none 0 0], .slice p5 6 c5, .pointer (some (elemAddr p5 (0 * 1))), .int .i64 (↑(rawN l 0 1) : Int), .bool false, .bool false, .pointer (some ⟨b7, 0, none⟩), .int .i64 (↑(rawN l 1 1) : Int), .pointer (some ⟨b7, 1, none⟩), .bool ((↑(rawN l 0 1) : Int) == (1 : Int)), .int .i64 (↑(nodW l) : Int), .bool ((↑(nodW l) : Int) == (0 : Int)), .bool ((↑(nodW l) : Int) == (0 : Int)), undef, .pointer (some ⟨b7, 0, none⟩), .int .i64 (↑(rawN l 1 1) : Int), .pointer (some ⟨b7, 1, none⟩), .bool ((↑(rawN l 0 1) : Int) == (1 : Int)), .int .i64 (↑(nodW l) : Int), .pointer (some ⟨b7, 0, none⟩), .int .i64 (↑(rawN l 1 1) : Int), .pointer (some ⟨b7, 1, none⟩), .bool ((↑(rawN l 0 1) : Int) == (1 : Int)), .int .i64 (↑(nodM l) : Int), .slice p5 6 c5, .pointer (some (elemAddr p5 (2 * 1))), .int .i64 (↑(rawN l 2 2) : Int), .int .i64 (↑(nodM l) : Int), .bool false, .bool false, undef, undef, undef, undef, undef, .bool false, .bool false, undef, undef, undef, undef, undef, .bool false, .bool false, undef, undef, undef, undef, .bool false, .bool false, undef, undef, undef, undef, undef, undef, undef, undef, .bool false, undef, undef, undef, undef, undef], []⟩ (by kernel_rfl) ?_
        refine wpList_nil ?_
        refine wp_seq ?_
        replace hB := Bl.next hB (below_drew W21)
        replace k1 := k1.below (below_drew W21)
        replace k2 := k2.below (below_drew W21)
        replace k9 := k9.below (below_drew W21)
        replace h5 := own_below h5 (below_drew W21)
        refine h_reg (BelowBut (W21.drew) b1) 8 rfl #[false, false, false, false, false, false, false, false] rfl (by kernel_rfl) ((Below.refl _ _).but _) ?_
        intro hS53
        have hBd55 := hB
        have kd55_b1 := k1
        have kd55_b2 := k2
        have kd55_b7 := k9
        have fd_h5 := h5
        refine h_loadv (b := b7) (off := 0) 0 7 rfl [.int .i64 (↑(rawN l 1 1) : Int), .bool ((↑(rawN l 0 1) : Int) == (1 : Int)), .slice none 0 0, .slice none 0 0] _ rfl (by kernel_rfl) (by kernel_rfl) (by kernel_rfl) (fun _ _ _ _ _ h => h) (by kernel_rfl) rfl (by kernel_rfl) Try.underlying36 rfl (by kernel_rfl) (fun V hV => (hV.blk kd55_b7 (Ne.symm d7_b1)).whole) hS53 ?_
        refine h_pv [1] 6 rfl #[true, true, false, false, false, false, false, false] [(88, .slice p5 6 c5)] (by kernel_rfl) (fun _ _ _ _ _ h => h) (by kernel_rfl) hS53 ?_
        refine h_val 2 5 rfl (.pointer (some (elemAddr p5 (2 * 1)))) rfl (by kernel_rfl) (by kernel_rfl) (by kernel_rfl) (fun _ _ _ _ _ h => h) (by kernel_rfl) (fun V hV => run_indexA (size := 1) (k := 2) (b := p5) (n := 6) (c := c5) (i := 2) (ki := .i64) rfl (by kernel_rfl) (by kernel_rfl) rfl (by omega) (nv_elem (l := head6 l) (own_sl h5) rfl (k := 2) (by decide)).1 Try.underlying27 (by kernel_rfl) V) hS53 ?_
        refine h_load 3 4 rfl (elemAddr p5 (2 * 1)) (.int .i64 (↑(rawN l 2 2) : Int)) rfl (by kernel_rfl) (by kernel_rfl) (by kernel_rfl) (fun _ _ _ _ _ h => h) (by kernel_rfl) rfl (by kernel_rfl) (by kernel_rfl) (fun V hV => (nv_elem (l := head6 l) (own_sl (hV.own2 fd_h5 kd55_b1 (by decide))) rfl (k := 2) (by decide)).2) hS53 ?_
        refine h_pv [4] 3 rfl #[true, true, true, true, true, false, false, false] [(91, .bool false)] (by kernel_rfl) (fun _ _ _ _ _ h => h) (by kernel_rfl) hS53 ?_
        refine h_one 5 2 rfl (by kernel_rfl) rfl (by kernel_rfl) (op_storev (b := b1) (off := 0) [.int .i64 (↑(rawN l 1 1) : Int), .bool ((↑(rawN l 0 1) : Int) == (1 : Int)), .slice none 0 0, .slice none 0 0] rfl (by kernel_rfl) (by kernel_rfl) (by kernel_rfl) (by first | decide | simp [Value.oneCell']) k1 (by first | decide | simp) ?_)
        intro W56 u56 k56
        change Blk _ _ [.int .i64 (↑(rawN l 1 1) : Int), .bool ((↑(rawN l 0 1) : Int) == (1 : Int)), .slice none 0 0, .slice none 0 0] _ at k56
        replace hB := u56.below hB g1
        replace k2 := u56.blk k2 (Ne.symm d2_b1)
        replace k9 := u56.blk k9 (Ne.symm d7_b1)
        replace h5 := u56.own2 h5 k1 (by decide)
        have hS57 : BelowBut (W21.drew) b1 (W56) := hS53.upd u56
        refine ⟨hS57, ?_⟩
        refine h_pv [6, 7] 0 rfl #[true, true, true, true, true, true, true, true] [(3, .int .i64 (↑(rawN l 2 2) : Int)), (4, .bool false)] (by kernel_rfl) (fun _ _ _ _ _ h => h) (by kernel_rfl) hS57 ?_
        refine h_done _ (by kernel_rfl) ?_
        refine wp_ret ?_
        exact g_ret (.tuple #[.agg #[.int .i64 (↑(rawN l 1 1) : Int), .bool ((↑(rawN l 0 1) : Int) == (1 : Int)), .slice none 0 0, .slice none 0 0], .int .i64 (↑(rawN l 2 2) : Int), .bool false]) (by kernel_rfl) (res_ctt (d := _) (cs := [.int .i64 (↑(rawN l 1 1) : Int), .bool ((↑(rawN l 0 1) : Int) == (1 : Int)), .slice none 0 0, .slice none 0 0]) rfl (by kernel_rfl) (by kernel_rfl) (by kernel_rfl) k56.whole Try.underlying36 rfl (by kernel_rfl)) (.inl ⟨decide_eq_false (by omega), _, _, _, rfl, hB⟩)
set_option maxRecDepth 100000 in
set_option maxHeartbeats 1000000 in
theorem node_keyG (a : Option Addr) (i c : Nat) (L : List Int) (k : Int) (w : World) (hL : L.length = i) (h : Sl w (.slice a i c) i (L.map (Value.int .i64))) (hi : i ≤ 1000) :
    Calls Try.prog 39 #[.slice a i c, .int .i64 k] w (Ret (.int .i64 (keyR L i k)) w) := by
  refine calls_of_wp Try.func39 rfl ?_
  refine g_fr ⟨#[.slice a i c, .int .i64 k, undef, undef, undef, undef, undef, undef, undef, undef, undef, undef, undef, undef, undef, undef, undef, undef, undef, undef, undef, undef, undef, undef, undef, undef], []⟩ (by kernel_rfl) ?_
  refine wp_seq ?_
  refine wp_region_lit ?_
  refine g_pv 1 [(4, .int .i64 0)] (by kernel_rfl) ?_
  refine wpList_nil ?_
  refine wp_seq ?_
  refine wp_block ?_
  refine wp_seq ?_
  refine wp_region_lit ?_
  refine g_pv 3 [(6, .int .i64 k), (7, .bool (decide (k < (0 : Int)))), (8, .bool (decide (k < (0 : Int))))] (by kernel_rfl) ?_
  rcases Bool.eq_false_or_eq_true (decide (k < (0 : Int))) with hc1 | hc1
  · refine g_b [7, 8] _ _ hc1 (by kernel_rfl) ?_
    have hc1 := of_decide_eq_true hc1
    refine g_pv 4 [(9, undef), (10, undef), (11, .bool true), (5, .bool true)] (by kernel_rfl) ?_
    refine wpList_nil ?_
    refine wp_cond_true (by kernel_rfl) ?_
    refine wp_seq ?_
    refine wp_region_lit ?_
    refine g_pv 1 [(4, .int .i64 2)] (by kernel_rfl) ?_
    refine wpList_nil ?_
    refine wp_ret (inBlock_ret (then_ret ?_))
    exact g_ret (.int .i64 2) (by kernel_rfl) (by kernel_rfl) ⟨by rw [show keyR L i k = 2 from by unfold keyR; rw [if_pos (by omega)]], (Below.refl w.heap.size _)⟩
  · refine g_b [7, 8] _ _ hc1 (by kernel_rfl) ?_
    have hc1 := of_decide_eq_false hc1
    refine g_pv 4 [(9, .int .i64 k), (10, .bool (decide (k > (281474976710655 : Int)))), (11, .bool (decide (k > (281474976710655 : Int)))), (5, .bool (decide (k > (281474976710655 : Int))))] (by kernel_rfl) ?_
    refine wpList_nil ?_
    refine wp_cond_split (t := decide (k > (281474976710655 : Int))) (by kernel_rfl) (fun hc2 => ?_) (fun hc2 => ?_)
    · have hc2 := of_decide_eq_true hc2
      refine wp_seq ?_
      refine wp_region_lit ?_
      refine g_pv 1 [(4, .int .i64 2)] (by kernel_rfl) ?_
      refine wpList_nil ?_
      refine wp_ret (inBlock_ret (then_ret ?_))
      exact g_ret (.int .i64 2) (by kernel_rfl) (by kernel_rfl) ⟨by rw [show keyR L i k = 2 from by unfold keyR; rw [if_pos (by omega)]], (Below.refl w.heap.size _)⟩
    · have hc2 := of_decide_eq_false hc2
      refine wp_seq ?_
      refine wp_region_lit ?_
      refine g_pv 4 [(13, .slice a i c), (14, .int .i64 (↑i : Int)), (15, .bool (decide ((↑i : Int) > (0 : Int)))), (16, .bool (decide ((↑i : Int) > (0 : Int))))] (by kernel_rfl) ?_
      rcases Bool.eq_false_or_eq_true (decide ((↑i : Int) > (0 : Int))) with hc3 | hc3
      · refine g_b [15, 16] _ _ hc3 (by kernel_rfl) ?_
        have hc3 := of_decide_eq_true hc3
        refine g_pv 3 [(17, .slice a i c), (18, .slice a i c), (19, .int .i64 (↑i : Int))] (by kernel_rfl) ?_
        refine g_op (by kernel_rfl) (op_wrap .i64 ((↑i : Int) - 1) (↑(i - 1) : Int) (by kernel_rfl) ((show IntKind.i64.wrap ((↑i : Int) - 1) = ((↑i : Int) - 1) from by first | exact IntWalk.i64_in _ (by omega) | (simp only [IntKind.wrap]; omega)).trans (by omega)) ?_)
        refine g_op (by kernel_rfl) (op_val (run_indexA (size := 1) (k := (i - 1)) (b := a) (n := i) (c := c) (i := (↑(i - 1) : Int)) (ki := .i64) rfl (by kernel_rfl) (by kernel_rfl) rfl (by omega) (IntsN.elem h hL (k := (i - 1)) (by omega)).1 Try.underlying27 (by kernel_rfl) w) ?_)
        refine g_op (by kernel_rfl) (op_load (elemAddr a ((i - 1) * 1)) (.int .i64 (L.getD (i - 1) 0)) rfl (by kernel_rfl) (by kernel_rfl) (IntsN.elem (h) hL (k := (i - 1)) (by omega)).2 ?_)
        refine g_pv 4 [(23, .int .i64 k), (24, .bool (decide ((L.getD (i - 1) 0) ≥ k))), (25, .bool (decide ((L.getD (i - 1) 0) ≥ k))), (12, .bool (decide ((L.getD (i - 1) 0) ≥ k)))] (by kernel_rfl) ?_
        refine wpList_nil ?_
        refine wp_cond_split (t := decide ((L.getD (i - 1) 0) ≥ k)) (by kernel_rfl) (fun hc4 => ?_) (fun hc4 => ?_)
        · have hc4 := of_decide_eq_true hc4
          refine wp_seq ?_
          refine wp_region_lit ?_
          refine g_pv 1 [(4, .int .i64 8)] (by kernel_rfl) ?_
          refine wpList_nil ?_
          refine wp_ret (inBlock_ret (then_ret ?_))
          exact g_ret (.int .i64 8) (by kernel_rfl) (by kernel_rfl) ⟨by rw [show keyR L i k = 8 from by unfold keyR; rw [if_neg (by omega), if_pos (by omega)]], (Below.refl w.heap.size _)⟩
        · have hc4 := of_decide_eq_false hc4
          refine wp_skip ?_
          refine wp_seq ?_
          refine wp_region_lit ?_
          refine g_pv 1 [(4, .int .i64 0)] (by kernel_rfl) ?_
          refine wpList_nil ?_
          refine wp_ret ?_
          exact g_ret (.int .i64 0) (by kernel_rfl) (by kernel_rfl) ⟨by rw [show keyR L i k = 0 from by unfold keyR; rw [if_neg (by omega), if_neg (by omega)]], (Below.refl w.heap.size _)⟩
      · refine g_b [15, 16] _ _ hc3 (by kernel_rfl) ?_
        have hc3 := of_decide_eq_false hc3
        refine g_pv 10 [(17, undef), (18, undef), (19, undef), (20, undef), (21, undef), (22, undef), (23, undef), (24, undef), (25, .bool false), (12, .bool false)] (by kernel_rfl) ?_
        refine wpList_nil ?_
        refine wp_cond_false (by kernel_rfl) ?_
        refine wp_skip ?_
        refine wp_seq ?_
        refine wp_region_lit ?_
        refine g_pv 1 [(4, .int .i64 0)] (by kernel_rfl) ?_
        refine wpList_nil ?_
        refine wp_ret ?_
        exact g_ret (.int .i64 0) (by kernel_rfl) (by kernel_rfl) ⟨by rw [show keyR L i k = 0 from by unfold keyR; rw [if_neg (by omega), if_neg (by omega)]], (Below.refl w.heap.size _)⟩
def keyN (l : List UInt8) (i : Nat) : Nat := rawN l (12 + i * 8) 8
def keysI (l : List UInt8) (n : Nat) : List Int := (List.range n).map fun i => (keyN l i : Int)
theorem keysI_len (l : List UInt8) (n : Nat) : (keysI l n).length = n := by simp [keysI]
theorem keysI_snoc (l : List UInt8) (n : Nat) : keysI l (n + 1) = keysI l n ++ [(keyN l n : Int)] := by simp [keysI, List.range_succ]
theorem keysI_get (l : List UInt8) {n i : Nat} (h : i < n) : (keysI l n).getD i 0 = (keyN l i : Int) := by simp [keysI, List.getD, List.getElem?_range h]
def valN (l : List UInt8) (i : Nat) : List UInt8 := (l.drop (12 + nodM l * 8 + i * nodW l)).take (nodW l)
def valsL (l : List UInt8) (n : Nat) : List (List UInt8) := (List.range n).map (valN l)
theorem valsL_len (l : List UInt8) (n : Nat) : (valsL l n).length = n := by simp [valsL]
theorem valsL_snoc (l : List UInt8) (n : Nat) : valsL l (n + 1) = valsL l n ++ [valN l n] := by simp [valsL, List.range_succ]
theorem valsL_get (l : List UInt8) {n i : Nat} (h : i < n) : (valsL l n).getD i [] = valN l i := by simp [valsL, List.getD, List.getElem?_range h]
def keyE (l : List UInt8) (i : Nat) : Int := if 281474976710655 < keyN l i then 2 else if 0 < i ∧ keyN l i ≤ keyN l (i - 1) then 8 else 0
def keysErr (l : List UInt8) : Nat → Int
  | 0 => 0
  | i + 1 => if keysErr l i ≠ 0 then keysErr l i else keyE l i
theorem keysErr_stop {l : List UInt8} {i : Nat} (h : keysErr l i ≠ 0) : ∀ n, i ≤ n → keysErr l n = keysErr l i
  | 0, h2 => by obtain rfl : i = 0 := by omega
                rfl
  | n + 1, h2 => by
    by_cases e : i = n + 1
    · rw [e]
    · have ih := keysErr_stop h n (by omega)
      rw [keysErr, if_pos (by rw [ih]; exact h), ih]
theorem keysErr_at {l : List UInt8} {i n : Nat} (h : keysErr l i = 0) (he : keyE l i ≠ 0) (hi : i < n) : keysErr l n = keyE l i := by
  have e : keysErr l (i + 1) = keyE l i := by rw [keysErr, if_neg (by rw [h]; decide)]
  rw [keysErr_stop (by rw [e]; exact he) n hi, e]
theorem keysErr_next {l : List UInt8} {i : Nat} (h : keysErr l i = 0) (he : keyE l i = 0) : keysErr l (i + 1) = 0 := by rw [keysErr, if_neg (by rw [h]; decide), he]
theorem keyE_R {l : List UInt8} {i : Nat} : keyR (keysI l i) i (keyN l i : Int) = keyE l i := by
  unfold keyR keyE
  by_cases h : 281474976710655 < keyN l i
  · rw [if_pos (by omega), if_pos h]
  · rw [if_neg (by omega), if_neg h]
    by_cases h2 : 0 < i
    · rw [keysI_get l (show i - 1 < i by omega)]
      by_cases h3 : keyN l i ≤ keyN l (i - 1)
      · rw [if_pos (by omega), if_pos (by omega)]
      · rw [if_neg (by omega), if_neg (by omega)]
    · rw [if_neg (by omega), if_neg (by omega)]
def node0 (l : List UInt8) : Nat := 12 + nodC l * 8
def node1 (l : List UInt8) : Nat := 12 + nodM l * 8
def node2 (l : List UInt8) : Nat := node1 l + nodC l * nodW l
def nodeZ (l : List UInt8) : Bool := zeroB ((l.drop (node0 l)).take (node1 l - node0 l)) && zeroB ((l.drop (node2 l)).take (244 - node2 l))
def nodeE (l : List UInt8) : Int := if shapeB l then (if nodeZ l then keysErr l (nodC l) else 7) else 7
def NodeP (l : List UInt8) (w : World) (e : Ending) (w' : World) : Prop :=
  (nodeE l ≠ 0 ∧ e = .returned (.tuple #[.agg #[.int .i64 0, .bool false, .slice none 0 0, .slice none 0 0], .int .i64 (nodeE l)]) ∧ Below w.heap.size w w') ∨
  (nodeE l = 0 ∧ ∃ kp kc vp vc, e = .returned (.tuple #[.agg #[.int .i64 (nodT l), .bool (nodL l), .slice kp (nodC l) kc, .slice vp (nodC l) vc], .int .i64 0]) ∧ Below w.heap.size w w' ∧
    w'.ownsRow w.heap.size 3 1 (.slice kp (nodC l) kc) (nodC l) ((keysI l (nodC l)).map (Value.int .i64)) ∧ w'.ownsRow w.heap.size 9 1 (.slice vp (nodC l) vc) (nodC l) ((valsL l (nodC l)).map sv))
theorem node_shapeP {l : List UInt8} (h : shapeB l = true) : nodC l ≤ nodM l := (of_decide_eq_true h).2.2.1
theorem code_ZeroN (a : Option Addr) (n c : Nat) (l : List UInt8) (w : World) (hn : l.length = n) (hl : n ≤ 100000000) (h : Bys w (.slice a n c) l) : Calls Try.prog 37 #[.slice a n c] w (Ret (.bool (zeroB l)) w) := by
  subst hn; exact code_Zero a c l w hl h
theorem valN_bys {a : Option Addr} {c i : Nat} {l : List UInt8} {w : World} (h : Bys w (.slice a 244 c) l) (hl : l.length = 244) (hb : 12 + nodM l * 8 + (i + 1) * nodW l ≤ 244) (hi : (i + 1) * nodW l = i * nodW l + nodW l) :
    Bys w (.slice (cutA a (12 + nodM l * 8 + i * nodW l) c 1) (12 + nodM l * 8 + (i + 1) * nodW l - (12 + nodM l * 8 + i * nodW l)) (c - (12 + nodM l * 8 + i * nodW l))) (valN l i) := by
  have := Bys.cut h hl (12 + nodM l * 8 + i * nodW l) (12 + nodM l * 8 + (i + 1) * nodW l) (by omega) hb
  rw [show 12 + nodM l * 8 + (i + 1) * nodW l - (12 + nodM l * 8 + i * nodW l) = nodW l by omega] at this ⊢
  exact this
theorem valN_lenN {i : Nat} {l : List UInt8} (hl : l.length = 244) (hb : 12 + nodM l * 8 + (i + 1) * nodW l ≤ 244) (hi : (i + 1) * nodW l = i * nodW l + nodW l) : (valN l i).length = 12 + nodM l * 8 + (i + 1) * nodW l - (12 + nodM l * 8 + i * nodW l) := by
  unfold valN; simp only [List.length_take, List.length_drop]; omega
def GetP (l : List UInt8) (k w : Nat) (W : World) (e : Ending) (w' : World) : Prop :=
  (rawN l k w < 9223372036854775808 ∧ e = .returned (.tuple #[.int .i64 (rawN l k w : Int), .int .i64 0]) ∧ Below W.heap.size W w') ∨ (¬ rawN l k w < 9223372036854775808 ∧ e = .returned (.tuple #[.int .i64 0, .int .i64 2]) ∧ Below W.heap.size W w')
theorem Get_P (a : Option Addr) (n c k w : Nat) (l : List UInt8) (W : World) (hn : l.length = n) (hw : w = 1 ∨ w = 2 ∨ w = 4 ∨ w = 8) (hk : k + w ≤ n) (hl : n ≤ 100000000) (h : Bys W (.slice a n c) l) (wi : Int) (hwi : wi = (w : Int)) :
    Calls Try.prog 38 #[.slice a n c, .int .i64 (↑k : Int), .int .i64 wi] W (GetP l k w W) := by
  subst hn hwi
  by_cases hq : rawN l k w < 9223372036854775808
  · refine (Get_ok a c k w l W hw hk hl h hq).mono ?_
    rintro e V ⟨rfl, hb⟩; exact .inl ⟨hq, rfl, hb⟩
  · refine (Get_big a c k w l W hw hk hl h hq).mono ?_
    rintro e V ⟨rfl, hb⟩; exact .inr ⟨hq, rfl, hb⟩
theorem node_keyP (l : List UInt8) (a : Option Addr) (i c : Nat) (w : World) (h : Sl w (.slice a i c) i ((keysI l i).map (Value.int .i64))) (hi : i ≤ 1000) :
    Calls Try.prog 39 #[.slice a i c, .int .i64 (↑(keyN l i) : Int)] w (fun e w' => (keyE l i = 0 ∧ e = .returned (.int .i64 0) ∧ Below w.heap.size w w') ∨ (keyE l i ≠ 0 ∧ e = .returned (.int .i64 (keyE l i)) ∧ Below w.heap.size w w')) := by
  refine (node_keyG a i c (keysI l i) (keyN l i) w (keysI_len l i) h hi).mono ?_
  rintro e W ⟨rfl, hb⟩
  rw [keyE_R]
  by_cases hz : keyE l i = 0
  · exact .inl ⟨hz, by rw [hz], hb⟩
  · exact .inr ⟨hz, rfl, hb⟩
set_option maxRecDepth 100000 in
set_option maxHeartbeats 4000000 in
theorem node_Read (a : Option Addr) (c : Nat) (l : List UInt8) (w : World) (hl : l.length = 244) (h : Bys w (.slice a 244 c) l) :
    Calls Try.prog 17 #[.slice a 244 c] w (NodeP l w) := by
  have hcap := Bys.cap h hl
  refine calls_of_wp Try.func17 rfl ?_
  refine g_fr ⟨#[.slice a 244 c, undef, undef, undef, undef, undef, undef, undef, undef, undef, undef, undef, undef, undef, undef, undef, undef, undef, undef, undef, undef, undef, undef, undef, undef, undef, undef, undef, undef, undef, undef, undef, undef, undef, undef, undef, undef, undef, undef, undef, undef, undef, undef, undef, undef, undef, undef, undef, undef, undef, undef, undef, undef, undef, undef, undef, undef, undef, undef, undef, undef, undef, undef, undef, undef, undef, undef, undef, undef, undef, undef, undef, undef, undef, undef, undef, undef, undef, undef, undef, undef, undef, undef, undef, undef, undef, undef, undef, undef, undef, undef, undef, undef, undef, undef, undef, undef, undef, undef, undef, undef, undef, undef, undef], []⟩ (by kernel_rfl) ?_
  refine wp_seq ?_
  refine wp_region_lit ?_
  refine g_op (by kernel_rfl) (op_alloc [.int .i64 0, .bool false, .slice none 0 0, .slice none 0 0] rfl (by kernel_rfl) ?_)
  intro b1 W1 n1
  have g1 := n1.ge (Below.refl w.heap.size _)
  have hB := n1.below
  have k1 := n1.blk
  refine g_pv 1 [(3, .int .i64 0)] (by kernel_rfl) ?_
  refine wpList_nil ?_
  refine wp_seq ?_
  refine wp_region_lit ?_
  refine g_pv 1 [(14, .slice a 244 c)] (by kernel_rfl) ?_
  refine g_op (by kernel_rfl) (op_call (lb := #[]) 36 #[.slice a 244 c] rfl (by kernel_rfl) (fun _ _ => by kernel_rfl) (by kernel_rfl) ((node_shape a c l _ hl (h.below hB)).mono ?_))
  rintro e W2 hq2
  rcases hq2 with ⟨hs, t0, l0, c0, rfl, hb2⟩ | ⟨hs, rfl, hb2⟩
  · refine ⟨_, rfl, ?_⟩
    replace hB := Bl.next hB hb2
    replace k1 := k1.below hb2
    refine g_pv 4 [(13, .tuple #[.agg #[.int .i64 t0, .bool l0, .slice none 0 0, .slice none 0 0], .int .i64 c0, .bool false]), (16, .agg #[.int .i64 t0, .bool l0, .slice none 0 0, .slice none 0 0]), (17, .int .i64 c0), (18, .bool false)] (by kernel_rfl) ?_
    refine g_op (by kernel_rfl) (op_alloc [.int .i64 0, .bool false, .slice none 0 0, .slice none 0 0] rfl (by kernel_rfl) ?_)
    intro b3 W3 n3
    have d3_b1 := n3.ne k1
    have g3 := n3.ge hB
    replace hB := Bl.next hB n3.below
    replace k1 := k1.below n3.below
    have k3 := n3.blk
    refine g_op (by kernel_rfl) (op_storev (b := b3) (off := 0) [.int .i64 t0, .bool l0, .slice none 0 0, .slice none 0 0] rfl (by kernel_rfl) (by kernel_rfl) (by kernel_rfl) (by first | decide | simp [Value.oneCell']) k3 (by first | decide | simp) ?_)
    intro W4 u4 k4
    change Blk _ _ [.int .i64 t0, .bool l0, .slice none 0 0, .slice none 0 0] _ at k4
    replace hB := u4.below hB g3
    replace k1 := u4.blk k1 (Ne.symm (Ne.symm d3_b1))
    refine g_pv 2 [(5, .int .i64 c0), (6, .bool false)] (by kernel_rfl) ?_
    refine wpList_nil ?_
    refine wp_seq ?_
    refine wp_seq ?_
    refine wp_region_lit ?_
    refine g_pv 2 [(19, .bool false), (20, .bool true)] (by kernel_rfl) ?_
    refine wpList_nil ?_
    refine wp_cond_true (by kernel_rfl) ?_
    refine wp_seq ?_
    refine wp_region_lit ?_
    refine g_pv 1 [(21, .agg #[.int .i64 0, .bool false, .slice none 0 0, .slice none 0 0])] (by kernel_rfl) ?_
    refine g_op (by kernel_rfl) (op_storev (b := b1) (off := 0) [.int .i64 0, .bool false, .slice none 0 0, .slice none 0 0] rfl (by kernel_rfl) (by kernel_rfl) (by kernel_rfl) (by first | decide | simp [Value.oneCell']) k1 (by first | decide | simp) ?_)
    intro W5 u5 k5
    change Blk _ _ [.int .i64 0, .bool false, .slice none 0 0, .slice none 0 0] _ at k5
    replace hB := u5.below hB g1
    replace k4 := u5.blk k4 (Ne.symm d3_b1)
    refine g_pv 1 [(3, .int .i64 7)] (by kernel_rfl) ?_
    refine wpList_nil ?_
    refine wp_ret (then_ret ?_)
    refine g_ret (.tuple #[.agg #[.int .i64 0, .bool false, .slice none 0 0, .slice none 0 0], .int .i64 7]) (by kernel_rfl) (res_ct (d := _) (cs := [.int .i64 0, .bool false, .slice none 0 0, .slice none 0 0]) rfl (by kernel_rfl) (by kernel_rfl) k5.whole Try.underlying36 rfl (by kernel_rfl)) ?_
    have he : nodeE l = 7 := by unfold nodeE; simp [hs]
    exact .inl ⟨by rw [he]; decide, by rw [he], hB⟩
  · refine ⟨_, rfl, ?_⟩
    replace hB := Bl.next hB hb2
    replace k1 := k1.below hb2
    have hcm := node_shapeP hs
    have hfit := fitG (nodT l) (nodL l)
    have hmle := maxG_le (nodT l) (nodL l)
    have hwle := widG_le (nodT l) (nodL l)
    change 12 + nodM l * 8 + nodM l * nodW l ≤ 244 at hfit
    change nodM l ≤ 18 at hmle
    change nodW l ≤ 24 at hwle
    have hcw : nodC l * nodW l ≤ nodM l * nodW l := Nat.mul_le_mul_right _ hcm
    refine g_pv 4 [(13, .tuple #[.agg #[.int .i64 (nodT l), .bool (nodL l), .slice none 0 0, .slice none 0 0], .int .i64 (↑(nodC l) : Int), .bool true]), (16, .agg #[.int .i64 (nodT l), .bool (nodL l), .slice none 0 0, .slice none 0 0]), (17, .int .i64 (↑(nodC l) : Int)), (18, .bool true)] (by kernel_rfl) ?_
    refine g_op (by kernel_rfl) (op_alloc [.int .i64 0, .bool false, .slice none 0 0, .slice none 0 0] rfl (by kernel_rfl) ?_)
    intro b6 W6 n6
    have d6_b1 := n6.ne k1
    have g6 := n6.ge hB
    replace hB := Bl.next hB n6.below
    replace k1 := k1.below n6.below
    have k6 := n6.blk
    refine g_op (by kernel_rfl) (op_storev (b := b6) (off := 0) [.int .i64 (nodT l), .bool (nodL l), .slice none 0 0, .slice none 0 0] rfl (by kernel_rfl) (by kernel_rfl) (by kernel_rfl) (by first | decide | simp [Value.oneCell']) k6 (by first | decide | simp) ?_)
    intro W7 u7 k7
    change Blk _ _ [.int .i64 (nodT l), .bool (nodL l), .slice none 0 0, .slice none 0 0] _ at k7
    replace hB := u7.below hB g6
    replace k1 := u7.blk k1 (Ne.symm (Ne.symm d6_b1))
    refine g_pv 2 [(5, .int .i64 (↑(nodC l) : Int)), (6, .bool true)] (by kernel_rfl) ?_
    refine wpList_nil ?_
    refine wp_seq ?_
    refine wp_seq ?_
    refine wp_region_lit ?_
    refine g_pv 2 [(19, .bool true), (20, .bool false)] (by kernel_rfl) ?_
    refine wpList_nil ?_
    refine wp_cond_false (by kernel_rfl) ?_
    refine wp_skip ?_
    refine wp_seq ?_
    replace hB := Bl.next hB (below_drew W7)
    replace k1 := k1.below (below_drew W7)
    replace k7 := k7.below (below_drew W7)
    refine h_reg (Below (W7.drew).heap.size (W7.drew)) 12 rfl #[false, false, false, false, false, false, false, false, false, false, false, false] rfl (by kernel_rfl) (Below.refl _ _) ?_
    intro hS8
    have hBd10 := hB
    have kd10_b1 := k1
    have kd10_b6 := k7
    refine h_pv [0] 11 rfl #[true, false, false, false, false, false, false, false, false, false, false, false] [(22, .pointer (some ⟨b6, 0, none⟩))] (by kernel_rfl) (fun _ _ _ _ _ h => h) (by kernel_rfl) hS8 ?_
    refine h_load 1 10 rfl ⟨b6, 0, none⟩ (.int .i64 (nodT l)) rfl (by kernel_rfl) (by kernel_rfl) (by kernel_rfl) (fun _ _ _ _ _ h => h) (by kernel_rfl) rfl (by kernel_rfl) (by kernel_rfl) (fun V hV => ((kd10_b6.below hV).cell (i := 0) rfl)) hS8 ?_
    refine h_pv [2] 9 rfl #[true, true, true, false, false, false, false, false, false, false, false, false] [(24, .pointer (some ⟨b6, 1, none⟩))] (by kernel_rfl) (fun _ _ _ _ _ h => h) (by kernel_rfl) hS8 ?_
    refine h_load 3 8 rfl ⟨b6, 1, none⟩ (.bool (nodL l)) rfl (by kernel_rfl) (by kernel_rfl) (by kernel_rfl) (fun _ _ _ _ _ h => h) (by kernel_rfl) rfl (by kernel_rfl) (by kernel_rfl) (fun V hV => ((kd10_b6.below hV).cell (i := 1) rfl)) hS8 ?_
    refine h_pv [5] 7 rfl #[true, true, true, true, false, true, false, false, false, false, false, false] [(27, .pointer (some ⟨b6, 0, none⟩))] (by kernel_rfl) (fun _ _ _ _ _ h => h) (by kernel_rfl) hS8 ?_
    refine h_load 6 6 rfl ⟨b6, 0, none⟩ (.int .i64 (nodT l)) rfl (by kernel_rfl) (by kernel_rfl) (by kernel_rfl) (fun _ _ _ _ _ h => h) (by kernel_rfl) rfl (by kernel_rfl) (by kernel_rfl) (fun V hV => ((kd10_b6.below hV).cell (i := 0) rfl)) hS8 ?_
    refine h_pv [7] 5 rfl #[true, true, true, true, false, true, true, true, false, false, false, false] [(29, .pointer (some ⟨b6, 1, none⟩))] (by kernel_rfl) (fun _ _ _ _ _ h => h) (by kernel_rfl) hS8 ?_
    refine h_load 8 4 rfl ⟨b6, 1, none⟩ (.bool (nodL l)) rfl (by kernel_rfl) (by kernel_rfl) (by kernel_rfl) (fun _ _ _ _ _ h => h) (by kernel_rfl) rfl (by kernel_rfl) (by kernel_rfl) (fun V hV => ((kd10_b6.below hV).cell (i := 1) rfl)) hS8 ?_
    refine h_one 4 3 rfl (by kernel_rfl) rfl (by kernel_rfl) (op_call (lb := #[]) 21 #[.int .i64 (nodT l), .bool (nodL l)] rfl (by kernel_rfl) (fun _ _ => by kernel_rfl) (by kernel_rfl) ((node_WidthG (nodT l) (nodL l) _).mono ?_))
    rintro e W11 ⟨rfl, hb11⟩
    refine ⟨_, rfl, ?_⟩
    replace hB := Bl.next hB hb11
    replace k1 := k1.below hb11
    replace k7 := k7.below hb11
    have hS12 : Below (W7.drew).heap.size (W7.drew) (W11) := Bl.next hS8 hb11
    refine ⟨hS12, ?_⟩
    refine h_one 9 2 rfl (by kernel_rfl) rfl (by kernel_rfl) (op_call (lb := #[]) 22 #[.int .i64 (nodT l), .bool (nodL l)] rfl (by kernel_rfl) (fun _ _ => by kernel_rfl) (by kernel_rfl) ((node_MaxG (nodT l) (nodL l) _).mono ?_))
    rintro e W13 ⟨rfl, hb13⟩
    refine ⟨_, rfl, ?_⟩
    replace hB := Bl.next hB hb13
    replace k1 := k1.below hb13
    replace k7 := k7.below hb13
    have hS14 : Below (W7.drew).heap.size (W7.drew) (W13) := Bl.next hS12 hb13
    refine ⟨hS14, ?_⟩
    refine h_pv [10, 11] 0 rfl #[true, true, true, true, true, true, true, true, true, true, true, true] [(7, .int .i64 (↑(nodW l) : Int)), (8, .int .i64 (↑(nodM l) : Int))] (by kernel_rfl) (fun _ _ _ _ _ h => h) (by kernel_rfl) hS14 ?_
    refine h_done _ (by kernel_rfl) ?_
    refine wp_seq ?_
    refine wp_region_lit ?_
    refine g_pv 1 [(32, .int .i64 (↑(nodM l) : Int))] (by kernel_rfl) ?_
    refine g_op (by kernel_rfl) (op_val (run_wrap .i64 ((↑(nodM l) : Int) * 8) (↑((nodM l) * 8) : Int) (by kernel_rfl) ((show IntKind.i64.wrap ((↑(nodM l) : Int) * 8) = ((↑(nodM l) : Int) * 8) from by first | exact IntWalk.i64_in _ (by omega) | (simp only [IntKind.wrap]; omega)).trans (by omega)) _) ?_)
    refine g_op (by kernel_rfl) (op_val (run_wrap .i64 (12 + (↑((nodM l) * 8) : Int)) (↑(12 + ((nodM l) * 8)) : Int) (by kernel_rfl) ((show IntKind.i64.wrap (12 + (↑((nodM l) * 8) : Int)) = (12 + (↑((nodM l) * 8) : Int)) from by first | exact IntWalk.i64_in _ (by omega) | (simp only [IntKind.wrap]; omega)).trans (by omega)) _) ?_)
    refine g_pv 1 [(9, .int .i64 (↑(12 + ((nodM l) * 8)) : Int))] (by kernel_rfl) ?_
    refine wpList_nil ?_
    refine wp_seq ?_
    refine wp_seq ?_
    refine wp_region_lit ?_
    refine g_pv 2 [(35, .slice a 244 c), (36, .int .i64 (↑(nodC l) : Int))] (by kernel_rfl) ?_
    refine g_op (by kernel_rfl) (op_val (run_wrap .i64 ((↑(nodC l) : Int) * 8) (↑((nodC l) * 8) : Int) (by kernel_rfl) ((show IntKind.i64.wrap ((↑(nodC l) : Int) * 8) = ((↑(nodC l) : Int) * 8) from by first | exact IntWalk.i64_in _ (by omega) | (simp only [IntKind.wrap]; omega)).trans (by omega)) _) ?_)
    refine g_op (by kernel_rfl) (op_val (run_wrap .i64 (12 + (↑((nodC l) * 8) : Int)) (↑(12 + ((nodC l) * 8)) : Int) (by kernel_rfl) ((show IntKind.i64.wrap (12 + (↑((nodC l) * 8) : Int)) = (12 + (↑((nodC l) * 8) : Int)) from by first | exact IntWalk.i64_in _ (by omega) | (simp only [IntKind.wrap]; omega)).trans (by omega)) _) ?_)
    refine g_pv 1 [(39, .int .i64 (↑(12 + ((nodM l) * 8)) : Int))] (by kernel_rfl) ?_
    refine g_op (by kernel_rfl) (op_val (run_sliceLHA (k := (12 + ((nodC l) * 8))) (h := (12 + ((nodM l) * 8))) (b := a) (n := 244) (c := c) (i := (↑(12 + ((nodC l) * 8)) : Int)) (ki := .i64) (j := (↑(12 + ((nodM l) * 8)) : Int)) (kj := .i64) 1 rfl (by kernel_rfl) (by kernel_rfl) rfl (by kernel_rfl) rfl (by omega) (by omega) Try.underlying22 (by kernel_rfl) _) ?_)
    refine g_op (by kernel_rfl) (op_call (lb := #[]) 37 #[.slice (cutA a (12 + ((nodC l) * 8)) c 1) ((12 + ((nodM l) * 8)) - (12 + ((nodC l) * 8))) (c - (12 + ((nodC l) * 8)))] rfl (by kernel_rfl) (fun _ _ => by kernel_rfl) (by kernel_rfl) ((code_ZeroN (cutA a (12 + ((nodC l) * 8)) c 1) ((12 + ((nodM l) * 8)) - (12 + ((nodC l) * 8))) (c - (12 + ((nodC l) * 8))) _ _ (by simp; omega) (by omega) ((Bys.cut h hl (12 + ((nodC l) * 8)) (12 + ((nodM l) * 8)) (by omega) (by omega)).below hB)).mono ?_))
    rintro e W15 ⟨rfl, hb15⟩
    refine ⟨_, rfl, ?_⟩
    replace hB := Bl.next hB hb15
    replace k1 := k1.below hb15
    replace k7 := k7.below hb15
    refine g_pv 2 [(42, .bool (!(zeroB ((l.drop (node0 l)).take (node1 l - node0 l))))), (43, .bool (!(zeroB ((l.drop (node0 l)).take (node1 l - node0 l)))))] (by kernel_rfl) ?_
    rcases Bool.eq_false_or_eq_true (!(zeroB ((l.drop (node0 l)).take (node1 l - node0 l)))) with hc16 | hc16
    · refine g_b [42, 43] _ _ hc16 (by kernel_rfl) ?_
      have hz1 : zeroB ((l.drop (node0 l)).take (node1 l - node0 l)) = false := by simpa using hc16
      refine g_pv 10 [(44, undef), (45, undef), (46, undef), (47, undef), (48, undef), (49, undef), (50, undef), (51, undef), (52, undef), (53, .bool true)] (by kernel_rfl) ?_
      refine wpList_nil ?_
      refine wp_cond_true (by kernel_rfl) ?_
      refine wp_seq ?_
      refine wp_region_lit ?_
      refine g_pv 1 [(54, .agg #[.int .i64 0, .bool false, .slice none 0 0, .slice none 0 0])] (by kernel_rfl) ?_
      refine g_op (by kernel_rfl) (op_storev (b := b1) (off := 0) [.int .i64 0, .bool false, .slice none 0 0, .slice none 0 0] rfl (by kernel_rfl) (by kernel_rfl) (by kernel_rfl) (by first | decide | simp [Value.oneCell']) k1 (by first | decide | simp) ?_)
      intro W17 u17 k17
      change Blk _ _ [.int .i64 0, .bool false, .slice none 0 0, .slice none 0 0] _ at k17
      replace hB := u17.below hB g1
      replace k7 := u17.blk k7 (Ne.symm d6_b1)
      refine g_pv 1 [(3, .int .i64 7)] (by kernel_rfl) ?_
      refine wpList_nil ?_
      refine wp_ret (then_ret ?_)
      refine g_ret (.tuple #[.agg #[.int .i64 0, .bool false, .slice none 0 0, .slice none 0 0], .int .i64 7]) (by kernel_rfl) (res_ct (d := _) (cs := [.int .i64 0, .bool false, .slice none 0 0, .slice none 0 0]) rfl (by kernel_rfl) (by kernel_rfl) k17.whole Try.underlying36 rfl (by kernel_rfl)) ?_
      have he : nodeE l = 7 := by unfold nodeE; simp [hs, nodeZ, hz1]
      exact .inl ⟨by rw [he]; decide, by rw [he], hB⟩
    · refine g_b [42, 43] _ _ hc16 (by kernel_rfl) ?_
      have hz1 : zeroB ((l.drop (node0 l)).take (node1 l - node0 l)) = true := by simpa using hc16
      refine g_pv 4 [(44, .slice a 244 c), (45, .int .i64 (↑(12 + ((nodM l) * 8)) : Int)), (46, .int .i64 (↑(nodC l) : Int)), (47, .int .i64 (↑(nodW l) : Int))] (by kernel_rfl) ?_
      refine g_op (by kernel_rfl) (op_val (run_wrap .i64 ((↑(nodC l) : Int) * (↑(nodW l) : Int)) (↑((nodC l) * (nodW l)) : Int) (by kernel_rfl) ((show IntKind.i64.wrap ((↑(nodC l) : Int) * (↑(nodW l) : Int)) = ((↑(nodC l) : Int) * (↑(nodW l) : Int)) from by first | exact IntWalk.i64_in _ (by omega) | (simp only [IntKind.wrap]; omega)).trans (by omega)) _) ?_)
      refine g_op (by kernel_rfl) (op_val (run_wrap .i64 ((↑(12 + ((nodM l) * 8)) : Int) + (↑((nodC l) * (nodW l)) : Int)) (↑((12 + ((nodM l) * 8)) + ((nodC l) * (nodW l))) : Int) (by kernel_rfl) ((show IntKind.i64.wrap ((↑(12 + ((nodM l) * 8)) : Int) + (↑((nodC l) * (nodW l)) : Int)) = ((↑(12 + ((nodM l) * 8)) : Int) + (↑((nodC l) * (nodW l)) : Int)) from by first | exact IntWalk.i64_in _ (by omega) | (simp only [IntKind.wrap]; omega)).trans (by omega)) _) ?_)
      refine g_op (by kernel_rfl) (op_val (run_sliceLA (k := ((12 + ((nodM l) * 8)) + ((nodC l) * (nodW l)))) (b := a) (n := 244) (c := c) (i := (↑((12 + ((nodM l) * 8)) + ((nodC l) * (nodW l))) : Int)) (ki := .i64) 1 rfl (by kernel_rfl) (by kernel_rfl) rfl (by omega) Try.underlying22 (by kernel_rfl) _) ?_)
      refine g_op (by kernel_rfl) (op_call (lb := #[]) 37 #[.slice (cutA a ((12 + ((nodM l) * 8)) + ((nodC l) * (nodW l))) c 1) (244 - ((12 + ((nodM l) * 8)) + ((nodC l) * (nodW l)))) (c - ((12 + ((nodM l) * 8)) + ((nodC l) * (nodW l))))] rfl (by kernel_rfl) (fun _ _ => by kernel_rfl) (by kernel_rfl) ((code_ZeroN (cutA a ((12 + ((nodM l) * 8)) + ((nodC l) * (nodW l))) c 1) (244 - ((12 + ((nodM l) * 8)) + ((nodC l) * (nodW l)))) (c - ((12 + ((nodM l) * 8)) + ((nodC l) * (nodW l)))) _ _ (by simp; omega) (by omega) ((Bys.cut h hl (12 + ((nodM l) * 8) + ((nodC l) * (nodW l))) 244 (by omega) (by omega)).below hB)).mono ?_))
      rintro e W18 ⟨rfl, hb18⟩
      refine ⟨_, rfl, ?_⟩
      replace hB := Bl.next hB hb18
      replace k1 := k1.below hb18
      replace k7 := k7.below hb18
      refine g_pv 2 [(52, .bool (!(zeroB ((l.drop (node2 l)).take (244 - node2 l))))), (53, .bool (!(zeroB ((l.drop (node2 l)).take (244 - node2 l)))))] (by kernel_rfl) ?_
      refine wpList_nil ?_
      refine wp_cond_split (t := !(zeroB ((l.drop (node2 l)).take (244 - node2 l)))) (by kernel_rfl) (fun hc19 => ?_) (fun hc19 => ?_)
      · have hz2 : zeroB ((l.drop (node2 l)).take (244 - node2 l)) = false := by simpa using hc19
        refine wp_seq ?_
        refine wp_region_lit ?_
        refine g_pv 1 [(54, .agg #[.int .i64 0, .bool false, .slice none 0 0, .slice none 0 0])] (by kernel_rfl) ?_
        refine g_op (by kernel_rfl) (op_storev (b := b1) (off := 0) [.int .i64 0, .bool false, .slice none 0 0, .slice none 0 0] rfl (by kernel_rfl) (by kernel_rfl) (by kernel_rfl) (by first | decide | simp [Value.oneCell']) k1 (by first | decide | simp) ?_)
        intro W20 u20 k20
        change Blk _ _ [.int .i64 0, .bool false, .slice none 0 0, .slice none 0 0] _ at k20
        replace hB := u20.below hB g1
        replace k7 := u20.blk k7 (Ne.symm d6_b1)
        refine g_pv 1 [(3, .int .i64 7)] (by kernel_rfl) ?_
        refine wpList_nil ?_
        refine wp_ret (then_ret ?_)
        refine g_ret (.tuple #[.agg #[.int .i64 0, .bool false, .slice none 0 0, .slice none 0 0], .int .i64 7]) (by kernel_rfl) (res_ct (d := _) (cs := [.int .i64 0, .bool false, .slice none 0 0, .slice none 0 0]) rfl (by kernel_rfl) (by kernel_rfl) k20.whole Try.underlying36 rfl (by kernel_rfl)) ?_
        have he : nodeE l = 7 := by unfold nodeE; simp [hs, nodeZ, hz1, hz2]
        exact .inl ⟨by rw [he]; decide, by rw [he], hB⟩
      · have hz2 : zeroB ((l.drop (node2 l)).take (244 - node2 l)) = true := by simpa using hc19
        have hnz : nodeZ l = true := by unfold nodeZ; rw [hz1, hz2]; rfl
        refine wp_skip ?_
        refine wp_seq ?_
        refine wp_seq ?_
        refine wp_region_lit ?_
        refine g_pv 2 [(55, .int .i64 (↑(nodC l) : Int)), (56, .int .i64 0)] (by kernel_rfl) ?_
        refine wpList_nil ?_
        refine wp_block ?_
        refine g_fr ⟨#[.slice a 244 c, undef, .pointer (some ⟨b1, 0, none⟩), .int .i64 0, .pointer (some ⟨b6, 0, none⟩), .int .i64 (↑(nodC l) : Int), .bool true, .int .i64 (↑(nodW l) : Int), .int .i64 (↑(nodM l) : Int), .int .i64 (↑(12 + ((nodM l) * 8)) : Int), undef, undef, undef, .tuple #[.agg #[.int .i64 (nodT l), .bool (nodL l), .slice none 0 0, .slice none 0 0], .int .i64 (↑(nodC l) : Int), .bool true], .slice a 244 c, .tuple #[.agg #[.int .i64 (nodT l), .bool (nodL l), .slice none 0 0, .slice none 0 0], .int .i64 (↑(nodC l) : Int), .bool true], .agg #[.int .i64 (nodT l), .bool (nodL l), .slice none 0 0, .slice none 0 0], .int .i64 (↑(nodC l) : Int), .bool true, .bool true, .bool false, undef, .pointer (some ⟨b6, 0, none⟩), .int .i64 (nodT l), .pointer (some ⟨b6, 1, none⟩), .bool (nodL l), .int .i64 (↑(nodW l) : Int), .pointer (some ⟨b6, 0, none⟩), .int .i64 (nodT l), .pointer (some ⟨b6, 1, none⟩), .bool (nodL l), .int .i64 (↑(nodM l) : Int), .int .i64 (↑(nodM l) : Int), .int .i64 (↑((nodM l) * 8) : Int), .int .i64 (↑(12 + ((nodM l) * 8)) : Int), .slice a 244 c, .int .i64 (↑(nodC l) : Int), .int .i64 (↑((nodC l) * 8) : Int), .int .i64 (↑(12 + ((nodC l) * 8)) : Int), .int .i64 (↑(12 + ((nodM l) * 8)) : Int), .slice (cutA a (12 + ((nodC l) * 8)) c 1) ((12 + ((nodM l) * 8)) - (12 + ((nodC l) * 8))) (c - (12 + ((nodC l) * 8))), .bool (zeroB ((l.drop (node0 l)).take (node1 l - node0 l))), .bool false, .bool false, .slice a 244 c, .int .i64 (↑(12 + ((nodM l) * 8)) : Int), .int .i64 (↑(nodC l) : Int), .int .i64 (↑(nodW l) : Int), .int .i64 (↑((nodC l) * (nodW l)) : Int), .int .i64 (↑((12 + ((nodM l) * 8)) + ((nodC l) * (nodW l))) : Int), .slice (cutA a ((12 + ((nodM l) * 8)) + ((nodC l) * (nodW l))) c 1) (244 - ((12 + ((nodM l) * 8)) + ((nodC l) * (nodW l)))) (c - ((12 + ((nodM l) * 8)) + ((nodC l) * (nodW l)))), .bool (zeroB ((l.drop (node2 l)).take (244 - node2 l))), .bool (!(zeroB ((l.drop (node2 l)).take (244 - node2 l)))), .bool (!(zeroB ((l.drop (node2 l)).take (244 - node2 l)))), undef, .int .i64 (↑(nodC l) : Int), .int .i64 0, undef, undef, undef, undef, undef, undef, undef, undef, undef, undef, undef, undef, undef, undef, undef, undef, undef, undef, undef, undef, undef, undef, undef, undef, undef, undef, undef, undef, undef, undef, undef, undef, undef, undef, undef, undef, undef, undef, undef, undef, undef, undef, undef, undef, undef, undef, undef], []⟩ (by kernel_rfl) ?_
        refine wp_loop (fun act V => ∃ (i : Nat) (kp : Option Addr) (kc : Nat) (vp : Option Addr) (vc : Nat) (x21 : Nat → Value), act = ⟨#[.slice a 244 c, undef, .pointer (some ⟨b1, 0, none⟩), (x21 0), .pointer (some ⟨b6, 0, none⟩), .int .i64 (↑(nodC l) : Int), .bool true, .int .i64 (↑(nodW l) : Int), .int .i64 (↑(nodM l) : Int), .int .i64 (↑(12 + ((nodM l) * 8)) : Int), (x21 1), (x21 2), (x21 3), .tuple #[.agg #[.int .i64 (nodT l), .bool (nodL l), .slice none 0 0, .slice none 0 0], .int .i64 (↑(nodC l) : Int), .bool true], .slice a 244 c, .tuple #[.agg #[.int .i64 (nodT l), .bool (nodL l), .slice none 0 0, .slice none 0 0], .int .i64 (↑(nodC l) : Int), .bool true], .agg #[.int .i64 (nodT l), .bool (nodL l), .slice none 0 0, .slice none 0 0], .int .i64 (↑(nodC l) : Int), .bool true, .bool true, .bool false, undef, .pointer (some ⟨b6, 0, none⟩), .int .i64 (nodT l), .pointer (some ⟨b6, 1, none⟩), .bool (nodL l), .int .i64 (↑(nodW l) : Int), .pointer (some ⟨b6, 0, none⟩), .int .i64 (nodT l), .pointer (some ⟨b6, 1, none⟩), .bool (nodL l), .int .i64 (↑(nodM l) : Int), .int .i64 (↑(nodM l) : Int), .int .i64 (↑((nodM l) * 8) : Int), .int .i64 (↑(12 + ((nodM l) * 8)) : Int), .slice a 244 c, .int .i64 (↑(nodC l) : Int), .int .i64 (↑((nodC l) * 8) : Int), .int .i64 (↑(12 + ((nodC l) * 8)) : Int), .int .i64 (↑(12 + ((nodM l) * 8)) : Int), .slice (cutA a (12 + ((nodC l) * 8)) c 1) ((12 + ((nodM l) * 8)) - (12 + ((nodC l) * 8))) (c - (12 + ((nodC l) * 8))), .bool (zeroB ((l.drop (node0 l)).take (node1 l - node0 l))), .bool false, .bool false, .slice a 244 c, .int .i64 (↑(12 + ((nodM l) * 8)) : Int), .int .i64 (↑(nodC l) : Int), .int .i64 (↑(nodW l) : Int), .int .i64 (↑((nodC l) * (nodW l)) : Int), .int .i64 (↑((12 + ((nodM l) * 8)) + ((nodC l) * (nodW l))) : Int), .slice (cutA a ((12 + ((nodM l) * 8)) + ((nodC l) * (nodW l))) c 1) (244 - ((12 + ((nodM l) * 8)) + ((nodC l) * (nodW l)))) (c - ((12 + ((nodM l) * 8)) + ((nodC l) * (nodW l)))), .bool (zeroB ((l.drop (node2 l)).take (244 - node2 l))), .bool (!(zeroB ((l.drop (node2 l)).take (244 - node2 l)))), .bool (!(zeroB ((l.drop (node2 l)).take (244 - node2 l)))), undef, .int .i64 (↑(nodC l) : Int), .int .i64 (↑i : Int), (x21 4), (x21 5), (x21 6), (x21 7), (x21 8), (x21 9), (x21 10), (x21 11), (x21 12), (x21 13), (x21 14), (x21 15), (x21 16), (x21 17), (x21 18), (x21 19), (x21 20), (x21 21), (x21 22), (x21 23), (x21 24), (x21 25), (x21 26), (x21 27), (x21 28), (x21 29), (x21 30), (x21 31), (x21 32), (x21 33), (x21 34), (x21 35), (x21 36), (x21 37), (x21 38), (x21 39), (x21 40), (x21 41), (x21 42), (x21 43), (x21 44), (x21 45), (x21 46), (x21 47), (x21 48), (x21 49), undef], []⟩ ∧ Below w.heap.size w V ∧ Blk V b1 ([.int .i64 0, .bool false, .slice none 0 0, .slice none 0 0]) 36 ∧ Blk V b6 ([.int .i64 (nodT l), .bool (nodL l), .slice kp i kc, .slice vp i vc]) 36 ∧ V.ownsRow w.heap.size 3 1 (.slice kp i kc) i ((keysI l i).map (Value.int .i64)) ∧ V.ownsRow w.heap.size 9 1 (.slice vp i vc) i ((valsL l i).map sv) ∧ i ≤ nodC l ∧ keysErr l i = 0) (fun act V => nodC l - ((intOf (act.tmps.getD 56 undef))).toNat) ⟨0, none, 0, none, 0, (pk [.int .i64 0, undef, undef, undef, undef, undef, undef, undef, undef, undef, undef, undef, undef, undef, undef, undef, undef, undef, undef, undef, undef, undef, undef, undef, undef, undef, undef, undef, undef, undef, undef, undef, undef, undef, undef, undef, undef, undef, undef, undef, undef, undef, undef, undef, undef, undef, undef, undef, undef, undef]), rfl, hB, k1, k7, World.ownsRow_nil _ _ _ _, World.ownsRow_nil _ _ _ _, Nat.zero_le _, rfl⟩ ?_
        rintro _ W21 ⟨i, kp, kc, vp, vc, x21, rfl, hB, k21_b1, k21_b6, hK, hV, hi, hz⟩
        have hiw : (i + 1) * nodW l = i * nodW l + nodW l := Nat.succ_mul i (nodW l)
        have hiw2 : i < nodC l → (i + 1) * nodW l ≤ nodM l * nodW l := fun hh => Nat.mul_le_mul_right _ (by omega)
        refine wp_seq ?_
        refine wp_region_lit ?_
        refine g_pv 1 [(57, .bool (decide ((↑i : Int) < (↑(nodC l) : Int))))] (by kernel_rfl) ?_
        refine wpList_nil ?_
        refine wp_seq ?_
        refine wp_cond_split (t := decide ((↑i : Int) < (↑(nodC l) : Int))) (by kernel_rfl) (fun hc22 => ?_) (fun hc22 => ?_)
        · have hc22 := of_decide_eq_true hc22
          refine wp_skip ?_
          refine wp_seq ?_
          refine wp_block ?_
          refine wp_seq ?_
          refine wp_region_lit ?_
          refine g_pv 2 [(58, .int .i64 (↑i : Int)), (10, .int .i64 (↑i : Int))] (by kernel_rfl) ?_
          refine wpList_nil ?_
          refine wp_seq ?_
          refine wp_region_lit ?_
          refine g_pv 2 [(60, .slice a 244 c), (61, .int .i64 (↑i : Int))] (by kernel_rfl) ?_
          refine g_op (by kernel_rfl) (op_val (run_wrap .i64 ((↑i : Int) * 8) (↑(i * 8) : Int) (by kernel_rfl) ((show IntKind.i64.wrap ((↑i : Int) * 8) = ((↑i : Int) * 8) from by first | exact IntWalk.i64_in _ (by omega) | (simp only [IntKind.wrap]; omega)).trans (by omega)) _) ?_)
          refine g_op (by kernel_rfl) (op_val (run_wrap .i64 (12 + (↑(i * 8) : Int)) (↑(12 + (i * 8)) : Int) (by kernel_rfl) ((show IntKind.i64.wrap (12 + (↑(i * 8) : Int)) = (12 + (↑(i * 8) : Int)) from by first | exact IntWalk.i64_in _ (by omega) | (simp only [IntKind.wrap]; omega)).trans (by omega)) _) ?_)
          refine g_op (by kernel_rfl) (op_call (lb := #[]) 38 #[.slice a 244 c, .int .i64 (↑(12 + (i * 8)) : Int), .int .i64 8] rfl (by kernel_rfl) (fun _ _ => by kernel_rfl) (by kernel_rfl) ((Get_P a 244 c (12 + (i * 8)) 8 l _ hl (by decide) (by omega) (by decide) (h.below hB) 8 rfl).mono ?_))
          rintro e W23 hq23
          rcases hq23 with ⟨hgk, rfl, hb23⟩ | ⟨hgk, rfl, hb23⟩
          · refine ⟨_, rfl, ?_⟩
            replace hB := Bl.next hB hb23
            replace k21_b1 := k21_b1.below hb23
            replace k21_b6 := k21_b6.below hb23
            replace hK := own_below hK hb23
            replace hV := own_below hV hb23
            refine g_pv 5 [(59, .tuple #[.int .i64 (↑(keyN l i) : Int), .int .i64 0]), (65, .int .i64 (↑(keyN l i) : Int)), (66, .int .i64 0), (11, .int .i64 (↑(keyN l i) : Int)), (12, .int .i64 0)] (by kernel_rfl) ?_
            refine wpList_nil ?_
            refine wp_seq ?_
            refine wp_seq ?_
            refine wp_region_lit ?_
            refine g_pv 2 [(67, .int .i64 0), (68, .bool true)] (by kernel_rfl) ?_
            refine wpList_nil ?_
            refine wp_cond_true (by kernel_rfl) ?_
            refine wp_region_lit ?_
            refine g_pv 1 [(69, .pointer (some ⟨b6, 2, none⟩))] (by kernel_rfl) ?_
            refine g_op (by kernel_rfl) (op_load ⟨b6, 2, none⟩ (.slice kp i kc) rfl (by kernel_rfl) (by kernel_rfl) (k21_b6.cell (i := 2) rfl) ?_)
            refine g_pv 1 [(71, .int .i64 (↑(keyN l i) : Int))] (by kernel_rfl) ?_
            refine g_op (by kernel_rfl) (op_call (lb := #[]) 39 #[.slice kp i kc, .int .i64 (↑(keyN l i) : Int)] rfl (by kernel_rfl) (fun _ _ => by kernel_rfl) (by kernel_rfl) ((node_keyP l kp i kc _ (own_sl hK) (by omega)).mono ?_))
            rintro e W24 hq24
            rcases hq24 with ⟨hz0, rfl, hb24⟩ | ⟨hz0, rfl, hb24⟩
            · refine ⟨_, rfl, ?_⟩
              replace hB := Bl.next hB hb24
              replace k21_b1 := k21_b1.below hb24
              replace k21_b6 := k21_b6.below hb24
              replace hK := own_below hK hb24
              replace hV := own_below hV hb24
              refine g_pv 1 [(12, .int .i64 0)] (by kernel_rfl) ?_
              refine wpList_nil ?_
              refine wp_seq ?_
              refine wp_seq ?_
              refine wp_region_lit ?_
              refine g_pv 2 [(73, .int .i64 0), (74, .bool false)] (by kernel_rfl) ?_
              refine wpList_nil ?_
              refine wp_cond_false (by kernel_rfl) ?_
              refine wp_skip ?_
              refine wp_seq ?_
              refine wp_region_lit ?_
              refine g_pv 1 [(77, .pointer (some ⟨b6, 2, none⟩))] (by kernel_rfl) ?_
              refine g_op (by kernel_rfl) (op_load ⟨b6, 2, none⟩ (.slice kp i kc) rfl (by kernel_rfl) (by kernel_rfl) (k21_b6.cell (i := 2) rfl) ?_)
              refine g_pv 1 [(79, .int .i64 (↑(keyN l i) : Int))] (by kernel_rfl) ?_
              refine g_op (by kernel_rfl) (op_buildSlice 3 [.int .i64 (↑(keyN l i) : Int)] rfl (by kernel_rfl) ?_)
              intro b25 W25 n25
              have d25_b1 := n25.ne k21_b1
              have d25_b6 := n25.ne k21_b6
              have g25 := n25.ge hB
              have r25_hK := own_ne hK n25
              replace hB := Bl.next hB n25.below
              replace k21_b1 := k21_b1.below n25.below
              replace k21_b6 := k21_b6.below n25.below
              replace hK := own_below hK n25.below
              replace hV := own_below hV n25.below
              have k25 := n25.blk
              refine g_op (by kernel_rfl) (op_app (e := 3) (n := i) (xs := (keysI l i).map (Value.int .i64)) (m := 1) (news := [.int .i64 (↑(keyN l i) : Int)]) (.int .i64 0) 1 8 (i + 1) ((keysI l (i + 1)).map (Value.int .i64)) rfl Try.underlying27 (by kernel_rfl) rfl (by decide) (by kernel_rfl) hK (by kernel_rfl) (k25.sl 1 1 (by decide) (by decide)) rfl (by simp [Value.oneCell']) (by unfold maxLen; omega) (by omega) hB.size (by rfl) (by rw [keysI_snoc, List.map_append]; rfl) ?_)
              intro p26 c26 W26 o26 hg26 hb26
              replace k21_b1 := k21_b1.grown hg26 hK (by decide)
              replace k21_b6 := k21_b6.grown hg26 hK (by decide)
              replace hV := own_grown hV hg26 hK (by decide)
              replace hB := hB.trans hb26
              refine g_pv 1 [(82, .pointer (some ⟨b6, 2, none⟩))] (by kernel_rfl) ?_
              refine g_op (by kernel_rfl) (op_store (v := .slice p26 (i + 1) c26) (b := b6) (off := 2) rfl (by kernel_rfl) (by kernel_rfl) (by kernel_rfl) rfl k21_b6 (by first | decide | simp) ?_)
              intro W27 u27 k27
              change Blk _ _ [.int .i64 (nodT l), .bool (nodL l), .slice p26 (i + 1) c26, .slice vp i vc] _ at k27
              replace hB := u27.below hB g6
              replace k21_b1 := u27.blk k21_b1 (Ne.symm (Ne.symm d6_b1))
              replace hV := u27.own2 hV k21_b6 (by decide)
              replace o26 := u27.own2 o26 k21_b6 (by decide)
              refine wpList_nil ?_
              replace hB := Bl.next hB (below_drew W27)
              replace k21_b1 := k21_b1.below (below_drew W27)
              replace k27 := k27.below (below_drew W27)
              replace hV := own_below hV (below_drew W27)
              replace o26 := own_below o26 (below_drew W27)
              refine h_reg (Below w.heap.size (W27.drew)) 20 rfl #[false, false, false, false, false, false, false, false, false, false, false, false, false, false, false, false, false, false, false, false] rfl (by kernel_rfl) (Below.refl _ _) ?_
              intro hS28
              have hBd30 := hB
              have kd30_b1 := k21_b1
              have kd30_b6 := k27
              have fd_hV := hV
              have fd_o26 := o26
              refine h_pv [0, 2, 3, 4, 5] 15 rfl #[true, false, true, true, true, true, false, false, false, false, false, false, false, false, false, false, false, false, false, false] [(83, .pointer (some ⟨b6, 3, none⟩)), (85, .slice a 244 c), (86, .int .i64 (↑(12 + ((nodM l) * 8)) : Int)), (87, .int .i64 (↑i : Int)), (88, .int .i64 (↑(nodW l) : Int))] (by kernel_rfl) (fun _ _ _ _ _ h => h) (by kernel_rfl) hS28 ?_
              refine h_val 6 14 rfl (.int .i64 (↑(i * (nodW l)) : Int)) rfl (by kernel_rfl) (by kernel_rfl) (by kernel_rfl) (fun _ _ _ _ _ h => h) (by kernel_rfl) (fun V hV => run_wrap .i64 ((↑i : Int) * (↑(nodW l) : Int)) (↑(i * (nodW l)) : Int) (by kernel_rfl) ((show IntKind.i64.wrap ((↑i : Int) * (↑(nodW l) : Int)) = ((↑i : Int) * (↑(nodW l) : Int)) from by first | exact IntWalk.i64_in _ (by omega) | (simp only [IntKind.wrap]; omega)).trans (by omega)) V) hS28 ?_
              refine h_val 7 13 rfl (.int .i64 (↑((12 + ((nodM l) * 8)) + (i * (nodW l))) : Int)) rfl (by kernel_rfl) (by kernel_rfl) (by kernel_rfl) (fun _ _ _ _ _ h => h) (by kernel_rfl) (fun V hV => run_wrap .i64 ((↑(12 + ((nodM l) * 8)) : Int) + (↑(i * (nodW l)) : Int)) (↑((12 + ((nodM l) * 8)) + (i * (nodW l))) : Int) (by kernel_rfl) ((show IntKind.i64.wrap ((↑(12 + ((nodM l) * 8)) : Int) + (↑(i * (nodW l)) : Int)) = ((↑(12 + ((nodM l) * 8)) : Int) + (↑(i * (nodW l)) : Int)) from by first | exact IntWalk.i64_in _ (by omega) | (simp only [IntKind.wrap]; omega)).trans (by omega)) V) hS28 ?_
              refine h_pv [8, 9] 11 rfl #[true, false, true, true, true, true, true, true, true, true, false, false, false, false, false, false, false, false, false, false] [(91, .int .i64 (↑(12 + ((nodM l) * 8)) : Int)), (92, .int .i64 (↑i : Int))] (by kernel_rfl) (fun _ _ _ _ _ h => h) (by kernel_rfl) hS28 ?_
              refine h_val 10 10 rfl (.int .i64 (↑(i + 1) : Int)) rfl (by kernel_rfl) (by kernel_rfl) (by kernel_rfl) (fun _ _ _ _ _ h => h) (by kernel_rfl) (fun V hV => run_wrap .i64 ((↑i : Int) + 1) (↑(i + 1) : Int) (by kernel_rfl) ((show IntKind.i64.wrap ((↑i : Int) + 1) = ((↑i : Int) + 1) from by first | exact IntWalk.i64_in _ (by omega) | (simp only [IntKind.wrap]; omega)).trans (by omega)) V) hS28 ?_
              refine h_pv [11] 9 rfl #[true, false, true, true, true, true, true, true, true, true, true, true, false, false, false, false, false, false, false, false] [(94, .int .i64 (↑(nodW l) : Int))] (by kernel_rfl) (fun _ _ _ _ _ h => h) (by kernel_rfl) hS28 ?_
              refine h_val 12 8 rfl (.int .i64 (↑((i + 1) * (nodW l)) : Int)) rfl (by kernel_rfl) (by kernel_rfl) (by kernel_rfl) (fun _ _ _ _ _ h => h) (by kernel_rfl) (fun V hV => run_wrap .i64 ((↑(i + 1) : Int) * (↑(nodW l) : Int)) (↑((i + 1) * (nodW l)) : Int) (by kernel_rfl) ((show IntKind.i64.wrap ((↑(i + 1) : Int) * (↑(nodW l) : Int)) = ((↑(i + 1) : Int) * (↑(nodW l) : Int)) from by first | exact IntWalk.i64_in _ (by omega) | (simp only [IntKind.wrap]; omega)).trans (by omega)) V) hS28 ?_
              refine h_val 13 7 rfl (.int .i64 (↑((12 + ((nodM l) * 8)) + ((i + 1) * (nodW l))) : Int)) rfl (by kernel_rfl) (by kernel_rfl) (by kernel_rfl) (fun _ _ _ _ _ h => h) (by kernel_rfl) (fun V hV => run_wrap .i64 ((↑(12 + ((nodM l) * 8)) : Int) + (↑((i + 1) * (nodW l)) : Int)) (↑((12 + ((nodM l) * 8)) + ((i + 1) * (nodW l))) : Int) (by kernel_rfl) ((show IntKind.i64.wrap ((↑(12 + ((nodM l) * 8)) : Int) + (↑((i + 1) * (nodW l)) : Int)) = ((↑(12 + ((nodM l) * 8)) : Int) + (↑((i + 1) * (nodW l)) : Int)) from by first | exact IntWalk.i64_in _ (by omega) | (simp only [IntKind.wrap]; omega)).trans (by omega)) V) hS28 ?_
              refine h_val 14 6 rfl (.slice (cutA a ((12 + ((nodM l) * 8)) + (i * (nodW l))) c 1) (((12 + ((nodM l) * 8)) + ((i + 1) * (nodW l))) - ((12 + ((nodM l) * 8)) + (i * (nodW l)))) (c - ((12 + ((nodM l) * 8)) + (i * (nodW l))))) rfl (by kernel_rfl) (by kernel_rfl) (by kernel_rfl) (fun _ _ _ _ _ h => h) (by kernel_rfl) (fun V hV => run_sliceLHA (k := ((12 + ((nodM l) * 8)) + (i * (nodW l)))) (h := ((12 + ((nodM l) * 8)) + ((i + 1) * (nodW l)))) (b := a) (n := 244) (c := c) (i := (↑((12 + ((nodM l) * 8)) + (i * (nodW l))) : Int)) (ki := .i64) (j := (↑((12 + ((nodM l) * 8)) + ((i + 1) * (nodW l))) : Int)) (kj := .i64) 1 rfl (by kernel_rfl) (by kernel_rfl) rfl (by kernel_rfl) rfl (by omega) (by omega) Try.underlying22 (by kernel_rfl) V) hS28 ?_
              refine h_val 15 5 rfl (.string ⟨(valN l i).toArray⟩) rfl (by kernel_rfl) (by kernel_rfl) (by kernel_rfl) (fun _ _ _ _ _ h => h) (by kernel_rfl) (fun V hV => run_bstr rfl (by kernel_rfl) ((valN_bys h hl (by omega) hiw).below (hBd30.trans hV)) (valN_lenN hl (by omega) hiw) Try.underlying22 Try.underlying5 Try.underlying9) hS28 ?_
              refine h_two 1 16 4 rfl (by kernel_rfl) rfl rfl (by kernel_rfl) (by kernel_rfl) ?_ ?_
              · refine op_load ⟨b6, 3, none⟩ (.slice vp i vc) rfl (by kernel_rfl) (by kernel_rfl) (k27.cell (i := 3) rfl) ?_
                have hS31 : Below w.heap.size (W27.drew) (W27.drew) := hS28
                refine ⟨hS31, ?_⟩
                refine h_one 16 3 rfl (by kernel_rfl) rfl (by kernel_rfl) (op_buildSlice 9 [.string ⟨(valN l i).toArray⟩] rfl (by kernel_rfl) ?_)
                intro b32 W32 n32
                have d32_b1 := n32.ne k21_b1
                have d32_b6 := n32.ne k27
                have g32 := n32.ge hB
                have r32_hV := own_ne hV n32
                replace hB := Bl.next hB n32.below
                replace k21_b1 := k21_b1.below n32.below
                replace k27 := k27.below n32.below
                replace hV := own_below hV n32.below
                replace o26 := own_below o26 n32.below
                have k32 := n32.blk
                have hS33 : Below w.heap.size (W27.drew) (W32) := Bl.nextB hS31 (Nat.le_trans (Nat.le_refl _) hBd30.size) n32.below
                refine ⟨hS33, ?_⟩
                refine h_one 17 2 rfl (by kernel_rfl) rfl (by kernel_rfl) (op_app (e := 9) (n := i) (xs := (valsL l i).map sv) (m := 1) (news := [.string ⟨(valN l i).toArray⟩]) (.string ⟨#[]⟩) 1 16 (i + 1) ((valsL l (i + 1)).map sv) rfl Try.underlying34 (by kernel_rfl) rfl (by decide) (by kernel_rfl) hV (by kernel_rfl) (k32.sl 1 1 (by decide) (by decide)) rfl (by simp [Value.oneCell']) (by unfold maxLen; omega) (by omega) hB.size (by rfl) (by rw [valsL_snoc, List.map_append]; rfl) ?_)
                intro p34 c34 W34 o34 hg34 hb34
                replace k21_b1 := k21_b1.grown hg34 hV (by decide)
                replace k27 := k27.grown hg34 hV (by decide)
                replace o26 := own_grown o26 hg34 hV (by decide)
                replace hB := hB.trans hb34
                have hS35 : Below w.heap.size (W27.drew) (W34) := hS33.trans hb34
                refine ⟨hS35, ?_⟩
                refine h_pv [18] 1 rfl #[true, true, true, true, true, true, true, true, true, true, true, true, true, true, true, true, true, true, true, false] [(101, .pointer (some ⟨b6, 3, none⟩))] (by kernel_rfl) (fun _ _ _ _ _ h => h) (by kernel_rfl) hS35 ?_
                refine h_one 19 0 rfl (by kernel_rfl) rfl (by kernel_rfl) (op_store (v := .slice p34 (i + 1) c34) (b := b6) (off := 3) rfl (by kernel_rfl) (by kernel_rfl) (by kernel_rfl) rfl k27 (by first | decide | simp) ?_)
                intro W36 u36 k36
                change Blk _ _ [.int .i64 (nodT l), .bool (nodL l), .slice p26 (i + 1) c26, .slice p34 (i + 1) c34] _ at k36
                replace hB := u36.below hB g6
                replace k21_b1 := u36.blk k21_b1 (Ne.symm (Ne.symm d6_b1))
                replace o26 := u36.own2 o26 k27 (by decide)
                replace o34 := u36.own2 o34 k27 (by decide)
                have hS37 : Below w.heap.size (W27.drew) (W36) := u36.below hS35 g6
                refine ⟨hS37, ?_⟩
                refine h_done _ (by kernel_rfl) ?_
                refine wp_region_lit ?_
                refine g_op (by kernel_rfl) (op_val (run_wrap .i64 ((↑i : Int) + 1) (↑(i + 1) : Int) (by kernel_rfl) ((show IntKind.i64.wrap ((↑i : Int) + 1) = ((↑i : Int) + 1) from by first | exact IntWalk.i64_in _ (by omega) | (simp only [IntKind.wrap]; omega)).trans (by omega)) _) ?_)
                refine g_pv 1 [(56, .int .i64 (↑(i + 1) : Int))] (by kernel_rfl) ?_
                refine wpList_nil ?_
                refine g_nfr ⟨#[.slice a 244 c, undef, .pointer (some ⟨b1, 0, none⟩), (x21 0), .pointer (some ⟨b6, 0, none⟩), .int .i64 (↑(nodC l) : Int), .bool true, .int .i64 (↑(nodW l) : Int), .int .i64 (↑(nodM l) : Int), .int .i64 (↑(12 + ((nodM l) * 8)) : Int), .int .i64 (↑i : Int), .int .i64 (↑(keyN l i) : Int), .int .i64 0, .tuple #[.agg #[.int .i64 (nodT l), .bool (nodL l), .slice none 0 0, .slice none 0 0], .int .i64 (↑(nodC l) : Int), .bool true], .slice a 244 c, .tuple #[.agg #[.int .i64 (nodT l), .bool (nodL l), .slice none 0 0, .slice none 0 0], .int .i64 (↑(nodC l) : Int), .bool true], .agg #[.int .i64 (nodT l), .bool (nodL l), .slice none 0 0, .slice none 0 0], .int .i64 (↑(nodC l) : Int), .bool true, .bool true, .bool false, undef, .pointer (some ⟨b6, 0, none⟩), .int .i64 (nodT l), .pointer (some ⟨b6, 1, none⟩), .bool (nodL l), .int .i64 (↑(nodW l) : Int), .pointer (some ⟨b6, 0, none⟩), .int .i64 (nodT l), .pointer (some ⟨b6, 1, none⟩), .bool (nodL l), .int .i64 (↑(nodM l) : Int), .int .i64 (↑(nodM l) : Int), .int .i64 (↑((nodM l) * 8) : Int), .int .i64 (↑(12 + ((nodM l) * 8)) : Int), .slice a 244 c, .int .i64 (↑(nodC l) : Int), .int .i64 (↑((nodC l) * 8) : Int), .int .i64 (↑(12 + ((nodC l) * 8)) : Int), .int .i64 (↑(12 + ((nodM l) * 8)) : Int), .slice (cutA a (12 + ((nodC l) * 8)) c 1) ((12 + ((nodM l) * 8)) - (12 + ((nodC l) * 8))) (c - (12 + ((nodC l) * 8))), .bool (zeroB ((l.drop (node0 l)).take (node1 l - node0 l))), .bool false, .bool false, .slice a 244 c, .int .i64 (↑(12 + ((nodM l) * 8)) : Int), .int .i64 (↑(nodC l) : Int), .int .i64 (↑(nodW l) : Int), .int .i64 (↑((nodC l) * (nodW l)) : Int), .int .i64 (↑((12 + ((nodM l) * 8)) + ((nodC l) * (nodW l))) : Int), .slice (cutA a ((12 + ((nodM l) * 8)) + ((nodC l) * (nodW l))) c 1) (244 - ((12 + ((nodM l) * 8)) + ((nodC l) * (nodW l)))) (c - ((12 + ((nodM l) * 8)) + ((nodC l) * (nodW l)))), .bool (zeroB ((l.drop (node2 l)).take (244 - node2 l))), .bool (!(zeroB ((l.drop (node2 l)).take (244 - node2 l)))), .bool (!(zeroB ((l.drop (node2 l)).take (244 - node2 l)))), undef, .int .i64 (↑(nodC l) : Int), .int .i64 (↑(i + 1) : Int), .bool (decide ((↑i : Int) < (↑(nodC l) : Int))), .int .i64 (↑i : Int), .tuple #[.int .i64 (↑(keyN l i) : Int), .int .i64 0], .slice a 244 c, .int .i64 (↑i : Int), .int .i64 (↑(i * 8) : Int), .int .i64 (↑(12 + (i * 8)) : Int), .tuple #[.int .i64 (↑(keyN l i) : Int), .int .i64 0], .int .i64 (↑(keyN l i) : Int), .int .i64 0, .int .i64 0, .bool true, .pointer (some ⟨b6, 2, none⟩), .slice kp i kc, .int .i64 (↑(keyN l i) : Int), .int .i64 0, .int .i64 0, .bool false, (x21 22), (x21 23), .pointer (some ⟨b6, 2, none⟩), .slice kp i kc, .int .i64 (↑(keyN l i) : Int), .slice (some ⟨b25, 0, none⟩) 1 1, .slice p26 (i + 1) c26, .pointer (some ⟨b6, 2, none⟩), .pointer (some ⟨b6, 3, none⟩), .slice vp i vc, .slice a 244 c, .int .i64 (↑(12 + ((nodM l) * 8)) : Int), .int .i64 (↑i : Int), .int .i64 (↑(nodW l) : Int), .int .i64 (↑(i * (nodW l)) : Int), .int .i64 (↑((12 + ((nodM l) * 8)) + (i * (nodW l))) : Int), .int .i64 (↑(12 + ((nodM l) * 8)) : Int), .int .i64 (↑i : Int), .int .i64 (↑(i + 1) : Int), .int .i64 (↑(nodW l) : Int), .int .i64 (↑((i + 1) * (nodW l)) : Int), .int .i64 (↑((12 + ((nodM l) * 8)) + ((i + 1) * (nodW l))) : Int), .slice (cutA a ((12 + ((nodM l) * 8)) + (i * (nodW l))) c 1) (((12 + ((nodM l) * 8)) + ((i + 1) * (nodW l))) - ((12 + ((nodM l) * 8)) + (i * (nodW l)))) (c - ((12 + ((nodM l) * 8)) + (i * (nodW l)))), .string ⟨(valN l i).toArray⟩, .slice (some ⟨b32, 0, none⟩) 1 1, .slice p34 (i + 1) c34, .pointer (some ⟨b6, 3, none⟩), .int .i64 (↑(i + 1) : Int), undef], []⟩ (by kernel_rfl) ?_
                refine ⟨⟨i + 1, _, _, _, _, (pk [(x21 0), .int .i64 (↑i : Int), .int .i64 (↑(keyN l i) : Int), .int .i64 0, .bool (decide ((↑i : Int) < (↑(nodC l) : Int))), .int .i64 (↑i : Int), .tuple #[.int .i64 (↑(keyN l i) : Int), .int .i64 0], .slice a 244 c, .int .i64 (↑i : Int), .int .i64 (↑(i * 8) : Int), .int .i64 (↑(12 + (i * 8)) : Int), .tuple #[.int .i64 (↑(keyN l i) : Int), .int .i64 0], .int .i64 (↑(keyN l i) : Int), .int .i64 0, .int .i64 0, .bool true, .pointer (some ⟨b6, 2, none⟩), .slice kp i kc, .int .i64 (↑(keyN l i) : Int), .int .i64 0, .int .i64 0, .bool false, (x21 22), (x21 23), .pointer (some ⟨b6, 2, none⟩), .slice kp i kc, .int .i64 (↑(keyN l i) : Int), .slice (some ⟨b25, 0, none⟩) 1 1, .slice p26 (i + 1) c26, .pointer (some ⟨b6, 2, none⟩), .pointer (some ⟨b6, 3, none⟩), .slice vp i vc, .slice a 244 c, .int .i64 (↑(12 + ((nodM l) * 8)) : Int), .int .i64 (↑i : Int), .int .i64 (↑(nodW l) : Int), .int .i64 (↑(i * (nodW l)) : Int), .int .i64 (↑((12 + ((nodM l) * 8)) + (i * (nodW l))) : Int), .int .i64 (↑(12 + ((nodM l) * 8)) : Int), .int .i64 (↑i : Int), .int .i64 (↑(i + 1) : Int), .int .i64 (↑(nodW l) : Int), .int .i64 (↑((i + 1) * (nodW l)) : Int), .int .i64 (↑((12 + ((nodM l) * 8)) + ((i + 1) * (nodW l))) : Int), .slice (cutA a ((12 + ((nodM l) * 8)) + (i * (nodW l))) c 1) (((12 + ((nodM l) * 8)) + ((i + 1) * (nodW l))) - ((12 + ((nodM l) * 8)) + (i * (nodW l)))) (c - ((12 + ((nodM l) * 8)) + (i * (nodW l)))), .string ⟨(valN l i).toArray⟩, .slice (some ⟨b32, 0, none⟩) 1 1, .slice p34 (i + 1) c34, .pointer (some ⟨b6, 3, none⟩), .int .i64 (↑(i + 1) : Int)]), rfl, hB, k21_b1, k36, o26, o34, by omega, keysErr_next hz hz0⟩, ?_⟩
                show nodC l - ((↑(i + 1) : Int)).toNat < nodC l - ((↑i : Int)).toNat
                omega
              · refine op_buildSlice 9 [.string ⟨(valN l i).toArray⟩] rfl (by kernel_rfl) ?_
                intro b38 W38 n38
                have d38_b1 := n38.ne k21_b1
                have d38_b6 := n38.ne k27
                have g38 := n38.ge hB
                have r38_hV := own_ne hV n38
                replace hB := Bl.next hB n38.below
                replace k21_b1 := k21_b1.below n38.below
                replace k27 := k27.below n38.below
                replace hV := own_below hV n38.below
                replace o26 := own_below o26 n38.below
                have k38 := n38.blk
                have hS39 : Below w.heap.size (W27.drew) (W38) := Bl.nextB hS28 (Nat.le_trans (Nat.le_refl _) hBd30.size) n38.below
                refine ⟨hS39, ?_⟩
                refine h_one 1 3 rfl (by kernel_rfl) rfl (by kernel_rfl) (op_load ⟨b6, 3, none⟩ (.slice vp i vc) rfl (by kernel_rfl) (by kernel_rfl) (k27.cell (i := 3) rfl) ?_)
                have hS40 : Below w.heap.size (W27.drew) (W38) := hS39
                refine ⟨hS40, ?_⟩
                refine h_one 17 2 rfl (by kernel_rfl) rfl (by kernel_rfl) (op_app (e := 9) (n := i) (xs := (valsL l i).map sv) (m := 1) (news := [.string ⟨(valN l i).toArray⟩]) (.string ⟨#[]⟩) 1 16 (i + 1) ((valsL l (i + 1)).map sv) rfl Try.underlying34 (by kernel_rfl) rfl (by decide) (by kernel_rfl) hV (by kernel_rfl) (k38.sl 1 1 (by decide) (by decide)) rfl (by simp [Value.oneCell']) (by unfold maxLen; omega) (by omega) hB.size (by rfl) (by rw [valsL_snoc, List.map_append]; rfl) ?_)
                intro p41 c41 W41 o41 hg41 hb41
                replace k21_b1 := k21_b1.grown hg41 hV (by decide)
                replace k27 := k27.grown hg41 hV (by decide)
                replace o26 := own_grown o26 hg41 hV (by decide)
                replace hB := hB.trans hb41
                have hS42 : Below w.heap.size (W27.drew) (W41) := hS40.trans hb41
                refine ⟨hS42, ?_⟩
                refine h_pv [18] 1 rfl #[true, true, true, true, true, true, true, true, true, true, true, true, true, true, true, true, true, true, true, false] [(101, .pointer (some ⟨b6, 3, none⟩))] (by kernel_rfl) (fun _ _ _ _ _ h => h) (by kernel_rfl) hS42 ?_
                refine h_one 19 0 rfl (by kernel_rfl) rfl (by kernel_rfl) (op_store (v := .slice p41 (i + 1) c41) (b := b6) (off := 3) rfl (by kernel_rfl) (by kernel_rfl) (by kernel_rfl) rfl k27 (by first | decide | simp) ?_)
                intro W43 u43 k43
                change Blk _ _ [.int .i64 (nodT l), .bool (nodL l), .slice p26 (i + 1) c26, .slice p41 (i + 1) c41] _ at k43
                replace hB := u43.below hB g6
                replace k21_b1 := u43.blk k21_b1 (Ne.symm (Ne.symm d6_b1))
                replace o26 := u43.own2 o26 k27 (by decide)
                replace o41 := u43.own2 o41 k27 (by decide)
                have hS44 : Below w.heap.size (W27.drew) (W43) := u43.below hS42 g6
                refine ⟨hS44, ?_⟩
                refine h_done _ (by kernel_rfl) ?_
                refine wp_region_lit ?_
                refine g_op (by kernel_rfl) (op_val (run_wrap .i64 ((↑i : Int) + 1) (↑(i + 1) : Int) (by kernel_rfl) ((show IntKind.i64.wrap ((↑i : Int) + 1) = ((↑i : Int) + 1) from by first | exact IntWalk.i64_in _ (by omega) | (simp only [IntKind.wrap]; omega)).trans (by omega)) _) ?_)
                refine g_pv 1 [(56, .int .i64 (↑(i + 1) : Int))] (by kernel_rfl) ?_
                refine wpList_nil ?_
                refine g_nfr ⟨#[.slice a 244 c, undef, .pointer (some ⟨b1, 0, none⟩), (x21 0), .pointer (some ⟨b6, 0, none⟩), .int .i64 (↑(nodC l) : Int), .bool true, .int .i64 (↑(nodW l) : Int), .int .i64 (↑(nodM l) : Int), .int .i64 (↑(12 + ((nodM l) * 8)) : Int), .int .i64 (↑i : Int), .int .i64 (↑(keyN l i) : Int), .int .i64 0, .tuple #[.agg #[.int .i64 (nodT l), .bool (nodL l), .slice none 0 0, .slice none 0 0], .int .i64 (↑(nodC l) : Int), .bool true], .slice a 244 c, .tuple #[.agg #[.int .i64 (nodT l), .bool (nodL l), .slice none 0 0, .slice none 0 0], .int .i64 (↑(nodC l) : Int), .bool true], .agg #[.int .i64 (nodT l), .bool (nodL l), .slice none 0 0, .slice none 0 0], .int .i64 (↑(nodC l) : Int), .bool true, .bool true, .bool false, undef, .pointer (some ⟨b6, 0, none⟩), .int .i64 (nodT l), .pointer (some ⟨b6, 1, none⟩), .bool (nodL l), .int .i64 (↑(nodW l) : Int), .pointer (some ⟨b6, 0, none⟩), .int .i64 (nodT l), .pointer (some ⟨b6, 1, none⟩), .bool (nodL l), .int .i64 (↑(nodM l) : Int), .int .i64 (↑(nodM l) : Int), .int .i64 (↑((nodM l) * 8) : Int), .int .i64 (↑(12 + ((nodM l) * 8)) : Int), .slice a 244 c, .int .i64 (↑(nodC l) : Int), .int .i64 (↑((nodC l) * 8) : Int), .int .i64 (↑(12 + ((nodC l) * 8)) : Int), .int .i64 (↑(12 + ((nodM l) * 8)) : Int), .slice (cutA a (12 + ((nodC l) * 8)) c 1) ((12 + ((nodM l) * 8)) - (12 + ((nodC l) * 8))) (c - (12 + ((nodC l) * 8))), .bool (zeroB ((l.drop (node0 l)).take (node1 l - node0 l))), .bool false, .bool false, .slice a 244 c, .int .i64 (↑(12 + ((nodM l) * 8)) : Int), .int .i64 (↑(nodC l) : Int), .int .i64 (↑(nodW l) : Int), .int .i64 (↑((nodC l) * (nodW l)) : Int), .int .i64 (↑((12 + ((nodM l) * 8)) + ((nodC l) * (nodW l))) : Int), .slice (cutA a ((12 + ((nodM l) * 8)) + ((nodC l) * (nodW l))) c 1) (244 - ((12 + ((nodM l) * 8)) + ((nodC l) * (nodW l)))) (c - ((12 + ((nodM l) * 8)) + ((nodC l) * (nodW l)))), .bool (zeroB ((l.drop (node2 l)).take (244 - node2 l))), .bool (!(zeroB ((l.drop (node2 l)).take (244 - node2 l)))), .bool (!(zeroB ((l.drop (node2 l)).take (244 - node2 l)))), undef, .int .i64 (↑(nodC l) : Int), .int .i64 (↑(i + 1) : Int), .bool (decide ((↑i : Int) < (↑(nodC l) : Int))), .int .i64 (↑i : Int), .tuple #[.int .i64 (↑(keyN l i) : Int), .int .i64 0], .slice a 244 c, .int .i64 (↑i : Int), .int .i64 (↑(i * 8) : Int), .int .i64 (↑(12 + (i * 8)) : Int), .tuple #[.int .i64 (↑(keyN l i) : Int), .int .i64 0], .int .i64 (↑(keyN l i) : Int), .int .i64 0, .int .i64 0, .bool true, .pointer (some ⟨b6, 2, none⟩), .slice kp i kc, .int .i64 (↑(keyN l i) : Int), .int .i64 0, .int .i64 0, .bool false, (x21 22), (x21 23), .pointer (some ⟨b6, 2, none⟩), .slice kp i kc, .int .i64 (↑(keyN l i) : Int), .slice (some ⟨b25, 0, none⟩) 1 1, .slice p26 (i + 1) c26, .pointer (some ⟨b6, 2, none⟩), .pointer (some ⟨b6, 3, none⟩), .slice vp i vc, .slice a 244 c, .int .i64 (↑(12 + ((nodM l) * 8)) : Int), .int .i64 (↑i : Int), .int .i64 (↑(nodW l) : Int), .int .i64 (↑(i * (nodW l)) : Int), .int .i64 (↑((12 + ((nodM l) * 8)) + (i * (nodW l))) : Int), .int .i64 (↑(12 + ((nodM l) * 8)) : Int), .int .i64 (↑i : Int), .int .i64 (↑(i + 1) : Int), .int .i64 (↑(nodW l) : Int), .int .i64 (↑((i + 1) * (nodW l)) : Int), .int .i64 (↑((12 + ((nodM l) * 8)) + ((i + 1) * (nodW l))) : Int), .slice (cutA a ((12 + ((nodM l) * 8)) + (i * (nodW l))) c 1) (((12 + ((nodM l) * 8)) + ((i + 1) * (nodW l))) - ((12 + ((nodM l) * 8)) + (i * (nodW l)))) (c - ((12 + ((nodM l) * 8)) + (i * (nodW l)))), .string ⟨(valN l i).toArray⟩, .slice (some ⟨b38, 0, none⟩) 1 1, .slice p41 (i + 1) c41, .pointer (some ⟨b6, 3, none⟩), .int .i64 (↑(i + 1) : Int), undef], []⟩ (by kernel_rfl) ?_
                refine ⟨⟨i + 1, _, _, _, _, (pk [(x21 0), .int .i64 (↑i : Int), .int .i64 (↑(keyN l i) : Int), .int .i64 0, .bool (decide ((↑i : Int) < (↑(nodC l) : Int))), .int .i64 (↑i : Int), .tuple #[.int .i64 (↑(keyN l i) : Int), .int .i64 0], .slice a 244 c, .int .i64 (↑i : Int), .int .i64 (↑(i * 8) : Int), .int .i64 (↑(12 + (i * 8)) : Int), .tuple #[.int .i64 (↑(keyN l i) : Int), .int .i64 0], .int .i64 (↑(keyN l i) : Int), .int .i64 0, .int .i64 0, .bool true, .pointer (some ⟨b6, 2, none⟩), .slice kp i kc, .int .i64 (↑(keyN l i) : Int), .int .i64 0, .int .i64 0, .bool false, (x21 22), (x21 23), .pointer (some ⟨b6, 2, none⟩), .slice kp i kc, .int .i64 (↑(keyN l i) : Int), .slice (some ⟨b25, 0, none⟩) 1 1, .slice p26 (i + 1) c26, .pointer (some ⟨b6, 2, none⟩), .pointer (some ⟨b6, 3, none⟩), .slice vp i vc, .slice a 244 c, .int .i64 (↑(12 + ((nodM l) * 8)) : Int), .int .i64 (↑i : Int), .int .i64 (↑(nodW l) : Int), .int .i64 (↑(i * (nodW l)) : Int), .int .i64 (↑((12 + ((nodM l) * 8)) + (i * (nodW l))) : Int), .int .i64 (↑(12 + ((nodM l) * 8)) : Int), .int .i64 (↑i : Int), .int .i64 (↑(i + 1) : Int), .int .i64 (↑(nodW l) : Int), .int .i64 (↑((i + 1) * (nodW l)) : Int), .int .i64 (↑((12 + ((nodM l) * 8)) + ((i + 1) * (nodW l))) : Int), .slice (cutA a ((12 + ((nodM l) * 8)) + (i * (nodW l))) c 1) (((12 + ((nodM l) * 8)) + ((i + 1) * (nodW l))) - ((12 + ((nodM l) * 8)) + (i * (nodW l)))) (c - ((12 + ((nodM l) * 8)) + (i * (nodW l)))), .string ⟨(valN l i).toArray⟩, .slice (some ⟨b38, 0, none⟩) 1 1, .slice p41 (i + 1) c41, .pointer (some ⟨b6, 3, none⟩), .int .i64 (↑(i + 1) : Int)]), rfl, hB, k21_b1, k43, o26, o41, by omega, keysErr_next hz hz0⟩, ?_⟩
                show nodC l - ((↑(i + 1) : Int)).toNat < nodC l - ((↑i : Int)).toNat
                omega
            · refine ⟨_, rfl, ?_⟩
              replace hB := Bl.next hB hb24
              replace k21_b1 := k21_b1.below hb24
              replace k21_b6 := k21_b6.below hb24
              replace hK := own_below hK hb24
              replace hV := own_below hV hb24
              refine g_pv 1 [(12, .int .i64 (keyE l i))] (by kernel_rfl) ?_
              refine wpList_nil ?_
              refine wp_seq ?_
              refine wp_seq ?_
              refine wp_region_lit ?_
              refine g_pv 2 [(73, .int .i64 (keyE l i)), (74, .bool ((keyE l i) != (0 : Int)))] (by kernel_rfl) ?_
              refine wpList_nil ?_
              refine wp_cond_split (t := ((keyE l i) != (0 : Int))) (by kernel_rfl) (fun _ => ?_) (fun hh => absurd (hh.symm.trans (show (((keyE l i) != (0 : Int)) : Bool) = true from bne_iff_ne.2 hz0)) (by decide))
              refine wp_seq ?_
              refine wp_region_lit ?_
              refine g_pv 2 [(75, .agg #[.int .i64 0, .bool false, .slice none 0 0, .slice none 0 0]), (76, .int .i64 (keyE l i))] (by kernel_rfl) ?_
              refine g_op (by kernel_rfl) (op_storev (b := b1) (off := 0) [.int .i64 0, .bool false, .slice none 0 0, .slice none 0 0] rfl (by kernel_rfl) (by kernel_rfl) (by kernel_rfl) (by first | decide | simp [Value.oneCell']) k21_b1 (by first | decide | simp) ?_)
              intro W46 u46 k46
              change Blk _ _ [.int .i64 0, .bool false, .slice none 0 0, .slice none 0 0] _ at k46
              replace hB := u46.below hB g1
              replace k21_b6 := u46.blk k21_b6 (Ne.symm d6_b1)
              replace hK := u46.own2 hK k21_b1 (by decide)
              replace hV := u46.own2 hV k21_b1 (by decide)
              refine g_pv 1 [(3, .int .i64 (keyE l i))] (by kernel_rfl) ?_
              refine wpList_nil ?_
              refine wp_ret (then_ret (inBlock_ret (then_ret (then_ret (inBlock_ret (then_ret ?_))))))
              refine g_ret (.tuple #[.agg #[.int .i64 0, .bool false, .slice none 0 0, .slice none 0 0], .int .i64 (keyE l i)]) (by kernel_rfl) (res_ct (d := _) (cs := [.int .i64 0, .bool false, .slice none 0 0, .slice none 0 0]) rfl (by kernel_rfl) (by kernel_rfl) k46.whole Try.underlying36 rfl (by kernel_rfl)) ?_
              have he : nodeE l = keyE l i := by unfold nodeE; rw [if_pos hs, if_pos hnz, keysErr_at hz hz0 (by omega)]
              exact .inl ⟨by rw [he]; exact hz0, by rw [he], hB⟩
          · refine ⟨_, rfl, ?_⟩
            replace hB := Bl.next hB hb23
            replace k21_b1 := k21_b1.below hb23
            replace k21_b6 := k21_b6.below hb23
            replace hK := own_below hK hb23
            replace hV := own_below hV hb23
            refine g_pv 5 [(59, .tuple #[.int .i64 0, .int .i64 2]), (65, .int .i64 0), (66, .int .i64 2), (11, .int .i64 0), (12, .int .i64 2)] (by kernel_rfl) ?_
            refine wpList_nil ?_
            refine wp_seq ?_
            refine wp_seq ?_
            refine wp_region_lit ?_
            refine g_pv 2 [(67, .int .i64 2), (68, .bool false)] (by kernel_rfl) ?_
            refine wpList_nil ?_
            refine wp_cond_false (by kernel_rfl) ?_
            refine wp_skip ?_
            refine wp_seq ?_
            refine wp_seq ?_
            refine wp_region_lit ?_
            refine g_pv 2 [(73, .int .i64 2), (74, .bool true)] (by kernel_rfl) ?_
            refine wpList_nil ?_
            refine wp_cond_true (by kernel_rfl) ?_
            refine wp_seq ?_
            refine wp_region_lit ?_
            refine g_pv 2 [(75, .agg #[.int .i64 0, .bool false, .slice none 0 0, .slice none 0 0]), (76, .int .i64 2)] (by kernel_rfl) ?_
            refine g_op (by kernel_rfl) (op_storev (b := b1) (off := 0) [.int .i64 0, .bool false, .slice none 0 0, .slice none 0 0] rfl (by kernel_rfl) (by kernel_rfl) (by kernel_rfl) (by first | decide | simp [Value.oneCell']) k21_b1 (by first | decide | simp) ?_)
            intro W47 u47 k47
            change Blk _ _ [.int .i64 0, .bool false, .slice none 0 0, .slice none 0 0] _ at k47
            replace hB := u47.below hB g1
            replace k21_b6 := u47.blk k21_b6 (Ne.symm d6_b1)
            replace hK := u47.own2 hK k21_b1 (by decide)
            replace hV := u47.own2 hV k21_b1 (by decide)
            refine g_pv 1 [(3, .int .i64 2)] (by kernel_rfl) ?_
            refine wpList_nil ?_
            refine wp_ret (then_ret (inBlock_ret (then_ret (then_ret (inBlock_ret (then_ret ?_))))))
            refine g_ret (.tuple #[.agg #[.int .i64 0, .bool false, .slice none 0 0, .slice none 0 0], .int .i64 2]) (by kernel_rfl) (res_ct (d := _) (cs := [.int .i64 0, .bool false, .slice none 0 0, .slice none 0 0]) rfl (by kernel_rfl) (by kernel_rfl) k47.whole Try.underlying36 rfl (by kernel_rfl)) ?_
            have hke : keyE l i = 2 := by unfold keyE; rw [if_pos (by unfold keyN; omega)]
            have he : nodeE l = 2 := by unfold nodeE; rw [if_pos hs, if_pos hnz, keysErr_at hz (by rw [hke]; decide) (by omega), hke]
            exact .inl ⟨by rw [he]; decide, by rw [he], hB⟩
        · have hc22 := of_decide_eq_false hc22
          refine wp_exit ?_
          refine then_exit ?_
          refine then_exit ?_
          refine inBlock_hit ?_
          refine wp_seq ?_
          refine wp_region_lit ?_
          refine g_op (by kernel_rfl) (op_loadv (b := b6) (off := 0) [.int .i64 (nodT l), .bool (nodL l), .slice kp i kc, .slice vp i vc] _ rfl (by kernel_rfl) Try.underlying36 rfl (by kernel_rfl) k21_b6.whole ?_)
          refine g_op (by kernel_rfl) (op_storev (b := b1) (off := 0) [.int .i64 (nodT l), .bool (nodL l), .slice kp i kc, .slice vp i vc] rfl (by kernel_rfl) (by kernel_rfl) (by kernel_rfl) (by first | decide | simp [Value.oneCell']) k21_b1 (by first | decide | simp) ?_)
          intro W48 u48 k48
          change Blk _ _ [.int .i64 (nodT l), .bool (nodL l), .slice kp i kc, .slice vp i vc] _ at k48
          replace hB := u48.below hB g1
          replace k21_b6 := u48.blk k21_b6 (Ne.symm d6_b1)
          replace hK := u48.own2 hK k21_b1 (by decide)
          replace hV := u48.own2 hV k21_b1 (by decide)
          refine g_pv 1 [(3, .int .i64 0)] (by kernel_rfl) ?_
          refine wpList_nil ?_
          refine wp_ret ?_
          refine g_ret (.tuple #[.agg #[.int .i64 (nodT l), .bool (nodL l), .slice kp i kc, .slice vp i vc], .int .i64 0]) (by kernel_rfl) (res_ct (d := _) (cs := [.int .i64 (nodT l), .bool (nodL l), .slice kp i kc, .slice vp i vc]) rfl (by kernel_rfl) (by kernel_rfl) k48.whole Try.underlying36 rfl (by kernel_rfl)) ?_
          obtain rfl : i = nodC l := by omega
          exact .inr ⟨by unfold nodeE; rw [if_pos hs, if_pos hnz, hz], _, _, _, _, rfl, hB, hK, hV⟩
end Go.Proofs.Ytoiblgeheblddaa

