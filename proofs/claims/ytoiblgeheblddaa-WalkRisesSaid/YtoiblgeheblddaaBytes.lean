/- Bytes: slices.Clone of bytes, and package code: what there, fits, bytes and Put return. -/
import Derived.Test.YtoiblgeheblddaaProg
import Derived.Test.YtoiblgeheblddaaGw
namespace Go.Proofs.Ytoiblgeheblddaa
open Go.RowKit Go.Extern.Stop Go.Stop Go.Extern
set_option linter.unusedVariables false
attribute [local irreducible] wpList wpAnyH Code.wp Oper.wp

def bv (x : UInt8) : Value := .int .u8 (x.toNat : Int)
def Bys (w : World) (v : Value) (l : List UInt8) : Prop := Sl w v l.length (l.map bv)
theorem Bys.below {w w' : World} {v : Value} {l : List UInt8} (h : Bys w v l) (hb : Below w.heap.size w w') : Bys w' v l := Sl.below h hb
/-- a row of bytes of the call's own -/
def OwnB (base : Nat) (w : World) (v : Value) (l : List UInt8) : Prop := w.ownsRow base 5 1 v l.length (l.map bv)
theorem OwnB.bys {base : Nat} {w : World} {v : Value} {l : List UInt8} (h : OwnB base w v l) : Bys w v l := own_sl h
theorem bv_one (l : List UInt8) : ∀ u ∈ l.map bv, u.oneCell' = true := by
  intro u hu
  obtain ⟨x, _, rfl⟩ := List.mem_map.1 hu
  rfl
set_option maxRecDepth 100000 in
set_option maxHeartbeats 1000000 in
theorem clone_some (p : Addr) (c : Nat) (l : List UInt8) (w : World) (h : Bys w (.slice (some p) l.length c) l) (hl : l.length ≤ 100000000) :
    Calls Try.prog 12 #[.slice (some p) l.length c] w (RetS (fun w' r => OwnB w.heap.size w' r l) w) := by
  refine calls_of_wp Try.func12 rfl ?_
  refine g_fr ⟨#[.slice (some p) l.length c, undef, undef, undef, undef, undef, undef, undef], []⟩ (by kernel_rfl) ?_
  refine wp_seq ?_
  refine wp_region_lit ?_
  refine g_pv 1 [(2, .slice none 0 0)] (by kernel_rfl) ?_
  refine wpList_nil ?_
  refine wp_seq ?_
  refine wp_seq ?_
  refine wp_region_lit ?_
  refine g_pv 2 [(3, .slice (some p) l.length c), (4, .bool false)] (by kernel_rfl) ?_
  refine wpList_nil ?_
  refine wp_cond_false (by kernel_rfl) ?_
  refine wp_skip ?_
  refine wp_seq ?_
  refine wp_region_lit ?_
  refine g_op (by kernel_rfl) (op_buildSlice0 rfl Try.underlying22 (by kernel_rfl) ?_)
  intro b1 W1 n1
  have g1 := n1.ge (Below.refl w.heap.size _)
  have hB := n1.below
  have k1 := n1.blk
  have o2 := own_of_blk (size := 1) (n := 0) k1 g1 rfl (by decide)
  refine g_pv 1 [(6, .slice (some p) l.length c)] (by kernel_rfl) ?_
  refine g_op (by kernel_rfl) (op_app (e := 5) (n := 0) (xs := []) (m := l.length) (news := l.map bv) (.int .u8 0) 1 1 (l.length) (l.map bv) rfl Try.underlying22 (by kernel_rfl) rfl (by decide) (by kernel_rfl) o2 (by kernel_rfl) (h.below hB) (by simp) (bv_one l) (by unfold maxLen; omega) (by omega) hB.size (by simp) (by simp) ?_)
  intro p3 c3 W3 o3 hg3 hb3
  replace hB := hB.trans hb3
  refine g_pv 1 [(2, .slice p3 l.length c3)] (by kernel_rfl) ?_
  refine wpList_nil ?_
  refine wp_ret ?_
  exact g_ret (.slice p3 l.length c3) (by kernel_rfl) (by kernel_rfl) ⟨_, rfl, hB, o3⟩
set_option maxRecDepth 100000 in
set_option maxHeartbeats 1000000 in
theorem clone_nil (c : Nat) (w : World) :
    Calls Try.prog 12 #[.slice none 0 c] w (RetS (fun w' r => OwnB w.heap.size w' r []) w) := by
  refine calls_of_wp Try.func12 rfl ?_
  refine g_fr ⟨#[.slice none 0 c, undef, undef, undef, undef, undef, undef, undef], []⟩ (by kernel_rfl) ?_
  refine wp_seq ?_
  refine wp_region_lit ?_
  refine g_pv 1 [(2, .slice none 0 0)] (by kernel_rfl) ?_
  refine wpList_nil ?_
  refine wp_seq ?_
  refine wp_seq ?_
  refine wp_region_lit ?_
  refine g_pv 2 [(3, .slice none 0 c), (4, .bool true)] (by kernel_rfl) ?_
  refine wpList_nil ?_
  refine wp_cond_true (by kernel_rfl) ?_
  refine wp_seq ?_
  refine wp_region_lit ?_
  refine g_pv 1 [(2, .slice none 0 0)] (by kernel_rfl) ?_
  refine wpList_nil ?_
  refine wp_ret (then_ret ?_)
  exact g_ret (.slice none 0 0) (by kernel_rfl) (by kernel_rfl) ⟨_, rfl, (Below.refl w.heap.size _), World.ownsRow_nil _ _ _ _⟩
theorem clone_bytes (a : Option Addr) (c : Nat) (l : List UInt8) (w : World) (h : Bys w (.slice a l.length c) l) (hl : l.length ≤ 100000000) :
    Calls Try.prog 12 #[.slice a l.length c] w (RetS (fun w' r => OwnB w.heap.size w' r l) w) := by
  cases a with
  | some p => exact clone_some p c l w h hl
  | none =>
    rcases Sl.at h with hn | ⟨_, _, h1, _⟩
    · obtain rfl : l = [] := by simpa using hn
      exact clone_nil c w
    · cases h1
theorem clone_bytesN (a : Option Addr) (n c : Nat) (l : List UInt8) (w : World) (hn : l.length = n) (h : Bys w (.slice a n c) l) (hl : n ≤ 100000000) :
    Calls Try.prog 12 #[.slice a n c] w (RetS (fun w' r => OwnB w.heap.size w' r l) w) := by
  subst hn; exact clone_bytes a c l w h hl
theorem Blk.bys {w : World} {b : Nat} {cs : List Value} {t : TypeId} (k : Blk w b cs t) (l : List UInt8) (n c : Nat) (hn : l.length = n) (h : cs.take n = l.map bv) (hc : n ≤ c) (hm : c ≤ maxLen) : Bys w (.slice (some ⟨b, 0, none⟩) n c) l :=
  .inr ⟨b, 0, c, by rw [hn], by omega, hm, fun j x hj => by
    rw [Nat.zero_add]
    refine k.cell ?_
    rw [← h] at hj
    have hjn : j < n := by have := (List.getElem?_eq_some_iff.1 hj).1; simp at this; omega
    rwa [List.getElem?_take_of_lt hjn] at hj⟩
/-- byte i of a number -/
def byteAt (n : Int) (i : Nat) : UInt8 := UInt8.ofNat (n.toNat / 256 ^ i)
def leB (n : Int) (w : Nat) : List UInt8 := (List.range w).map (byteAt n)
theorem leB_len (n : Int) (w : Nat) : (leB n w).length = w := by simp [leB]
theorem byte_shr {n : Int} (h : 0 ≤ n) (i : Nat) : IntKind.u8.wrap (Int.fdiv n (2 ^ (8 * i))) = ((byteAt n i).toNat : Int) := by
  obtain ⟨m, rfl⟩ := Int.eq_ofNat_of_zero_le h
  have e : (2 : Int) ^ (8 * i) = ((256 ^ i : Nat) : Int) := by rw [Int.pow_mul]; simp
  rw [e, show Int.fdiv ((m : Nat) : Int) ((256 ^ i : Nat) : Int) = ((m / 256 ^ i : Nat) : Int) from by rw [Int.fdiv_eq_ediv_of_nonneg _ (Int.natCast_nonneg _)]; simp]
  simp [IntKind.wrap, byteAt, IntKind.bits, IntKind.signed]
theorem byte_0 {n : Int} (h : 0 ≤ n) : IntKind.u8.wrap n = ((byteAt n 0).toNat : Int) := by
  have := byte_shr h 0
  simpa using this
/-- bytes put into bytes -/
def putB (l : List UInt8) (k : Nat) (x : List UInt8) : List UInt8 := l.take k ++ x ++ l.drop (k + x.length)
theorem OwnB.some {base : Nat} {w : World} {v : Value} {l : List UInt8} (h : OwnB base w v l) (hl : 0 < l.length) : ∃ g cap, v = .slice (some ⟨g, 0, none⟩) l.length cap ∧ l.length ≤ cap := by
  rcases h.2 with ⟨_, h0⟩ | ⟨g, cap, cur, hv, _, _, hc, _⟩
  · omega
  · exact ⟨g, cap, hv, hc⟩
set_option maxRecDepth 100000 in
set_option maxHeartbeats 1000000 in
theorem known_1 (w : World) :
    Calls Try.prog 42 #[.int .i64 1] w (Ret (.bool true) w) := by
  refine calls_of_wp Try.func42 rfl ?_
  refine g_fr ⟨#[.int .i64 1, undef, undef, undef, undef, undef, undef, undef, undef, undef, undef, undef, undef, undef, undef, undef, undef], []⟩ (by kernel_rfl) ?_
  refine wp_seq ?_
  refine wp_region_lit ?_
  refine g_pv 1 [(2, .bool false)] (by kernel_rfl) ?_
  refine wpList_nil ?_
  refine wp_seq ?_
  refine wp_region_lit ?_
  refine g_pv 15 [(3, .int .i64 1), (4, .bool true), (5, .bool true), (6, undef), (7, undef), (8, .bool true), (9, .bool true), (10, undef), (11, undef), (12, .bool true), (13, .bool true), (14, undef), (15, undef), (16, .bool true), (2, .bool true)] (by kernel_rfl) ?_
  refine wpList_nil ?_
  refine wp_ret ?_
  exact g_ret (.bool true) (by kernel_rfl) (by kernel_rfl) ⟨rfl, (Below.refl w.heap.size _)⟩
set_option maxRecDepth 100000 in
set_option maxHeartbeats 1000000 in
theorem fits_1 (n : Int) (h0 : 0 ≤ n) (hb : n < 256) (w : World) :
    Calls Try.prog 43 #[.int .i64 n, .int .i64 1] w (Ret (.bool true) w) := by
  refine calls_of_wp Try.func43 rfl ?_
  refine g_fr ⟨#[.int .i64 n, .int .i64 1, undef, undef, undef, undef, undef, undef, undef, undef, undef, undef, undef, undef, undef, undef, undef, undef, undef, undef], []⟩ (by kernel_rfl) ?_
  refine wp_seq ?_
  refine wp_region_lit ?_
  refine g_pv 1 [(4, .bool false)] (by kernel_rfl) ?_
  refine wpList_nil ?_
  refine wp_seq ?_
  refine wp_seq ?_
  refine wp_region_lit ?_
  refine g_pv 2 [(5, .int .i64 n), (6, .bool (decide (n < (0 : Int))))] (by kernel_rfl) ?_
  refine wpList_nil ?_
  refine wp_cond_split (t := decide (n < (0 : Int))) (by kernel_rfl) (fun hh => absurd (hh.symm.trans (show (decide (n < (0 : Int)) : Bool) = false from decide_eq_false (by omega))) (by decide)) (fun _ => ?_)
  refine wp_skip ?_
  refine wp_seq ?_
  refine wp_seq ?_
  refine wp_region_lit ?_
  refine g_pv 1 [(7, .int .i64 1)] (by kernel_rfl) ?_
  refine wpList_nil ?_
  refine wp_block ?_
  refine wp_seq ?_
  refine wp_region_lit ?_
  refine g_pv 2 [(9, .bool true), (8, .bool true)] (by kernel_rfl) ?_
  refine wpList_nil ?_
  refine wp_cond_true (by kernel_rfl) ?_
  refine wp_seq ?_
  refine wp_region_lit ?_
  refine g_pv 3 [(10, .int .i64 n), (11, .bool (decide (n < (256 : Int)))), (4, .bool (decide (n < (256 : Int))))] (by kernel_rfl) ?_
  refine wpList_nil ?_
  refine wp_ret (inBlock_ret (then_ret ?_))
  exact g_ret (.bool (decide (n < (256 : Int)))) (by kernel_rfl) (by kernel_rfl) ⟨by rw [decide_eq_true hb], (Below.refl w.heap.size _)⟩
set_option maxRecDepth 100000 in
set_option maxHeartbeats 1000000 in
theorem there_1 (a : Option Addr) (m c k : Nat) (hk : k + 1 ≤ m) (hm : m ≤ 100000000) (w : World) :
    Calls Try.prog 64 #[.slice a m c, .int .i64 (↑k : Int), .int .i64 1] w (Ret (.int .i64 0) w) := by
  refine calls_of_wp Try.func64 rfl ?_
  refine g_fr ⟨#[.slice a m c, .int .i64 (↑k : Int), .int .i64 1, undef, undef, undef, undef, undef, undef, undef, undef, undef, undef, undef, undef, undef, undef, undef, undef, undef, undef, undef, undef, undef, undef, undef, undef, undef], []⟩ (by kernel_rfl) ?_
  refine wp_seq ?_
  refine wp_region_lit ?_
  refine g_pv 1 [(6, .int .i64 0)] (by kernel_rfl) ?_
  refine wpList_nil ?_
  refine wp_seq ?_
  refine wp_block ?_
  refine wp_seq ?_
  refine wp_region_lit ?_
  refine g_pv 1 [(8, .int .i64 1)] (by kernel_rfl) ?_
  refine g_op (by kernel_rfl) (op_call (lb := #[]) 42 #[.int .i64 1] rfl (by kernel_rfl) (fun _ _ => by kernel_rfl) (by kernel_rfl) ((known_1 _).mono ?_))
  rintro e W1 ⟨rfl, hb1⟩
  refine ⟨_, rfl, ?_⟩
  have hB := hb1
  refine g_pv 2 [(10, .bool false), (7, .bool false)] (by kernel_rfl) ?_
  refine wpList_nil ?_
  refine wp_cond_false (by kernel_rfl) ?_
  refine wp_seq ?_
  refine wp_region_lit ?_
  refine g_pv 3 [(12, .int .i64 (↑k : Int)), (13, .bool (decide ((↑k : Int) < (0 : Int)))), (14, .bool (decide ((↑k : Int) < (0 : Int))))] (by kernel_rfl) ?_
  have hc2 : (decide ((↑k : Int) < (0 : Int)) : Bool) = false := decide_eq_false (by omega)
  refine g_b [13, 14] _ _ hc2 (by kernel_rfl) ?_
  refine g_pv 6 [(15, .int .i64 (↑k : Int)), (16, .slice a m c), (17, .int .i64 (↑m : Int)), (18, .bool (decide ((↑k : Int) > (↑m : Int)))), (19, .bool (decide ((↑k : Int) > (↑m : Int)))), (20, .bool (decide ((↑k : Int) > (↑m : Int))))] (by kernel_rfl) ?_
  have hc3 : (decide ((↑k : Int) > (↑m : Int)) : Bool) = false := decide_eq_false (by omega)
  refine g_b [18, 19, 20] _ _ hc3 (by kernel_rfl) ?_
  refine g_pv 3 [(21, .slice a m c), (22, .int .i64 (↑m : Int)), (23, .int .i64 (↑k : Int))] (by kernel_rfl) ?_
  refine g_op (by kernel_rfl) (op_wrap .i64 ((↑m : Int) - (↑k : Int)) ((↑m : Int) - (↑k : Int)) (by kernel_rfl) (by first | exact IntWalk.i64_in _ (by omega) | (simp only [IntKind.wrap]; omega)) ?_)
  refine g_pv 4 [(25, .int .i64 1), (26, .bool (decide ((↑m : Int) - (↑k : Int) < (1 : Int)))), (27, .bool (decide ((↑m : Int) - (↑k : Int) < (1 : Int)))), (11, .bool (decide ((↑m : Int) - (↑k : Int) < (1 : Int))))] (by kernel_rfl) ?_
  refine wpList_nil ?_
  refine wp_cond_split (t := decide ((↑m : Int) - (↑k : Int) < (1 : Int))) (by kernel_rfl) (fun hh => absurd (hh.symm.trans (show (decide ((↑m : Int) - (↑k : Int) < (1 : Int)) : Bool) = false from decide_eq_false (by omega))) (by decide)) (fun _ => ?_)
  refine wp_skip ?_
  refine wp_seq ?_
  refine wp_region_lit ?_
  refine g_pv 1 [(6, .int .i64 0)] (by kernel_rfl) ?_
  refine wpList_nil ?_
  refine wp_ret ?_
  exact g_ret (.int .i64 0) (by kernel_rfl) (by kernel_rfl) ⟨rfl, hB⟩
set_option maxRecDepth 100000 in
set_option maxHeartbeats 1000000 in
theorem bytes_1 (n : Int) (h0 : 0 ≤ n) (w : World) :
    Calls Try.prog 44 #[.int .i64 n, .int .i64 1] w (RetS (fun w' r => OwnB w.heap.size w' r (leB n 1)) w) := by
  refine calls_of_wp Try.func44 rfl ?_
  refine g_fr ⟨#[.int .i64 n, .int .i64 1, undef, undef, undef, undef, undef, undef, undef, undef, undef, undef, undef, undef, undef, undef, undef, undef, undef, undef, undef, undef, undef, undef, undef, undef, undef, undef, undef, undef, undef, undef, undef, undef, undef, undef, undef, undef, undef, undef, undef, undef, undef], []⟩ (by kernel_rfl) ?_
  refine wp_seq ?_
  refine wp_region_lit ?_
  refine g_pv 1 [(4, .slice none 0 0)] (by kernel_rfl) ?_
  refine wpList_nil ?_
  refine wp_seq ?_
  refine wp_region_lit ?_
  refine g_op (by kernel_rfl) (op_alloc [.int .u8 0, .int .u8 0, .int .u8 0, .int .u8 0, .int .u8 0, .int .u8 0, .int .u8 0, .int .u8 0] rfl (by kernel_rfl) ?_)
  intro b1 W1 n1
  have g1 := n1.ge (Below.refl w.heap.size _)
  have hB := n1.below
  have k1 := n1.blk
  refine wpList_nil ?_
  refine wp_seq ?_
  refine wp_seq ?_
  refine wp_region_lit ?_
  refine g_pv 1 [(7, .int .i64 1)] (by kernel_rfl) ?_
  refine wpList_nil ?_
  refine wp_block ?_
  refine wp_seq ?_
  refine wp_block ?_
  refine wp_seq ?_
  refine wp_block ?_
  refine wp_seq ?_
  refine wp_block ?_
  refine wp_seq ?_
  refine wp_block ?_
  refine wp_seq ?_
  refine wp_seq ?_
  refine wp_seq ?_
  refine wp_region_lit ?_
  refine g_pv 2 [(9, .bool false), (8, .bool false)] (by kernel_rfl) ?_
  refine wpList_nil ?_
  refine wp_cond_false (by kernel_rfl) ?_
  refine wp_skip ?_
  refine wp_seq ?_
  refine wp_seq ?_
  refine wp_region_lit ?_
  refine g_pv 2 [(11, .bool false), (10, .bool false)] (by kernel_rfl) ?_
  refine wpList_nil ?_
  refine wp_cond_false (by kernel_rfl) ?_
  refine wp_skip ?_
  refine wp_seq ?_
  refine wp_region_lit ?_
  refine g_pv 2 [(13, .bool false), (12, .bool false)] (by kernel_rfl) ?_
  refine wpList_nil ?_
  refine wp_cond_false (by kernel_rfl) ?_
  refine wp_skip ?_
  refine wp_exit ?_
  refine inBlock_pass (by simp) ?_
  refine then_exit ?_
  refine inBlock_pass (by simp) ?_
  refine then_exit ?_
  refine inBlock_pass (by simp) ?_
  refine then_exit ?_
  refine inBlock_hit ?_
  refine wp_seq ?_
  refine wp_region_lit ?_
  refine g_pv 1 [(37, .int .i64 n)] (by kernel_rfl) ?_
  refine g_op (by kernel_rfl) (op_eq (.int .u8 (↑(byteAt n 0).toNat : Int)) (.int .u8 (IntKind.u8.wrap n)) (by kernel_rfl) (congrArg (Value.int .u8) (byte_0 h0)) ?_)
  refine g_pv 1 [(39, .pointer (some ⟨b1, 0, none⟩))] (by kernel_rfl) ?_
  refine g_op (by kernel_rfl) (op_store (v := .int .u8 (↑(byteAt n 0).toNat : Int)) (b := b1) (off := 0) rfl (by kernel_rfl) (by kernel_rfl) (by kernel_rfl) rfl k1 (by first | decide | simp) ?_)
  intro W2 u2 k2
  change Blk _ _ [.int .u8 (↑(byteAt n 0).toNat : Int), .int .u8 0, .int .u8 0, .int .u8 0, .int .u8 0, .int .u8 0, .int .u8 0, .int .u8 0] _ at k2
  replace hB := u2.below hB g1
  refine wpList_nil ?_
  refine wp_exit ?_
  refine inBlock_hit ?_
  refine wp_seq ?_
  refine wp_region_lit ?_
  refine g_pv 2 [(40, .int .i64 1), (41, .slice (some ⟨b1, 0, none⟩) 1 8)] (by kernel_rfl) ?_
  have hs3 : w.heap.size ≤ (W2).heap.size := hB.size
  refine g_op (by kernel_rfl) (op_call (lb := #[]) 12 #[.slice (some ⟨b1, 0, none⟩) 1 8] rfl (by kernel_rfl) (fun _ _ => by kernel_rfl) (by kernel_rfl) ((clone_bytesN (some ⟨b1, 0, none⟩) 1 8 (leB n 1) _ rfl (k2.bys (leB n 1) 1 8 rfl rfl (by decide) (by decide)) (by decide)).mono ?_))
  rintro e W3 ⟨r, rfl, hb3, ho⟩
  refine ⟨_, rfl, ?_⟩
  replace hB := Bl.next hB hb3
  replace k2 := k2.below hb3
  replace ho := own_mono ho hs3
  refine g_pv 1 [(4, r)] (by kernel_rfl) ?_
  refine wpList_nil ?_
  refine wp_ret ?_
  exact g_ret r (by kernel_rfl) (by kernel_rfl) ⟨_, rfl, hB, ho⟩
set_option maxRecDepth 100000 in
set_option maxHeartbeats 1000000 in
theorem known_2 (w : World) :
    Calls Try.prog 42 #[.int .i64 2] w (Ret (.bool true) w) := by
  refine calls_of_wp Try.func42 rfl ?_
  refine g_fr ⟨#[.int .i64 2, undef, undef, undef, undef, undef, undef, undef, undef, undef, undef, undef, undef, undef, undef, undef, undef], []⟩ (by kernel_rfl) ?_
  refine wp_seq ?_
  refine wp_region_lit ?_
  refine g_pv 1 [(2, .bool false)] (by kernel_rfl) ?_
  refine wpList_nil ?_
  refine wp_seq ?_
  refine wp_region_lit ?_
  refine g_pv 15 [(3, .int .i64 2), (4, .bool false), (5, .bool false), (6, .int .i64 2), (7, .bool true), (8, .bool true), (9, .bool true), (10, undef), (11, undef), (12, .bool true), (13, .bool true), (14, undef), (15, undef), (16, .bool true), (2, .bool true)] (by kernel_rfl) ?_
  refine wpList_nil ?_
  refine wp_ret ?_
  exact g_ret (.bool true) (by kernel_rfl) (by kernel_rfl) ⟨rfl, (Below.refl w.heap.size _)⟩
set_option maxRecDepth 100000 in
set_option maxHeartbeats 1000000 in
theorem fits_2 (n : Int) (h0 : 0 ≤ n) (hb : n < 65536) (w : World) :
    Calls Try.prog 43 #[.int .i64 n, .int .i64 2] w (Ret (.bool true) w) := by
  refine calls_of_wp Try.func43 rfl ?_
  refine g_fr ⟨#[.int .i64 n, .int .i64 2, undef, undef, undef, undef, undef, undef, undef, undef, undef, undef, undef, undef, undef, undef, undef, undef, undef, undef], []⟩ (by kernel_rfl) ?_
  refine wp_seq ?_
  refine wp_region_lit ?_
  refine g_pv 1 [(4, .bool false)] (by kernel_rfl) ?_
  refine wpList_nil ?_
  refine wp_seq ?_
  refine wp_seq ?_
  refine wp_region_lit ?_
  refine g_pv 2 [(5, .int .i64 n), (6, .bool (decide (n < (0 : Int))))] (by kernel_rfl) ?_
  refine wpList_nil ?_
  refine wp_cond_split (t := decide (n < (0 : Int))) (by kernel_rfl) (fun hh => absurd (hh.symm.trans (show (decide (n < (0 : Int)) : Bool) = false from decide_eq_false (by omega))) (by decide)) (fun _ => ?_)
  refine wp_skip ?_
  refine wp_seq ?_
  refine wp_seq ?_
  refine wp_region_lit ?_
  refine g_pv 1 [(7, .int .i64 2)] (by kernel_rfl) ?_
  refine wpList_nil ?_
  refine wp_block ?_
  refine wp_seq ?_
  refine wp_region_lit ?_
  refine g_pv 2 [(9, .bool false), (8, .bool false)] (by kernel_rfl) ?_
  refine wpList_nil ?_
  refine wp_cond_false (by kernel_rfl) ?_
  refine wp_seq ?_
  refine wp_region_lit ?_
  refine g_pv 2 [(13, .bool true), (12, .bool true)] (by kernel_rfl) ?_
  refine wpList_nil ?_
  refine wp_cond_true (by kernel_rfl) ?_
  refine wp_seq ?_
  refine wp_region_lit ?_
  refine g_pv 3 [(14, .int .i64 n), (15, .bool (decide (n < (65536 : Int)))), (4, .bool (decide (n < (65536 : Int))))] (by kernel_rfl) ?_
  refine wpList_nil ?_
  refine wp_ret (inBlock_ret (then_ret ?_))
  exact g_ret (.bool (decide (n < (65536 : Int)))) (by kernel_rfl) (by kernel_rfl) ⟨by rw [decide_eq_true hb], (Below.refl w.heap.size _)⟩
set_option maxRecDepth 100000 in
set_option maxHeartbeats 1000000 in
theorem there_2 (a : Option Addr) (m c k : Nat) (hk : k + 2 ≤ m) (hm : m ≤ 100000000) (w : World) :
    Calls Try.prog 64 #[.slice a m c, .int .i64 (↑k : Int), .int .i64 2] w (Ret (.int .i64 0) w) := by
  refine calls_of_wp Try.func64 rfl ?_
  refine g_fr ⟨#[.slice a m c, .int .i64 (↑k : Int), .int .i64 2, undef, undef, undef, undef, undef, undef, undef, undef, undef, undef, undef, undef, undef, undef, undef, undef, undef, undef, undef, undef, undef, undef, undef, undef, undef], []⟩ (by kernel_rfl) ?_
  refine wp_seq ?_
  refine wp_region_lit ?_
  refine g_pv 1 [(6, .int .i64 0)] (by kernel_rfl) ?_
  refine wpList_nil ?_
  refine wp_seq ?_
  refine wp_block ?_
  refine wp_seq ?_
  refine wp_region_lit ?_
  refine g_pv 1 [(8, .int .i64 2)] (by kernel_rfl) ?_
  refine g_op (by kernel_rfl) (op_call (lb := #[]) 42 #[.int .i64 2] rfl (by kernel_rfl) (fun _ _ => by kernel_rfl) (by kernel_rfl) ((known_2 _).mono ?_))
  rintro e W1 ⟨rfl, hb1⟩
  refine ⟨_, rfl, ?_⟩
  have hB := hb1
  refine g_pv 2 [(10, .bool false), (7, .bool false)] (by kernel_rfl) ?_
  refine wpList_nil ?_
  refine wp_cond_false (by kernel_rfl) ?_
  refine wp_seq ?_
  refine wp_region_lit ?_
  refine g_pv 3 [(12, .int .i64 (↑k : Int)), (13, .bool (decide ((↑k : Int) < (0 : Int)))), (14, .bool (decide ((↑k : Int) < (0 : Int))))] (by kernel_rfl) ?_
  have hc2 : (decide ((↑k : Int) < (0 : Int)) : Bool) = false := decide_eq_false (by omega)
  refine g_b [13, 14] _ _ hc2 (by kernel_rfl) ?_
  refine g_pv 6 [(15, .int .i64 (↑k : Int)), (16, .slice a m c), (17, .int .i64 (↑m : Int)), (18, .bool (decide ((↑k : Int) > (↑m : Int)))), (19, .bool (decide ((↑k : Int) > (↑m : Int)))), (20, .bool (decide ((↑k : Int) > (↑m : Int))))] (by kernel_rfl) ?_
  have hc3 : (decide ((↑k : Int) > (↑m : Int)) : Bool) = false := decide_eq_false (by omega)
  refine g_b [18, 19, 20] _ _ hc3 (by kernel_rfl) ?_
  refine g_pv 3 [(21, .slice a m c), (22, .int .i64 (↑m : Int)), (23, .int .i64 (↑k : Int))] (by kernel_rfl) ?_
  refine g_op (by kernel_rfl) (op_wrap .i64 ((↑m : Int) - (↑k : Int)) ((↑m : Int) - (↑k : Int)) (by kernel_rfl) (by first | exact IntWalk.i64_in _ (by omega) | (simp only [IntKind.wrap]; omega)) ?_)
  refine g_pv 4 [(25, .int .i64 2), (26, .bool (decide ((↑m : Int) - (↑k : Int) < (2 : Int)))), (27, .bool (decide ((↑m : Int) - (↑k : Int) < (2 : Int)))), (11, .bool (decide ((↑m : Int) - (↑k : Int) < (2 : Int))))] (by kernel_rfl) ?_
  refine wpList_nil ?_
  refine wp_cond_split (t := decide ((↑m : Int) - (↑k : Int) < (2 : Int))) (by kernel_rfl) (fun hh => absurd (hh.symm.trans (show (decide ((↑m : Int) - (↑k : Int) < (2 : Int)) : Bool) = false from decide_eq_false (by omega))) (by decide)) (fun _ => ?_)
  refine wp_skip ?_
  refine wp_seq ?_
  refine wp_region_lit ?_
  refine g_pv 1 [(6, .int .i64 0)] (by kernel_rfl) ?_
  refine wpList_nil ?_
  refine wp_ret ?_
  exact g_ret (.int .i64 0) (by kernel_rfl) (by kernel_rfl) ⟨rfl, hB⟩
set_option maxRecDepth 100000 in
set_option maxHeartbeats 1000000 in
theorem bytes_2 (n : Int) (h0 : 0 ≤ n) (w : World) :
    Calls Try.prog 44 #[.int .i64 n, .int .i64 2] w (RetS (fun w' r => OwnB w.heap.size w' r (leB n 2)) w) := by
  refine calls_of_wp Try.func44 rfl ?_
  refine g_fr ⟨#[.int .i64 n, .int .i64 2, undef, undef, undef, undef, undef, undef, undef, undef, undef, undef, undef, undef, undef, undef, undef, undef, undef, undef, undef, undef, undef, undef, undef, undef, undef, undef, undef, undef, undef, undef, undef, undef, undef, undef, undef, undef, undef, undef, undef, undef, undef], []⟩ (by kernel_rfl) ?_
  refine wp_seq ?_
  refine wp_region_lit ?_
  refine g_pv 1 [(4, .slice none 0 0)] (by kernel_rfl) ?_
  refine wpList_nil ?_
  refine wp_seq ?_
  refine wp_region_lit ?_
  refine g_op (by kernel_rfl) (op_alloc [.int .u8 0, .int .u8 0, .int .u8 0, .int .u8 0, .int .u8 0, .int .u8 0, .int .u8 0, .int .u8 0] rfl (by kernel_rfl) ?_)
  intro b1 W1 n1
  have g1 := n1.ge (Below.refl w.heap.size _)
  have hB := n1.below
  have k1 := n1.blk
  refine wpList_nil ?_
  refine wp_seq ?_
  refine wp_seq ?_
  refine wp_region_lit ?_
  refine g_pv 1 [(7, .int .i64 2)] (by kernel_rfl) ?_
  refine wpList_nil ?_
  refine wp_block ?_
  refine wp_seq ?_
  refine wp_block ?_
  refine wp_seq ?_
  refine wp_block ?_
  refine wp_seq ?_
  refine wp_block ?_
  refine wp_seq ?_
  refine wp_block ?_
  refine wp_seq ?_
  refine wp_seq ?_
  refine wp_seq ?_
  refine wp_region_lit ?_
  refine g_pv 2 [(9, .bool false), (8, .bool false)] (by kernel_rfl) ?_
  refine wpList_nil ?_
  refine wp_cond_false (by kernel_rfl) ?_
  refine wp_skip ?_
  refine wp_seq ?_
  refine wp_seq ?_
  refine wp_region_lit ?_
  refine g_pv 2 [(11, .bool false), (10, .bool false)] (by kernel_rfl) ?_
  refine wpList_nil ?_
  refine wp_cond_false (by kernel_rfl) ?_
  refine wp_skip ?_
  refine wp_seq ?_
  refine wp_region_lit ?_
  refine g_pv 2 [(13, .bool true), (12, .bool true)] (by kernel_rfl) ?_
  refine wpList_nil ?_
  refine wp_cond_true (by kernel_rfl) ?_
  refine wp_exit ?_
  refine then_exit ?_
  refine inBlock_pass (by simp) ?_
  refine then_exit ?_
  refine inBlock_pass (by simp) ?_
  refine then_exit ?_
  refine inBlock_hit ?_
  refine wp_region_lit ?_
  refine g_pv 2 [(33, .int .i64 n), (34, .int .i64 (Int.fdiv n (2 ^ 8)))] (by kernel_rfl) ?_
  refine g_op (by kernel_rfl) (op_eq (.int .u8 (↑(byteAt n 1).toNat : Int)) (.int .u8 (IntKind.u8.wrap (Int.fdiv n (2 ^ 8)))) (by kernel_rfl) (congrArg (Value.int .u8) (byte_shr h0 1)) ?_)
  refine g_pv 1 [(36, .pointer (some ⟨b1, 1, none⟩))] (by kernel_rfl) ?_
  refine g_op (by kernel_rfl) (op_store (v := .int .u8 (↑(byteAt n 1).toNat : Int)) (b := b1) (off := 1) rfl (by kernel_rfl) (by kernel_rfl) (by kernel_rfl) rfl k1 (by first | decide | simp) ?_)
  intro W2 u2 k2
  change Blk _ _ [.int .u8 0, .int .u8 (↑(byteAt n 1).toNat : Int), .int .u8 0, .int .u8 0, .int .u8 0, .int .u8 0, .int .u8 0, .int .u8 0] _ at k2
  replace hB := u2.below hB g1
  refine wpList_nil ?_
  refine wp_seq ?_
  refine wp_region_lit ?_
  refine g_pv 1 [(37, .int .i64 n)] (by kernel_rfl) ?_
  refine g_op (by kernel_rfl) (op_eq (.int .u8 (↑(byteAt n 0).toNat : Int)) (.int .u8 (IntKind.u8.wrap n)) (by kernel_rfl) (congrArg (Value.int .u8) (byte_0 h0)) ?_)
  refine g_pv 1 [(39, .pointer (some ⟨b1, 0, none⟩))] (by kernel_rfl) ?_
  refine g_op (by kernel_rfl) (op_store (v := .int .u8 (↑(byteAt n 0).toNat : Int)) (b := b1) (off := 0) rfl (by kernel_rfl) (by kernel_rfl) (by kernel_rfl) rfl k2 (by first | decide | simp) ?_)
  intro W3 u3 k3
  change Blk _ _ [.int .u8 (↑(byteAt n 0).toNat : Int), .int .u8 (↑(byteAt n 1).toNat : Int), .int .u8 0, .int .u8 0, .int .u8 0, .int .u8 0, .int .u8 0, .int .u8 0] _ at k3
  replace hB := u3.below hB g1
  refine wpList_nil ?_
  refine wp_exit ?_
  refine inBlock_hit ?_
  refine wp_seq ?_
  refine wp_region_lit ?_
  refine g_pv 2 [(40, .int .i64 2), (41, .slice (some ⟨b1, 0, none⟩) 2 8)] (by kernel_rfl) ?_
  have hs4 : w.heap.size ≤ (W3).heap.size := hB.size
  refine g_op (by kernel_rfl) (op_call (lb := #[]) 12 #[.slice (some ⟨b1, 0, none⟩) 2 8] rfl (by kernel_rfl) (fun _ _ => by kernel_rfl) (by kernel_rfl) ((clone_bytesN (some ⟨b1, 0, none⟩) 2 8 (leB n 2) _ rfl (k3.bys (leB n 2) 2 8 rfl rfl (by decide) (by decide)) (by decide)).mono ?_))
  rintro e W4 ⟨r, rfl, hb4, ho⟩
  refine ⟨_, rfl, ?_⟩
  replace hB := Bl.next hB hb4
  replace k3 := k3.below hb4
  replace ho := own_mono ho hs4
  refine g_pv 1 [(4, r)] (by kernel_rfl) ?_
  refine wpList_nil ?_
  refine wp_ret ?_
  exact g_ret r (by kernel_rfl) (by kernel_rfl) ⟨_, rfl, hB, ho⟩
set_option maxRecDepth 100000 in
set_option maxHeartbeats 1000000 in
theorem known_4 (w : World) :
    Calls Try.prog 42 #[.int .i64 4] w (Ret (.bool true) w) := by
  refine calls_of_wp Try.func42 rfl ?_
  refine g_fr ⟨#[.int .i64 4, undef, undef, undef, undef, undef, undef, undef, undef, undef, undef, undef, undef, undef, undef, undef, undef], []⟩ (by kernel_rfl) ?_
  refine wp_seq ?_
  refine wp_region_lit ?_
  refine g_pv 1 [(2, .bool false)] (by kernel_rfl) ?_
  refine wpList_nil ?_
  refine wp_seq ?_
  refine wp_region_lit ?_
  refine g_pv 15 [(3, .int .i64 4), (4, .bool false), (5, .bool false), (6, .int .i64 4), (7, .bool false), (8, .bool false), (9, .bool false), (10, .int .i64 4), (11, .bool true), (12, .bool true), (13, .bool true), (14, undef), (15, undef), (16, .bool true), (2, .bool true)] (by kernel_rfl) ?_
  refine wpList_nil ?_
  refine wp_ret ?_
  exact g_ret (.bool true) (by kernel_rfl) (by kernel_rfl) ⟨rfl, (Below.refl w.heap.size _)⟩
set_option maxRecDepth 100000 in
set_option maxHeartbeats 1000000 in
theorem fits_4 (n : Int) (h0 : 0 ≤ n) (hb : n < 4294967296) (w : World) :
    Calls Try.prog 43 #[.int .i64 n, .int .i64 4] w (Ret (.bool true) w) := by
  refine calls_of_wp Try.func43 rfl ?_
  refine g_fr ⟨#[.int .i64 n, .int .i64 4, undef, undef, undef, undef, undef, undef, undef, undef, undef, undef, undef, undef, undef, undef, undef, undef, undef, undef], []⟩ (by kernel_rfl) ?_
  refine wp_seq ?_
  refine wp_region_lit ?_
  refine g_pv 1 [(4, .bool false)] (by kernel_rfl) ?_
  refine wpList_nil ?_
  refine wp_seq ?_
  refine wp_seq ?_
  refine wp_region_lit ?_
  refine g_pv 2 [(5, .int .i64 n), (6, .bool (decide (n < (0 : Int))))] (by kernel_rfl) ?_
  refine wpList_nil ?_
  refine wp_cond_split (t := decide (n < (0 : Int))) (by kernel_rfl) (fun hh => absurd (hh.symm.trans (show (decide (n < (0 : Int)) : Bool) = false from decide_eq_false (by omega))) (by decide)) (fun _ => ?_)
  refine wp_skip ?_
  refine wp_seq ?_
  refine wp_seq ?_
  refine wp_region_lit ?_
  refine g_pv 1 [(7, .int .i64 4)] (by kernel_rfl) ?_
  refine wpList_nil ?_
  refine wp_block ?_
  refine wp_seq ?_
  refine wp_region_lit ?_
  refine g_pv 2 [(9, .bool false), (8, .bool false)] (by kernel_rfl) ?_
  refine wpList_nil ?_
  refine wp_cond_false (by kernel_rfl) ?_
  refine wp_seq ?_
  refine wp_region_lit ?_
  refine g_pv 2 [(13, .bool false), (12, .bool false)] (by kernel_rfl) ?_
  refine wpList_nil ?_
  refine wp_cond_false (by kernel_rfl) ?_
  refine wp_seq ?_
  refine wp_region_lit ?_
  refine g_pv 2 [(17, .bool true), (16, .bool true)] (by kernel_rfl) ?_
  refine wpList_nil ?_
  refine wp_cond_true (by kernel_rfl) ?_
  refine wp_seq ?_
  refine wp_region_lit ?_
  refine g_pv 3 [(18, .int .i64 n), (19, .bool (decide (n < (4294967296 : Int)))), (4, .bool (decide (n < (4294967296 : Int))))] (by kernel_rfl) ?_
  refine wpList_nil ?_
  refine wp_ret (inBlock_ret (then_ret ?_))
  exact g_ret (.bool (decide (n < (4294967296 : Int)))) (by kernel_rfl) (by kernel_rfl) ⟨by rw [decide_eq_true hb], (Below.refl w.heap.size _)⟩
set_option maxRecDepth 100000 in
set_option maxHeartbeats 1000000 in
theorem there_4 (a : Option Addr) (m c k : Nat) (hk : k + 4 ≤ m) (hm : m ≤ 100000000) (w : World) :
    Calls Try.prog 64 #[.slice a m c, .int .i64 (↑k : Int), .int .i64 4] w (Ret (.int .i64 0) w) := by
  refine calls_of_wp Try.func64 rfl ?_
  refine g_fr ⟨#[.slice a m c, .int .i64 (↑k : Int), .int .i64 4, undef, undef, undef, undef, undef, undef, undef, undef, undef, undef, undef, undef, undef, undef, undef, undef, undef, undef, undef, undef, undef, undef, undef, undef, undef], []⟩ (by kernel_rfl) ?_
  refine wp_seq ?_
  refine wp_region_lit ?_
  refine g_pv 1 [(6, .int .i64 0)] (by kernel_rfl) ?_
  refine wpList_nil ?_
  refine wp_seq ?_
  refine wp_block ?_
  refine wp_seq ?_
  refine wp_region_lit ?_
  refine g_pv 1 [(8, .int .i64 4)] (by kernel_rfl) ?_
  refine g_op (by kernel_rfl) (op_call (lb := #[]) 42 #[.int .i64 4] rfl (by kernel_rfl) (fun _ _ => by kernel_rfl) (by kernel_rfl) ((known_4 _).mono ?_))
  rintro e W1 ⟨rfl, hb1⟩
  refine ⟨_, rfl, ?_⟩
  have hB := hb1
  refine g_pv 2 [(10, .bool false), (7, .bool false)] (by kernel_rfl) ?_
  refine wpList_nil ?_
  refine wp_cond_false (by kernel_rfl) ?_
  refine wp_seq ?_
  refine wp_region_lit ?_
  refine g_pv 3 [(12, .int .i64 (↑k : Int)), (13, .bool (decide ((↑k : Int) < (0 : Int)))), (14, .bool (decide ((↑k : Int) < (0 : Int))))] (by kernel_rfl) ?_
  have hc2 : (decide ((↑k : Int) < (0 : Int)) : Bool) = false := decide_eq_false (by omega)
  refine g_b [13, 14] _ _ hc2 (by kernel_rfl) ?_
  refine g_pv 6 [(15, .int .i64 (↑k : Int)), (16, .slice a m c), (17, .int .i64 (↑m : Int)), (18, .bool (decide ((↑k : Int) > (↑m : Int)))), (19, .bool (decide ((↑k : Int) > (↑m : Int)))), (20, .bool (decide ((↑k : Int) > (↑m : Int))))] (by kernel_rfl) ?_
  have hc3 : (decide ((↑k : Int) > (↑m : Int)) : Bool) = false := decide_eq_false (by omega)
  refine g_b [18, 19, 20] _ _ hc3 (by kernel_rfl) ?_
  refine g_pv 3 [(21, .slice a m c), (22, .int .i64 (↑m : Int)), (23, .int .i64 (↑k : Int))] (by kernel_rfl) ?_
  refine g_op (by kernel_rfl) (op_wrap .i64 ((↑m : Int) - (↑k : Int)) ((↑m : Int) - (↑k : Int)) (by kernel_rfl) (by first | exact IntWalk.i64_in _ (by omega) | (simp only [IntKind.wrap]; omega)) ?_)
  refine g_pv 4 [(25, .int .i64 4), (26, .bool (decide ((↑m : Int) - (↑k : Int) < (4 : Int)))), (27, .bool (decide ((↑m : Int) - (↑k : Int) < (4 : Int)))), (11, .bool (decide ((↑m : Int) - (↑k : Int) < (4 : Int))))] (by kernel_rfl) ?_
  refine wpList_nil ?_
  refine wp_cond_split (t := decide ((↑m : Int) - (↑k : Int) < (4 : Int))) (by kernel_rfl) (fun hh => absurd (hh.symm.trans (show (decide ((↑m : Int) - (↑k : Int) < (4 : Int)) : Bool) = false from decide_eq_false (by omega))) (by decide)) (fun _ => ?_)
  refine wp_skip ?_
  refine wp_seq ?_
  refine wp_region_lit ?_
  refine g_pv 1 [(6, .int .i64 0)] (by kernel_rfl) ?_
  refine wpList_nil ?_
  refine wp_ret ?_
  exact g_ret (.int .i64 0) (by kernel_rfl) (by kernel_rfl) ⟨rfl, hB⟩
set_option maxRecDepth 100000 in
set_option maxHeartbeats 1000000 in
theorem bytes_4 (n : Int) (h0 : 0 ≤ n) (w : World) :
    Calls Try.prog 44 #[.int .i64 n, .int .i64 4] w (RetS (fun w' r => OwnB w.heap.size w' r (leB n 4)) w) := by
  refine calls_of_wp Try.func44 rfl ?_
  refine g_fr ⟨#[.int .i64 n, .int .i64 4, undef, undef, undef, undef, undef, undef, undef, undef, undef, undef, undef, undef, undef, undef, undef, undef, undef, undef, undef, undef, undef, undef, undef, undef, undef, undef, undef, undef, undef, undef, undef, undef, undef, undef, undef, undef, undef, undef, undef, undef, undef], []⟩ (by kernel_rfl) ?_
  refine wp_seq ?_
  refine wp_region_lit ?_
  refine g_pv 1 [(4, .slice none 0 0)] (by kernel_rfl) ?_
  refine wpList_nil ?_
  refine wp_seq ?_
  refine wp_region_lit ?_
  refine g_op (by kernel_rfl) (op_alloc [.int .u8 0, .int .u8 0, .int .u8 0, .int .u8 0, .int .u8 0, .int .u8 0, .int .u8 0, .int .u8 0] rfl (by kernel_rfl) ?_)
  intro b1 W1 n1
  have g1 := n1.ge (Below.refl w.heap.size _)
  have hB := n1.below
  have k1 := n1.blk
  refine wpList_nil ?_
  refine wp_seq ?_
  refine wp_seq ?_
  refine wp_region_lit ?_
  refine g_pv 1 [(7, .int .i64 4)] (by kernel_rfl) ?_
  refine wpList_nil ?_
  refine wp_block ?_
  refine wp_seq ?_
  refine wp_block ?_
  refine wp_seq ?_
  refine wp_block ?_
  refine wp_seq ?_
  refine wp_block ?_
  refine wp_seq ?_
  refine wp_block ?_
  refine wp_seq ?_
  refine wp_seq ?_
  refine wp_seq ?_
  refine wp_region_lit ?_
  refine g_pv 2 [(9, .bool false), (8, .bool false)] (by kernel_rfl) ?_
  refine wpList_nil ?_
  refine wp_cond_false (by kernel_rfl) ?_
  refine wp_skip ?_
  refine wp_seq ?_
  refine wp_seq ?_
  refine wp_region_lit ?_
  refine g_pv 2 [(11, .bool true), (10, .bool true)] (by kernel_rfl) ?_
  refine wpList_nil ?_
  refine wp_cond_true (by kernel_rfl) ?_
  refine wp_exit ?_
  refine then_exit ?_
  refine then_exit ?_
  refine inBlock_pass (by simp) ?_
  refine then_exit ?_
  refine inBlock_hit ?_
  refine wp_region_lit ?_
  refine g_pv 2 [(25, .int .i64 n), (26, .int .i64 (Int.fdiv n (2 ^ 24)))] (by kernel_rfl) ?_
  refine g_op (by kernel_rfl) (op_eq (.int .u8 (↑(byteAt n 3).toNat : Int)) (.int .u8 (IntKind.u8.wrap (Int.fdiv n (2 ^ 24)))) (by kernel_rfl) (congrArg (Value.int .u8) (byte_shr h0 3)) ?_)
  refine g_pv 2 [(28, .int .i64 n), (29, .int .i64 (Int.fdiv n (2 ^ 16)))] (by kernel_rfl) ?_
  refine g_op (by kernel_rfl) (op_eq (.int .u8 (↑(byteAt n 2).toNat : Int)) (.int .u8 (IntKind.u8.wrap (Int.fdiv n (2 ^ 16)))) (by kernel_rfl) (congrArg (Value.int .u8) (byte_shr h0 2)) ?_)
  refine g_pv 1 [(31, .pointer (some ⟨b1, 3, none⟩))] (by kernel_rfl) ?_
  refine g_op (by kernel_rfl) (op_store (v := .int .u8 (↑(byteAt n 3).toNat : Int)) (b := b1) (off := 3) rfl (by kernel_rfl) (by kernel_rfl) (by kernel_rfl) rfl k1 (by first | decide | simp) ?_)
  intro W2 u2 k2
  change Blk _ _ [.int .u8 0, .int .u8 0, .int .u8 0, .int .u8 (↑(byteAt n 3).toNat : Int), .int .u8 0, .int .u8 0, .int .u8 0, .int .u8 0] _ at k2
  replace hB := u2.below hB g1
  refine g_pv 1 [(32, .pointer (some ⟨b1, 2, none⟩))] (by kernel_rfl) ?_
  refine g_op (by kernel_rfl) (op_store (v := .int .u8 (↑(byteAt n 2).toNat : Int)) (b := b1) (off := 2) rfl (by kernel_rfl) (by kernel_rfl) (by kernel_rfl) rfl k2 (by first | decide | simp) ?_)
  intro W3 u3 k3
  change Blk _ _ [.int .u8 0, .int .u8 0, .int .u8 (↑(byteAt n 2).toNat : Int), .int .u8 (↑(byteAt n 3).toNat : Int), .int .u8 0, .int .u8 0, .int .u8 0, .int .u8 0] _ at k3
  replace hB := u3.below hB g1
  refine wpList_nil ?_
  refine wp_region_lit ?_
  refine g_pv 2 [(33, .int .i64 n), (34, .int .i64 (Int.fdiv n (2 ^ 8)))] (by kernel_rfl) ?_
  refine g_op (by kernel_rfl) (op_eq (.int .u8 (↑(byteAt n 1).toNat : Int)) (.int .u8 (IntKind.u8.wrap (Int.fdiv n (2 ^ 8)))) (by kernel_rfl) (congrArg (Value.int .u8) (byte_shr h0 1)) ?_)
  refine g_pv 1 [(36, .pointer (some ⟨b1, 1, none⟩))] (by kernel_rfl) ?_
  refine g_op (by kernel_rfl) (op_store (v := .int .u8 (↑(byteAt n 1).toNat : Int)) (b := b1) (off := 1) rfl (by kernel_rfl) (by kernel_rfl) (by kernel_rfl) rfl k3 (by first | decide | simp) ?_)
  intro W4 u4 k4
  change Blk _ _ [.int .u8 0, .int .u8 (↑(byteAt n 1).toNat : Int), .int .u8 (↑(byteAt n 2).toNat : Int), .int .u8 (↑(byteAt n 3).toNat : Int), .int .u8 0, .int .u8 0, .int .u8 0, .int .u8 0] _ at k4
  replace hB := u4.below hB g1
  refine wpList_nil ?_
  refine wp_seq ?_
  refine wp_region_lit ?_
  refine g_pv 1 [(37, .int .i64 n)] (by kernel_rfl) ?_
  refine g_op (by kernel_rfl) (op_eq (.int .u8 (↑(byteAt n 0).toNat : Int)) (.int .u8 (IntKind.u8.wrap n)) (by kernel_rfl) (congrArg (Value.int .u8) (byte_0 h0)) ?_)
  refine g_pv 1 [(39, .pointer (some ⟨b1, 0, none⟩))] (by kernel_rfl) ?_
  refine g_op (by kernel_rfl) (op_store (v := .int .u8 (↑(byteAt n 0).toNat : Int)) (b := b1) (off := 0) rfl (by kernel_rfl) (by kernel_rfl) (by kernel_rfl) rfl k4 (by first | decide | simp) ?_)
  intro W5 u5 k5
  change Blk _ _ [.int .u8 (↑(byteAt n 0).toNat : Int), .int .u8 (↑(byteAt n 1).toNat : Int), .int .u8 (↑(byteAt n 2).toNat : Int), .int .u8 (↑(byteAt n 3).toNat : Int), .int .u8 0, .int .u8 0, .int .u8 0, .int .u8 0] _ at k5
  replace hB := u5.below hB g1
  refine wpList_nil ?_
  refine wp_exit ?_
  refine inBlock_hit ?_
  refine wp_seq ?_
  refine wp_region_lit ?_
  refine g_pv 2 [(40, .int .i64 4), (41, .slice (some ⟨b1, 0, none⟩) 4 8)] (by kernel_rfl) ?_
  have hs6 : w.heap.size ≤ (W5).heap.size := hB.size
  refine g_op (by kernel_rfl) (op_call (lb := #[]) 12 #[.slice (some ⟨b1, 0, none⟩) 4 8] rfl (by kernel_rfl) (fun _ _ => by kernel_rfl) (by kernel_rfl) ((clone_bytesN (some ⟨b1, 0, none⟩) 4 8 (leB n 4) _ rfl (k5.bys (leB n 4) 4 8 rfl rfl (by decide) (by decide)) (by decide)).mono ?_))
  rintro e W6 ⟨r, rfl, hb6, ho⟩
  refine ⟨_, rfl, ?_⟩
  replace hB := Bl.next hB hb6
  replace k5 := k5.below hb6
  replace ho := own_mono ho hs6
  refine g_pv 1 [(4, r)] (by kernel_rfl) ?_
  refine wpList_nil ?_
  refine wp_ret ?_
  exact g_ret r (by kernel_rfl) (by kernel_rfl) ⟨_, rfl, hB, ho⟩
set_option maxRecDepth 100000 in
set_option maxHeartbeats 1000000 in
theorem known_8 (w : World) :
    Calls Try.prog 42 #[.int .i64 8] w (Ret (.bool true) w) := by
  refine calls_of_wp Try.func42 rfl ?_
  refine g_fr ⟨#[.int .i64 8, undef, undef, undef, undef, undef, undef, undef, undef, undef, undef, undef, undef, undef, undef, undef, undef], []⟩ (by kernel_rfl) ?_
  refine wp_seq ?_
  refine wp_region_lit ?_
  refine g_pv 1 [(2, .bool false)] (by kernel_rfl) ?_
  refine wpList_nil ?_
  refine wp_seq ?_
  refine wp_region_lit ?_
  refine g_pv 15 [(3, .int .i64 8), (4, .bool false), (5, .bool false), (6, .int .i64 8), (7, .bool false), (8, .bool false), (9, .bool false), (10, .int .i64 8), (11, .bool false), (12, .bool false), (13, .bool false), (14, .int .i64 8), (15, .bool true), (16, .bool true), (2, .bool true)] (by kernel_rfl) ?_
  refine wpList_nil ?_
  refine wp_ret ?_
  exact g_ret (.bool true) (by kernel_rfl) (by kernel_rfl) ⟨rfl, (Below.refl w.heap.size _)⟩
set_option maxRecDepth 100000 in
set_option maxHeartbeats 1000000 in
theorem fits_8 (n : Int) (h0 : 0 ≤ n) (w : World) :
    Calls Try.prog 43 #[.int .i64 n, .int .i64 8] w (Ret (.bool true) w) := by
  refine calls_of_wp Try.func43 rfl ?_
  refine g_fr ⟨#[.int .i64 n, .int .i64 8, undef, undef, undef, undef, undef, undef, undef, undef, undef, undef, undef, undef, undef, undef, undef, undef, undef, undef], []⟩ (by kernel_rfl) ?_
  refine wp_seq ?_
  refine wp_region_lit ?_
  refine g_pv 1 [(4, .bool false)] (by kernel_rfl) ?_
  refine wpList_nil ?_
  refine wp_seq ?_
  refine wp_seq ?_
  refine wp_region_lit ?_
  refine g_pv 2 [(5, .int .i64 n), (6, .bool (decide (n < (0 : Int))))] (by kernel_rfl) ?_
  refine wpList_nil ?_
  refine wp_cond_split (t := decide (n < (0 : Int))) (by kernel_rfl) (fun hh => absurd (hh.symm.trans (show (decide (n < (0 : Int)) : Bool) = false from decide_eq_false (by omega))) (by decide)) (fun _ => ?_)
  refine wp_skip ?_
  refine wp_seq ?_
  refine wp_seq ?_
  refine wp_region_lit ?_
  refine g_pv 1 [(7, .int .i64 8)] (by kernel_rfl) ?_
  refine wpList_nil ?_
  refine wp_block ?_
  refine wp_seq ?_
  refine wp_region_lit ?_
  refine g_pv 2 [(9, .bool false), (8, .bool false)] (by kernel_rfl) ?_
  refine wpList_nil ?_
  refine wp_cond_false (by kernel_rfl) ?_
  refine wp_seq ?_
  refine wp_region_lit ?_
  refine g_pv 2 [(13, .bool false), (12, .bool false)] (by kernel_rfl) ?_
  refine wpList_nil ?_
  refine wp_cond_false (by kernel_rfl) ?_
  refine wp_seq ?_
  refine wp_region_lit ?_
  refine g_pv 2 [(17, .bool false), (16, .bool false)] (by kernel_rfl) ?_
  refine wpList_nil ?_
  refine wp_cond_false (by kernel_rfl) ?_
  refine wp_skip ?_
  refine wp_seq ?_
  refine wp_region_lit ?_
  refine g_pv 1 [(4, .bool true)] (by kernel_rfl) ?_
  refine wpList_nil ?_
  refine wp_ret ?_
  exact g_ret (.bool true) (by kernel_rfl) (by kernel_rfl) ⟨by rfl, (Below.refl w.heap.size _)⟩
set_option maxRecDepth 100000 in
set_option maxHeartbeats 1000000 in
theorem there_8 (a : Option Addr) (m c k : Nat) (hk : k + 8 ≤ m) (hm : m ≤ 100000000) (w : World) :
    Calls Try.prog 64 #[.slice a m c, .int .i64 (↑k : Int), .int .i64 8] w (Ret (.int .i64 0) w) := by
  refine calls_of_wp Try.func64 rfl ?_
  refine g_fr ⟨#[.slice a m c, .int .i64 (↑k : Int), .int .i64 8, undef, undef, undef, undef, undef, undef, undef, undef, undef, undef, undef, undef, undef, undef, undef, undef, undef, undef, undef, undef, undef, undef, undef, undef, undef], []⟩ (by kernel_rfl) ?_
  refine wp_seq ?_
  refine wp_region_lit ?_
  refine g_pv 1 [(6, .int .i64 0)] (by kernel_rfl) ?_
  refine wpList_nil ?_
  refine wp_seq ?_
  refine wp_block ?_
  refine wp_seq ?_
  refine wp_region_lit ?_
  refine g_pv 1 [(8, .int .i64 8)] (by kernel_rfl) ?_
  refine g_op (by kernel_rfl) (op_call (lb := #[]) 42 #[.int .i64 8] rfl (by kernel_rfl) (fun _ _ => by kernel_rfl) (by kernel_rfl) ((known_8 _).mono ?_))
  rintro e W1 ⟨rfl, hb1⟩
  refine ⟨_, rfl, ?_⟩
  have hB := hb1
  refine g_pv 2 [(10, .bool false), (7, .bool false)] (by kernel_rfl) ?_
  refine wpList_nil ?_
  refine wp_cond_false (by kernel_rfl) ?_
  refine wp_seq ?_
  refine wp_region_lit ?_
  refine g_pv 3 [(12, .int .i64 (↑k : Int)), (13, .bool (decide ((↑k : Int) < (0 : Int)))), (14, .bool (decide ((↑k : Int) < (0 : Int))))] (by kernel_rfl) ?_
  have hc2 : (decide ((↑k : Int) < (0 : Int)) : Bool) = false := decide_eq_false (by omega)
  refine g_b [13, 14] _ _ hc2 (by kernel_rfl) ?_
  refine g_pv 6 [(15, .int .i64 (↑k : Int)), (16, .slice a m c), (17, .int .i64 (↑m : Int)), (18, .bool (decide ((↑k : Int) > (↑m : Int)))), (19, .bool (decide ((↑k : Int) > (↑m : Int)))), (20, .bool (decide ((↑k : Int) > (↑m : Int))))] (by kernel_rfl) ?_
  have hc3 : (decide ((↑k : Int) > (↑m : Int)) : Bool) = false := decide_eq_false (by omega)
  refine g_b [18, 19, 20] _ _ hc3 (by kernel_rfl) ?_
  refine g_pv 3 [(21, .slice a m c), (22, .int .i64 (↑m : Int)), (23, .int .i64 (↑k : Int))] (by kernel_rfl) ?_
  refine g_op (by kernel_rfl) (op_wrap .i64 ((↑m : Int) - (↑k : Int)) ((↑m : Int) - (↑k : Int)) (by kernel_rfl) (by first | exact IntWalk.i64_in _ (by omega) | (simp only [IntKind.wrap]; omega)) ?_)
  refine g_pv 4 [(25, .int .i64 8), (26, .bool (decide ((↑m : Int) - (↑k : Int) < (8 : Int)))), (27, .bool (decide ((↑m : Int) - (↑k : Int) < (8 : Int)))), (11, .bool (decide ((↑m : Int) - (↑k : Int) < (8 : Int))))] (by kernel_rfl) ?_
  refine wpList_nil ?_
  refine wp_cond_split (t := decide ((↑m : Int) - (↑k : Int) < (8 : Int))) (by kernel_rfl) (fun hh => absurd (hh.symm.trans (show (decide ((↑m : Int) - (↑k : Int) < (8 : Int)) : Bool) = false from decide_eq_false (by omega))) (by decide)) (fun _ => ?_)
  refine wp_skip ?_
  refine wp_seq ?_
  refine wp_region_lit ?_
  refine g_pv 1 [(6, .int .i64 0)] (by kernel_rfl) ?_
  refine wpList_nil ?_
  refine wp_ret ?_
  exact g_ret (.int .i64 0) (by kernel_rfl) (by kernel_rfl) ⟨rfl, hB⟩
set_option maxRecDepth 100000 in
set_option maxHeartbeats 1000000 in
theorem bytes_8 (n : Int) (h0 : 0 ≤ n) (w : World) :
    Calls Try.prog 44 #[.int .i64 n, .int .i64 8] w (RetS (fun w' r => OwnB w.heap.size w' r (leB n 8)) w) := by
  refine calls_of_wp Try.func44 rfl ?_
  refine g_fr ⟨#[.int .i64 n, .int .i64 8, undef, undef, undef, undef, undef, undef, undef, undef, undef, undef, undef, undef, undef, undef, undef, undef, undef, undef, undef, undef, undef, undef, undef, undef, undef, undef, undef, undef, undef, undef, undef, undef, undef, undef, undef, undef, undef, undef, undef, undef, undef], []⟩ (by kernel_rfl) ?_
  refine wp_seq ?_
  refine wp_region_lit ?_
  refine g_pv 1 [(4, .slice none 0 0)] (by kernel_rfl) ?_
  refine wpList_nil ?_
  refine wp_seq ?_
  refine wp_region_lit ?_
  refine g_op (by kernel_rfl) (op_alloc [.int .u8 0, .int .u8 0, .int .u8 0, .int .u8 0, .int .u8 0, .int .u8 0, .int .u8 0, .int .u8 0] rfl (by kernel_rfl) ?_)
  intro b1 W1 n1
  have g1 := n1.ge (Below.refl w.heap.size _)
  have hB := n1.below
  have k1 := n1.blk
  refine wpList_nil ?_
  refine wp_seq ?_
  refine wp_seq ?_
  refine wp_region_lit ?_
  refine g_pv 1 [(7, .int .i64 8)] (by kernel_rfl) ?_
  refine wpList_nil ?_
  refine wp_block ?_
  refine wp_seq ?_
  refine wp_block ?_
  refine wp_seq ?_
  refine wp_block ?_
  refine wp_seq ?_
  refine wp_block ?_
  refine wp_seq ?_
  refine wp_block ?_
  refine wp_seq ?_
  refine wp_seq ?_
  refine wp_seq ?_
  refine wp_region_lit ?_
  refine g_pv 2 [(9, .bool true), (8, .bool true)] (by kernel_rfl) ?_
  refine wpList_nil ?_
  refine wp_cond_true (by kernel_rfl) ?_
  refine wp_exit ?_
  refine then_exit ?_
  refine then_exit ?_
  refine inBlock_hit ?_
  refine wp_seq ?_
  refine wp_region_lit ?_
  refine g_pv 1 [(6, .int .i64 4)] (by kernel_rfl) ?_
  refine wpList_nil ?_
  refine wp_block ?_
  refine wp_loop_rounds 6 ?_
  refine g_round ?_
  refine wp_seq ?_
  refine wp_seq ?_
  refine wp_region_lit ?_
  refine g_pv 2 [(14, .int .i64 4), (15, .bool true)] (by kernel_rfl) ?_
  refine wpList_nil ?_
  refine wp_cond_true (by kernel_rfl) ?_
  refine wp_skip ?_
  refine wp_seq ?_
  refine wp_block ?_
  refine wp_region_lit ?_
  refine g_pv 5 [(18, .int .i64 4), (19, .int .i64 n), (20, .int .i64 4), (21, .int .i64 32), (22, .int .i64 (Int.fdiv n (2 ^ 32)))] (by kernel_rfl) ?_
  refine g_op (by kernel_rfl) (op_eq (.int .u8 (↑(byteAt n 4).toNat : Int)) (.int .u8 (IntKind.u8.wrap (Int.fdiv n (2 ^ 32)))) (by kernel_rfl) (congrArg (Value.int .u8) (byte_shr h0 4)) ?_)
  refine g_pv 1 [(24, .pointer (some ⟨b1, 4, none⟩))] (by kernel_rfl) ?_
  refine g_op (by kernel_rfl) (op_store (v := .int .u8 (↑(byteAt n 4).toNat : Int)) (b := b1) (off := 4) rfl (by kernel_rfl) (by kernel_rfl) (by kernel_rfl) rfl k1 (by first | decide | simp) ?_)
  intro W2 u2 k2
  change Blk _ _ [.int .u8 0, .int .u8 0, .int .u8 0, .int .u8 0, .int .u8 (↑(byteAt n 4).toNat : Int), .int .u8 0, .int .u8 0, .int .u8 0] _ at k2
  replace hB := u2.below hB g1
  refine wpList_nil ?_
  refine wp_region_lit ?_
  refine g_pv 3 [(16, .int .i64 4), (17, .int .i64 5), (6, .int .i64 5)] (by kernel_rfl) ?_
  refine wpList_nil ?_
  refine g_round ?_
  refine wp_seq ?_
  refine wp_seq ?_
  refine wp_region_lit ?_
  refine g_pv 2 [(14, .int .i64 5), (15, .bool true)] (by kernel_rfl) ?_
  refine wpList_nil ?_
  refine wp_cond_true (by kernel_rfl) ?_
  refine wp_skip ?_
  refine wp_seq ?_
  refine wp_block ?_
  refine wp_region_lit ?_
  refine g_pv 5 [(18, .int .i64 5), (19, .int .i64 n), (20, .int .i64 5), (21, .int .i64 40), (22, .int .i64 (Int.fdiv n (2 ^ 40)))] (by kernel_rfl) ?_
  refine g_op (by kernel_rfl) (op_eq (.int .u8 (↑(byteAt n 5).toNat : Int)) (.int .u8 (IntKind.u8.wrap (Int.fdiv n (2 ^ 40)))) (by kernel_rfl) (congrArg (Value.int .u8) (byte_shr h0 5)) ?_)
  refine g_pv 1 [(24, .pointer (some ⟨b1, 5, none⟩))] (by kernel_rfl) ?_
  refine g_op (by kernel_rfl) (op_store (v := .int .u8 (↑(byteAt n 5).toNat : Int)) (b := b1) (off := 5) rfl (by kernel_rfl) (by kernel_rfl) (by kernel_rfl) rfl k2 (by first | decide | simp) ?_)
  intro W3 u3 k3
  change Blk _ _ [.int .u8 0, .int .u8 0, .int .u8 0, .int .u8 0, .int .u8 (↑(byteAt n 4).toNat : Int), .int .u8 (↑(byteAt n 5).toNat : Int), .int .u8 0, .int .u8 0] _ at k3
  replace hB := u3.below hB g1
  refine wpList_nil ?_
  refine wp_region_lit ?_
  refine g_pv 3 [(16, .int .i64 5), (17, .int .i64 6), (6, .int .i64 6)] (by kernel_rfl) ?_
  refine wpList_nil ?_
  refine g_round ?_
  refine wp_seq ?_
  refine wp_seq ?_
  refine wp_region_lit ?_
  refine g_pure 2 ⟨#[.int .i64 n, .int .i64 8, undef, undef, .slice none 0 0, .pointer (some ⟨b1, 0, none⟩), .int .i64 6, .int .i64 8, .bool true, .bool true, undef, undef, undef, undef, .int .i64 6, .bool true, .int .i64 5, .int .i64 6, .int .i64 5, .int .i64 n, .int .i64 5, .int .i64 40, .int .i64 (Int.fdiv n (2 ^ 40)), .int .u8 (↑(byteAt n 5).toNat : Int), .pointer (some ⟨b1, 5, none⟩), undef, undef, undef, undef, undef, undef, undef, undef, undef, undef, undef, undef, undef, undef, undef, undef, undef, undef], []⟩ (by kernel_rfl) ?_
  refine wpList_nil ?_
  refine wp_cond_true (by kernel_rfl) ?_
  refine wp_skip ?_
  refine wp_seq ?_
  refine wp_block ?_
  refine wp_region_lit ?_
  refine g_pv 5 [(18, .int .i64 6), (19, .int .i64 n), (20, .int .i64 6), (21, .int .i64 48), (22, .int .i64 (Int.fdiv n (2 ^ 48)))] (by kernel_rfl) ?_
  refine g_op (by kernel_rfl) (op_eq (.int .u8 (↑(byteAt n 6).toNat : Int)) (.int .u8 (IntKind.u8.wrap (Int.fdiv n (2 ^ 48)))) (by kernel_rfl) (congrArg (Value.int .u8) (byte_shr h0 6)) ?_)
  refine g_pv 1 [(24, .pointer (some ⟨b1, 6, none⟩))] (by kernel_rfl) ?_
  refine g_op (by kernel_rfl) (op_store (v := .int .u8 (↑(byteAt n 6).toNat : Int)) (b := b1) (off := 6) rfl (by kernel_rfl) (by kernel_rfl) (by kernel_rfl) rfl k3 (by first | decide | simp) ?_)
  intro W4 u4 k4
  change Blk _ _ [.int .u8 0, .int .u8 0, .int .u8 0, .int .u8 0, .int .u8 (↑(byteAt n 4).toNat : Int), .int .u8 (↑(byteAt n 5).toNat : Int), .int .u8 (↑(byteAt n 6).toNat : Int), .int .u8 0] _ at k4
  replace hB := u4.below hB g1
  refine wpList_nil ?_
  refine wp_region_lit ?_
  refine g_pv 3 [(16, .int .i64 6), (17, .int .i64 7), (6, .int .i64 7)] (by kernel_rfl) ?_
  refine wpList_nil ?_
  refine g_round ?_
  refine wp_seq ?_
  refine wp_seq ?_
  refine wp_region_lit ?_
  refine g_pv 2 [(14, .int .i64 7), (15, .bool true)] (by kernel_rfl) ?_
  refine wpList_nil ?_
  refine wp_cond_true (by kernel_rfl) ?_
  refine wp_skip ?_
  refine wp_seq ?_
  refine wp_block ?_
  refine wp_region_lit ?_
  refine g_pv 5 [(18, .int .i64 7), (19, .int .i64 n), (20, .int .i64 7), (21, .int .i64 56), (22, .int .i64 (Int.fdiv n (2 ^ 56)))] (by kernel_rfl) ?_
  refine g_op (by kernel_rfl) (op_eq (.int .u8 (↑(byteAt n 7).toNat : Int)) (.int .u8 (IntKind.u8.wrap (Int.fdiv n (2 ^ 56)))) (by kernel_rfl) (congrArg (Value.int .u8) (byte_shr h0 7)) ?_)
  refine g_pv 1 [(24, .pointer (some ⟨b1, 7, none⟩))] (by kernel_rfl) ?_
  refine g_op (by kernel_rfl) (op_store (v := .int .u8 (↑(byteAt n 7).toNat : Int)) (b := b1) (off := 7) rfl (by kernel_rfl) (by kernel_rfl) (by kernel_rfl) rfl k4 (by first | decide | simp) ?_)
  intro W5 u5 k5
  change Blk _ _ [.int .u8 0, .int .u8 0, .int .u8 0, .int .u8 0, .int .u8 (↑(byteAt n 4).toNat : Int), .int .u8 (↑(byteAt n 5).toNat : Int), .int .u8 (↑(byteAt n 6).toNat : Int), .int .u8 (↑(byteAt n 7).toNat : Int)] _ at k5
  replace hB := u5.below hB g1
  refine wpList_nil ?_
  refine wp_region_lit ?_
  refine g_pv 3 [(16, .int .i64 7), (17, .int .i64 8), (6, .int .i64 8)] (by kernel_rfl) ?_
  refine wpList_nil ?_
  refine g_round ?_
  refine wp_seq ?_
  refine wp_seq ?_
  refine wp_region_lit ?_
  refine g_pv 2 [(14, .int .i64 8), (15, .bool false)] (by kernel_rfl) ?_
  refine wpList_nil ?_
  refine wp_cond_false (by kernel_rfl) ?_
  refine wp_exit ?_
  refine then_exit ?_
  refine then_exit ?_
  refine inBlock_hit ?_
  refine wp_region_lit ?_
  refine g_pv 2 [(25, .int .i64 n), (26, .int .i64 (Int.fdiv n (2 ^ 24)))] (by kernel_rfl) ?_
  refine g_op (by kernel_rfl) (op_eq (.int .u8 (↑(byteAt n 3).toNat : Int)) (.int .u8 (IntKind.u8.wrap (Int.fdiv n (2 ^ 24)))) (by kernel_rfl) (congrArg (Value.int .u8) (byte_shr h0 3)) ?_)
  refine g_pv 2 [(28, .int .i64 n), (29, .int .i64 (Int.fdiv n (2 ^ 16)))] (by kernel_rfl) ?_
  refine g_op (by kernel_rfl) (op_eq (.int .u8 (↑(byteAt n 2).toNat : Int)) (.int .u8 (IntKind.u8.wrap (Int.fdiv n (2 ^ 16)))) (by kernel_rfl) (congrArg (Value.int .u8) (byte_shr h0 2)) ?_)
  refine g_pure 1 ⟨#[.int .i64 n, .int .i64 8, undef, undef, .slice none 0 0, .pointer (some ⟨b1, 0, none⟩), .int .i64 8, .int .i64 8, .bool true, .bool true, undef, undef, undef, undef, .int .i64 8, .bool false, .int .i64 7, .int .i64 8, .int .i64 7, .int .i64 n, .int .i64 7, .int .i64 56, .int .i64 (Int.fdiv n (2 ^ 56)), .int .u8 (↑(byteAt n 7).toNat : Int), .pointer (some ⟨b1, 7, none⟩), .int .i64 n, .int .i64 (Int.fdiv n (2 ^ 24)), .int .u8 (↑(byteAt n 3).toNat : Int), .int .i64 n, .int .i64 (Int.fdiv n (2 ^ 16)), .int .u8 (↑(byteAt n 2).toNat : Int), .pointer (some ⟨b1, 3, none⟩), undef, undef, undef, undef, undef, undef, undef, undef, undef, undef, undef], []⟩ (by kernel_rfl) ?_
  refine g_op (by kernel_rfl) (op_store (v := .int .u8 (↑(byteAt n 3).toNat : Int)) (b := b1) (off := 3) rfl (by kernel_rfl) (by kernel_rfl) (by kernel_rfl) rfl k5 (by first | decide | simp) ?_)
  intro W6 u6 k6
  change Blk _ _ [.int .u8 0, .int .u8 0, .int .u8 0, .int .u8 (↑(byteAt n 3).toNat : Int), .int .u8 (↑(byteAt n 4).toNat : Int), .int .u8 (↑(byteAt n 5).toNat : Int), .int .u8 (↑(byteAt n 6).toNat : Int), .int .u8 (↑(byteAt n 7).toNat : Int)] _ at k6
  replace hB := u6.below hB g1
  refine g_pv 1 [(32, .pointer (some ⟨b1, 2, none⟩))] (by kernel_rfl) ?_
  refine g_op (by kernel_rfl) (op_store (v := .int .u8 (↑(byteAt n 2).toNat : Int)) (b := b1) (off := 2) rfl (by kernel_rfl) (by kernel_rfl) (by kernel_rfl) rfl k6 (by first | decide | simp) ?_)
  intro W7 u7 k7
  change Blk _ _ [.int .u8 0, .int .u8 0, .int .u8 (↑(byteAt n 2).toNat : Int), .int .u8 (↑(byteAt n 3).toNat : Int), .int .u8 (↑(byteAt n 4).toNat : Int), .int .u8 (↑(byteAt n 5).toNat : Int), .int .u8 (↑(byteAt n 6).toNat : Int), .int .u8 (↑(byteAt n 7).toNat : Int)] _ at k7
  replace hB := u7.below hB g1
  refine wpList_nil ?_
  refine wp_region_lit ?_
  refine g_pv 2 [(33, .int .i64 n), (34, .int .i64 (Int.fdiv n (2 ^ 8)))] (by kernel_rfl) ?_
  refine g_op (by kernel_rfl) (op_eq (.int .u8 (↑(byteAt n 1).toNat : Int)) (.int .u8 (IntKind.u8.wrap (Int.fdiv n (2 ^ 8)))) (by kernel_rfl) (congrArg (Value.int .u8) (byte_shr h0 1)) ?_)
  refine g_pv 1 [(36, .pointer (some ⟨b1, 1, none⟩))] (by kernel_rfl) ?_
  refine g_op (by kernel_rfl) (op_store (v := .int .u8 (↑(byteAt n 1).toNat : Int)) (b := b1) (off := 1) rfl (by kernel_rfl) (by kernel_rfl) (by kernel_rfl) rfl k7 (by first | decide | simp) ?_)
  intro W8 u8 k8
  change Blk _ _ [.int .u8 0, .int .u8 (↑(byteAt n 1).toNat : Int), .int .u8 (↑(byteAt n 2).toNat : Int), .int .u8 (↑(byteAt n 3).toNat : Int), .int .u8 (↑(byteAt n 4).toNat : Int), .int .u8 (↑(byteAt n 5).toNat : Int), .int .u8 (↑(byteAt n 6).toNat : Int), .int .u8 (↑(byteAt n 7).toNat : Int)] _ at k8
  replace hB := u8.below hB g1
  refine wpList_nil ?_
  refine wp_seq ?_
  refine wp_region_lit ?_
  refine g_pv 1 [(37, .int .i64 n)] (by kernel_rfl) ?_
  refine g_op (by kernel_rfl) (op_eq (.int .u8 (↑(byteAt n 0).toNat : Int)) (.int .u8 (IntKind.u8.wrap n)) (by kernel_rfl) (congrArg (Value.int .u8) (byte_0 h0)) ?_)
  refine g_pv 1 [(39, .pointer (some ⟨b1, 0, none⟩))] (by kernel_rfl) ?_
  refine g_op (by kernel_rfl) (op_store (v := .int .u8 (↑(byteAt n 0).toNat : Int)) (b := b1) (off := 0) rfl (by kernel_rfl) (by kernel_rfl) (by kernel_rfl) rfl k8 (by first | decide | simp) ?_)
  intro W9 u9 k9
  change Blk _ _ [.int .u8 (↑(byteAt n 0).toNat : Int), .int .u8 (↑(byteAt n 1).toNat : Int), .int .u8 (↑(byteAt n 2).toNat : Int), .int .u8 (↑(byteAt n 3).toNat : Int), .int .u8 (↑(byteAt n 4).toNat : Int), .int .u8 (↑(byteAt n 5).toNat : Int), .int .u8 (↑(byteAt n 6).toNat : Int), .int .u8 (↑(byteAt n 7).toNat : Int)] _ at k9
  replace hB := u9.below hB g1
  refine wpList_nil ?_
  refine wp_exit ?_
  refine inBlock_hit ?_
  refine wp_seq ?_
  refine wp_region_lit ?_
  refine g_pv 2 [(40, .int .i64 8), (41, .slice (some ⟨b1, 0, none⟩) 8 8)] (by kernel_rfl) ?_
  have hs10 : w.heap.size ≤ (W9).heap.size := hB.size
  refine g_op (by kernel_rfl) (op_call (lb := #[]) 12 #[.slice (some ⟨b1, 0, none⟩) 8 8] rfl (by kernel_rfl) (fun _ _ => by kernel_rfl) (by kernel_rfl) ((clone_bytesN (some ⟨b1, 0, none⟩) 8 8 (leB n 8) _ rfl (k9.bys (leB n 8) 8 8 rfl rfl (by decide) (by decide)) (by decide)).mono ?_))
  rintro e W10 ⟨r, rfl, hb10, ho⟩
  refine ⟨_, rfl, ?_⟩
  replace hB := Bl.next hB hb10
  replace k9 := k9.below hb10
  replace ho := own_mono ho hs10
  refine g_pv 1 [(4, r)] (by kernel_rfl) ?_
  refine wpList_nil ?_
  refine wp_ret ?_
  exact g_ret r (by kernel_rfl) (by kernel_rfl) ⟨_, rfl, hB, ho⟩
end Go.Proofs.Ytoiblgeheblddaa

