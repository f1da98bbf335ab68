/- Package alloc at an image of its own: New, Next, Lay, Left, Used. -/
import Derived.Test.YtbopakjiahojdaaGreatDoorImage
namespace Go.Proofs.YtbopakjiahojdaaGreatDoor
open Go.RowKit Go.Extern.Stop Go.Stop Go.Extern
set_option linter.unusedVariables false
attribute [local irreducible] wpList wpAnyH Code.wp Oper.wp

/-- j numbers from f on -/
def rngJ (f j : Nat) : List Int := (List.range j).map fun i => ((f + i : Nat) : Int)
theorem rngJ_succ (f j : Nat) : rngJ f (j + 1) = rngJ f j ++ [((f + j : Nat) : Int)] := by simp [rngJ, List.range_succ]
theorem rngJ_get {f N k : Nat} (h : k < N) : (rngJ f N).getD k 0 = ((f + k : Nat) : Int) := by simp [rngJ, List.getD, List.getElem?_range h]
theorem rngJ_len (f j : Nat) : (rngJ f j).length = j := by simp [rngJ]
/-- an allocator that has handed out k of N numbers from f on, of an image whose bytes are l -/
structure Al (B ba b g n c : Nat) (pa : Option Addr) (ca f N k : Nat) (l : List UInt8) (w : World) : Prop where
  blkA : Blk w ba [.slice pa N ca, .int .i64 (k : Int), .pointer (some ⟨b, 0, none⟩)] 95
  blkI : Blk w b [.slice (some ⟨g, 0, none⟩) n c] 98
  data : w.ownsRow B 5 1 (.slice (some ⟨g, 0, none⟩) n c) n (l.map bv)
  nums : w.ownsRow B 3 1 (.slice pa N ca) N ((rngJ f N).map (Value.int .i64))
/-- what never changes of it -/
structure AlC (B ba n c ca f N : Nat) : Prop where
  hn : n ≤ 3686400
  hc : n ≤ c
  hca : N ≤ ca
  hf : f + N ≤ n / 256
  hB : B ≤ ba
set_option maxRecDepth 100000 in
set_option maxHeartbeats 1000000 in
theorem alloc_New (b : Nat) (p0 : Option Addr) (n c f : Nat) (w : World) (hk : Blk w b [.slice p0 n c] 98) (hn : n ≤ 3686400) (h1 : 1 ≤ f) (h2 : f ≤ n / 256) :
    Calls Tryz.prog 22 #[.pointer (some ⟨b, 0, none⟩), .int .i64 (↑f : Int)] w (RetS (fun w' r => ∃ ba p c2, r = .tuple #[.pointer (some ⟨ba, 0, none⟩), .nilIface] ∧ w.heap.size ≤ ba ∧ Blk w' ba [.slice p (n / 256 - f) c2, .int .i64 0, .pointer (some ⟨b, 0, none⟩)] 95 ∧ w'.ownsRow w.heap.size 3 1 (.slice p (n / 256 - f) c2) (n / 256 - f) ((rngJ f (n / 256 - f)).map (Value.int .i64))) w) := by
  refine calls_of_wp Tryz.func22 rfl ?_
  refine g_fr ⟨#[.pointer (some ⟨b, 0, none⟩), .int .i64 (↑f : Int), undef, undef, undef, undef, undef, undef, undef, undef, undef, undef, undef, undef, undef, undef, undef, undef, undef, undef, undef, undef, undef, undef, undef, undef, undef, undef, undef, undef, undef, undef, undef, undef, undef, undef, undef], []⟩ (by kernel_rfl) ?_
  refine wp_seq ?_
  refine wp_region_lit ?_
  refine g_pv 2 [(4, .pointer none), (5, .nilIface)] (by kernel_rfl) ?_
  refine wpList_nil ?_
  refine wp_seq ?_
  refine wp_seq ?_
  refine wp_region_lit ?_
  refine g_pv 7 [(8, .pointer (some ⟨b, 0, none⟩)), (9, .bool false), (10, .bool false), (11, .int .i64 (↑f : Int)), (12, .bool (decide ((↑f : Int) < (1 : Int)))), (13, .bool (decide ((↑f : Int) < (1 : Int)))), (14, .bool (decide ((↑f : Int) < (1 : Int))))] (by kernel_rfl) ?_
  have hc1 : (decide ((↑f : Int) < (1 : Int)) : Bool) = false := decide_eq_false (by omega)
  refine g_b [12, 13, 14] _ _ hc1 (by kernel_rfl) ?_
  refine g_pv 2 [(15, .int .i64 (↑f : Int)), (16, .pointer (some ⟨b, 0, none⟩))] (by kernel_rfl) ?_
  refine g_op (by kernel_rfl) (op_call (lb := #[]) 52 #[.pointer (some ⟨b, 0, none⟩)] rfl (by kernel_rfl) (fun _ _ => by kernel_rfl) (by kernel_rfl) ((image_Blocks b p0 n c _ hk (by omega)).mono ?_))
  rintro e W2 ⟨rfl, hb2⟩
  refine ⟨_, rfl, ?_⟩
  have hB := hb2
  replace hk := hk.below hb2
  refine g_pv 2 [(18, .bool (decide ((↑f : Int) > (↑(n / 256) : Int)))), (19, .bool (decide ((↑f : Int) > (↑(n / 256) : Int))))] (by kernel_rfl) ?_
  refine wpList_nil ?_
  refine wp_cond_split (t := decide ((↑f : Int) > (↑(n / 256) : Int))) (by kernel_rfl) (fun hh => absurd (hh.symm.trans (show (decide ((↑f : Int) > (↑(n / 256) : Int)) : Bool) = false from decide_eq_false (by omega))) (by decide)) (fun _ => ?_)
  refine wp_skip ?_
  refine wp_seq ?_
  refine wp_region_lit ?_
  refine g_pv 1 [(6, .slice none 0 0)] (by kernel_rfl) ?_
  refine wpList_nil ?_
  refine wp_seq ?_
  refine wp_seq ?_
  refine wp_region_lit ?_
  refine g_pv 2 [(21, .int .i64 (↑f : Int)), (7, .int .i64 (↑f : Int))] (by kernel_rfl) ?_
  refine wpList_nil ?_
  refine wp_block ?_
  refine g_fr ⟨#[.pointer (some ⟨b, 0, none⟩), .int .i64 (↑f : Int), undef, undef, .pointer none, .nilIface, .slice none 0 0, .int .i64 (↑f : Int), .pointer (some ⟨b, 0, none⟩), .bool false, .bool false, .int .i64 (↑f : Int), .bool false, .bool false, .bool false, .int .i64 (↑f : Int), .pointer (some ⟨b, 0, none⟩), .int .i64 (↑(n / 256) : Int), .bool (decide ((↑f : Int) > (↑(n / 256) : Int))), .bool (decide ((↑f : Int) > (↑(n / 256) : Int))), undef, .int .i64 (↑f : Int), undef, undef, undef, undef, undef, undef, undef, undef, undef, undef, undef, undef, undef, undef, undef], []⟩ (by kernel_rfl) ?_
  refine wp_loop (fun act V => ∃ (j : Nat) (p : Option Addr) (c2 : Nat) (x4 : Nat → Value), act = ⟨#[.pointer (some ⟨b, 0, none⟩), .int .i64 (↑f : Int), undef, undef, .pointer none, .nilIface, .slice p j c2, .int .i64 (↑(f + j) : Int), .pointer (some ⟨b, 0, none⟩), .bool false, .bool false, .int .i64 (↑f : Int), .bool false, .bool false, .bool false, .int .i64 (↑f : Int), .pointer (some ⟨b, 0, none⟩), .int .i64 (↑(n / 256) : Int), .bool (decide ((↑f : Int) > (↑(n / 256) : Int))), .bool (decide ((↑f : Int) > (↑(n / 256) : Int))), undef, .int .i64 (↑f : Int), (x4 0), (x4 1), (x4 2), (x4 3), (x4 4), (x4 5), (x4 6), (x4 7), (x4 8), (x4 9), undef, undef, undef, undef, undef], []⟩ ∧ Below w.heap.size w V ∧ Blk V b ([.slice p0 n c]) 98 ∧ V.ownsRow w.heap.size 3 1 (.slice p j c2) j ((rngJ f j).map (Value.int .i64)) ∧ f + j ≤ n / 256) (fun act V => n / 256 - ((intOf (act.tmps.getD 7 undef))).toNat) ⟨0, _, _, (pk [undef, undef, undef, undef, undef, undef, undef, undef, undef, undef]), rfl, hB, hk, World.ownsRow_nil _ _ _ _, by omega⟩ ?_
  rintro _ W4 ⟨j, p, c2, x4, rfl, hB, k4_b, ho, hj⟩
  refine wp_seq ?_
  refine wp_seq ?_
  refine wp_region_lit ?_
  refine g_pv 2 [(22, .int .i64 (↑(f + j) : Int)), (23, .pointer (some ⟨b, 0, none⟩))] (by kernel_rfl) ?_
  refine g_op (by kernel_rfl) (op_call (lb := #[]) 52 #[.pointer (some ⟨b, 0, none⟩)] rfl (by kernel_rfl) (fun _ _ => by kernel_rfl) (by kernel_rfl) ((image_Blocks b p0 n c _ k4_b (by omega)).mono ?_))
  rintro e W5 ⟨rfl, hb5⟩
  refine ⟨_, rfl, ?_⟩
  replace hB := Bl.next hB hb5
  replace k4_b := k4_b.below hb5
  replace ho := own_below ho hb5
  refine g_pv 1 [(25, .bool (decide ((↑(f + j) : Int) < (↑(n / 256) : Int))))] (by kernel_rfl) ?_
  refine wpList_nil ?_
  refine wp_cond_split (t := decide ((↑(f + j) : Int) < (↑(n / 256) : Int))) (by kernel_rfl) (fun hc6 => ?_) (fun hc6 => ?_)
  · have hc6 := of_decide_eq_true hc6
    refine wp_skip ?_
    refine wp_seq ?_
    refine wp_block ?_
    refine wp_region_lit ?_
    refine g_pv 2 [(28, .slice p j c2), (29, .int .i64 (↑(f + j) : Int))] (by kernel_rfl) ?_
    refine g_op (by kernel_rfl) (op_buildSlice 3 [.int .i64 (↑(f + j) : Int)] rfl (by kernel_rfl) ?_)
    intro b7 W7 n7
    have d7_b := n7.ne k4_b
    have g7 := n7.ge hB
    have r7_ho := own_ne ho n7
    replace hB := Bl.next hB n7.below
    replace k4_b := k4_b.below n7.below
    replace ho := own_below ho n7.below
    have k7 := n7.blk
    refine g_op (by kernel_rfl) (op_app (e := 3) (n := j) (xs := (rngJ f j).map (Value.int .i64)) (m := 1) (news := [.int .i64 (↑(f + j) : Int)]) (.int .i64 0) 1 8 (j + 1) ((rngJ f (j + 1)).map (Value.int .i64)) rfl Tryz.underlying31 (by kernel_rfl) rfl (by decide) (by kernel_rfl) ho (by kernel_rfl) (k7.sl 1 1 (by decide) (by decide)) rfl (by simp [Value.oneCell']) (by unfold maxLen; omega) (by omega) hB.size (by rfl) (by rw [rngJ_succ]; simp) ?_)
    intro p8 c8 W8 o8 hg8 hb8
    replace k4_b := k4_b.grown hg8 ho (by decide)
    replace hB := hB.trans hb8
    refine g_pv 1 [(6, .slice p8 (j + 1) c8)] (by kernel_rfl) ?_
    refine wpList_nil ?_
    refine wp_region_lit ?_
    refine g_pv 1 [(26, .int .i64 (↑(f + j) : Int))] (by kernel_rfl) ?_
    refine g_op (by kernel_rfl) (op_wrap .i64 ((↑(f + j) : Int) + 1) (↑((f + j) + 1) : Int) (by kernel_rfl) ((show IntKind.i64.wrap ((↑(f + j) : Int) + 1) = ((↑(f + j) : Int) + 1) from by first | exact IntWalk.i64_in _ (by omega) | (simp only [IntKind.wrap]; omega)).trans (by omega)) ?_)
    refine g_pv 1 [(7, .int .i64 (↑((f + j) + 1) : Int))] (by kernel_rfl) ?_
    refine wpList_nil ?_
    refine g_nfr ⟨#[.pointer (some ⟨b, 0, none⟩), .int .i64 (↑f : Int), undef, undef, .pointer none, .nilIface, .slice p8 (j + 1) c8, .int .i64 (↑((f + j) + 1) : Int), .pointer (some ⟨b, 0, none⟩), .bool false, .bool false, .int .i64 (↑f : Int), .bool false, .bool false, .bool false, .int .i64 (↑f : Int), .pointer (some ⟨b, 0, none⟩), .int .i64 (↑(n / 256) : Int), .bool (decide ((↑f : Int) > (↑(n / 256) : Int))), .bool (decide ((↑f : Int) > (↑(n / 256) : Int))), undef, .int .i64 (↑f : Int), .int .i64 (↑(f + j) : Int), .pointer (some ⟨b, 0, none⟩), .int .i64 (↑(n / 256) : Int), .bool (decide ((↑(f + j) : Int) < (↑(n / 256) : Int))), .int .i64 (↑(f + j) : Int), .int .i64 (↑((f + j) + 1) : Int), .slice p j c2, .int .i64 (↑(f + j) : Int), .slice (some ⟨b7, 0, none⟩) 1 1, .slice p8 (j + 1) c8, undef, undef, undef, undef, undef], []⟩ (by kernel_rfl) ?_
    refine ⟨⟨j + 1, _, _, (pk [.int .i64 (↑(f + j) : Int), .pointer (some ⟨b, 0, none⟩), .int .i64 (↑(n / 256) : Int), .bool (decide ((↑(f + j) : Int) < (↑(n / 256) : Int))), .int .i64 (↑(f + j) : Int), .int .i64 (↑((f + j) + 1) : Int), .slice p j c2, .int .i64 (↑(f + j) : Int), .slice (some ⟨b7, 0, none⟩) 1 1, .slice p8 (j + 1) c8]), rfl, hB, k4_b, o8, by omega⟩, ?_⟩
    show n / 256 - ((↑((f + j) + 1) : Int)).toNat < n / 256 - ((↑(f + j) : Int)).toNat
    omega
  · have hc6 := of_decide_eq_false hc6
    refine wp_exit ?_
    refine then_exit ?_
    refine then_exit ?_
    refine inBlock_hit ?_
    refine wp_seq ?_
    refine wp_region_lit ?_
    refine g_pv 4 [(32, .slice p j c2), (33, .agg #[.slice p j c2, .int .i64 0]), (34, .pointer (some ⟨b, 0, none⟩)), (35, .agg #[.slice p j c2, .int .i64 0, .pointer (some ⟨b, 0, none⟩)])] (by kernel_rfl) ?_
    refine g_op (by kernel_rfl) (op_box [.slice p j c2, .int .i64 0, .pointer (some ⟨b, 0, none⟩)] rfl (by kernel_rfl) ?_)
    intro b9 W9 n9
    have d9_b := n9.ne k4_b
    have g9 := n9.ge hB
    replace hB := Bl.next hB n9.below
    replace k4_b := k4_b.below n9.below
    replace ho := own_below ho n9.below
    have k9 := n9.blk
    refine g_pv 2 [(4, .pointer (some ⟨b9, 0, none⟩)), (5, .nilIface)] (by kernel_rfl) ?_
    refine wpList_nil ?_
    refine wp_ret ?_
    refine g_ret (.tuple #[.pointer (some ⟨b9, 0, none⟩), .nilIface]) (by kernel_rfl) (by kernel_rfl) ?_
    obtain rfl : j = n / 256 - f := by omega
    exact ⟨_, rfl, hB, _, _, _, rfl, g9, k9, ho⟩
set_option maxRecDepth 100000 in
set_option maxHeartbeats 1000000 in
theorem alloc_nobody (ba b : Nat) (v x : Value) (w : World) (hk : Blk w ba [v, x, .pointer (some ⟨b, 0, none⟩)] 95) :
    Calls Tryz.prog 49 #[.pointer (some ⟨ba, 0, none⟩)] w (Ret (.bool false) w) := by
  refine calls_of_wp Tryz.func49 rfl ?_
  refine g_fr ⟨#[.pointer (some ⟨ba, 0, none⟩), undef, undef, undef, undef, undef, undef, undef, undef, undef, undef, undef], []⟩ (by kernel_rfl) ?_
  refine wp_seq ?_
  refine wp_region_lit ?_
  refine g_pv 1 [(2, .bool false)] (by kernel_rfl) ?_
  refine wpList_nil ?_
  refine wp_seq ?_
  refine wp_region_lit ?_
  refine g_pv 6 [(3, .pointer (some ⟨ba, 0, none⟩)), (4, .bool false), (5, .bool false), (6, .pointer (some ⟨ba, 0, none⟩)), (7, .pointer (some ⟨ba, 0, none⟩)), (8, .pointer (some ⟨ba, 2, none⟩))] (by kernel_rfl) ?_
  refine g_op (by kernel_rfl) (op_load ⟨ba, 2, none⟩ (.pointer (some ⟨b, 0, none⟩)) rfl (by kernel_rfl) (by kernel_rfl) (hk.cell (i := 2) rfl) ?_)
  refine g_pv 3 [(10, .bool false), (11, .bool false), (2, .bool false)] (by kernel_rfl) ?_
  refine wpList_nil ?_
  refine wp_ret ?_
  exact g_ret (.bool false) (by kernel_rfl) (by kernel_rfl) ⟨rfl, (Below.refl w.heap.size _)⟩
set_option maxRecDepth 100000 in
set_option maxHeartbeats 1000000 in
theorem alloc_left (ba : Nat) (p : Option Addr) (N c k : Nat) (m : Value) (w : World) (hk : Blk w ba [.slice p N c, .int .i64 (k : Int), m] 95) (h1 : k ≤ N) :
    Calls Tryz.prog 58 #[.pointer (some ⟨ba, 0, none⟩)] w (Ret (.slice (cutA p k c 1) (N - k) (c - k)) w) := by
  refine calls_of_wp Tryz.func58 rfl ?_
  refine g_fr ⟨#[.pointer (some ⟨ba, 0, none⟩), undef, undef, undef, undef, undef, undef, undef, undef, undef, undef, undef], []⟩ (by kernel_rfl) ?_
  refine wp_seq ?_
  refine wp_region_lit ?_
  refine g_pv 1 [(2, .slice none 0 0)] (by kernel_rfl) ?_
  refine wpList_nil ?_
  refine wp_seq ?_
  have hB := (below_drew w)
  replace hk := hk.below (below_drew w)
  refine h_reg (Below (w.drew).heap.size (w.drew)) 10 rfl #[false, false, false, false, false, false, false, false, false, false] rfl (by kernel_rfl) (Below.refl _ _) ?_
  intro hS1
  have hBd3 := hB
  have kd3_ba := hk
  refine h_pv [0, 1, 2] 7 rfl #[true, true, true, false, false, false, false, false, false, false] [(3, .pointer (some ⟨ba, 0, none⟩)), (4, .pointer (some ⟨ba, 0, none⟩)), (5, .pointer (some ⟨ba, 0, none⟩))] (by kernel_rfl) (fun _ _ _ _ _ h => h) (by kernel_rfl) hS1 ?_
  refine h_load 3 6 rfl ⟨ba, 0, none⟩ (.slice p N c) rfl (by kernel_rfl) (by kernel_rfl) (by kernel_rfl) (fun _ _ _ _ _ h => h) (by kernel_rfl) rfl (by kernel_rfl) (by kernel_rfl) (fun V hV => ((kd3_ba.below hV).cell (i := 0) rfl)) hS1 ?_
  refine h_pv [4, 5, 6] 3 rfl #[true, true, true, true, true, true, true, false, false, false] [(7, .pointer (some ⟨ba, 0, none⟩)), (8, .pointer (some ⟨ba, 0, none⟩)), (9, .pointer (some ⟨ba, 1, none⟩))] (by kernel_rfl) (fun _ _ _ _ _ h => h) (by kernel_rfl) hS1 ?_
  refine h_load 7 2 rfl ⟨ba, 1, none⟩ (.int .i64 (↑k : Int)) rfl (by kernel_rfl) (by kernel_rfl) (by kernel_rfl) (fun _ _ _ _ _ h => h) (by kernel_rfl) rfl (by kernel_rfl) (by kernel_rfl) (fun V hV => ((kd3_ba.below hV).cell (i := 1) rfl)) hS1 ?_
  refine h_val 8 1 rfl (.slice (cutA p k c 1) (N - k) (c - k)) rfl (by kernel_rfl) (by kernel_rfl) (by kernel_rfl) (fun _ _ _ _ _ h => h) (by kernel_rfl) (fun V hV => run_sliceLA (k := k) (b := p) (n := N) (c := c) (i := (↑k : Int)) (ki := .i64) 1 rfl (by kernel_rfl) (by kernel_rfl) rfl (by omega) Tryz.underlying31 (by kernel_rfl) V) hS1 ?_
  refine h_pv [9] 0 rfl #[true, true, true, true, true, true, true, true, true, true] [(2, .slice (cutA p k c 1) (N - k) (c - k))] (by kernel_rfl) (fun _ _ _ _ _ h => h) (by kernel_rfl) hS1 ?_
  refine h_done _ (by kernel_rfl) ?_
  refine wp_ret ?_
  exact g_ret (.slice (cutA p k c 1) (N - k) (c - k)) (by kernel_rfl) (by kernel_rfl) ⟨rfl, hB⟩
set_option maxRecDepth 100000 in
set_option maxHeartbeats 1000000 in
theorem alloc_Left (ba b : Nat) (p : Option Addr) (N c k : Nat) (w : World) (hk : Blk w ba [.slice p N c, .int .i64 (k : Int), .pointer (some ⟨b, 0, none⟩)] 95) (h1 : k ≤ N) :
    Calls Tryz.prog 29 #[.pointer (some ⟨ba, 0, none⟩)] w (Ret (.int .i64 ((N - k : Nat) : Int)) w) := by
  refine calls_of_wp Tryz.func29 rfl ?_
  refine g_fr ⟨#[.pointer (some ⟨ba, 0, none⟩), undef, undef, undef, undef, undef, undef, undef, undef, undef], []⟩ (by kernel_rfl) ?_
  refine wp_seq ?_
  refine wp_region_lit ?_
  refine g_pv 1 [(2, .int .i64 0)] (by kernel_rfl) ?_
  refine wpList_nil ?_
  refine wp_seq ?_
  refine wp_seq ?_
  refine wp_region_lit ?_
  refine g_pv 1 [(3, .pointer (some ⟨ba, 0, none⟩))] (by kernel_rfl) ?_
  refine g_op (by kernel_rfl) (op_call (lb := #[]) 49 #[.pointer (some ⟨ba, 0, none⟩)] rfl (by kernel_rfl) (fun _ _ => by kernel_rfl) (by kernel_rfl) ((alloc_nobody ba b _ _ _ hk).mono ?_))
  rintro e W1 ⟨rfl, hb1⟩
  refine ⟨_, rfl, ?_⟩
  have hB := hb1
  replace hk := hk.below hb1
  refine wpList_nil ?_
  refine wp_cond_false (by kernel_rfl) ?_
  refine wp_skip ?_
  refine wp_seq ?_
  refine wp_region_lit ?_
  refine g_pv 3 [(5, .pointer (some ⟨ba, 0, none⟩)), (6, .pointer (some ⟨ba, 0, none⟩)), (7, .pointer (some ⟨ba, 0, none⟩))] (by kernel_rfl) ?_
  refine g_op (by kernel_rfl) (op_call (lb := #[]) 58 #[.pointer (some ⟨ba, 0, none⟩)] rfl (by kernel_rfl) (fun _ _ => by kernel_rfl) (by kernel_rfl) ((alloc_left ba p N c k _ _ hk h1).mono ?_))
  rintro e W2 ⟨rfl, hb2⟩
  refine ⟨_, rfl, ?_⟩
  replace hB := Bl.next hB hb2
  replace hk := hk.below hb2
  refine g_pv 2 [(9, .int .i64 (↑(N - k) : Int)), (2, .int .i64 (↑(N - k) : Int))] (by kernel_rfl) ?_
  refine wpList_nil ?_
  refine wp_ret ?_
  exact g_ret (.int .i64 (↑(N - k) : Int)) (by kernel_rfl) (by kernel_rfl) ⟨rfl, hB⟩
set_option maxRecDepth 100000 in
set_option maxHeartbeats 1000000 in
theorem alloc_Used (ba b : Nat) (v : Value) (k : Nat) (w : World) (hk : Blk w ba [v, .int .i64 (k : Int), .pointer (some ⟨b, 0, none⟩)] 95) :
    Calls Tryz.prog 16 #[.pointer (some ⟨ba, 0, none⟩)] w (Ret (.int .i64 (k : Int)) w) := by
  refine calls_of_wp Tryz.func16 rfl ?_
  refine g_fr ⟨#[.pointer (some ⟨ba, 0, none⟩), undef, undef, undef, undef, undef, undef, undef, undef, undef], []⟩ (by kernel_rfl) ?_
  refine wp_seq ?_
  refine wp_region_lit ?_
  refine g_pv 1 [(2, .int .i64 0)] (by kernel_rfl) ?_
  refine wpList_nil ?_
  refine wp_seq ?_
  refine wp_seq ?_
  refine wp_region_lit ?_
  refine g_pv 1 [(3, .pointer (some ⟨ba, 0, none⟩))] (by kernel_rfl) ?_
  refine g_op (by kernel_rfl) (op_call (lb := #[]) 49 #[.pointer (some ⟨ba, 0, none⟩)] rfl (by kernel_rfl) (fun _ _ => by kernel_rfl) (by kernel_rfl) ((alloc_nobody ba b _ _ _ hk).mono ?_))
  rintro e W1 ⟨rfl, hb1⟩
  refine ⟨_, rfl, ?_⟩
  have hB := hb1
  replace hk := hk.below hb1
  refine wpList_nil ?_
  refine wp_cond_false (by kernel_rfl) ?_
  refine wp_skip ?_
  refine wp_seq ?_
  refine wp_region_lit ?_
  refine g_pv 4 [(5, .pointer (some ⟨ba, 0, none⟩)), (6, .pointer (some ⟨ba, 0, none⟩)), (7, .pointer (some ⟨ba, 0, none⟩)), (8, .pointer (some ⟨ba, 1, none⟩))] (by kernel_rfl) ?_
  refine g_op (by kernel_rfl) (op_load ⟨ba, 1, none⟩ (.int .i64 (↑k : Int)) rfl (by kernel_rfl) (by kernel_rfl) (hk.cell (i := 1) rfl) ?_)
  refine g_pv 1 [(2, .int .i64 (↑k : Int))] (by kernel_rfl) ?_
  refine wpList_nil ?_
  refine wp_ret ?_
  exact g_ret (.int .i64 (↑k : Int)) (by kernel_rfl) (by kernel_rfl) ⟨rfl, hB⟩
/-- what is left when a number was taken -/
def Took (B ba : Nat) (p : Option Addr) (N c k : Nat) (m : Value) (L : List Int) (v : Value) (w : World) (e : Ending) (w' : World) : Prop :=
  e = .returned v ∧ Below B w w' ∧ Only [95] w w' ∧ Fr [ba] w w' ∧ Blk w' ba [.slice p N c, .int .i64 ((k + 1 : Nat) : Int), m] 95 ∧ w'.ownsRow B 3 1 (.slice p N c) N (L.map (Value.int .i64))
theorem IntsN.elem {w : World} {b : Option Addr} {n c : Nat} {l : List Int} (h : Sl w (.slice b n c) n (l.map (Value.int .i64))) (hl : l.length = n) {k : Nat} (hk : k < n) : b.isSome = true ∧ w.cell? (elemAddr b (k * 1)) = some (.int .i64 (l.getD k 0)) := by
  subst hl; exact Ints.elem h hk
set_option maxRecDepth 100000 in
set_option maxHeartbeats 1000000 in
theorem alloc_take (B ba : Nat) (p : Option Addr) (N c k : Nat) (L : List Int) (hL : L.length = N) (m : Value) (w : World) (hk : Blk w ba [.slice p N c, .int .i64 (k : Int), m] 95) (ho : w.ownsRow B 3 1 (.slice p N c) N (L.map (Value.int .i64))) (hB0 : B ≤ ba) (hBw : B ≤ w.heap.size) (hN : N ≤ 1000000) (hkN : k < N) :
    Calls Tryz.prog 56 #[.pointer (some ⟨ba, 0, none⟩)] w (Took B ba p N c k m L (.tuple #[.int .i64 (L.getD k 0), .bool true]) w) := by
  refine calls_of_wp Tryz.func56 rfl ?_
  refine g_fr ⟨#[.pointer (some ⟨ba, 0, none⟩), undef, undef, undef, undef, undef, undef, undef, undef, undef, undef, undef, undef, undef, undef, undef, undef, undef, undef, undef, undef, undef, undef, undef, undef, undef, undef, undef, undef, undef, undef, undef], []⟩ (by kernel_rfl) ?_
  refine wp_seq ?_
  refine wp_region_lit ?_
  refine g_pv 2 [(2, .int .i64 0), (3, .bool false)] (by kernel_rfl) ?_
  refine wpList_nil ?_
  refine wp_seq ?_
  refine wp_seq ?_
  have hO : Only [95] w _ := (Only.of_below (below_drew w))
  have hX : Fr [ba] w _ := (Fr.of_below (below_drew w))
  have hB := Bl.nextB (Below.refl B w) hBw (below_drew w)
  replace hk := hk.below (below_drew w)
  replace ho := own_below ho (below_drew w)
  refine h_reg (Below (w.drew).heap.size (w.drew)) 10 rfl #[false, false, false, false, false, false, false, false, false, false] rfl (by kernel_rfl) (Below.refl _ _) ?_
  intro hS1
  have hBd3 := hB
  have kd3_ba := hk
  have fd_ho := ho
  have hOd3 := hO
  refine h_pv [0, 1, 2] 7 rfl #[true, true, true, false, false, false, false, false, false, false] [(4, .pointer (some ⟨ba, 0, none⟩)), (5, .pointer (some ⟨ba, 0, none⟩)), (6, .pointer (some ⟨ba, 1, none⟩))] (by kernel_rfl) (fun _ _ _ _ _ h => h) (by kernel_rfl) hS1 ?_
  refine h_load 3 6 rfl ⟨ba, 1, none⟩ (.int .i64 (↑k : Int)) rfl (by kernel_rfl) (by kernel_rfl) (by kernel_rfl) (fun _ _ _ _ _ h => h) (by kernel_rfl) rfl (by kernel_rfl) (by kernel_rfl) (fun V hV => ((kd3_ba.below hV).cell (i := 1) rfl)) hS1 ?_
  refine h_pv [4, 5, 6] 3 rfl #[true, true, true, true, true, true, true, false, false, false] [(8, .pointer (some ⟨ba, 0, none⟩)), (9, .pointer (some ⟨ba, 0, none⟩)), (10, .pointer (some ⟨ba, 0, none⟩))] (by kernel_rfl) (fun _ _ _ _ _ h => h) (by kernel_rfl) hS1 ?_
  refine h_load 7 2 rfl ⟨ba, 0, none⟩ (.slice p N c) rfl (by kernel_rfl) (by kernel_rfl) (by kernel_rfl) (fun _ _ _ _ _ h => h) (by kernel_rfl) rfl (by kernel_rfl) (by kernel_rfl) (fun V hV => ((kd3_ba.below hV).cell (i := 0) rfl)) hS1 ?_
  refine h_pv [8, 9] 0 rfl #[true, true, true, true, true, true, true, true, true, true] [(12, .int .i64 (↑N : Int)), (13, .bool (decide ((↑k : Int) ≥ (↑N : Int))))] (by kernel_rfl) (fun _ _ _ _ _ h => h) (by kernel_rfl) hS1 ?_
  refine h_done _ (by kernel_rfl) ?_
  refine wp_cond_split (t := decide ((↑k : Int) ≥ (↑N : Int))) (by kernel_rfl) (fun hh => absurd (hh.symm.trans (show (decide ((↑k : Int) ≥ (↑N : Int)) : Bool) = false from decide_eq_false (by omega))) (by decide)) (fun _ => ?_)
  refine wp_skip ?_
  refine wp_seq ?_
  refine wp_region_lit ?_
  refine g_pv 3 [(14, .pointer (some ⟨ba, 0, none⟩)), (15, .pointer (some ⟨ba, 0, none⟩)), (16, .pointer (some ⟨ba, 1, none⟩))] (by kernel_rfl) ?_
  refine g_op (by kernel_rfl) (op_load ⟨ba, 1, none⟩ (.int .i64 (↑k : Int)) rfl (by kernel_rfl) (by kernel_rfl) (hk.cell (i := 1) rfl) ?_)
  refine g_op (by kernel_rfl) (op_val (run_wrap .i64 ((↑k : Int) + 1) (↑(k + 1) : Int) (by kernel_rfl) ((show IntKind.i64.wrap ((↑k : Int) + 1) = ((↑k : Int) + 1) from by first | exact IntWalk.i64_in _ (by omega) | (simp only [IntKind.wrap]; omega)).trans (by omega)) _) ?_)
  refine g_pv 2 [(19, .pointer (some ⟨ba, 0, none⟩)), (20, .pointer (some ⟨ba, 1, none⟩))] (by kernel_rfl) ?_
  refine g_op (by kernel_rfl) (op_store (v := .int .i64 (↑(k + 1) : Int)) (b := ba) (off := 1) rfl (by kernel_rfl) (by kernel_rfl) (by kernel_rfl) rfl hk (by first | decide | simp) ?_)
  intro W5 u5 k5
  change Blk _ _ [.slice p N c, .int .i64 (↑(k + 1) : Int), m] _ at k5
  replace hX := hX.trans (Fr.of_upd u5 (by simp))
  replace hO := hO.trans (Only.of_upd u5 hk (by decide))
  replace hB := u5.below hB hB0
  replace ho := u5.own2 ho hk (by decide)
  refine wpList_nil ?_
  refine wp_seq ?_
  replace hO := hO.trans (Only.of_below (below_drew W5))
  replace hX := hX.trans (Fr.of_below (below_drew W5))
  replace hB := Bl.nextB hB hBw (below_drew W5)
  replace k5 := k5.below (below_drew W5)
  replace ho := own_below ho (below_drew W5)
  refine h_reg (Below (W5.drew).heap.size (W5.drew)) 13 rfl #[false, false, false, false, false, false, false, false, false, false, false, false, false] rfl (by kernel_rfl) (Below.refl _ _) ?_
  intro hS6
  have hBd8 := hB
  have kd8_ba := k5
  have fd_ho := ho
  have hOd8 := hO
  refine h_pv [0, 1, 2] 10 rfl #[true, true, true, false, false, false, false, false, false, false, false, false, false] [(21, .pointer (some ⟨ba, 0, none⟩)), (22, .pointer (some ⟨ba, 0, none⟩)), (23, .pointer (some ⟨ba, 0, none⟩))] (by kernel_rfl) (fun _ _ _ _ _ h => h) (by kernel_rfl) hS6 ?_
  refine h_load 3 9 rfl ⟨ba, 0, none⟩ (.slice p N c) rfl (by kernel_rfl) (by kernel_rfl) (by kernel_rfl) (fun _ _ _ _ _ h => h) (by kernel_rfl) rfl (by kernel_rfl) (by kernel_rfl) (fun V hV => ((kd8_ba.below hV).cell (i := 0) rfl)) hS6 ?_
  refine h_pv [4, 5, 6] 6 rfl #[true, true, true, true, true, true, true, false, false, false, false, false, false] [(25, .pointer (some ⟨ba, 0, none⟩)), (26, .pointer (some ⟨ba, 0, none⟩)), (27, .pointer (some ⟨ba, 1, none⟩))] (by kernel_rfl) (fun _ _ _ _ _ h => h) (by kernel_rfl) hS6 ?_
  refine h_load 7 5 rfl ⟨ba, 1, none⟩ (.int .i64 (↑(k + 1) : Int)) rfl (by kernel_rfl) (by kernel_rfl) (by kernel_rfl) (fun _ _ _ _ _ h => h) (by kernel_rfl) rfl (by kernel_rfl) (by kernel_rfl) (fun V hV => ((kd8_ba.below hV).cell (i := 1) rfl)) hS6 ?_
  refine h_val 8 4 rfl (.int .i64 (↑k : Int)) rfl (by kernel_rfl) (by kernel_rfl) (by kernel_rfl) (fun _ _ _ _ _ h => h) (by kernel_rfl) (fun V hV => run_wrap .i64 ((↑(k + 1) : Int) - 1) (↑k : Int) (by kernel_rfl) ((show IntKind.i64.wrap ((↑(k + 1) : Int) - 1) = ((↑(k + 1) : Int) - 1) from IntWalk.i64_in _ (by omega)).trans (by omega)) V) hS6 ?_
  refine h_val 9 3 rfl (.pointer (some (elemAddr p (k * 1)))) rfl (by kernel_rfl) (by kernel_rfl) (by kernel_rfl) (fun _ _ _ _ _ h => h) (by kernel_rfl) (fun V hV => run_indexA (size := 1) (k := k) (b := p) (n := N) (c := c) (i := (↑k : Int)) (ki := .i64) rfl (by kernel_rfl) (by kernel_rfl) rfl (by omega) (IntsN.elem (own_sl ho) hL (k := k) (by omega)).1 Tryz.underlying31 (by kernel_rfl) V) hS6 ?_
  refine h_load 10 2 rfl (elemAddr p (k * 1)) (.int .i64 (L.getD k 0)) rfl (by kernel_rfl) (by kernel_rfl) (by kernel_rfl) (fun _ _ _ _ _ h => h) (by kernel_rfl) rfl (by kernel_rfl) (by kernel_rfl) (fun V hV => (IntsN.elem ((own_sl fd_ho).below hV) hL (k := k) (by omega)).2) hS6 ?_
  refine h_pv [11, 12] 0 rfl #[true, true, true, true, true, true, true, true, true, true, true, true, true] [(2, .int .i64 (L.getD k 0)), (3, .bool true)] (by kernel_rfl) (fun _ _ _ _ _ h => h) (by kernel_rfl) hS6 ?_
  refine h_done _ (by kernel_rfl) ?_
  refine wp_ret ?_
  exact g_ret (.tuple #[.int .i64 (L.getD k 0), .bool true]) (by kernel_rfl) (by kernel_rfl) ⟨rfl, hB, hO, hX, k5, ho⟩
set_option maxRecDepth 100000 in
set_option maxHeartbeats 1000000 in
theorem alloc_take_none (ba : Nat) (p : Option Addr) (N c k : Nat) (m : Value) (w : World) (hk : Blk w ba [.slice p N c, .int .i64 (k : Int), m] 95) (hkN : N ≤ k) :
    Calls Tryz.prog 56 #[.pointer (some ⟨ba, 0, none⟩)] w (Ret (.tuple #[.int .i64 0, .bool false]) w) := by
  refine calls_of_wp Tryz.func56 rfl ?_
  refine g_fr ⟨#[.pointer (some ⟨ba, 0, none⟩), undef, undef, undef, undef, undef, undef, undef, undef, undef, undef, undef, undef, undef, undef, undef, undef, undef, undef, undef, undef, undef, undef, undef, undef, undef, undef, undef, undef, undef, undef, undef], []⟩ (by kernel_rfl) ?_
  refine wp_seq ?_
  refine wp_region_lit ?_
  refine g_pv 2 [(2, .int .i64 0), (3, .bool false)] (by kernel_rfl) ?_
  refine wpList_nil ?_
  refine wp_seq ?_
  refine wp_seq ?_
  have hB := (below_drew w)
  replace hk := hk.below (below_drew w)
  refine h_reg (Below (w.drew).heap.size (w.drew)) 10 rfl #[false, false, false, false, false, false, false, false, false, false] rfl (by kernel_rfl) (Below.refl _ _) ?_
  intro hS1
  have hBd3 := hB
  have kd3_ba := hk
  refine h_pv [0, 1, 2] 7 rfl #[true, true, true, false, false, false, false, false, false, false] [(4, .pointer (some ⟨ba, 0, none⟩)), (5, .pointer (some ⟨ba, 0, none⟩)), (6, .pointer (some ⟨ba, 1, none⟩))] (by kernel_rfl) (fun _ _ _ _ _ h => h) (by kernel_rfl) hS1 ?_
  refine h_load 3 6 rfl ⟨ba, 1, none⟩ (.int .i64 (↑k : Int)) rfl (by kernel_rfl) (by kernel_rfl) (by kernel_rfl) (fun _ _ _ _ _ h => h) (by kernel_rfl) rfl (by kernel_rfl) (by kernel_rfl) (fun V hV => ((kd3_ba.below hV).cell (i := 1) rfl)) hS1 ?_
  refine h_pv [4, 5, 6] 3 rfl #[true, true, true, true, true, true, true, false, false, false] [(8, .pointer (some ⟨ba, 0, none⟩)), (9, .pointer (some ⟨ba, 0, none⟩)), (10, .pointer (some ⟨ba, 0, none⟩))] (by kernel_rfl) (fun _ _ _ _ _ h => h) (by kernel_rfl) hS1 ?_
  refine h_load 7 2 rfl ⟨ba, 0, none⟩ (.slice p N c) rfl (by kernel_rfl) (by kernel_rfl) (by kernel_rfl) (fun _ _ _ _ _ h => h) (by kernel_rfl) rfl (by kernel_rfl) (by kernel_rfl) (fun V hV => ((kd3_ba.below hV).cell (i := 0) rfl)) hS1 ?_
  refine h_pv [8, 9] 0 rfl #[true, true, true, true, true, true, true, true, true, true] [(12, .int .i64 (↑N : Int)), (13, .bool (decide ((↑k : Int) ≥ (↑N : Int))))] (by kernel_rfl) (fun _ _ _ _ _ h => h) (by kernel_rfl) hS1 ?_
  refine h_done _ (by kernel_rfl) ?_
  refine wp_cond_split (t := decide ((↑k : Int) ≥ (↑N : Int))) (by kernel_rfl) (fun _ => ?_) (fun hh => absurd (hh.symm.trans (show (decide ((↑k : Int) ≥ (↑N : Int)) : Bool) = true from decide_eq_true (by omega))) (by decide))
  refine wp_seq ?_
  refine wp_region_lit ?_
  refine g_pv 2 [(2, .int .i64 0), (3, .bool false)] (by kernel_rfl) ?_
  refine wpList_nil ?_
  refine wp_ret (then_ret ?_)
  exact g_ret (.tuple #[.int .i64 0, .bool false]) (by kernel_rfl) (by kernel_rfl) ⟨rfl, hB⟩
set_option maxRecDepth 100000 in
set_option maxHeartbeats 1000000 in
theorem alloc_Next (B ba : Nat) (p : Option Addr) (N c k : Nat) (L : List Int) (hL : L.length = N) (b q : Nat) (hq : L.getD k 0 = (q : Int)) (w : World) (hk : Blk w ba [.slice p N c, .int .i64 (k : Int), .pointer (some ⟨b, 0, none⟩)] 95) (ho : w.ownsRow B 3 1 (.slice p N c) N (L.map (Value.int .i64))) (hB0 : B ≤ ba) (hBw : B ≤ w.heap.size) (hN : N ≤ 1000000) (hkN : k < N) :
    Calls Tryz.prog 25 #[.pointer (some ⟨ba, 0, none⟩)] w (Took B ba p N c k (.pointer (some ⟨b, 0, none⟩)) L (.tuple #[.int .i64 (q : Int), .nilIface]) w) := by
  refine calls_of_wp Tryz.func25 rfl ?_
  refine g_fr ⟨#[.pointer (some ⟨ba, 0, none⟩), undef, undef, undef, undef, undef, undef, undef, undef, undef, undef, undef, undef, undef, undef, undef, undef, undef, undef, undef], []⟩ (by kernel_rfl) ?_
  refine wp_seq ?_
  refine wp_region_lit ?_
  refine g_pv 2 [(2, .int .i64 0), (3, .nilIface)] (by kernel_rfl) ?_
  refine wpList_nil ?_
  refine wp_seq ?_
  refine wp_seq ?_
  refine wp_region_lit ?_
  refine g_pv 1 [(6, .pointer (some ⟨ba, 0, none⟩))] (by kernel_rfl) ?_
  refine g_op (by kernel_rfl) (op_call (lb := #[]) 49 #[.pointer (some ⟨ba, 0, none⟩)] rfl (by kernel_rfl) (fun _ _ => by kernel_rfl) (by kernel_rfl) ((alloc_nobody ba b _ _ _ hk).mono ?_))
  rintro e W1 ⟨rfl, hb1⟩
  refine ⟨_, rfl, ?_⟩
  have hO : Only [95] w _ := (Only.of_below hb1)
  have hX : Fr [ba] w _ := (Fr.of_below hb1)
  have hB := Bl.nextB (Below.refl B w) hBw hb1
  replace hk := hk.below hb1
  replace ho := own_below ho hb1
  refine wpList_nil ?_
  refine wp_cond_false (by kernel_rfl) ?_
  refine wp_skip ?_
  refine wp_seq ?_
  refine wp_region_lit ?_
  refine g_pv 3 [(10, .pointer (some ⟨ba, 0, none⟩)), (11, .pointer (some ⟨ba, 0, none⟩)), (12, .pointer (some ⟨ba, 0, none⟩))] (by kernel_rfl) ?_
  refine g_op (by kernel_rfl) (op_call (lb := #[]) 56 #[.pointer (some ⟨ba, 0, none⟩)] rfl (by kernel_rfl) (fun _ _ => by kernel_rfl) (by kernel_rfl) ((alloc_take B ba p N c k L hL _ _ hk ho hB0 (Nat.le_trans hBw hB.size) hN hkN).mono ?_))
  rintro e W2 ⟨rfl, hb2, hO2, hX2, kA, ho⟩
  refine ⟨_, rfl, ?_⟩
  replace hO := hO.trans hO2
  replace hX := hX.trans (hX2.mono (by simp))
  replace hB := hB.trans hb2
  rw [hq]
  refine g_pv 5 [(9, .tuple #[.int .i64 (↑q : Int), .bool true]), (14, .int .i64 (↑q : Int)), (15, .bool true), (4, .int .i64 (↑q : Int)), (5, .bool true)] (by kernel_rfl) ?_
  refine wpList_nil ?_
  refine wp_seq ?_
  refine wp_seq ?_
  refine wp_region_lit ?_
  refine g_pv 2 [(16, .bool true), (17, .bool false)] (by kernel_rfl) ?_
  refine wpList_nil ?_
  refine wp_cond_false (by kernel_rfl) ?_
  refine wp_skip ?_
  refine wp_seq ?_
  refine wp_region_lit ?_
  refine g_pv 3 [(19, .int .i64 (↑q : Int)), (2, .int .i64 (↑q : Int)), (3, .nilIface)] (by kernel_rfl) ?_
  refine wpList_nil ?_
  refine wp_ret ?_
  exact g_ret (.tuple #[.int .i64 (↑q : Int), .nilIface]) (by kernel_rfl) (by kernel_rfl) ⟨rfl, hB, hO, hX, kA, ho⟩
set_option maxRecDepth 100000 in
set_option maxHeartbeats 1000000 in
theorem alloc_Next_none (ba b : Nat) (p : Option Addr) (N c k : Nat) (w : World) (hk : Blk w ba [.slice p N c, .int .i64 (k : Int), .pointer (some ⟨b, 0, none⟩)] 95) (hkN : N ≤ k) :
    Calls Tryz.prog 25 #[.pointer (some ⟨ba, 0, none⟩)] w (Ret (.tuple #[.int .i64 0, .iface 40 (.int .i64 14)]) w) := by
  refine calls_of_wp Tryz.func25 rfl ?_
  refine g_fr ⟨#[.pointer (some ⟨ba, 0, none⟩), undef, undef, undef, undef, undef, undef, undef, undef, undef, undef, undef, undef, undef, undef, undef, undef, undef, undef, undef], []⟩ (by kernel_rfl) ?_
  refine wp_seq ?_
  refine wp_region_lit ?_
  refine g_pv 2 [(2, .int .i64 0), (3, .nilIface)] (by kernel_rfl) ?_
  refine wpList_nil ?_
  refine wp_seq ?_
  refine wp_seq ?_
  refine wp_region_lit ?_
  refine g_pv 1 [(6, .pointer (some ⟨ba, 0, none⟩))] (by kernel_rfl) ?_
  refine g_op (by kernel_rfl) (op_call (lb := #[]) 49 #[.pointer (some ⟨ba, 0, none⟩)] rfl (by kernel_rfl) (fun _ _ => by kernel_rfl) (by kernel_rfl) ((alloc_nobody ba b _ _ _ hk).mono ?_))
  rintro e W1 ⟨rfl, hb1⟩
  refine ⟨_, rfl, ?_⟩
  have hB := hb1
  replace hk := hk.below hb1
  refine wpList_nil ?_
  refine wp_cond_false (by kernel_rfl) ?_
  refine wp_skip ?_
  refine wp_seq ?_
  refine wp_region_lit ?_
  refine g_pv 3 [(10, .pointer (some ⟨ba, 0, none⟩)), (11, .pointer (some ⟨ba, 0, none⟩)), (12, .pointer (some ⟨ba, 0, none⟩))] (by kernel_rfl) ?_
  refine g_op (by kernel_rfl) (op_call (lb := #[]) 56 #[.pointer (some ⟨ba, 0, none⟩)] rfl (by kernel_rfl) (fun _ _ => by kernel_rfl) (by kernel_rfl) ((alloc_take_none ba p N c k _ _ hk hkN).mono ?_))
  rintro e W2 ⟨rfl, hb2⟩
  refine ⟨_, rfl, ?_⟩
  replace hB := Bl.next hB hb2
  replace hk := hk.below hb2
  refine g_pv 5 [(9, .tuple #[.int .i64 0, .bool false]), (14, .int .i64 0), (15, .bool false), (4, .int .i64 0), (5, .bool false)] (by kernel_rfl) ?_
  refine wpList_nil ?_
  refine wp_seq ?_
  refine wp_seq ?_
  refine wp_region_lit ?_
  refine g_pv 2 [(16, .bool false), (17, .bool true)] (by kernel_rfl) ?_
  refine wpList_nil ?_
  refine wp_cond_true (by kernel_rfl) ?_
  refine wp_seq ?_
  refine wp_region_lit ?_
  refine g_pv 3 [(18, .iface 40 (.int .i64 14)), (2, .int .i64 0), (3, .iface 40 (.int .i64 14))] (by kernel_rfl) ?_
  refine wpList_nil ?_
  refine wp_ret (then_ret ?_)
  exact g_ret (.tuple #[.int .i64 0, .iface 40 (.int .i64 14)]) (by kernel_rfl) (by kernel_rfl) ⟨rfl, hB⟩
set_option maxRecDepth 100000 in
set_option maxHeartbeats 1000000 in
theorem alloc_Lay_none (ba b : Nat) (p : Option Addr) (N c k : Nat) (kind x : Value) (w : World) (hk : Blk w ba [.slice p N c, .int .i64 (k : Int), .pointer (some ⟨b, 0, none⟩)] 95) (hkN : N ≤ k) :
    Calls Tryz.prog 27 #[.pointer (some ⟨ba, 0, none⟩), kind, x] w (Ret (.tuple #[.int .i64 0, .iface 40 (.int .i64 14)]) w) := by
  refine calls_of_wp Tryz.func27 rfl ?_
  refine g_fr ⟨#[.pointer (some ⟨ba, 0, none⟩), kind, x, undef, undef, undef, undef, undef, undef, undef, undef, undef, undef, undef, undef, undef, undef, undef, undef, undef, undef, undef, undef, undef, undef, undef, undef, undef, undef, undef, undef, undef, undef, undef, undef], []⟩ (by kernel_rfl) ?_
  refine wp_seq ?_
  refine wp_region_lit ?_
  refine g_pv 2 [(6, .int .i64 0), (7, .nilIface)] (by kernel_rfl) ?_
  refine wpList_nil ?_
  refine wp_seq ?_
  refine wp_region_lit ?_
  refine g_pv 1 [(12, .pointer (some ⟨ba, 0, none⟩))] (by kernel_rfl) ?_
  refine g_op (by kernel_rfl) (op_call (lb := #[]) 25 #[.pointer (some ⟨ba, 0, none⟩)] rfl (by kernel_rfl) (fun _ _ => by kernel_rfl) (by kernel_rfl) ((alloc_Next_none ba b p N c k _ hk hkN).mono ?_))
  rintro e W1 ⟨rfl, hb1⟩
  refine ⟨_, rfl, ?_⟩
  have hB := hb1
  replace hk := hk.below hb1
  refine g_pv 5 [(11, .tuple #[.int .i64 0, .iface 40 (.int .i64 14)]), (14, .int .i64 0), (15, .iface 40 (.int .i64 14)), (8, .int .i64 0), (9, .iface 40 (.int .i64 14))] (by kernel_rfl) ?_
  refine wpList_nil ?_
  refine wp_seq ?_
  refine wp_seq ?_
  refine wp_region_lit ?_
  refine g_pv 2 [(16, .iface 40 (.int .i64 14)), (17, .bool true)] (by kernel_rfl) ?_
  refine wpList_nil ?_
  refine wp_cond_true (by kernel_rfl) ?_
  refine wp_seq ?_
  refine wp_region_lit ?_
  refine g_pv 3 [(18, .iface 40 (.int .i64 14)), (6, .int .i64 0), (7, .iface 40 (.int .i64 14))] (by kernel_rfl) ?_
  refine wpList_nil ?_
  refine wp_ret (then_ret ?_)
  exact g_ret (.tuple #[.int .i64 0, .iface 40 (.int .i64 14)]) (by kernel_rfl) (by kernel_rfl) ⟨rfl, hB⟩
/-- an allocator's next number is handed out, and its block written -/
def Laid (B ba b g n c : Nat) (pa : Option Addr) (ca f N k : Nat) (l : List UInt8) (kind : Int) (li : List UInt8) (w : World) (e : Ending) (w' : World) : Prop :=
  e = .returned (.tuple #[.int .i64 ((f + k : Nat) : Int), .nilIface]) ∧ Below B w w' ∧ Only [95, 5] w w' ∧ Fr [ba, g] w w' ∧ Al B ba b g n c pa ca f N (k + 1) (putB l ((f + k) * 256) (sealB kind ((f + k : Nat) : Int) li)) w'
theorem Only.mono {T T' : List TypeId} {w w' : World} (h : Only T w w') (hT : ∀ t, T'.contains t = false → T.contains t = false) : Only T' w w' := fun k cs t fr hk ht => h k cs t fr hk (hT t ht)
theorem only_aa {w w' : World} (h : Only [95] w w') : Only [95, 5] w w' := h.mono fun t ht => by simp at ht ⊢; exact ht.1
theorem only_ab {w w' : World} (h : Only [5] w w') : Only [95, 5] w w' := h.mono fun t ht => by simp at ht ⊢; exact ht.2
set_option maxRecDepth 100000 in
set_option maxHeartbeats 1000000 in
theorem alloc_Lay (B ba b g n c : Nat) (p : Option Addr) (ca f N k : Nat) (l : List UInt8) (kind : Int) (a : Option Addr) (ci : Nat) (li : List UInt8) (w : World) (hC : AlC B ba n c ca f N) (hA : Al B ba b g n c p ca f N k l w) (hkN : k < N) (h1 : 1 ≤ kind) (h2 : kind ≤ 4) (hin : ∀ W, Below B w W → Only [95] w W → Bys W (.slice a li.length ci) li) (hl : li.length ≤ 244) (hBw : B ≤ w.heap.size) :
    Calls Tryz.prog 27 #[.pointer (some ⟨ba, 0, none⟩), .int .i64 kind, .slice a li.length ci] w (Laid B ba b g n c p ca f N k l kind li w) := by
  obtain ⟨hk, hi, hd, ho⟩ := hA
  refine calls_of_wp Tryz.func27 rfl ?_
  refine g_fr ⟨#[.pointer (some ⟨ba, 0, none⟩), .int .i64 kind, .slice a li.length ci, undef, undef, undef, undef, undef, undef, undef, undef, undef, undef, undef, undef, undef, undef, undef, undef, undef, undef, undef, undef, undef, undef, undef, undef, undef, undef, undef, undef, undef, undef, undef, undef], []⟩ (by kernel_rfl) ?_
  refine wp_seq ?_
  refine wp_region_lit ?_
  refine g_pv 2 [(6, .int .i64 0), (7, .nilIface)] (by kernel_rfl) ?_
  refine wpList_nil ?_
  refine wp_seq ?_
  refine wp_region_lit ?_
  refine g_pv 1 [(12, .pointer (some ⟨ba, 0, none⟩))] (by kernel_rfl) ?_
  refine g_op (by kernel_rfl) (op_call (lb := #[]) 25 #[.pointer (some ⟨ba, 0, none⟩)] rfl (by kernel_rfl) (fun _ _ => by kernel_rfl) (by kernel_rfl) ((alloc_Next B ba p N ca k (rngJ f N) (rngJ_len f N) b (f + k) (rngJ_get hkN) _ hk ho hC.hB (Nat.le_trans hBw (Below.refl B _).size) (by have := hC.hf; have := hC.hn; omega) hkN).mono ?_))
  rintro e W1 ⟨rfl, hb1, hO1, hX1, kA, ho⟩
  refine ⟨_, rfl, ?_⟩
  have hO : Only [95, 5] w _ := (only_aa hO1)
  have hX : Fr [ba, g] w _ := (hX1.mono (by simp))
  have hB := hb1
  replace hi := hi.only hO1 (by decide)
  replace hd := own_only hd hO1 (by decide)
  replace hin := hin _ hb1 hO1
  refine g_pv 5 [(11, .tuple #[.int .i64 (↑(f + k) : Int), .nilIface]), (14, .int .i64 (↑(f + k) : Int)), (15, .nilIface), (8, .int .i64 (↑(f + k) : Int)), (9, .nilIface)] (by kernel_rfl) ?_
  refine wpList_nil ?_
  refine wp_seq ?_
  refine wp_seq ?_
  refine wp_region_lit ?_
  refine g_pv 2 [(16, .nilIface), (17, .bool false)] (by kernel_rfl) ?_
  refine wpList_nil ?_
  refine wp_cond_false (by kernel_rfl) ?_
  refine wp_skip ?_
  refine wp_seq ?_
  refine wp_seq ?_
  refine wp_region_lit ?_
  refine g_pv 3 [(19, .pointer (some ⟨ba, 0, none⟩)), (20, .pointer (some ⟨ba, 0, none⟩)), (21, .pointer (some ⟨ba, 2, none⟩))] (by kernel_rfl) ?_
  refine g_op (by kernel_rfl) (op_load ⟨ba, 2, none⟩ (.pointer (some ⟨b, 0, none⟩)) rfl (by kernel_rfl) (by kernel_rfl) (kA.cell (i := 2) rfl) ?_)
  refine g_pv 3 [(23, .int .i64 (↑(f + k) : Int)), (24, .int .i64 kind), (25, .slice a li.length ci)] (by kernel_rfl) ?_
  refine g_op (by kernel_rfl) (op_call (lb := #[]) 34 #[.pointer (some ⟨b, 0, none⟩), .int .i64 (↑(f + k) : Int), .int .i64 kind, .slice a li.length ci] rfl (by kernel_rfl) (fun _ _ => by kernel_rfl) (by kernel_rfl) ((block_Write B b g n c (f + k) l kind a ci li _ hi hd hC.hn hC.hc (by have := hC.hf; omega) h1 h2 hin hl (Nat.le_trans hBw hB.size)).mono ?_))
  rintro e W2 ⟨rfl, hb2, hO2, hX2, hd⟩
  refine ⟨_, rfl, ?_⟩
  replace hO := hO.trans (only_ab hO2)
  replace hX := hX.trans (hX2.mono (by simp))
  replace hB := hB.trans hb2
  replace kA := kA.only hO2 (by decide)
  replace hi := hi.only hO2 (by decide)
  replace ho := own_only ho hO2 (by decide)
  refine g_pv 1 [(10, .nilIface)] (by kernel_rfl) ?_
  refine wpList_nil ?_
  refine wp_seq ?_
  refine wp_region_lit ?_
  refine g_pv 2 [(27, .nilIface), (28, .bool false)] (by kernel_rfl) ?_
  refine wpList_nil ?_
  refine wp_cond_false (by kernel_rfl) ?_
  refine wp_skip ?_
  refine wp_seq ?_
  refine wp_region_lit ?_
  refine g_pv 3 [(34, .int .i64 (↑(f + k) : Int)), (6, .int .i64 (↑(f + k) : Int)), (7, .nilIface)] (by kernel_rfl) ?_
  refine wpList_nil ?_
  refine wp_ret ?_
  exact g_ret (.tuple #[.int .i64 (↑(f + k) : Int), .nilIface]) (by kernel_rfl) (by kernel_rfl) ⟨rfl, hB, hO, hX, kA, hi, hd, ho⟩
end Go.Proofs.YtbopakjiahojdaaGreatDoor

