/- Package image: Of, Blocks, block, Write and Bytes at an image whose bytes lie in a row of its own. -/
import Derived.Test.YtoiblgeheblddaaSeal
import Derived.Test.YtoiblgeheblddaaGw2
import Derived.Test.YtoiblgeheblddaaBlkTold
namespace Go.Proofs.Ytoiblgeheblddaa
open Go.RowKit Go.Extern.Stop Go.Stop Go.Extern
set_option linter.unusedVariables false
attribute [local irreducible] wpList wpAnyH Code.wp Oper.wp

theorem quo_nat (n k : Nat) (hn : n < 9223372036854775808) (hk : 0 < k) : IntKind.i64.wrap (Int.tdiv (n : Int) (k : Int)) = ((n / k : Nat) : Int) := by
  rw [Int.tdiv_eq_ediv_of_nonneg (Int.natCast_nonneg _), ← Int.natCast_ediv]
  exact i64_nat (Nat.lt_of_le_of_lt (Nat.div_le_self _ _) hn)
theorem min_cast (a b : Nat) : (if (b : Int) < (a : Int) then (b : Int) else (a : Int)) = ((min a b : Nat) : Int) := by split <;> omega
/-- an image at block b: its bytes are l, in a row of its own -/
def Img (B : Nat) (w : World) (b : Nat) (p : Option Addr) (c : Nat) (l : List UInt8) : Prop := Blk w b [.slice p l.length c] 50 ∧ w.ownsRow B 5 1 (.slice p l.length c) l.length (l.map bv)
set_option maxRecDepth 100000 in
set_option maxHeartbeats 1000000 in
theorem image_Blocks (b : Nat) (p : Option Addr) (n c : Nat) (w : World) (hk : Blk w b [.slice p n c] 50) (hn : n ≤ 100000000) :
    Calls Try.prog 67 #[.pointer (some ⟨b, 0, none⟩)] w (Ret (.int .i64 ((n / 256 : Nat) : Int)) w) := by
  refine calls_of_wp Try.func67 rfl ?_
  refine g_fr ⟨#[.pointer (some ⟨b, 0, none⟩), undef, undef, undef, undef, undef, undef, undef, undef, undef, undef], []⟩ (by kernel_rfl) ?_
  refine wp_seq ?_
  refine wp_region_lit ?_
  refine g_pv 1 [(2, .int .i64 0)] (by kernel_rfl) ?_
  refine wpList_nil ?_
  refine wp_seq ?_
  refine wp_seq ?_
  refine wp_region_lit ?_
  refine g_pv 2 [(3, .pointer (some ⟨b, 0, none⟩)), (4, .bool false)] (by kernel_rfl) ?_
  refine wpList_nil ?_
  refine wp_cond_false (by kernel_rfl) ?_
  refine wp_skip ?_
  refine wp_seq ?_
  refine wp_region_lit ?_
  refine g_pv 3 [(5, .pointer (some ⟨b, 0, none⟩)), (6, .pointer (some ⟨b, 0, none⟩)), (7, .pointer (some ⟨b, 0, none⟩))] (by kernel_rfl) ?_
  refine g_op (by kernel_rfl) (op_load ⟨b, 0, none⟩ (.slice p n c) rfl (by kernel_rfl) (by kernel_rfl) (hk.cell (i := 0) rfl) ?_)
  refine g_pv 1 [(9, .int .i64 (↑n : Int))] (by kernel_rfl) ?_
  refine g_op (by kernel_rfl) (op_eq (.int .i64 (↑(n / 256) : Int)) (.int .i64 (IntKind.i64.wrap (Int.tdiv (↑n : Int) 256))) (by kernel_rfl) (congrArg (Value.int .i64) (quo_nat n 256 (by omega) (by decide))) ?_)
  refine g_pv 1 [(2, .int .i64 (↑(n / 256) : Int))] (by kernel_rfl) ?_
  refine wpList_nil ?_
  refine wp_ret ?_
  exact g_ret (.int .i64 (↑(n / 256) : Int)) (by kernel_rfl) (by kernel_rfl) ⟨rfl, (Below.refl w.heap.size _)⟩
set_option maxRecDepth 100000 in
set_option maxHeartbeats 1000000 in
theorem image_Of (a : Option Addr) (c : Nat) (l : List UInt8) (w : World) (h : Bys w (.slice a l.length c) l) (hl : l.length ≤ 100000000) (hc : l.length ≤ c) :
    Calls Try.prog 5 #[.slice a l.length c] w (RetS (fun w' r => ∃ b p c, r = .pointer (some ⟨b, 0, none⟩) ∧ w.heap.size ≤ b ∧ Blk w' b [.slice p (min (l.length / 256) 14400 * 256) c] 50 ∧ w'.ownsRow w.heap.size 5 1 (.slice p (min (l.length / 256) 14400 * 256) c) (min (l.length / 256) 14400 * 256) ((l.take (min (l.length / 256) 14400 * 256)).map bv)) w) := by
  refine calls_of_wp Try.func5 rfl ?_
  refine g_fr ⟨#[.slice a l.length c, undef, undef, undef, undef, undef, undef, undef, undef, undef, undef, undef, undef, undef, undef], []⟩ (by kernel_rfl) ?_
  refine wp_seq ?_
  refine wp_region_lit ?_
  refine g_pv 1 [(2, .pointer none)] (by kernel_rfl) ?_
  refine wpList_nil ?_
  refine wp_seq ?_
  refine wp_region_lit ?_
  refine g_pv 2 [(4, .slice a l.length c), (5, .int .i64 (↑l.length : Int))] (by kernel_rfl) ?_
  refine g_op (by kernel_rfl) (op_eq (.int .i64 (↑(l.length / 256) : Int)) (.int .i64 (IntKind.i64.wrap (Int.tdiv (↑l.length : Int) 256))) (by kernel_rfl) (congrArg (Value.int .i64) (quo_nat l.length 256 (by omega) (by decide))) ?_)
  refine g_op (by kernel_rfl) (op_eq (.int .i64 (↑(min (l.length / 256) 14400) : Int)) (.int .i64 (if (14400 : Int) < (↑(l.length / 256) : Int) then (14400 : Int) else (↑(l.length / 256) : Int))) (by kernel_rfl) (congrArg (Value.int .i64) (min_cast (l.length / 256) 14400)) ?_)
  refine g_pv 1 [(3, .int .i64 (↑(min (l.length / 256) 14400) : Int))] (by kernel_rfl) ?_
  refine wpList_nil ?_
  refine wp_seq ?_
  refine wp_region_lit ?_
  refine g_pv 2 [(8, .slice a l.length c), (9, .int .i64 (↑(min (l.length / 256) 14400) : Int))] (by kernel_rfl) ?_
  refine g_op (by kernel_rfl) (op_wrap .i64 ((↑(min (l.length / 256) 14400) : Int) * 256) (↑((min (l.length / 256) 14400) * 256) : Int) (by kernel_rfl) ((show IntKind.i64.wrap ((↑(min (l.length / 256) 14400) : Int) * 256) = ((↑(min (l.length / 256) 14400) : Int) * 256) from by first | exact IntWalk.i64_in _ (by omega) | (simp only [IntKind.wrap]; omega)).trans (by omega)) ?_)
  refine g_op (by kernel_rfl) (op_val (run_sliceH (k := ((min (l.length / 256) 14400) * 256)) (b := a) (n := l.length) (c := c) (i := (↑((min (l.length / 256) 14400) * 256) : Int)) (ki := .i64) rfl (by kernel_rfl) (by kernel_rfl) rfl (by omega) Try.underlying22 (by kernel_rfl) _) ?_)
  have hs1 : w.heap.size ≤ (w).heap.size := (Below.refl w.heap.size _).size
  refine g_op (by kernel_rfl) (op_call (lb := #[]) 12 #[.slice a ((min (l.length / 256) 14400) * 256) c] rfl (by kernel_rfl) (fun _ _ => by kernel_rfl) (by kernel_rfl) ((clone_bytesN a (min (l.length / 256) 14400 * 256) c (l.take (min (l.length / 256) 14400 * 256)) _ (by simp; omega) ((h.take rfl _ (by omega)).below (Below.refl w.heap.size _)) (by omega)).mono ?_))
  rintro e W1 ⟨_, rfl, hb1, ho⟩
  refine ⟨_, rfl, ?_⟩
  have hB := hb1
  replace ho := own_mono ho hs1
  unfold OwnB at ho
  rw [show (l.take (min (l.length / 256) 14400 * 256)).length = min (l.length / 256) 14400 * 256 by simp; omega] at ho
  obtain ⟨pd, cd, rfl⟩ := (own_sl ho).slice
  refine g_pv 1 [(13, .agg #[.slice pd (min (l.length / 256) 14400 * 256) cd])] (by kernel_rfl) ?_
  refine g_op (by kernel_rfl) (op_box [.slice pd (min (l.length / 256) 14400 * 256) cd] rfl (by kernel_rfl) ?_)
  intro b2 W2 n2
  have g2 := n2.ge hB
  replace hB := Bl.next hB n2.below
  replace ho := own_below ho n2.below
  have k2 := n2.blk
  refine g_pv 1 [(2, .pointer (some ⟨b2, 0, none⟩))] (by kernel_rfl) ?_
  refine wpList_nil ?_
  refine wp_ret ?_
  exact g_ret (.pointer (some ⟨b2, 0, none⟩)) (by kernel_rfl) (by kernel_rfl) ⟨_, rfl, hB, _, _, _, rfl, g2, k2, ho⟩
set_option maxRecDepth 100000 in
set_option maxHeartbeats 1000000 in
theorem image_block (b g : Nat) (n c k : Nat) (w : World) (hk : Blk w b [.slice (some ⟨g, 0, none⟩) n c] 50) (hn : n ≤ 100000000) (hc : n ≤ c) (hkn : k < n / 256) :
    Calls Try.prog 48 #[.pointer (some ⟨b, 0, none⟩), .int .i64 (↑k : Int)] w (Ret (.tuple #[.slice (some ⟨g, k * 256, none⟩) 256 256, .int .i64 0]) w) := by
  refine calls_of_wp Try.func48 rfl ?_
  refine g_fr ⟨#[.pointer (some ⟨b, 0, none⟩), .int .i64 (↑k : Int), undef, undef, undef, undef, undef, undef, undef, undef, undef, undef, undef, undef, undef, undef, undef, undef, undef, undef, undef, undef, undef, undef, undef, undef, undef, undef, undef, undef, undef, undef, undef], []⟩ (by kernel_rfl) ?_
  refine wp_seq ?_
  refine wp_region_lit ?_
  refine g_pv 2 [(4, .slice none 0 0), (5, .int .i64 0)] (by kernel_rfl) ?_
  refine wpList_nil ?_
  refine wp_seq ?_
  refine wp_block ?_
  refine wp_seq ?_
  refine wp_region_lit ?_
  refine g_pv 3 [(9, .pointer (some ⟨b, 0, none⟩)), (10, .bool false), (8, .bool false)] (by kernel_rfl) ?_
  refine wpList_nil ?_
  refine wp_cond_false (by kernel_rfl) ?_
  refine wp_seq ?_
  refine wp_region_lit ?_
  refine g_pv 3 [(12, .int .i64 (↑k : Int)), (13, .bool (decide ((↑k : Int) < (0 : Int)))), (14, .bool (decide ((↑k : Int) < (0 : Int))))] (by kernel_rfl) ?_
  have hc1 : (decide ((↑k : Int) < (0 : Int)) : Bool) = false := decide_eq_false (by omega)
  refine g_b [13, 14] _ _ hc1 (by kernel_rfl) ?_
  refine g_pv 2 [(15, .int .i64 (↑k : Int)), (16, .pointer (some ⟨b, 0, none⟩))] (by kernel_rfl) ?_
  refine g_op (by kernel_rfl) (op_call (lb := #[]) 67 #[.pointer (some ⟨b, 0, none⟩)] rfl (by kernel_rfl) (fun _ _ => by kernel_rfl) (by kernel_rfl) ((image_Blocks b _ n c _ (hk.below (Below.refl w.heap.size _)) hn).mono ?_))
  rintro e W2 ⟨rfl, hb2⟩
  refine ⟨_, rfl, ?_⟩
  have hB := hb2
  replace hk := hk.below hb2
  refine g_pv 3 [(18, .bool (decide ((↑k : Int) ≥ (↑(n / 256) : Int)))), (19, .bool (decide ((↑k : Int) ≥ (↑(n / 256) : Int)))), (11, .bool (decide ((↑k : Int) ≥ (↑(n / 256) : Int))))] (by kernel_rfl) ?_
  refine wpList_nil ?_
  refine wp_cond_split (t := decide ((↑k : Int) ≥ (↑(n / 256) : Int))) (by kernel_rfl) (fun hh => absurd (hh.symm.trans (show (decide ((↑k : Int) ≥ (↑(n / 256) : Int)) : Bool) = false from decide_eq_false (by omega))) (by decide)) (fun _ => ?_)
  refine wp_skip ?_
  refine wp_seq ?_
  refine wp_region_lit ?_
  refine g_pv 1 [(20, .int .i64 (↑k : Int))] (by kernel_rfl) ?_
  refine g_op (by kernel_rfl) (op_wrap .i64 ((↑k : Int) * 256) (↑(k * 256) : Int) (by kernel_rfl) ((show IntKind.i64.wrap ((↑k : Int) * 256) = ((↑k : Int) * 256) from by first | exact IntWalk.i64_in _ (by omega) | (simp only [IntKind.wrap]; omega)).trans (by omega)) ?_)
  refine g_pv 1 [(22, .int .i64 (↑k : Int))] (by kernel_rfl) ?_
  refine g_op (by kernel_rfl) (op_wrap .i64 ((↑k : Int) + 1) (↑(k + 1) : Int) (by kernel_rfl) ((show IntKind.i64.wrap ((↑k : Int) + 1) = ((↑k : Int) + 1) from by first | exact IntWalk.i64_in _ (by omega) | (simp only [IntKind.wrap]; omega)).trans (by omega)) ?_)
  refine g_op (by kernel_rfl) (op_wrap .i64 ((↑(k + 1) : Int) * 256) (↑((k + 1) * 256) : Int) (by kernel_rfl) ((show IntKind.i64.wrap ((↑(k + 1) : Int) * 256) = ((↑(k + 1) : Int) * 256) from by first | exact IntWalk.i64_in _ (by omega) | (simp only [IntKind.wrap]; omega)).trans (by omega)) ?_)
  refine g_pv 2 [(6, .int .i64 (↑(k * 256) : Int)), (7, .int .i64 (↑((k + 1) * 256) : Int))] (by kernel_rfl) ?_
  refine wpList_nil ?_
  refine wp_seq ?_
  refine wp_region_lit ?_
  refine g_pv 3 [(25, .pointer (some ⟨b, 0, none⟩)), (26, .pointer (some ⟨b, 0, none⟩)), (27, .pointer (some ⟨b, 0, none⟩))] (by kernel_rfl) ?_
  refine g_op (by kernel_rfl) (op_load ⟨b, 0, none⟩ (.slice (some ⟨g, 0, none⟩) n c) rfl (by kernel_rfl) (by kernel_rfl) (hk.cell (i := 0) rfl) ?_)
  refine g_pv 3 [(29, .int .i64 (↑(k * 256) : Int)), (30, .int .i64 (↑((k + 1) * 256) : Int)), (31, .int .i64 (↑((k + 1) * 256) : Int))] (by kernel_rfl) ?_
  refine g_op (by kernel_rfl) (op_val (run_slice3 (k := (k * 256)) (h := ((k + 1) * 256)) (b := g) (off := 0) (n := n) (c := c) (i := (↑(k * 256) : Int)) (ki := .i64) (j := (↑((k + 1) * 256) : Int)) (kj := .i64) (j2 := (↑((k + 1) * 256) : Int)) (kj2 := .i64) 1 (k * 256) 256 rfl (by kernel_rfl) (by kernel_rfl) rfl (by kernel_rfl) rfl (by kernel_rfl) rfl (by omega) (by omega) (by omega) (by omega) Try.underlying22 (by kernel_rfl) _) ?_)
  refine g_pure 2 ⟨#[.pointer (some ⟨b, 0, none⟩), .int .i64 (↑k : Int), undef, undef, .slice (some ⟨g, (k * 256), none⟩) 256 256, .int .i64 0, .int .i64 (↑(k * 256) : Int), .int .i64 (↑((k + 1) * 256) : Int), .bool false, .pointer (some ⟨b, 0, none⟩), .bool false, .bool (decide ((↑k : Int) ≥ (↑(n / 256) : Int))), .int .i64 (↑k : Int), .bool false, .bool false, .int .i64 (↑k : Int), .pointer (some ⟨b, 0, none⟩), .int .i64 (↑(n / 256) : Int), .bool (decide ((↑k : Int) ≥ (↑(n / 256) : Int))), .bool (decide ((↑k : Int) ≥ (↑(n / 256) : Int))), .int .i64 (↑k : Int), .int .i64 (↑(k * 256) : Int), .int .i64 (↑k : Int), .int .i64 (↑(k + 1) : Int), .int .i64 (↑((k + 1) * 256) : Int), .pointer (some ⟨b, 0, none⟩), .pointer (some ⟨b, 0, none⟩), .pointer (some ⟨b, 0, none⟩), .slice (some ⟨g, 0, none⟩) n c, .int .i64 (↑(k * 256) : Int), .int .i64 (↑((k + 1) * 256) : Int), .int .i64 (↑((k + 1) * 256) : Int), .slice (some ⟨g, (k * 256), none⟩) 256 256], []⟩ (by kernel_rfl) ?_
  refine wpList_nil ?_
  refine wp_ret ?_
  exact g_ret (.tuple #[.slice (some ⟨g, (k * 256), none⟩) 256 256, .int .i64 0]) (by kernel_rfl) (by kernel_rfl) ⟨rfl, hB⟩
/-- what is left when a row of bytes was written: nothing below B, nothing but bytes -/
def WroteB (B g n c : Nat) (l : List UInt8) (v : Value) (w : World) (e : Ending) (w' : World) : Prop :=
  e = .returned v ∧ Below B w w' ∧ Only [5] w w' ∧ Fr [g] w w' ∧ w'.ownsRow B 5 1 (.slice (some ⟨g, 0, none⟩) n c) n (l.map bv)
set_option maxRecDepth 100000 in
set_option maxHeartbeats 1000000 in
theorem image_Write (B b g : Nat) (n c k : Nat) (l : List UInt8) (a : Option Addr) (cx : Nat) (lx : List UInt8) (w : World) (hk : Blk w b [.slice (some ⟨g, 0, none⟩) n c] 50) (ho : w.ownsRow B 5 1 (.slice (some ⟨g, 0, none⟩) n c) n (l.map bv)) (hn : n ≤ 100000000) (hc : n ≤ c) (hkn : k < n / 256) (hx : Bys w (.slice a 256 cx) lx) (hlx : lx.length = 256) (hBw : B ≤ w.heap.size) :
    Calls Try.prog 26 #[.pointer (some ⟨b, 0, none⟩), .int .i64 (↑k : Int), .slice a 256 cx] w (WroteB B g n c (putB l (k * 256) lx) (.int .i64 0) w) := by
  replace hx : Sl w (.slice a 256 cx) 256 (lx.map bv) := by
    have := hx
    unfold Bys at this
    rwa [hlx] at this
  refine calls_of_wp Try.func26 rfl ?_
  refine g_fr ⟨#[.pointer (some ⟨b, 0, none⟩), .int .i64 (↑k : Int), .slice a 256 cx, undef, undef, undef, undef, undef, undef, undef, undef, undef, undef, undef, undef, undef, undef, undef, undef, undef, undef, undef, undef, undef], []⟩ (by kernel_rfl) ?_
  refine wp_seq ?_
  refine wp_region_lit ?_
  refine g_pv 1 [(6, .int .i64 0)] (by kernel_rfl) ?_
  refine wpList_nil ?_
  refine wp_seq ?_
  refine wp_region_lit ?_
  refine g_pv 2 [(10, .pointer (some ⟨b, 0, none⟩)), (11, .int .i64 (↑k : Int))] (by kernel_rfl) ?_
  refine g_op (by kernel_rfl) (op_call (lb := #[]) 48 #[.pointer (some ⟨b, 0, none⟩), .int .i64 (↑k : Int)] rfl (by kernel_rfl) (fun _ _ => by kernel_rfl) (by kernel_rfl) ((image_block b g n c k _ hk hn hc hkn).mono ?_))
  rintro e W1 ⟨rfl, hb1⟩
  refine ⟨_, rfl, ?_⟩
  have hO : Only [5] w _ := (Only.of_below hb1)
  have hX : Fr [g] w _ := (Fr.of_below hb1)
  have hB := Bl.nextB (Below.refl B w) hBw hb1
  replace hk := hk.below hb1
  replace ho := own_below ho hb1
  replace hx := hx.below hb1
  refine g_pv 5 [(9, .tuple #[.slice (some ⟨g, (k * 256), none⟩) 256 256, .int .i64 0]), (13, .slice (some ⟨g, (k * 256), none⟩) 256 256), (14, .int .i64 0), (7, .slice (some ⟨g, (k * 256), none⟩) 256 256), (8, .int .i64 0)] (by kernel_rfl) ?_
  refine wpList_nil ?_
  refine wp_seq ?_
  refine wp_seq ?_
  refine wp_region_lit ?_
  refine g_pv 2 [(15, .int .i64 0), (16, .bool false)] (by kernel_rfl) ?_
  refine wpList_nil ?_
  refine wp_cond_false (by kernel_rfl) ?_
  refine wp_skip ?_
  refine wp_seq ?_
  refine wp_seq ?_
  refine wp_region_lit ?_
  refine g_pv 3 [(18, .slice a 256 cx), (19, .int .i64 256), (20, .bool false)] (by kernel_rfl) ?_
  refine wpList_nil ?_
  refine wp_cond_false (by kernel_rfl) ?_
  refine wp_skip ?_
  refine wp_seq ?_
  refine wp_region_lit ?_
  refine g_pv 2 [(21, .slice (some ⟨g, (k * 256), none⟩) 256 256), (22, .slice a 256 cx)] (by kernel_rfl) ?_
  refine g_op (by kernel_rfl) (op_copy (dLen := 256) (dCap := 256) (base := B) (g := g) (off := (k * 256)) (n := n) (cap := c) (xs := l.map bv) (256) (lx.map bv) ((putB l (k * 256) lx).map bv) rfl Try.underlying22 (by kernel_rfl) (by kernel_rfl) (by kernel_rfl) hx ho (by simpa using hlx) (by omega) (by omega) (bv_one _) ((Nat.le_trans hBw hB.size)) (by simp [putB, hlx, List.map_take, List.map_drop]) ?_)
  intro W2 o2 hg2 hb2
  replace hX := hX.trans (Fr.of_grown hg2 (by simp))
  replace hO := hO.trans (Only.of_grown hg2 ho (by decide))
  replace hk := hk.grown hg2 ho (by decide)
  replace hB := hB.trans hb2
  clear hg2
  refine wpList_nil ?_
  refine wp_seq ?_
  refine wp_region_lit ?_
  refine g_pv 1 [(6, .int .i64 0)] (by kernel_rfl) ?_
  refine wpList_nil ?_
  refine wp_ret ?_
  exact g_ret (.int .i64 0) (by kernel_rfl) (by kernel_rfl) ⟨rfl, hB, hO, hX, o2⟩
set_option maxRecDepth 100000 in
set_option maxHeartbeats 1000000 in
theorem block_Write (B b g : Nat) (n c k : Nat) (l : List UInt8) (kind : Int) (a : Option Addr) (ca : Nat) (li : List UInt8) (w : World) (hk : Blk w b [.slice (some ⟨g, 0, none⟩) n c] 50) (ho : w.ownsRow B 5 1 (.slice (some ⟨g, 0, none⟩) n c) n (l.map bv)) (hn : n ≤ 3686400) (hc : n ≤ c) (hkn : k < n / 256) (h1 : 1 ≤ kind) (h2 : kind ≤ 4) (hin : Bys w (.slice a li.length ca) li) (hl : li.length ≤ 244) (hBw : B ≤ w.heap.size) :
    Calls Try.prog 11 #[.pointer (some ⟨b, 0, none⟩), .int .i64 (↑k : Int), .int .i64 kind, .slice a li.length ca] w (WroteB B g n c (putB l (k * 256) (sealB kind k li)) .nilIface w) := by
  refine calls_of_wp Try.func11 rfl ?_
  refine g_fr ⟨#[.pointer (some ⟨b, 0, none⟩), .int .i64 (↑k : Int), .int .i64 kind, .slice a li.length ca, undef, undef, undef, undef, undef, undef, undef, undef, undef, undef, undef, undef, undef, undef, undef, undef, undef, undef, undef, undef, undef, undef, undef, undef], []⟩ (by kernel_rfl) ?_
  refine wp_seq ?_
  refine wp_region_lit ?_
  refine g_pv 1 [(8, .nilIface)] (by kernel_rfl) ?_
  refine wpList_nil ?_
  refine wp_seq ?_
  refine wp_region_lit ?_
  refine g_pv 3 [(12, .int .i64 kind), (13, .int .i64 (↑k : Int)), (14, .slice a li.length ca)] (by kernel_rfl) ?_
  have hs1 : w.heap.size ≤ (w).heap.size := (Below.refl B _).size
  refine g_op (by kernel_rfl) (op_call (lb := #[]) 25 #[.int .i64 kind, .int .i64 (↑k : Int), .slice a li.length ca] rfl (by kernel_rfl) (fun _ _ => by kernel_rfl) (by kernel_rfl) ((seal_Seal kind k h1 h2 (by omega) (by omega) a ca li _ hl hin).mono ?_))
  rintro e W1 ⟨_, rfl, hb1, p, c2, rfl, o⟩
  refine ⟨_, rfl, ?_⟩
  have hO : Only [5] w _ := (Only.of_below hb1)
  have hX : Fr [g] w _ := (Fr.of_below hb1)
  have hB := Bl.nextB (Below.refl B w) hBw hb1
  replace hk := hk.below hb1
  replace ho := own_below ho hb1
  replace hin := hin.below hb1
  replace o := own_mono o hs1
  refine g_pv 5 [(11, .tuple #[.slice p 256 c2, .int .i64 0]), (16, .slice p 256 c2), (17, .int .i64 0), (9, .slice p 256 c2), (10, .int .i64 0)] (by kernel_rfl) ?_
  refine wpList_nil ?_
  refine wp_seq ?_
  refine wp_seq ?_
  refine wp_region_lit ?_
  refine g_pv 2 [(18, .int .i64 0), (19, .bool true)] (by kernel_rfl) ?_
  refine wpList_nil ?_
  refine wp_cond_true (by kernel_rfl) ?_
  refine wp_region_lit ?_
  refine g_pv 3 [(20, .pointer (some ⟨b, 0, none⟩)), (21, .int .i64 (↑k : Int)), (22, .slice p 256 c2)] (by kernel_rfl) ?_
  refine g_op (by kernel_rfl) (op_call (lb := #[]) 26 #[.pointer (some ⟨b, 0, none⟩), .int .i64 (↑k : Int), .slice p 256 c2] rfl (by kernel_rfl) (fun _ _ => by kernel_rfl) (by kernel_rfl) ((image_Write B b g n c k l p c2 (sealB kind k li) _ hk ho (by omega) hc hkn (bys_of (own_sl o) (sealB_len hl)) (sealB_len hl) (Nat.le_trans hBw hB.size)).mono ?_))
  rintro e W2 ⟨rfl, hb2, hO2, hX2, ho2⟩
  refine ⟨_, rfl, ?_⟩
  replace hO := hO.trans hO2
  replace hX := hX.trans (hX2.mono (by simp))
  replace hB := hB.trans hb2
  replace hk := hk.only hO2 (by decide)
  refine g_pv 1 [(10, .int .i64 0)] (by kernel_rfl) ?_
  refine wpList_nil ?_
  refine wp_seq ?_
  refine wp_region_lit ?_
  refine g_pv 3 [(24, .int .i64 (↑k : Int)), (25, .int .i64 0), (26, .iface 43 (.int .i64 0))] (by kernel_rfl) ?_
  refine g_op (by kernel_rfl) (op_call (lb := #[]) 27 #[.int .i64 (↑k : Int), .iface 43 (.int .i64 0)] rfl (by kernel_rfl) (fun _ _ => by kernel_rfl) (by kernel_rfl) ((block_told k 0 _).mono ?_))
  rintro e W3 ⟨r, rfl, hb3, hr⟩
  refine ⟨_, rfl, ?_⟩
  replace hO := hO.trans (Only.of_below hb3)
  replace hX := hX.trans (Fr.of_below hb3)
  replace hB := Bl.nextB hB hBw hb3
  replace hk := hk.below hb3
  replace ho2 := own_below ho2 hb3
  obtain rfl : r = .nilIface := hr
  refine g_pv 1 [(8, .nilIface)] (by kernel_rfl) ?_
  refine wpList_nil ?_
  refine wp_ret ?_
  exact g_ret .nilIface (by kernel_rfl) (by kernel_rfl) ⟨rfl, hB, hO, hX, ho2⟩
end Go.Proofs.Ytoiblgeheblddaa

