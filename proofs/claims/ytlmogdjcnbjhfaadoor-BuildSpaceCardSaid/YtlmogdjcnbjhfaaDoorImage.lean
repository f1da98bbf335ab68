/- Package image: Of, Blocks, block, Write and Bytes at an image whose bytes lie in a row of its own. -/
import Derived.Test.YtlmogdjcnbjhfaaDoorSeal
import Derived.Test.YtlmogdjcnbjhfaaDoorGw2
import Derived.Test.YtlmogdjcnbjhfaaDoorBlkTold
namespace Go.Proofs.YtlmogdjcnbjhfaaDoor
open Go.RowKit Go.Extern.Stop Go.Stop Go.Extern
set_option linter.unusedVariables false

theorem quo_nat (n k : Nat) (hn : n < 9223372036854775808) (hk : 0 < k) : IntKind.i64.wrap (Int.tdiv (n : Int) (k : Int)) = ((n / k : Nat) : Int) := by
  rw [Int.tdiv_eq_ediv_of_nonneg (Int.natCast_nonneg _), ← Int.natCast_ediv]
  exact i64_nat (Nat.lt_of_le_of_lt (Nat.div_le_self _ _) hn)
theorem min_cast (a b : Nat) : (if (b : Int) < (a : Int) then (b : Int) else (a : Int)) = ((min a b : Nat) : Int) := by split <;> omega
/-- an image at block b: its bytes are l, in a row of its own -/
def Img (B : Nat) (w : World) (b : Nat) (p : Option Addr) (c : Nat) (l : List UInt8) : Prop := Blk w b [.slice p l.length c] 60 ∧ w.ownsRow B 5 1 (.slice p l.length c) l.length (l.map bv)
set_option maxRecDepth 100000 in
set_option maxHeartbeats 1000000 in
theorem image_Blocks (b : Nat) (p : Option Addr) (n c : Nat) (w : World) (hk : Blk w b [.slice p n c] 60) (hn : n ≤ 100000000) :
    Calls Tryd.prog 24 #[.pointer (some ⟨b, 0, none⟩)] w (Ret (.int .i64 ((n / 256 : Nat) : Int)) w) := by
  refine calls_of_wp Tryd.func24 rfl ?_
  refine g_fr ⟨#[.pointer (some ⟨b, 0, none⟩), undef, undef, undef, undef, undef, undef, undef, undef, undef, undef], []⟩ (by kernel_rfl) ?_
  refine wp_seq ?_
  refine wp_region_lit ?_
  refine g_pure 1 ⟨#[.pointer (some ⟨b, 0, none⟩), undef, .int .i64 0, undef, undef, undef, undef, undef, undef, undef, undef], []⟩ (by kernel_rfl) ?_
  refine wpList_nil ?_
  refine wp_seq ?_
  refine wp_seq ?_
  refine wp_region_lit ?_
  refine g_pure 2 ⟨#[.pointer (some ⟨b, 0, none⟩), undef, .int .i64 0, .pointer (some ⟨b, 0, none⟩), .bool false, undef, undef, undef, undef, undef, undef], []⟩ (by kernel_rfl) ?_
  refine wpList_nil ?_
  refine wp_cond_false rfl ?_
  refine wp_skip ?_
  refine wp_seq ?_
  refine wp_region_lit ?_
  refine g_pure 3 ⟨#[.pointer (some ⟨b, 0, none⟩), undef, .int .i64 0, .pointer (some ⟨b, 0, none⟩), .bool false, .pointer (some ⟨b, 0, none⟩), .pointer (some ⟨b, 0, none⟩), .pointer (some ⟨b, 0, none⟩), undef, undef, undef], []⟩ (by kernel_rfl) ?_
  refine g_op (by kernel_rfl) (op_load _ (.slice p n c) rfl rfl (by kernel_rfl) (hk.cell (i := 0) rfl) ?_)
  refine g_pure 1 ⟨#[.pointer (some ⟨b, 0, none⟩), undef, .int .i64 0, .pointer (some ⟨b, 0, none⟩), .bool false, .pointer (some ⟨b, 0, none⟩), .pointer (some ⟨b, 0, none⟩), .pointer (some ⟨b, 0, none⟩), .slice p n c, .int .i64 (↑n : Int), undef], []⟩ (by kernel_rfl) ?_
  refine g_op (by kernel_rfl) (op_eq (.int .i64 (↑(n / 256) : Int)) (.int .i64 (IntKind.i64.wrap (Int.tdiv (↑n : Int) 256))) (by kernel_rfl) (congrArg (Value.int .i64) (quo_nat n 256 (by omega) (by decide))) ?_)
  refine g_pure 1 ⟨#[.pointer (some ⟨b, 0, none⟩), undef, .int .i64 (↑(n / 256) : Int), .pointer (some ⟨b, 0, none⟩), .bool false, .pointer (some ⟨b, 0, none⟩), .pointer (some ⟨b, 0, none⟩), .pointer (some ⟨b, 0, none⟩), .slice p n c, .int .i64 (↑n : Int), .int .i64 (↑(n / 256) : Int)], []⟩ (by kernel_rfl) ?_
  refine wpList_nil ?_
  refine wp_ret ?_
  show bodyPost _ _ _ .ret _ _
  exact g_ret (.int .i64 (↑(n / 256) : Int)) rfl (by kernel_rfl) ⟨rfl, (Below.refl w.heap.size _)⟩
set_option maxRecDepth 100000 in
set_option maxHeartbeats 1000000 in
theorem image_Of (a : Option Addr) (c : Nat) (l : List UInt8) (w : World) (h : Bys w (.slice a l.length c) l) (hl : l.length ≤ 100000000) (hc : l.length ≤ c) :
    Calls Tryd.prog 14 #[.slice a l.length c] w (RetS (fun w' r => ∃ b p c, r = .pointer (some ⟨b, 0, none⟩) ∧ w.heap.size ≤ b ∧ Blk w' b [.slice p (min (l.length / 256) 14400 * 256) c] 60 ∧ w'.ownsRow w.heap.size 5 1 (.slice p (min (l.length / 256) 14400 * 256) c) (min (l.length / 256) 14400 * 256) ((l.take (min (l.length / 256) 14400 * 256)).map bv)) w) := by
  refine calls_of_wp Tryd.func14 rfl ?_
  refine g_fr ⟨#[.slice a l.length c, undef, undef, undef, undef, undef, undef, undef, undef, undef, undef, undef, undef, undef, undef], []⟩ (by kernel_rfl) ?_
  refine wp_seq ?_
  refine wp_region_lit ?_
  refine g_pure 1 ⟨#[.slice a l.length c, undef, .pointer none, undef, undef, undef, undef, undef, undef, undef, undef, undef, undef, undef, undef], []⟩ (by kernel_rfl) ?_
  refine wpList_nil ?_
  refine wp_seq ?_
  refine wp_region_lit ?_
  refine g_pure 2 ⟨#[.slice a l.length c, undef, .pointer none, undef, .slice a l.length c, .int .i64 (↑l.length : Int), undef, undef, undef, undef, undef, undef, undef, undef, undef], []⟩ (by kernel_rfl) ?_
  refine g_op (by kernel_rfl) (op_eq (.int .i64 (↑(l.length / 256) : Int)) (.int .i64 (IntKind.i64.wrap (Int.tdiv (↑l.length : Int) 256))) (by kernel_rfl) (congrArg (Value.int .i64) (quo_nat l.length 256 (by omega) (by decide))) ?_)
  refine g_op (by kernel_rfl) (op_eq (.int .i64 (↑(min (l.length / 256) 14400) : Int)) (.int .i64 (if (14400 : Int) < (↑(l.length / 256) : Int) then (14400 : Int) else (↑(l.length / 256) : Int))) (by kernel_rfl) (congrArg (Value.int .i64) (min_cast (l.length / 256) 14400)) ?_)
  refine g_pure 1 ⟨#[.slice a l.length c, undef, .pointer none, .int .i64 (↑(min (l.length / 256) 14400) : Int), .slice a l.length c, .int .i64 (↑l.length : Int), .int .i64 (↑(l.length / 256) : Int), .int .i64 (↑(min (l.length / 256) 14400) : Int), undef, undef, undef, undef, undef, undef, undef], []⟩ (by kernel_rfl) ?_
  refine wpList_nil ?_
  refine wp_seq ?_
  refine wp_region_lit ?_
  refine g_pure 2 ⟨#[.slice a l.length c, undef, .pointer none, .int .i64 (↑(min (l.length / 256) 14400) : Int), .slice a l.length c, .int .i64 (↑l.length : Int), .int .i64 (↑(l.length / 256) : Int), .int .i64 (↑(min (l.length / 256) 14400) : Int), .slice a l.length c, .int .i64 (↑(min (l.length / 256) 14400) : Int), undef, undef, undef, undef, undef], []⟩ (by kernel_rfl) ?_
  refine g_op (by kernel_rfl) (op_wrap .i64 ((↑(min (l.length / 256) 14400) : Int) * 256) (↑((min (l.length / 256) 14400) * 256) : Int) (by kernel_rfl) ((show IntKind.i64.wrap ((↑(min (l.length / 256) 14400) : Int) * 256) = ((↑(min (l.length / 256) 14400) : Int) * 256) from by first | exact IntWalk.i64_in _ (by omega) | (simp only [IntKind.wrap]; omega)).trans (by omega)) ?_)
  refine g_op (by kernel_rfl) (op_val (run_sliceH (k := ((min (l.length / 256) 14400) * 256)) rfl rfl rfl rfl (by omega) Tryd.underlying42 (by kernel_rfl) _) ?_)
  have hs1 : w.heap.size ≤ (w).heap.size := (Below.refl w.heap.size _).size
  refine g_op (by kernel_rfl) (op_call 25 #[.slice a ((min (l.length / 256) 14400) * 256) c] rfl rfl (fun _ _ => by kernel_rfl) (by kernel_rfl) ((clone_bytesN a (min (l.length / 256) 14400 * 256) c (l.take (min (l.length / 256) 14400 * 256)) _ (by simp; omega) ((h.take rfl _ (by omega)).below (Below.refl w.heap.size _)) (by omega)).mono ?_))
  rintro e W1 ⟨_, rfl, hb1, ho⟩
  refine ⟨_, rfl, ?_⟩
  have hB := hb1
  replace ho := own_mono ho hs1
  unfold OwnB at ho
  rw [show (l.take (min (l.length / 256) 14400 * 256)).length = min (l.length / 256) 14400 * 256 by simp; omega] at ho
  obtain ⟨pd, cd, rfl⟩ := (own_sl ho).slice
  refine g_pure 1 ⟨#[.slice a l.length c, undef, .pointer none, .int .i64 (↑(min (l.length / 256) 14400) : Int), .slice a l.length c, .int .i64 (↑l.length : Int), .int .i64 (↑(l.length / 256) : Int), .int .i64 (↑(min (l.length / 256) 14400) : Int), .slice a l.length c, .int .i64 (↑(min (l.length / 256) 14400) : Int), .int .i64 (↑((min (l.length / 256) 14400) * 256) : Int), .slice a ((min (l.length / 256) 14400) * 256) c, .slice pd (min (l.length / 256) 14400 * 256) cd, .agg #[.slice pd (min (l.length / 256) 14400 * 256) cd], undef], []⟩ (by kernel_rfl) ?_
  refine g_op (by kernel_rfl) (op_box [.slice pd (min (l.length / 256) 14400 * 256) cd] rfl (by kernel_rfl) ?_)
  intro b2 W2 n2
  have g2 := n2.ge hB
  replace hB := Bl.next hB n2.below
  replace ho := own_below ho n2.below
  have k2 := n2.blk
  refine g_pure 1 ⟨#[.slice a l.length c, undef, .pointer (some ⟨b2, 0, none⟩), .int .i64 (↑(min (l.length / 256) 14400) : Int), .slice a l.length c, .int .i64 (↑l.length : Int), .int .i64 (↑(l.length / 256) : Int), .int .i64 (↑(min (l.length / 256) 14400) : Int), .slice a l.length c, .int .i64 (↑(min (l.length / 256) 14400) : Int), .int .i64 (↑((min (l.length / 256) 14400) * 256) : Int), .slice a ((min (l.length / 256) 14400) * 256) c, .slice pd (min (l.length / 256) 14400 * 256) cd, .agg #[.slice pd (min (l.length / 256) 14400 * 256) cd], .pointer (some ⟨b2, 0, none⟩)], []⟩ (by kernel_rfl) ?_
  refine wpList_nil ?_
  refine wp_ret ?_
  show bodyPost _ _ _ .ret _ _
  exact g_ret (.pointer (some ⟨b2, 0, none⟩)) rfl (by kernel_rfl) ⟨_, rfl, hB, _, _, _, rfl, g2, k2, ho⟩
set_option maxRecDepth 100000 in
set_option maxHeartbeats 1000000 in
theorem image_block (b g : Nat) (n c k : Nat) (w : World) (hk : Blk w b [.slice (some ⟨g, 0, none⟩) n c] 60) (hn : n ≤ 100000000) (hc : n ≤ c) (hkn : k < n / 256) :
    Calls Tryd.prog 57 #[.pointer (some ⟨b, 0, none⟩), .int .i64 (↑k : Int)] w (Ret (.tuple #[.slice (some ⟨g, k * 256, none⟩) 256 256, .int .i64 0]) w) := by
  refine calls_of_wp Tryd.func57 rfl ?_
  refine g_fr ⟨#[.pointer (some ⟨b, 0, none⟩), .int .i64 (↑k : Int), undef, undef, undef, undef, undef, undef, undef, undef, undef, undef, undef, undef, undef, undef, undef, undef, undef, undef, undef, undef, undef, undef, undef, undef, undef, undef, undef, undef, undef, undef, undef], []⟩ (by kernel_rfl) ?_
  refine wp_seq ?_
  refine wp_region_lit ?_
  refine g_pure 2 ⟨#[.pointer (some ⟨b, 0, none⟩), .int .i64 (↑k : Int), undef, undef, .slice none 0 0, .int .i64 0, undef, undef, undef, undef, undef, undef, undef, undef, undef, undef, undef, undef, undef, undef, undef, undef, undef, undef, undef, undef, undef, undef, undef, undef, undef, undef, undef], []⟩ (by kernel_rfl) ?_
  refine wpList_nil ?_
  refine wp_seq ?_
  refine wp_block ?_
  refine wp_seq ?_
  refine wp_region_lit ?_
  refine g_pure 3 ⟨#[.pointer (some ⟨b, 0, none⟩), .int .i64 (↑k : Int), undef, undef, .slice none 0 0, .int .i64 0, undef, undef, .bool false, .pointer (some ⟨b, 0, none⟩), .bool false, undef, undef, undef, undef, undef, undef, undef, undef, undef, undef, undef, undef, undef, undef, undef, undef, undef, undef, undef, undef, undef, undef], []⟩ (by kernel_rfl) ?_
  refine wpList_nil ?_
  refine wp_cond_false rfl ?_
  refine wp_seq ?_
  refine wp_region_lit ?_
  refine g_pure 3 ⟨#[.pointer (some ⟨b, 0, none⟩), .int .i64 (↑k : Int), undef, undef, .slice none 0 0, .int .i64 0, undef, undef, .bool false, .pointer (some ⟨b, 0, none⟩), .bool false, undef, .int .i64 (↑k : Int), .bool (decide ((↑k : Int) < (0 : Int))), .bool (decide ((↑k : Int) < (0 : Int))), undef, undef, undef, undef, undef, undef, undef, undef, undef, undef, undef, undef, undef, undef, undef, undef, undef, undef], []⟩ (by kernel_rfl) ?_
  have hc1 : (decide ((↑k : Int) < (0 : Int)) : Bool) = false := decide_eq_false (by omega)
  refine g_lfr ⟨#[.pointer (some ⟨b, 0, none⟩), .int .i64 (↑k : Int), undef, undef, .slice none 0 0, .int .i64 0, undef, undef, .bool false, .pointer (some ⟨b, 0, none⟩), .bool false, undef, .int .i64 (↑k : Int), .bool false, .bool false, undef, undef, undef, undef, undef, undef, undef, undef, undef, undef, undef, undef, undef, undef, undef, undef, undef, undef], []⟩ (by rw [← hc1]) ?_
  refine g_pure 2 ⟨#[.pointer (some ⟨b, 0, none⟩), .int .i64 (↑k : Int), undef, undef, .slice none 0 0, .int .i64 0, undef, undef, .bool false, .pointer (some ⟨b, 0, none⟩), .bool false, undef, .int .i64 (↑k : Int), .bool false, .bool false, .int .i64 (↑k : Int), .pointer (some ⟨b, 0, none⟩), undef, undef, undef, undef, undef, undef, undef, undef, undef, undef, undef, undef, undef, undef, undef, undef], []⟩ (by kernel_rfl) ?_
  refine g_op (by kernel_rfl) (op_call 24 #[.pointer (some ⟨b, 0, none⟩)] rfl rfl (fun _ _ => by kernel_rfl) (by kernel_rfl) ((image_Blocks b _ n c _ (hk.below (Below.refl w.heap.size _)) hn).mono ?_))
  rintro e W2 ⟨rfl, hb2⟩
  refine ⟨_, rfl, ?_⟩
  have hB := hb2
  replace hk := hk.below hb2
  refine g_pure 3 ⟨#[.pointer (some ⟨b, 0, none⟩), .int .i64 (↑k : Int), undef, undef, .slice none 0 0, .int .i64 0, undef, undef, .bool false, .pointer (some ⟨b, 0, none⟩), .bool false, .bool (decide ((↑k : Int) ≥ (↑(n / 256) : Int))), .int .i64 (↑k : Int), .bool false, .bool false, .int .i64 (↑k : Int), .pointer (some ⟨b, 0, none⟩), .int .i64 (↑(n / 256) : Int), .bool (decide ((↑k : Int) ≥ (↑(n / 256) : Int))), .bool (decide ((↑k : Int) ≥ (↑(n / 256) : Int))), undef, undef, undef, undef, undef, undef, undef, undef, undef, undef, undef, undef, undef], []⟩ (by kernel_rfl) ?_
  refine wpList_nil ?_
  refine wp_cond_false (by show Value.bool _ = Value.bool _; rw [(show (decide ((↑k : Int) ≥ (↑(n / 256) : Int)) : Bool) = false from decide_eq_false (by omega))]) ?_
  refine wp_skip ?_
  refine wp_seq ?_
  refine wp_region_lit ?_
  refine g_pure 1 ⟨#[.pointer (some ⟨b, 0, none⟩), .int .i64 (↑k : Int), undef, undef, .slice none 0 0, .int .i64 0, undef, undef, .bool false, .pointer (some ⟨b, 0, none⟩), .bool false, .bool (decide ((↑k : Int) ≥ (↑(n / 256) : Int))), .int .i64 (↑k : Int), .bool false, .bool false, .int .i64 (↑k : Int), .pointer (some ⟨b, 0, none⟩), .int .i64 (↑(n / 256) : Int), .bool (decide ((↑k : Int) ≥ (↑(n / 256) : Int))), .bool (decide ((↑k : Int) ≥ (↑(n / 256) : Int))), .int .i64 (↑k : Int), undef, undef, undef, undef, undef, undef, undef, undef, undef, undef, undef, undef], []⟩ (by kernel_rfl) ?_
  refine g_op (by kernel_rfl) (op_wrap .i64 ((↑k : Int) * 256) (↑(k * 256) : Int) (by kernel_rfl) ((show IntKind.i64.wrap ((↑k : Int) * 256) = ((↑k : Int) * 256) from by first | exact IntWalk.i64_in _ (by omega) | (simp only [IntKind.wrap]; omega)).trans (by omega)) ?_)
  refine g_pure 1 ⟨#[.pointer (some ⟨b, 0, none⟩), .int .i64 (↑k : Int), undef, undef, .slice none 0 0, .int .i64 0, undef, undef, .bool false, .pointer (some ⟨b, 0, none⟩), .bool false, .bool (decide ((↑k : Int) ≥ (↑(n / 256) : Int))), .int .i64 (↑k : Int), .bool false, .bool false, .int .i64 (↑k : Int), .pointer (some ⟨b, 0, none⟩), .int .i64 (↑(n / 256) : Int), .bool (decide ((↑k : Int) ≥ (↑(n / 256) : Int))), .bool (decide ((↑k : Int) ≥ (↑(n / 256) : Int))), .int .i64 (↑k : Int), .int .i64 (↑(k * 256) : Int), .int .i64 (↑k : Int), undef, undef, undef, undef, undef, undef, undef, undef, undef, undef], []⟩ (by kernel_rfl) ?_
  refine g_op (by kernel_rfl) (op_wrap .i64 ((↑k : Int) + 1) (↑(k + 1) : Int) (by kernel_rfl) ((show IntKind.i64.wrap ((↑k : Int) + 1) = ((↑k : Int) + 1) from by first | exact IntWalk.i64_in _ (by omega) | (simp only [IntKind.wrap]; omega)).trans (by omega)) ?_)
  refine g_op (by kernel_rfl) (op_wrap .i64 ((↑(k + 1) : Int) * 256) (↑((k + 1) * 256) : Int) (by kernel_rfl) ((show IntKind.i64.wrap ((↑(k + 1) : Int) * 256) = ((↑(k + 1) : Int) * 256) from by first | exact IntWalk.i64_in _ (by omega) | (simp only [IntKind.wrap]; omega)).trans (by omega)) ?_)
  refine g_pure 2 ⟨#[.pointer (some ⟨b, 0, none⟩), .int .i64 (↑k : Int), undef, undef, .slice none 0 0, .int .i64 0, .int .i64 (↑(k * 256) : Int), .int .i64 (↑((k + 1) * 256) : Int), .bool false, .pointer (some ⟨b, 0, none⟩), .bool false, .bool (decide ((↑k : Int) ≥ (↑(n / 256) : Int))), .int .i64 (↑k : Int), .bool false, .bool false, .int .i64 (↑k : Int), .pointer (some ⟨b, 0, none⟩), .int .i64 (↑(n / 256) : Int), .bool (decide ((↑k : Int) ≥ (↑(n / 256) : Int))), .bool (decide ((↑k : Int) ≥ (↑(n / 256) : Int))), .int .i64 (↑k : Int), .int .i64 (↑(k * 256) : Int), .int .i64 (↑k : Int), .int .i64 (↑(k + 1) : Int), .int .i64 (↑((k + 1) * 256) : Int), undef, undef, undef, undef, undef, undef, undef, undef], []⟩ (by kernel_rfl) ?_
  refine wpList_nil ?_
  refine wp_seq ?_
  refine wp_region_lit ?_
  refine g_pure 3 ⟨#[.pointer (some ⟨b, 0, none⟩), .int .i64 (↑k : Int), undef, undef, .slice none 0 0, .int .i64 0, .int .i64 (↑(k * 256) : Int), .int .i64 (↑((k + 1) * 256) : Int), .bool false, .pointer (some ⟨b, 0, none⟩), .bool false, .bool (decide ((↑k : Int) ≥ (↑(n / 256) : Int))), .int .i64 (↑k : Int), .bool false, .bool false, .int .i64 (↑k : Int), .pointer (some ⟨b, 0, none⟩), .int .i64 (↑(n / 256) : Int), .bool (decide ((↑k : Int) ≥ (↑(n / 256) : Int))), .bool (decide ((↑k : Int) ≥ (↑(n / 256) : Int))), .int .i64 (↑k : Int), .int .i64 (↑(k * 256) : Int), .int .i64 (↑k : Int), .int .i64 (↑(k + 1) : Int), .int .i64 (↑((k + 1) * 256) : Int), .pointer (some ⟨b, 0, none⟩), .pointer (some ⟨b, 0, none⟩), .pointer (some ⟨b, 0, none⟩), undef, undef, undef, undef, undef], []⟩ (by kernel_rfl) ?_
  refine g_op (by kernel_rfl) (op_load _ (.slice (some ⟨g, 0, none⟩) n c) rfl rfl (by kernel_rfl) (hk.cell (i := 0) rfl) ?_)
  refine g_pure 3 ⟨#[.pointer (some ⟨b, 0, none⟩), .int .i64 (↑k : Int), undef, undef, .slice none 0 0, .int .i64 0, .int .i64 (↑(k * 256) : Int), .int .i64 (↑((k + 1) * 256) : Int), .bool false, .pointer (some ⟨b, 0, none⟩), .bool false, .bool (decide ((↑k : Int) ≥ (↑(n / 256) : Int))), .int .i64 (↑k : Int), .bool false, .bool false, .int .i64 (↑k : Int), .pointer (some ⟨b, 0, none⟩), .int .i64 (↑(n / 256) : Int), .bool (decide ((↑k : Int) ≥ (↑(n / 256) : Int))), .bool (decide ((↑k : Int) ≥ (↑(n / 256) : Int))), .int .i64 (↑k : Int), .int .i64 (↑(k * 256) : Int), .int .i64 (↑k : Int), .int .i64 (↑(k + 1) : Int), .int .i64 (↑((k + 1) * 256) : Int), .pointer (some ⟨b, 0, none⟩), .pointer (some ⟨b, 0, none⟩), .pointer (some ⟨b, 0, none⟩), .slice (some ⟨g, 0, none⟩) n c, .int .i64 (↑(k * 256) : Int), .int .i64 (↑((k + 1) * 256) : Int), .int .i64 (↑((k + 1) * 256) : Int), undef], []⟩ (by kernel_rfl) ?_
  refine g_op (by kernel_rfl) (op_val (run_slice3 (k := (k * 256)) (h := ((k + 1) * 256)) 1 (k * 256) 256 rfl rfl rfl rfl rfl rfl rfl rfl (by omega) (by omega) (by omega) (by omega) Tryd.underlying42 (by kernel_rfl) _) ?_)
  refine g_pure 2 ⟨#[.pointer (some ⟨b, 0, none⟩), .int .i64 (↑k : Int), undef, undef, .slice (some ⟨g, (k * 256), none⟩) 256 256, .int .i64 0, .int .i64 (↑(k * 256) : Int), .int .i64 (↑((k + 1) * 256) : Int), .bool false, .pointer (some ⟨b, 0, none⟩), .bool false, .bool (decide ((↑k : Int) ≥ (↑(n / 256) : Int))), .int .i64 (↑k : Int), .bool false, .bool false, .int .i64 (↑k : Int), .pointer (some ⟨b, 0, none⟩), .int .i64 (↑(n / 256) : Int), .bool (decide ((↑k : Int) ≥ (↑(n / 256) : Int))), .bool (decide ((↑k : Int) ≥ (↑(n / 256) : Int))), .int .i64 (↑k : Int), .int .i64 (↑(k * 256) : Int), .int .i64 (↑k : Int), .int .i64 (↑(k + 1) : Int), .int .i64 (↑((k + 1) * 256) : Int), .pointer (some ⟨b, 0, none⟩), .pointer (some ⟨b, 0, none⟩), .pointer (some ⟨b, 0, none⟩), .slice (some ⟨g, 0, none⟩) n c, .int .i64 (↑(k * 256) : Int), .int .i64 (↑((k + 1) * 256) : Int), .int .i64 (↑((k + 1) * 256) : Int), .slice (some ⟨g, (k * 256), none⟩) 256 256], []⟩ (by kernel_rfl) ?_
  refine wpList_nil ?_
  refine wp_ret ?_
  show bodyPost _ _ _ .ret _ _
  exact g_ret (.tuple #[.slice (some ⟨g, (k * 256), none⟩) 256 256, .int .i64 0]) rfl (by kernel_rfl) ⟨rfl, hB⟩
/-- what is left when a row of bytes was written: nothing below B, nothing but bytes -/
def WroteB (B g n c : Nat) (l : List UInt8) (v : Value) (w : World) (e : Ending) (w' : World) : Prop :=
  e = .returned v ∧ Below B w w' ∧ Only [5] w w' ∧ Fr [g] w w' ∧ w'.ownsRow B 5 1 (.slice (some ⟨g, 0, none⟩) n c) n (l.map bv)
set_option maxRecDepth 100000 in
set_option maxHeartbeats 1000000 in
theorem image_Write (B b g : Nat) (n c k : Nat) (l : List UInt8) (a : Option Addr) (cx : Nat) (lx : List UInt8) (w : World) (hk : Blk w b [.slice (some ⟨g, 0, none⟩) n c] 60) (ho : w.ownsRow B 5 1 (.slice (some ⟨g, 0, none⟩) n c) n (l.map bv)) (hn : n ≤ 100000000) (hc : n ≤ c) (hkn : k < n / 256) (hx : Bys w (.slice a 256 cx) lx) (hlx : lx.length = 256) (hBw : B ≤ w.heap.size) :
    Calls Tryd.prog 52 #[.pointer (some ⟨b, 0, none⟩), .int .i64 (↑k : Int), .slice a 256 cx] w (WroteB B g n c (putB l (k * 256) lx) (.int .i64 0) w) := by
  replace hx : Sl w (.slice a 256 cx) 256 (lx.map bv) := by
    have := hx
    unfold Bys at this
    rwa [hlx] at this
  refine calls_of_wp Tryd.func52 rfl ?_
  refine g_fr ⟨#[.pointer (some ⟨b, 0, none⟩), .int .i64 (↑k : Int), .slice a 256 cx, undef, undef, undef, undef, undef, undef, undef, undef, undef, undef, undef, undef, undef, undef, undef, undef, undef, undef, undef, undef, undef], []⟩ (by kernel_rfl) ?_
  refine wp_seq ?_
  refine wp_region_lit ?_
  refine g_pure 1 ⟨#[.pointer (some ⟨b, 0, none⟩), .int .i64 (↑k : Int), .slice a 256 cx, undef, undef, undef, .int .i64 0, undef, undef, undef, undef, undef, undef, undef, undef, undef, undef, undef, undef, undef, undef, undef, undef, undef], []⟩ (by kernel_rfl) ?_
  refine wpList_nil ?_
  refine wp_seq ?_
  refine wp_region_lit ?_
  refine g_pure 2 ⟨#[.pointer (some ⟨b, 0, none⟩), .int .i64 (↑k : Int), .slice a 256 cx, undef, undef, undef, .int .i64 0, undef, undef, undef, .pointer (some ⟨b, 0, none⟩), .int .i64 (↑k : Int), undef, undef, undef, undef, undef, undef, undef, undef, undef, undef, undef, undef], []⟩ (by kernel_rfl) ?_
  refine g_op (by kernel_rfl) (op_call 57 #[.pointer (some ⟨b, 0, none⟩), .int .i64 (↑k : Int)] rfl rfl (fun _ _ => by kernel_rfl) (by kernel_rfl) ((image_block b g n c k _ hk hn hc hkn).mono ?_))
  rintro e W1 ⟨rfl, hb1⟩
  refine ⟨_, rfl, ?_⟩
  have hO : Only [5] w _ := (Only.of_below hb1)
  have hX : Fr [g] w _ := (Fr.of_below hb1)
  have hB := Bl.nextB (Below.refl B w) hBw hb1
  replace hk := hk.below hb1
  replace ho := own_below ho hb1
  replace hx := hx.below hb1
  refine g_pure 5 ⟨#[.pointer (some ⟨b, 0, none⟩), .int .i64 (↑k : Int), .slice a 256 cx, undef, undef, undef, .int .i64 0, .slice (some ⟨g, (k * 256), none⟩) 256 256, .int .i64 0, .tuple #[.slice (some ⟨g, (k * 256), none⟩) 256 256, .int .i64 0], .pointer (some ⟨b, 0, none⟩), .int .i64 (↑k : Int), .tuple #[.slice (some ⟨g, (k * 256), none⟩) 256 256, .int .i64 0], .slice (some ⟨g, (k * 256), none⟩) 256 256, .int .i64 0, undef, undef, undef, undef, undef, undef, undef, undef, undef], []⟩ (by kernel_rfl) ?_
  refine wpList_nil ?_
  refine wp_seq ?_
  refine wp_seq ?_
  refine wp_region_lit ?_
  refine g_pure 2 ⟨#[.pointer (some ⟨b, 0, none⟩), .int .i64 (↑k : Int), .slice a 256 cx, undef, undef, undef, .int .i64 0, .slice (some ⟨g, (k * 256), none⟩) 256 256, .int .i64 0, .tuple #[.slice (some ⟨g, (k * 256), none⟩) 256 256, .int .i64 0], .pointer (some ⟨b, 0, none⟩), .int .i64 (↑k : Int), .tuple #[.slice (some ⟨g, (k * 256), none⟩) 256 256, .int .i64 0], .slice (some ⟨g, (k * 256), none⟩) 256 256, .int .i64 0, .int .i64 0, .bool false, undef, undef, undef, undef, undef, undef, undef], []⟩ (by kernel_rfl) ?_
  refine wpList_nil ?_
  refine wp_cond_false rfl ?_
  refine wp_skip ?_
  refine wp_seq ?_
  refine wp_seq ?_
  refine wp_region_lit ?_
  refine g_pure 3 ⟨#[.pointer (some ⟨b, 0, none⟩), .int .i64 (↑k : Int), .slice a 256 cx, undef, undef, undef, .int .i64 0, .slice (some ⟨g, (k * 256), none⟩) 256 256, .int .i64 0, .tuple #[.slice (some ⟨g, (k * 256), none⟩) 256 256, .int .i64 0], .pointer (some ⟨b, 0, none⟩), .int .i64 (↑k : Int), .tuple #[.slice (some ⟨g, (k * 256), none⟩) 256 256, .int .i64 0], .slice (some ⟨g, (k * 256), none⟩) 256 256, .int .i64 0, .int .i64 0, .bool false, undef, .slice a 256 cx, .int .i64 256, .bool false, undef, undef, undef], []⟩ (by kernel_rfl) ?_
  refine wpList_nil ?_
  refine wp_cond_false rfl ?_
  refine wp_skip ?_
  refine wp_seq ?_
  refine wp_region_lit ?_
  refine g_pure 2 ⟨#[.pointer (some ⟨b, 0, none⟩), .int .i64 (↑k : Int), .slice a 256 cx, undef, undef, undef, .int .i64 0, .slice (some ⟨g, (k * 256), none⟩) 256 256, .int .i64 0, .tuple #[.slice (some ⟨g, (k * 256), none⟩) 256 256, .int .i64 0], .pointer (some ⟨b, 0, none⟩), .int .i64 (↑k : Int), .tuple #[.slice (some ⟨g, (k * 256), none⟩) 256 256, .int .i64 0], .slice (some ⟨g, (k * 256), none⟩) 256 256, .int .i64 0, .int .i64 0, .bool false, undef, .slice a 256 cx, .int .i64 256, .bool false, .slice (some ⟨g, (k * 256), none⟩) 256 256, .slice a 256 cx, undef], []⟩ (by kernel_rfl) ?_
  refine g_op (by kernel_rfl) (op_copy (base := B) (g := g) (off := (k * 256)) (n := n) (cap := c) (xs := l.map bv) (256) (lx.map bv) ((putB l (k * 256) lx).map bv) rfl Tryd.underlying42 (by kernel_rfl) rfl rfl hx ho (by simpa using hlx) (by omega) (by omega) (bv_one _) ((Nat.le_trans hBw hB.size)) (by simp [putB, hlx, List.map_take, List.map_drop]) ?_)
  intro W2 o2 hg2 hb2
  replace hX := hX.trans (Fr.of_grown hg2 (by simp))
  replace hO := hO.trans (Only.of_grown hg2 ho (by decide))
  replace hk := hk.grown hg2 ho (by decide)
  replace hB := hB.trans hb2
  clear hg2
  refine wpList_nil ?_
  refine wp_seq ?_
  refine wp_region_lit ?_
  refine g_pure 1 ⟨#[.pointer (some ⟨b, 0, none⟩), .int .i64 (↑k : Int), .slice a 256 cx, undef, undef, undef, .int .i64 0, .slice (some ⟨g, (k * 256), none⟩) 256 256, .int .i64 0, .tuple #[.slice (some ⟨g, (k * 256), none⟩) 256 256, .int .i64 0], .pointer (some ⟨b, 0, none⟩), .int .i64 (↑k : Int), .tuple #[.slice (some ⟨g, (k * 256), none⟩) 256 256, .int .i64 0], .slice (some ⟨g, (k * 256), none⟩) 256 256, .int .i64 0, .int .i64 0, .bool false, undef, .slice a 256 cx, .int .i64 256, .bool false, .slice (some ⟨g, (k * 256), none⟩) 256 256, .slice a 256 cx, .int .i64 256], []⟩ (by kernel_rfl) ?_
  refine wpList_nil ?_
  refine wp_ret ?_
  show bodyPost _ _ _ .ret _ _
  exact g_ret (.int .i64 0) rfl (by kernel_rfl) ⟨rfl, hB, hO, hX, o2⟩
set_option maxRecDepth 100000 in
set_option maxHeartbeats 1000000 in
theorem block_Write (B b g : Nat) (n c k : Nat) (l : List UInt8) (kind : Int) (a : Option Addr) (ca : Nat) (li : List UInt8) (w : World) (hk : Blk w b [.slice (some ⟨g, 0, none⟩) n c] 60) (ho : w.ownsRow B 5 1 (.slice (some ⟨g, 0, none⟩) n c) n (l.map bv)) (hn : n ≤ 3686400) (hc : n ≤ c) (hkn : k < n / 256) (h1 : 1 ≤ kind) (h2 : kind ≤ 4) (hin : Bys w (.slice a li.length ca) li) (hl : li.length ≤ 244) (hBw : B ≤ w.heap.size) :
    Calls Tryd.prog 39 #[.pointer (some ⟨b, 0, none⟩), .int .i64 (↑k : Int), .int .i64 kind, .slice a li.length ca] w (WroteB B g n c (putB l (k * 256) (sealB kind k li)) .nilIface w) := by
  refine calls_of_wp Tryd.func39 rfl ?_
  refine g_fr ⟨#[.pointer (some ⟨b, 0, none⟩), .int .i64 (↑k : Int), .int .i64 kind, .slice a li.length ca, undef, undef, undef, undef, undef, undef, undef, undef, undef, undef, undef, undef, undef, undef, undef, undef, undef, undef, undef, undef, undef, undef, undef, undef], []⟩ (by kernel_rfl) ?_
  refine wp_seq ?_
  refine wp_region_lit ?_
  refine g_pure 1 ⟨#[.pointer (some ⟨b, 0, none⟩), .int .i64 (↑k : Int), .int .i64 kind, .slice a li.length ca, undef, undef, undef, undef, .nilIface, undef, undef, undef, undef, undef, undef, undef, undef, undef, undef, undef, undef, undef, undef, undef, undef, undef, undef, undef], []⟩ (by kernel_rfl) ?_
  refine wpList_nil ?_
  refine wp_seq ?_
  refine wp_region_lit ?_
  refine g_pure 3 ⟨#[.pointer (some ⟨b, 0, none⟩), .int .i64 (↑k : Int), .int .i64 kind, .slice a li.length ca, undef, undef, undef, undef, .nilIface, undef, undef, undef, .int .i64 kind, .int .i64 (↑k : Int), .slice a li.length ca, undef, undef, undef, undef, undef, undef, undef, undef, undef, undef, undef, undef, undef], []⟩ (by kernel_rfl) ?_
  have hs1 : w.heap.size ≤ (w).heap.size := (Below.refl B _).size
  refine g_op (by kernel_rfl) (op_call 51 #[.int .i64 kind, .int .i64 (↑k : Int), .slice a li.length ca] rfl rfl (fun _ _ => by kernel_rfl) (by kernel_rfl) ((seal_Seal kind k h1 h2 (by omega) (by omega) a ca li _ hl hin).mono ?_))
  rintro e W1 ⟨_, rfl, hb1, p, c2, rfl, o⟩
  refine ⟨_, rfl, ?_⟩
  have hO : Only [5] w _ := (Only.of_below hb1)
  have hX : Fr [g] w _ := (Fr.of_below hb1)
  have hB := Bl.nextB (Below.refl B w) hBw hb1
  replace hk := hk.below hb1
  replace ho := own_below ho hb1
  replace hin := hin.below hb1
  replace o := own_mono o hs1
  refine g_pure 5 ⟨#[.pointer (some ⟨b, 0, none⟩), .int .i64 (↑k : Int), .int .i64 kind, .slice a li.length ca, undef, undef, undef, undef, .nilIface, .slice p 256 c2, .int .i64 0, .tuple #[.slice p 256 c2, .int .i64 0], .int .i64 kind, .int .i64 (↑k : Int), .slice a li.length ca, .tuple #[.slice p 256 c2, .int .i64 0], .slice p 256 c2, .int .i64 0, undef, undef, undef, undef, undef, undef, undef, undef, undef, undef], []⟩ (by kernel_rfl) ?_
  refine wpList_nil ?_
  refine wp_seq ?_
  refine wp_seq ?_
  refine wp_region_lit ?_
  refine g_pure 2 ⟨#[.pointer (some ⟨b, 0, none⟩), .int .i64 (↑k : Int), .int .i64 kind, .slice a li.length ca, undef, undef, undef, undef, .nilIface, .slice p 256 c2, .int .i64 0, .tuple #[.slice p 256 c2, .int .i64 0], .int .i64 kind, .int .i64 (↑k : Int), .slice a li.length ca, .tuple #[.slice p 256 c2, .int .i64 0], .slice p 256 c2, .int .i64 0, .int .i64 0, .bool true, undef, undef, undef, undef, undef, undef, undef, undef], []⟩ (by kernel_rfl) ?_
  refine wpList_nil ?_
  refine wp_cond_true rfl ?_
  refine wp_region_lit ?_
  refine g_pure 3 ⟨#[.pointer (some ⟨b, 0, none⟩), .int .i64 (↑k : Int), .int .i64 kind, .slice a li.length ca, undef, undef, undef, undef, .nilIface, .slice p 256 c2, .int .i64 0, .tuple #[.slice p 256 c2, .int .i64 0], .int .i64 kind, .int .i64 (↑k : Int), .slice a li.length ca, .tuple #[.slice p 256 c2, .int .i64 0], .slice p 256 c2, .int .i64 0, .int .i64 0, .bool true, .pointer (some ⟨b, 0, none⟩), .int .i64 (↑k : Int), .slice p 256 c2, undef, undef, undef, undef, undef], []⟩ (by kernel_rfl) ?_
  refine g_op (by kernel_rfl) (op_call 52 #[.pointer (some ⟨b, 0, none⟩), .int .i64 (↑k : Int), .slice p 256 c2] rfl rfl (fun _ _ => by kernel_rfl) (by kernel_rfl) ((image_Write B b g n c k l p c2 (sealB kind k li) _ hk ho (by omega) hc hkn (bys_of (own_sl o) (sealB_len hl)) (sealB_len hl) (Nat.le_trans hBw hB.size)).mono ?_))
  rintro e W2 ⟨rfl, hb2, hO2, hX2, ho2⟩
  refine ⟨_, rfl, ?_⟩
  replace hO := hO.trans hO2
  replace hX := hX.trans (hX2.mono (by simp))
  replace hB := hB.trans hb2
  replace hk := hk.only hO2 (by decide)
  refine g_pure 1 ⟨#[.pointer (some ⟨b, 0, none⟩), .int .i64 (↑k : Int), .int .i64 kind, .slice a li.length ca, undef, undef, undef, undef, .nilIface, .slice p 256 c2, .int .i64 0, .tuple #[.slice p 256 c2, .int .i64 0], .int .i64 kind, .int .i64 (↑k : Int), .slice a li.length ca, .tuple #[.slice p 256 c2, .int .i64 0], .slice p 256 c2, .int .i64 0, .int .i64 0, .bool true, .pointer (some ⟨b, 0, none⟩), .int .i64 (↑k : Int), .slice p 256 c2, .int .i64 0, undef, undef, undef, undef], []⟩ (by kernel_rfl) ?_
  refine wpList_nil ?_
  refine wp_seq ?_
  refine wp_region_lit ?_
  refine g_pure 3 ⟨#[.pointer (some ⟨b, 0, none⟩), .int .i64 (↑k : Int), .int .i64 kind, .slice a li.length ca, undef, undef, undef, undef, .nilIface, .slice p 256 c2, .int .i64 0, .tuple #[.slice p 256 c2, .int .i64 0], .int .i64 kind, .int .i64 (↑k : Int), .slice a li.length ca, .tuple #[.slice p 256 c2, .int .i64 0], .slice p 256 c2, .int .i64 0, .int .i64 0, .bool true, .pointer (some ⟨b, 0, none⟩), .int .i64 (↑k : Int), .slice p 256 c2, .int .i64 0, .int .i64 (↑k : Int), .int .i64 0, .iface 32 (.int .i64 0), undef], []⟩ (by kernel_rfl) ?_
  refine g_op (by kernel_rfl) (op_call 53 #[.int .i64 (↑k : Int), .iface 32 (.int .i64 0)] rfl rfl (fun _ _ => by kernel_rfl) (by kernel_rfl) ((block_told k 0 _).mono ?_))
  rintro e W3 ⟨r, rfl, hb3, hr⟩
  refine ⟨_, rfl, ?_⟩
  replace hO := hO.trans (Only.of_below hb3)
  replace hX := hX.trans (Fr.of_below hb3)
  replace hB := Bl.nextB hB hBw hb3
  replace hk := hk.below hb3
  replace ho2 := own_below ho2 hb3
  obtain rfl : r = .nilIface := hr
  refine g_pure 1 ⟨#[.pointer (some ⟨b, 0, none⟩), .int .i64 (↑k : Int), .int .i64 kind, .slice a li.length ca, undef, undef, undef, undef, .nilIface, .slice p 256 c2, .int .i64 0, .tuple #[.slice p 256 c2, .int .i64 0], .int .i64 kind, .int .i64 (↑k : Int), .slice a li.length ca, .tuple #[.slice p 256 c2, .int .i64 0], .slice p 256 c2, .int .i64 0, .int .i64 0, .bool true, .pointer (some ⟨b, 0, none⟩), .int .i64 (↑k : Int), .slice p 256 c2, .int .i64 0, .int .i64 (↑k : Int), .int .i64 0, .iface 32 (.int .i64 0), .nilIface], []⟩ (by kernel_rfl) ?_
  refine wpList_nil ?_
  refine wp_ret ?_
  show bodyPost _ _ _ .ret _ _
  exact g_ret .nilIface rfl (by kernel_rfl) ⟨rfl, hB, hO, hX, ho2⟩
end Go.Proofs.YtlmogdjcnbjhfaaDoor

