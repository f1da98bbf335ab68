/- Package alloc at an image of its own: New, Next, Lay, Left, Used. -/
import Derived.Test.YtlmogdjcnbjhfaaDoorImage
namespace Go.Proofs.YtlmogdjcnbjhfaaDoor
open Go.RowKit Go.Extern.Stop Go.Stop Go.Extern
set_option linter.unusedVariables false

/-- j numbers from f on -/
def rngJ (f j : Nat) : List Int := (List.range j).map fun i => ((f + i : Nat) : Int)
theorem rngJ_succ (f j : Nat) : rngJ f (j + 1) = rngJ f j ++ [((f + j : Nat) : Int)] := by simp [rngJ, List.range_succ]
theorem rngJ_get {f N k : Nat} (h : k < N) : (rngJ f N).getD k 0 = ((f + k : Nat) : Int) := by simp [rngJ, List.getD, List.getElem?_range h]
theorem rngJ_len (f j : Nat) : (rngJ f j).length = j := by simp [rngJ]
/-- an allocator that has handed out k of N numbers from f on, of an image whose bytes are l -/
structure Al (B ba b g n c : Nat) (pa : Option Addr) (ca f N k : Nat) (l : List UInt8) (w : World) : Prop where
  blkA : Blk w ba [.slice pa N ca, .int .i64 (k : Int), .pointer (some ⟨b, 0, none⟩)] 54
  blkI : Blk w b [.slice (some ⟨g, 0, none⟩) n c] 60
  data : w.ownsRow B 5 1 (.slice (some ⟨g, 0, none⟩) n c) n (l.map bv)
  nums : w.ownsRow B 3 1 (.slice pa N ca) N ((rngJ f N).map (Value.int .i64))
/-- what never changes of it -/
structure AlC (B ba n c ca f N : Nat) : Prop where
  hn : n ≤ 3686400
  hc : n ≤ c
  hca : N ≤ ca
  hf : f + N ≤ n / 256
  hB : B ≤ ba
set_option maxRecDepth 100000 in
set_option maxHeartbeats 1000000 in
theorem alloc_New (b : Nat) (p0 : Option Addr) (n c f : Nat) (w : World) (hk : Blk w b [.slice p0 n c] 60) (hn : n ≤ 3686400) (h1 : 1 ≤ f) (h2 : f ≤ n / 256) :
    Calls Tryd.prog 13 #[.pointer (some ⟨b, 0, none⟩), .int .i64 (↑f : Int)] w (RetS (fun w' r => ∃ ba p c2, r = .tuple #[.pointer (some ⟨ba, 0, none⟩), .nilIface] ∧ w.heap.size ≤ ba ∧ Blk w' ba [.slice p (n / 256 - f) c2, .int .i64 0, .pointer (some ⟨b, 0, none⟩)] 54 ∧ w'.ownsRow w.heap.size 3 1 (.slice p (n / 256 - f) c2) (n / 256 - f) ((rngJ f (n / 256 - f)).map (Value.int .i64))) w) := by
  refine calls_of_wp Tryd.func13 rfl ?_
  refine g_fr ⟨#[.pointer (some ⟨b, 0, none⟩), .int .i64 (↑f : Int), undef, undef, undef, undef, undef, undef, undef, undef, undef, undef, undef, undef, undef, undef, undef, undef, undef, undef, undef, undef, undef, undef, undef, undef, undef, undef, undef, undef, undef, undef, undef, undef, undef, undef, undef], []⟩ (by kernel_rfl) ?_
  refine wp_seq ?_
  refine wp_region_lit ?_
  refine g_pure 2 ⟨#[.pointer (some ⟨b, 0, none⟩), .int .i64 (↑f : Int), undef, undef, .pointer none, .nilIface, undef, undef, undef, undef, undef, undef, undef, undef, undef, undef, undef, undef, undef, undef, undef, undef, undef, undef, undef, undef, undef, undef, undef, undef, undef, undef, undef, undef, undef, undef, undef], []⟩ (by kernel_rfl) ?_
  refine wpList_nil ?_
  refine wp_seq ?_
  refine wp_seq ?_
  refine wp_region_lit ?_
  refine g_pure 7 ⟨#[.pointer (some ⟨b, 0, none⟩), .int .i64 (↑f : Int), undef, undef, .pointer none, .nilIface, undef, undef, .pointer (some ⟨b, 0, none⟩), .bool false, .bool false, .int .i64 (↑f : Int), .bool (decide ((↑f : Int) < (1 : Int))), .bool (decide ((↑f : Int) < (1 : Int))), .bool (decide ((↑f : Int) < (1 : Int))), undef, undef, undef, undef, undef, undef, undef, undef, undef, undef, undef, undef, undef, undef, undef, undef, undef, undef, undef, undef, undef, undef], []⟩ (by kernel_rfl) ?_
  have hc1 : (decide ((↑f : Int) < (1 : Int)) : Bool) = false := decide_eq_false (by omega)
  refine g_lfr ⟨#[.pointer (some ⟨b, 0, none⟩), .int .i64 (↑f : Int), undef, undef, .pointer none, .nilIface, undef, undef, .pointer (some ⟨b, 0, none⟩), .bool false, .bool false, .int .i64 (↑f : Int), .bool false, .bool false, .bool false, undef, undef, undef, undef, undef, undef, undef, undef, undef, undef, undef, undef, undef, undef, undef, undef, undef, undef, undef, undef, undef, undef], []⟩ (by rw [← hc1]) ?_
  refine g_pure 2 ⟨#[.pointer (some ⟨b, 0, none⟩), .int .i64 (↑f : Int), undef, undef, .pointer none, .nilIface, undef, undef, .pointer (some ⟨b, 0, none⟩), .bool false, .bool false, .int .i64 (↑f : Int), .bool false, .bool false, .bool false, .int .i64 (↑f : Int), .pointer (some ⟨b, 0, none⟩), undef, undef, undef, undef, undef, undef, undef, undef, undef, undef, undef, undef, undef, undef, undef, undef, undef, undef, undef, undef], []⟩ (by kernel_rfl) ?_
  refine g_op (by kernel_rfl) (op_call 24 #[.pointer (some ⟨b, 0, none⟩)] rfl rfl (fun _ _ => by kernel_rfl) (by kernel_rfl) ((image_Blocks b p0 n c _ hk (by omega)).mono ?_))
  rintro e W2 ⟨rfl, hb2⟩
  refine ⟨_, rfl, ?_⟩
  have hB := hb2
  replace hk := hk.below hb2
  refine g_pure 2 ⟨#[.pointer (some ⟨b, 0, none⟩), .int .i64 (↑f : Int), undef, undef, .pointer none, .nilIface, undef, undef, .pointer (some ⟨b, 0, none⟩), .bool false, .bool false, .int .i64 (↑f : Int), .bool false, .bool false, .bool false, .int .i64 (↑f : Int), .pointer (some ⟨b, 0, none⟩), .int .i64 (↑(n / 256) : Int), .bool (decide ((↑f : Int) > (↑(n / 256) : Int))), .bool (decide ((↑f : Int) > (↑(n / 256) : Int))), undef, undef, undef, undef, undef, undef, undef, undef, undef, undef, undef, undef, undef, undef, undef, undef, undef], []⟩ (by kernel_rfl) ?_
  refine wpList_nil ?_
  refine wp_cond_false (by show Value.bool _ = Value.bool _; rw [(show (decide ((↑f : Int) > (↑(n / 256) : Int)) : Bool) = false from decide_eq_false (by omega))]) ?_
  refine wp_skip ?_
  refine wp_seq ?_
  refine wp_region_lit ?_
  refine g_pure 1 ⟨#[.pointer (some ⟨b, 0, none⟩), .int .i64 (↑f : Int), undef, undef, .pointer none, .nilIface, .slice none 0 0, undef, .pointer (some ⟨b, 0, none⟩), .bool false, .bool false, .int .i64 (↑f : Int), .bool false, .bool false, .bool false, .int .i64 (↑f : Int), .pointer (some ⟨b, 0, none⟩), .int .i64 (↑(n / 256) : Int), .bool (decide ((↑f : Int) > (↑(n / 256) : Int))), .bool (decide ((↑f : Int) > (↑(n / 256) : Int))), undef, undef, undef, undef, undef, undef, undef, undef, undef, undef, undef, undef, undef, undef, undef, undef, undef], []⟩ (by kernel_rfl) ?_
  refine wpList_nil ?_
  refine wp_seq ?_
  refine wp_seq ?_
  refine wp_region_lit ?_
  refine g_pure 2 ⟨#[.pointer (some ⟨b, 0, none⟩), .int .i64 (↑f : Int), undef, undef, .pointer none, .nilIface, .slice none 0 0, .int .i64 (↑f : Int), .pointer (some ⟨b, 0, none⟩), .bool false, .bool false, .int .i64 (↑f : Int), .bool false, .bool false, .bool false, .int .i64 (↑f : Int), .pointer (some ⟨b, 0, none⟩), .int .i64 (↑(n / 256) : Int), .bool (decide ((↑f : Int) > (↑(n / 256) : Int))), .bool (decide ((↑f : Int) > (↑(n / 256) : Int))), undef, .int .i64 (↑f : Int), undef, undef, undef, undef, undef, undef, undef, undef, undef, undef, undef, undef, undef, undef, undef], []⟩ (by kernel_rfl) ?_
  refine wpList_nil ?_
  refine wp_block ?_
  refine g_fr ⟨#[.pointer (some ⟨b, 0, none⟩), .int .i64 (↑f : Int), undef, undef, .pointer none, .nilIface, .slice none 0 0, .int .i64 (↑f : Int), .pointer (some ⟨b, 0, none⟩), .bool false, .bool false, .int .i64 (↑f : Int), .bool false, .bool false, .bool false, .int .i64 (↑f : Int), .pointer (some ⟨b, 0, none⟩), .int .i64 (↑(n / 256) : Int), .bool (decide ((↑f : Int) > (↑(n / 256) : Int))), .bool (decide ((↑f : Int) > (↑(n / 256) : Int))), undef, .int .i64 (↑f : Int), undef, undef, undef, undef, undef, undef, undef, undef, undef, undef, undef, undef, undef, undef, undef], []⟩ (by kernel_rfl) ?_
  refine wp_loop (fun act V => ∃ (j : Nat) (p : Option Addr) (c2 : Nat) (x4_22 x4_23 x4_24 x4_25 x4_26 x4_27 x4_28 x4_29 x4_30 x4_31 : Value), act = ⟨#[.pointer (some ⟨b, 0, none⟩), .int .i64 (↑f : Int), undef, undef, .pointer none, .nilIface, .slice p j c2, .int .i64 (↑(f + j) : Int), .pointer (some ⟨b, 0, none⟩), .bool false, .bool false, .int .i64 (↑f : Int), .bool false, .bool false, .bool false, .int .i64 (↑f : Int), .pointer (some ⟨b, 0, none⟩), .int .i64 (↑(n / 256) : Int), .bool (decide ((↑f : Int) > (↑(n / 256) : Int))), .bool (decide ((↑f : Int) > (↑(n / 256) : Int))), undef, .int .i64 (↑f : Int), x4_22, x4_23, x4_24, x4_25, x4_26, x4_27, x4_28, x4_29, x4_30, x4_31, undef, undef, undef, undef, undef], []⟩ ∧ Below w.heap.size w V ∧ Blk V b ([.slice p0 n c]) 60 ∧ V.ownsRow w.heap.size 3 1 (.slice p j c2) j ((rngJ f j).map (Value.int .i64)) ∧ f + j ≤ n / 256) (fun act V => n / 256 - ((intOf (act.tmps.getD 7 undef))).toNat) ⟨0, _, _, _, _, _, _, _, _, _, _, _, _, rfl, hB, hk, World.ownsRow_nil _ _ _ _, by omega⟩ ?_
  rintro _ W4 ⟨j, p, c2, x4_22, x4_23, x4_24, x4_25, x4_26, x4_27, x4_28, x4_29, x4_30, x4_31, rfl, hB, k4_b, ho, hj⟩
  refine wp_seq ?_
  refine wp_seq ?_
  refine wp_region_lit ?_
  refine g_pure 2 ⟨#[.pointer (some ⟨b, 0, none⟩), .int .i64 (↑f : Int), undef, undef, .pointer none, .nilIface, .slice p j c2, .int .i64 (↑(f + j) : Int), .pointer (some ⟨b, 0, none⟩), .bool false, .bool false, .int .i64 (↑f : Int), .bool false, .bool false, .bool false, .int .i64 (↑f : Int), .pointer (some ⟨b, 0, none⟩), .int .i64 (↑(n / 256) : Int), .bool (decide ((↑f : Int) > (↑(n / 256) : Int))), .bool (decide ((↑f : Int) > (↑(n / 256) : Int))), undef, .int .i64 (↑f : Int), .int .i64 (↑(f + j) : Int), .pointer (some ⟨b, 0, none⟩), x4_24, x4_25, x4_26, x4_27, x4_28, x4_29, x4_30, x4_31, undef, undef, undef, undef, undef], []⟩ (by kernel_rfl) ?_
  refine g_op (by kernel_rfl) (op_call 24 #[.pointer (some ⟨b, 0, none⟩)] rfl rfl (fun _ _ => by kernel_rfl) (by kernel_rfl) ((image_Blocks b p0 n c _ k4_b (by omega)).mono ?_))
  rintro e W5 ⟨rfl, hb5⟩
  refine ⟨_, rfl, ?_⟩
  replace hB := Bl.next hB hb5
  replace k4_b := k4_b.below hb5
  replace ho := own_below ho hb5
  refine g_pure 1 ⟨#[.pointer (some ⟨b, 0, none⟩), .int .i64 (↑f : Int), undef, undef, .pointer none, .nilIface, .slice p j c2, .int .i64 (↑(f + j) : Int), .pointer (some ⟨b, 0, none⟩), .bool false, .bool false, .int .i64 (↑f : Int), .bool false, .bool false, .bool false, .int .i64 (↑f : Int), .pointer (some ⟨b, 0, none⟩), .int .i64 (↑(n / 256) : Int), .bool (decide ((↑f : Int) > (↑(n / 256) : Int))), .bool (decide ((↑f : Int) > (↑(n / 256) : Int))), undef, .int .i64 (↑f : Int), .int .i64 (↑(f + j) : Int), .pointer (some ⟨b, 0, none⟩), .int .i64 (↑(n / 256) : Int), .bool (decide ((↑(f + j) : Int) < (↑(n / 256) : Int))), x4_26, x4_27, x4_28, x4_29, x4_30, x4_31, undef, undef, undef, undef, undef], []⟩ (by kernel_rfl) ?_
  refine wpList_nil ?_
  refine wp_cond_split (t := decide ((↑(f + j) : Int) < (↑(n / 256) : Int))) rfl (fun hc6 => ?_) (fun hc6 => ?_)
  · have hc6 := of_decide_eq_true hc6
    refine wp_skip ?_
    refine wp_seq ?_
    refine wp_block ?_
    refine wp_region_lit ?_
    refine g_pure 2 ⟨#[.pointer (some ⟨b, 0, none⟩), .int .i64 (↑f : Int), undef, undef, .pointer none, .nilIface, .slice p j c2, .int .i64 (↑(f + j) : Int), .pointer (some ⟨b, 0, none⟩), .bool false, .bool false, .int .i64 (↑f : Int), .bool false, .bool false, .bool false, .int .i64 (↑f : Int), .pointer (some ⟨b, 0, none⟩), .int .i64 (↑(n / 256) : Int), .bool (decide ((↑f : Int) > (↑(n / 256) : Int))), .bool (decide ((↑f : Int) > (↑(n / 256) : Int))), undef, .int .i64 (↑f : Int), .int .i64 (↑(f + j) : Int), .pointer (some ⟨b, 0, none⟩), .int .i64 (↑(n / 256) : Int), .bool (decide ((↑(f + j) : Int) < (↑(n / 256) : Int))), x4_26, x4_27, .slice p j c2, .int .i64 (↑(f + j) : Int), x4_30, x4_31, undef, undef, undef, undef, undef], []⟩ (by kernel_rfl) ?_
    refine g_op (by kernel_rfl) (op_buildSlice 3 [.int .i64 (↑(f + j) : Int)] rfl (by kernel_rfl) ?_)
    intro b7 W7 n7
    have d7_b := n7.ne k4_b
    have g7 := n7.ge hB
    replace hB := Bl.next hB n7.below
    replace k4_b := k4_b.below n7.below
    replace ho := own_below ho n7.below
    have k7 := n7.blk
    refine g_op (by kernel_rfl) (op_app (e := 3) (n := j) (xs := (rngJ f j).map (Value.int .i64)) (m := 1) (news := [.int .i64 (↑(f + j) : Int)]) (.int .i64 0) 1 8 (j + 1) ((rngJ f (j + 1)).map (Value.int .i64)) rfl Tryd.underlying36 (by kernel_rfl) rfl (by decide) rfl ho rfl (k7.sl 1 1 (by decide) (by decide)) rfl (by simp [Value.oneCell']) (by unfold maxLen; omega) (by omega) hB.size (by rfl) (by rw [rngJ_succ]; simp) ?_)
    intro p8 c8 W8 o8 hg8 hb8
    replace k4_b := k4_b.grown hg8 ho (by decide)
    replace hB := hB.trans hb8
    refine g_pure 1 ⟨#[.pointer (some ⟨b, 0, none⟩), .int .i64 (↑f : Int), undef, undef, .pointer none, .nilIface, .slice p8 (j + 1) c8, .int .i64 (↑(f + j) : Int), .pointer (some ⟨b, 0, none⟩), .bool false, .bool false, .int .i64 (↑f : Int), .bool false, .bool false, .bool false, .int .i64 (↑f : Int), .pointer (some ⟨b, 0, none⟩), .int .i64 (↑(n / 256) : Int), .bool (decide ((↑f : Int) > (↑(n / 256) : Int))), .bool (decide ((↑f : Int) > (↑(n / 256) : Int))), undef, .int .i64 (↑f : Int), .int .i64 (↑(f + j) : Int), .pointer (some ⟨b, 0, none⟩), .int .i64 (↑(n / 256) : Int), .bool (decide ((↑(f + j) : Int) < (↑(n / 256) : Int))), x4_26, x4_27, .slice p j c2, .int .i64 (↑(f + j) : Int), .slice (some ⟨b7, 0, none⟩) 1 1, .slice p8 (j + 1) c8, undef, undef, undef, undef, undef], []⟩ (by kernel_rfl) ?_
    refine wpList_nil ?_
    refine wp_region_lit ?_
    refine g_pure 1 ⟨#[.pointer (some ⟨b, 0, none⟩), .int .i64 (↑f : Int), undef, undef, .pointer none, .nilIface, .slice p8 (j + 1) c8, .int .i64 (↑(f + j) : Int), .pointer (some ⟨b, 0, none⟩), .bool false, .bool false, .int .i64 (↑f : Int), .bool false, .bool false, .bool false, .int .i64 (↑f : Int), .pointer (some ⟨b, 0, none⟩), .int .i64 (↑(n / 256) : Int), .bool (decide ((↑f : Int) > (↑(n / 256) : Int))), .bool (decide ((↑f : Int) > (↑(n / 256) : Int))), undef, .int .i64 (↑f : Int), .int .i64 (↑(f + j) : Int), .pointer (some ⟨b, 0, none⟩), .int .i64 (↑(n / 256) : Int), .bool (decide ((↑(f + j) : Int) < (↑(n / 256) : Int))), .int .i64 (↑(f + j) : Int), x4_27, .slice p j c2, .int .i64 (↑(f + j) : Int), .slice (some ⟨b7, 0, none⟩) 1 1, .slice p8 (j + 1) c8, undef, undef, undef, undef, undef], []⟩ (by kernel_rfl) ?_
    refine g_op (by kernel_rfl) (op_wrap .i64 ((↑(f + j) : Int) + 1) (↑((f + j) + 1) : Int) (by kernel_rfl) ((show IntKind.i64.wrap ((↑(f + j) : Int) + 1) = ((↑(f + j) : Int) + 1) from by first | exact IntWalk.i64_in _ (by omega) | (simp only [IntKind.wrap]; omega)).trans (by omega)) ?_)
    refine g_pure 1 ⟨#[.pointer (some ⟨b, 0, none⟩), .int .i64 (↑f : Int), undef, undef, .pointer none, .nilIface, .slice p8 (j + 1) c8, .int .i64 (↑((f + j) + 1) : Int), .pointer (some ⟨b, 0, none⟩), .bool false, .bool false, .int .i64 (↑f : Int), .bool false, .bool false, .bool false, .int .i64 (↑f : Int), .pointer (some ⟨b, 0, none⟩), .int .i64 (↑(n / 256) : Int), .bool (decide ((↑f : Int) > (↑(n / 256) : Int))), .bool (decide ((↑f : Int) > (↑(n / 256) : Int))), undef, .int .i64 (↑f : Int), .int .i64 (↑(f + j) : Int), .pointer (some ⟨b, 0, none⟩), .int .i64 (↑(n / 256) : Int), .bool (decide ((↑(f + j) : Int) < (↑(n / 256) : Int))), .int .i64 (↑(f + j) : Int), .int .i64 (↑((f + j) + 1) : Int), .slice p j c2, .int .i64 (↑(f + j) : Int), .slice (some ⟨b7, 0, none⟩) 1 1, .slice p8 (j + 1) c8, undef, undef, undef, undef, undef], []⟩ (by kernel_rfl) ?_
    refine wpList_nil ?_
    refine g_nfr ⟨#[.pointer (some ⟨b, 0, none⟩), .int .i64 (↑f : Int), undef, undef, .pointer none, .nilIface, .slice p8 (j + 1) c8, .int .i64 (↑((f + j) + 1) : Int), .pointer (some ⟨b, 0, none⟩), .bool false, .bool false, .int .i64 (↑f : Int), .bool false, .bool false, .bool false, .int .i64 (↑f : Int), .pointer (some ⟨b, 0, none⟩), .int .i64 (↑(n / 256) : Int), .bool (decide ((↑f : Int) > (↑(n / 256) : Int))), .bool (decide ((↑f : Int) > (↑(n / 256) : Int))), undef, .int .i64 (↑f : Int), .int .i64 (↑(f + j) : Int), .pointer (some ⟨b, 0, none⟩), .int .i64 (↑(n / 256) : Int), .bool (decide ((↑(f + j) : Int) < (↑(n / 256) : Int))), .int .i64 (↑(f + j) : Int), .int .i64 (↑((f + j) + 1) : Int), .slice p j c2, .int .i64 (↑(f + j) : Int), .slice (some ⟨b7, 0, none⟩) 1 1, .slice p8 (j + 1) c8, undef, undef, undef, undef, undef], []⟩ (by kernel_rfl) ?_
    refine ⟨⟨j + 1, _, _, _, _, _, _, _, _, _, _, _, _, rfl, hB, k4_b, o8, by omega⟩, ?_⟩
    show n / 256 - ((↑((f + j) + 1) : Int)).toNat < n / 256 - ((↑(f + j) : Int)).toNat
    omega
  · have hc6 := of_decide_eq_false hc6
    refine wp_exit ?_
    refine then_exit ?_
    refine then_exit ?_
    refine inBlock_hit ?_
    refine wp_seq ?_
    refine wp_region_lit ?_
    refine g_pure 4 ⟨#[.pointer (some ⟨b, 0, none⟩), .int .i64 (↑f : Int), undef, undef, .pointer none, .nilIface, .slice p j c2, .int .i64 (↑(f + j) : Int), .pointer (some ⟨b, 0, none⟩), .bool false, .bool false, .int .i64 (↑f : Int), .bool false, .bool false, .bool false, .int .i64 (↑f : Int), .pointer (some ⟨b, 0, none⟩), .int .i64 (↑(n / 256) : Int), .bool (decide ((↑f : Int) > (↑(n / 256) : Int))), .bool (decide ((↑f : Int) > (↑(n / 256) : Int))), undef, .int .i64 (↑f : Int), .int .i64 (↑(f + j) : Int), .pointer (some ⟨b, 0, none⟩), .int .i64 (↑(n / 256) : Int), .bool (decide ((↑(f + j) : Int) < (↑(n / 256) : Int))), x4_26, x4_27, x4_28, x4_29, x4_30, x4_31, .slice p j c2, .agg #[.slice p j c2, .int .i64 0], .pointer (some ⟨b, 0, none⟩), .agg #[.slice p j c2, .int .i64 0, .pointer (some ⟨b, 0, none⟩)], undef], []⟩ (by kernel_rfl) ?_
    refine g_op (by kernel_rfl) (op_box [.slice p j c2, .int .i64 0, .pointer (some ⟨b, 0, none⟩)] rfl (by kernel_rfl) ?_)
    intro b9 W9 n9
    have d9_b := n9.ne k4_b
    have g9 := n9.ge hB
    replace hB := Bl.next hB n9.below
    replace k4_b := k4_b.below n9.below
    replace ho := own_below ho n9.below
    have k9 := n9.blk
    refine g_pure 2 ⟨#[.pointer (some ⟨b, 0, none⟩), .int .i64 (↑f : Int), undef, undef, .pointer (some ⟨b9, 0, none⟩), .nilIface, .slice p j c2, .int .i64 (↑(f + j) : Int), .pointer (some ⟨b, 0, none⟩), .bool false, .bool false, .int .i64 (↑f : Int), .bool false, .bool false, .bool false, .int .i64 (↑f : Int), .pointer (some ⟨b, 0, none⟩), .int .i64 (↑(n / 256) : Int), .bool (decide ((↑f : Int) > (↑(n / 256) : Int))), .bool (decide ((↑f : Int) > (↑(n / 256) : Int))), undef, .int .i64 (↑f : Int), .int .i64 (↑(f + j) : Int), .pointer (some ⟨b, 0, none⟩), .int .i64 (↑(n / 256) : Int), .bool (decide ((↑(f + j) : Int) < (↑(n / 256) : Int))), x4_26, x4_27, x4_28, x4_29, x4_30, x4_31, .slice p j c2, .agg #[.slice p j c2, .int .i64 0], .pointer (some ⟨b, 0, none⟩), .agg #[.slice p j c2, .int .i64 0, .pointer (some ⟨b, 0, none⟩)], .pointer (some ⟨b9, 0, none⟩)], []⟩ (by kernel_rfl) ?_
    refine wpList_nil ?_
    refine wp_ret ?_
    show bodyPost _ _ _ .ret _ _
    refine g_ret (.tuple #[.pointer (some ⟨b9, 0, none⟩), .nilIface]) rfl (by kernel_rfl) ?_
    obtain rfl : j = n / 256 - f := by omega
    exact ⟨_, rfl, hB, _, _, _, rfl, g9, k9, ho⟩
set_option maxRecDepth 100000 in
set_option maxHeartbeats 1000000 in
theorem alloc_nobody (ba b : Nat) (v x : Value) (w : World) (hk : Blk w ba [v, x, .pointer (some ⟨b, 0, none⟩)] 54) :
    Calls Tryd.prog 19 #[.pointer (some ⟨ba, 0, none⟩)] w (Ret (.bool false) w) := by
  refine calls_of_wp Tryd.func19 rfl ?_
  refine g_fr ⟨#[.pointer (some ⟨ba, 0, none⟩), undef, undef, undef, undef, undef, undef, undef, undef, undef, undef, undef], []⟩ (by kernel_rfl) ?_
  refine wp_seq ?_
  refine wp_region_lit ?_
  refine g_pure 1 ⟨#[.pointer (some ⟨ba, 0, none⟩), undef, .bool false, undef, undef, undef, undef, undef, undef, undef, undef, undef], []⟩ (by kernel_rfl) ?_
  refine wpList_nil ?_
  refine wp_seq ?_
  refine wp_region_lit ?_
  refine g_pure 6 ⟨#[.pointer (some ⟨ba, 0, none⟩), undef, .bool false, .pointer (some ⟨ba, 0, none⟩), .bool false, .bool false, .pointer (some ⟨ba, 0, none⟩), .pointer (some ⟨ba, 0, none⟩), .pointer (some ⟨ba, 2, none⟩), undef, undef, undef], []⟩ (by kernel_rfl) ?_
  refine g_op (by kernel_rfl) (op_load _ (.pointer (some ⟨b, 0, none⟩)) rfl rfl (by kernel_rfl) (hk.cell (i := 2) rfl) ?_)
  refine g_pure 3 ⟨#[.pointer (some ⟨ba, 0, none⟩), undef, .bool false, .pointer (some ⟨ba, 0, none⟩), .bool false, .bool false, .pointer (some ⟨ba, 0, none⟩), .pointer (some ⟨ba, 0, none⟩), .pointer (some ⟨ba, 2, none⟩), .pointer (some ⟨b, 0, none⟩), .bool false, .bool false], []⟩ (by kernel_rfl) ?_
  refine wpList_nil ?_
  refine wp_ret ?_
  show bodyPost _ _ _ .ret _ _
  exact g_ret (.bool false) rfl (by kernel_rfl) ⟨rfl, (Below.refl w.heap.size _)⟩
set_option maxRecDepth 100000 in
set_option maxHeartbeats 1000000 in
theorem alloc_left (ba : Nat) (p : Option Addr) (N c k : Nat) (m : Value) (w : World) (hk : Blk w ba [.slice p N c, .int .i64 (k : Int), m] 54) (h1 : k ≤ N) :
    Calls Tryd.prog 20 #[.pointer (some ⟨ba, 0, none⟩)] w (Ret (.slice (cutA p k c 1) (N - k) (c - k)) w) := by
  refine calls_of_wp Tryd.func20 rfl ?_
  refine g_fr ⟨#[.pointer (some ⟨ba, 0, none⟩), undef, undef, undef, undef, undef, undef, undef, undef, undef, undef, undef], []⟩ (by kernel_rfl) ?_
  refine wp_seq ?_
  refine wp_region_lit ?_
  refine g_pure 1 ⟨#[.pointer (some ⟨ba, 0, none⟩), undef, .slice none 0 0, undef, undef, undef, undef, undef, undef, undef, undef, undef], []⟩ (by kernel_rfl) ?_
  refine wpList_nil ?_
  refine wp_seq ?_
  have hB := (below_drew w)
  replace hk := hk.below (below_drew w)
  refine h_reg (Below (w.drew).heap.size (w.drew)) 10 rfl #[false, false, false, false, false, false, false, false, false, false] rfl (by kernel_rfl) (Below.refl _ _) ?_
  intro hS1
  have hBd3 := hB
  have kd3_ba := hk
  refine h_pure [0, 1, 2] 7 rfl #[true, true, true, false, false, false, false, false, false, false] ⟨#[.pointer (some ⟨ba, 0, none⟩), undef, .slice none 0 0, .pointer (some ⟨ba, 0, none⟩), .pointer (some ⟨ba, 0, none⟩), .pointer (some ⟨ba, 0, none⟩), undef, undef, undef, undef, undef, undef], []⟩ (by kernel_rfl) (fun _ _ _ _ _ h => h) (by kernel_rfl) hS1 ?_
  refine h_load 3 6 rfl _ (.slice p N c) rfl (by kernel_rfl) (by kernel_rfl) (by kernel_rfl) (fun _ _ _ _ _ h => h) (by kernel_rfl) rfl rfl (by kernel_rfl) (fun V hV => ((kd3_ba.below hV).cell (i := 0) rfl)) hS1 ?_
  refine h_pure [4, 5, 6] 3 rfl #[true, true, true, true, true, true, true, false, false, false] ⟨#[.pointer (some ⟨ba, 0, none⟩), undef, .slice none 0 0, .pointer (some ⟨ba, 0, none⟩), .pointer (some ⟨ba, 0, none⟩), .pointer (some ⟨ba, 0, none⟩), .slice p N c, .pointer (some ⟨ba, 0, none⟩), .pointer (some ⟨ba, 0, none⟩), .pointer (some ⟨ba, 1, none⟩), undef, undef], []⟩ (by kernel_rfl) (fun _ _ _ _ _ h => h) (by kernel_rfl) hS1 ?_
  refine h_load 7 2 rfl _ (.int .i64 (↑k : Int)) rfl (by kernel_rfl) (by kernel_rfl) (by kernel_rfl) (fun _ _ _ _ _ h => h) (by kernel_rfl) rfl rfl (by kernel_rfl) (fun V hV => ((kd3_ba.below hV).cell (i := 1) rfl)) hS1 ?_
  refine h_val 8 1 rfl (.slice (cutA p k c 1) (N - k) (c - k)) rfl (by kernel_rfl) (by kernel_rfl) (by kernel_rfl) (fun _ _ _ _ _ h => h) (by kernel_rfl) (fun V hV => run_sliceLA (k := k) 1 rfl rfl rfl rfl (by omega) Tryd.underlying36 (by kernel_rfl) V) hS1 ?_
  refine h_pure [9] 0 rfl #[true, true, true, true, true, true, true, true, true, true] ⟨#[.pointer (some ⟨ba, 0, none⟩), undef, .slice (cutA p k c 1) (N - k) (c - k), .pointer (some ⟨ba, 0, none⟩), .pointer (some ⟨ba, 0, none⟩), .pointer (some ⟨ba, 0, none⟩), .slice p N c, .pointer (some ⟨ba, 0, none⟩), .pointer (some ⟨ba, 0, none⟩), .pointer (some ⟨ba, 1, none⟩), .int .i64 (↑k : Int), .slice (cutA p k c 1) (N - k) (c - k)], []⟩ (by kernel_rfl) (fun _ _ _ _ _ h => h) (by kernel_rfl) hS1 ?_
  refine h_done _ (by kernel_rfl) ?_
  refine wp_ret ?_
  show bodyPost _ _ _ .ret _ _
  exact g_ret (.slice (cutA p k c 1) (N - k) (c - k)) rfl (by kernel_rfl) ⟨rfl, hB⟩
set_option maxRecDepth 100000 in
set_option maxHeartbeats 1000000 in
theorem alloc_Left (ba b : Nat) (p : Option Addr) (N c k : Nat) (w : World) (hk : Blk w ba [.slice p N c, .int .i64 (k : Int), .pointer (some ⟨b, 0, none⟩)] 54) (h1 : k ≤ N) :
    Calls Tryd.prog 8 #[.pointer (some ⟨ba, 0, none⟩)] w (Ret (.int .i64 ((N - k : Nat) : Int)) w) := by
  refine calls_of_wp Tryd.func8 rfl ?_
  refine g_fr ⟨#[.pointer (some ⟨ba, 0, none⟩), undef, undef, undef, undef, undef, undef, undef, undef, undef], []⟩ (by kernel_rfl) ?_
  refine wp_seq ?_
  refine wp_region_lit ?_
  refine g_pure 1 ⟨#[.pointer (some ⟨ba, 0, none⟩), undef, .int .i64 0, undef, undef, undef, undef, undef, undef, undef], []⟩ (by kernel_rfl) ?_
  refine wpList_nil ?_
  refine wp_seq ?_
  refine wp_seq ?_
  refine wp_region_lit ?_
  refine g_pure 1 ⟨#[.pointer (some ⟨ba, 0, none⟩), undef, .int .i64 0, .pointer (some ⟨ba, 0, none⟩), undef, undef, undef, undef, undef, undef], []⟩ (by kernel_rfl) ?_
  refine g_op (by kernel_rfl) (op_call 19 #[.pointer (some ⟨ba, 0, none⟩)] rfl rfl (fun _ _ => by kernel_rfl) (by kernel_rfl) ((alloc_nobody ba b _ _ _ hk).mono ?_))
  rintro e W1 ⟨rfl, hb1⟩
  refine ⟨_, rfl, ?_⟩
  have hB := hb1
  replace hk := hk.below hb1
  refine wpList_nil ?_
  refine wp_cond_false rfl ?_
  refine wp_skip ?_
  refine wp_seq ?_
  refine wp_region_lit ?_
  refine g_pure 3 ⟨#[.pointer (some ⟨ba, 0, none⟩), undef, .int .i64 0, .pointer (some ⟨ba, 0, none⟩), .bool false, .pointer (some ⟨ba, 0, none⟩), .pointer (some ⟨ba, 0, none⟩), .pointer (some ⟨ba, 0, none⟩), undef, undef], []⟩ (by kernel_rfl) ?_
  refine g_op (by kernel_rfl) (op_call 20 #[.pointer (some ⟨ba, 0, none⟩)] rfl rfl (fun _ _ => by kernel_rfl) (by kernel_rfl) ((alloc_left ba p N c k _ _ hk h1).mono ?_))
  rintro e W2 ⟨rfl, hb2⟩
  refine ⟨_, rfl, ?_⟩
  replace hB := Bl.next hB hb2
  replace hk := hk.below hb2
  refine g_pure 2 ⟨#[.pointer (some ⟨ba, 0, none⟩), undef, .int .i64 (↑(N - k) : Int), .pointer (some ⟨ba, 0, none⟩), .bool false, .pointer (some ⟨ba, 0, none⟩), .pointer (some ⟨ba, 0, none⟩), .pointer (some ⟨ba, 0, none⟩), .slice (cutA p k c 1) (N - k) (c - k), .int .i64 (↑(N - k) : Int)], []⟩ (by kernel_rfl) ?_
  refine wpList_nil ?_
  refine wp_ret ?_
  show bodyPost _ _ _ .ret _ _
  exact g_ret (.int .i64 (↑(N - k) : Int)) rfl (by kernel_rfl) ⟨rfl, hB⟩
set_option maxRecDepth 100000 in
set_option maxHeartbeats 1000000 in
theorem alloc_Used (ba b : Nat) (v : Value) (k : Nat) (w : World) (hk : Blk w ba [v, .int .i64 (k : Int), .pointer (some ⟨b, 0, none⟩)] 54) :
    Calls Tryd.prog 10 #[.pointer (some ⟨ba, 0, none⟩)] w (Ret (.int .i64 (k : Int)) w) := by
  refine calls_of_wp Tryd.func10 rfl ?_
  refine g_fr ⟨#[.pointer (some ⟨ba, 0, none⟩), undef, undef, undef, undef, undef, undef, undef, undef, undef], []⟩ (by kernel_rfl) ?_
  refine wp_seq ?_
  refine wp_region_lit ?_
  refine g_pure 1 ⟨#[.pointer (some ⟨ba, 0, none⟩), undef, .int .i64 0, undef, undef, undef, undef, undef, undef, undef], []⟩ (by kernel_rfl) ?_
  refine wpList_nil ?_
  refine wp_seq ?_
  refine wp_seq ?_
  refine wp_region_lit ?_
  refine g_pure 1 ⟨#[.pointer (some ⟨ba, 0, none⟩), undef, .int .i64 0, .pointer (some ⟨ba, 0, none⟩), undef, undef, undef, undef, undef, undef], []⟩ (by kernel_rfl) ?_
  refine g_op (by kernel_rfl) (op_call 19 #[.pointer (some ⟨ba, 0, none⟩)] rfl rfl (fun _ _ => by kernel_rfl) (by kernel_rfl) ((alloc_nobody ba b _ _ _ hk).mono ?_))
  rintro e W1 ⟨rfl, hb1⟩
  refine ⟨_, rfl, ?_⟩
  have hB := hb1
  replace hk := hk.below hb1
  refine wpList_nil ?_
  refine wp_cond_false rfl ?_
  refine wp_skip ?_
  refine wp_seq ?_
  refine wp_region_lit ?_
  refine g_pure 4 ⟨#[.pointer (some ⟨ba, 0, none⟩), undef, .int .i64 0, .pointer (some ⟨ba, 0, none⟩), .bool false, .pointer (some ⟨ba, 0, none⟩), .pointer (some ⟨ba, 0, none⟩), .pointer (some ⟨ba, 0, none⟩), .pointer (some ⟨ba, 1, none⟩), undef], []⟩ (by kernel_rfl) ?_
  refine g_op (by kernel_rfl) (op_load _ (.int .i64 (↑k : Int)) rfl rfl (by kernel_rfl) (hk.cell (i := 1) rfl) ?_)
  refine g_pure 1 ⟨#[.pointer (some ⟨ba, 0, none⟩), undef, .int .i64 (↑k : Int), .pointer (some ⟨ba, 0, none⟩), .bool false, .pointer (some ⟨ba, 0, none⟩), .pointer (some ⟨ba, 0, none⟩), .pointer (some ⟨ba, 0, none⟩), .pointer (some ⟨ba, 1, none⟩), .int .i64 (↑k : Int)], []⟩ (by kernel_rfl) ?_
  refine wpList_nil ?_
  refine wp_ret ?_
  show bodyPost _ _ _ .ret _ _
  exact g_ret (.int .i64 (↑k : Int)) rfl (by kernel_rfl) ⟨rfl, hB⟩
/-- what is left when a number was taken -/
def Took (B ba : Nat) (p : Option Addr) (N c k : Nat) (m : Value) (L : List Int) (v : Value) (w : World) (e : Ending) (w' : World) : Prop :=
  e = .returned v ∧ Below B w w' ∧ Only [54] w w' ∧ Fr [ba] w w' ∧ Blk w' ba [.slice p N c, .int .i64 ((k + 1 : Nat) : Int), m] 54 ∧ w'.ownsRow B 3 1 (.slice p N c) N (L.map (Value.int .i64))
theorem IntsN.elem {w : World} {b : Option Addr} {n c : Nat} {l : List Int} (h : Sl w (.slice b n c) n (l.map (Value.int .i64))) (hl : l.length = n) {k : Nat} (hk : k < n) : b.isSome = true ∧ w.cell? (elemAddr b (k * 1)) = some (.int .i64 (l.getD k 0)) := by
  subst hl; exact Ints.elem h hk
set_option maxRecDepth 100000 in
set_option maxHeartbeats 1000000 in
theorem alloc_take (B ba : Nat) (p : Option Addr) (N c k : Nat) (L : List Int) (hL : L.length = N) (m : Value) (w : World) (hk : Blk w ba [.slice p N c, .int .i64 (k : Int), m] 54) (ho : w.ownsRow B 3 1 (.slice p N c) N (L.map (Value.int .i64))) (hB0 : B ≤ ba) (hBw : B ≤ w.heap.size) (hN : N ≤ 1000000) (hkN : k < N) :
    Calls Tryd.prog 50 #[.pointer (some ⟨ba, 0, none⟩)] w (Took B ba p N c k m L (.tuple #[.int .i64 (L.getD k 0), .bool true]) w) := by
  refine calls_of_wp Tryd.func50 rfl ?_
  refine g_fr ⟨#[.pointer (some ⟨ba, 0, none⟩), undef, undef, undef, undef, undef, undef, undef, undef, undef, undef, undef, undef, undef, undef, undef, undef, undef, undef, undef, undef, undef, undef, undef, undef, undef, undef, undef, undef, undef, undef, undef], []⟩ (by kernel_rfl) ?_
  refine wp_seq ?_
  refine wp_region_lit ?_
  refine g_pure 2 ⟨#[.pointer (some ⟨ba, 0, none⟩), undef, .int .i64 0, .bool false, undef, undef, undef, undef, undef, undef, undef, undef, undef, undef, undef, undef, undef, undef, undef, undef, undef, undef, undef, undef, undef, undef, undef, undef, undef, undef, undef, undef], []⟩ (by kernel_rfl) ?_
  refine wpList_nil ?_
  refine wp_seq ?_
  refine wp_seq ?_
  have hO : Only [54] w _ := (Only.of_below (below_drew w))
  have hX : Fr [ba] w _ := (Fr.of_below (below_drew w))
  have hB := Bl.nextB (Below.refl B w) hBw (below_drew w)
  replace hk := hk.below (below_drew w)
  replace ho := own_below ho (below_drew w)
  refine h_reg (Below (w.drew).heap.size (w.drew)) 10 rfl #[false, false, false, false, false, false, false, false, false, false] rfl (by kernel_rfl) (Below.refl _ _) ?_
  intro hS1
  have hBd3 := hB
  have kd3_ba := hk
  have fd_ho := ho
  have hOd3 := hO
  refine h_pure [0, 1, 2] 7 rfl #[true, true, true, false, false, false, false, false, false, false] ⟨#[.pointer (some ⟨ba, 0, none⟩), undef, .int .i64 0, .bool false, .pointer (some ⟨ba, 0, none⟩), .pointer (some ⟨ba, 0, none⟩), .pointer (some ⟨ba, 1, none⟩), undef, undef, undef, undef, undef, undef, undef, undef, undef, undef, undef, undef, undef, undef, undef, undef, undef, undef, undef, undef, undef, undef, undef, undef, undef], []⟩ (by kernel_rfl) (fun _ _ _ _ _ h => h) (by kernel_rfl) hS1 ?_
  refine h_load 3 6 rfl _ (.int .i64 (↑k : Int)) rfl (by kernel_rfl) (by kernel_rfl) (by kernel_rfl) (fun _ _ _ _ _ h => h) (by kernel_rfl) rfl rfl (by kernel_rfl) (fun V hV => ((kd3_ba.below hV).cell (i := 1) rfl)) hS1 ?_
  refine h_pure [4, 5, 6] 3 rfl #[true, true, true, true, true, true, true, false, false, false] ⟨#[.pointer (some ⟨ba, 0, none⟩), undef, .int .i64 0, .bool false, .pointer (some ⟨ba, 0, none⟩), .pointer (some ⟨ba, 0, none⟩), .pointer (some ⟨ba, 1, none⟩), .int .i64 (↑k : Int), .pointer (some ⟨ba, 0, none⟩), .pointer (some ⟨ba, 0, none⟩), .pointer (some ⟨ba, 0, none⟩), undef, undef, undef, undef, undef, undef, undef, undef, undef, undef, undef, undef, undef, undef, undef, undef, undef, undef, undef, undef, undef], []⟩ (by kernel_rfl) (fun _ _ _ _ _ h => h) (by kernel_rfl) hS1 ?_
  refine h_load 7 2 rfl _ (.slice p N c) rfl (by kernel_rfl) (by kernel_rfl) (by kernel_rfl) (fun _ _ _ _ _ h => h) (by kernel_rfl) rfl rfl (by kernel_rfl) (fun V hV => ((kd3_ba.below hV).cell (i := 0) rfl)) hS1 ?_
  refine h_pure [8, 9] 0 rfl #[true, true, true, true, true, true, true, true, true, true] ⟨#[.pointer (some ⟨ba, 0, none⟩), undef, .int .i64 0, .bool false, .pointer (some ⟨ba, 0, none⟩), .pointer (some ⟨ba, 0, none⟩), .pointer (some ⟨ba, 1, none⟩), .int .i64 (↑k : Int), .pointer (some ⟨ba, 0, none⟩), .pointer (some ⟨ba, 0, none⟩), .pointer (some ⟨ba, 0, none⟩), .slice p N c, .int .i64 (↑N : Int), .bool (decide ((↑k : Int) ≥ (↑N : Int))), undef, undef, undef, undef, undef, undef, undef, undef, undef, undef, undef, undef, undef, undef, undef, undef, undef, undef], []⟩ (by kernel_rfl) (fun _ _ _ _ _ h => h) (by kernel_rfl) hS1 ?_
  refine h_done _ (by kernel_rfl) ?_
  refine wp_cond_false (by show Value.bool _ = Value.bool _; rw [(show (decide ((↑k : Int) ≥ (↑N : Int)) : Bool) = false from decide_eq_false (by omega))]) ?_
  refine wp_skip ?_
  refine wp_seq ?_
  refine wp_region_lit ?_
  refine g_pure 3 ⟨#[.pointer (some ⟨ba, 0, none⟩), undef, .int .i64 0, .bool false, .pointer (some ⟨ba, 0, none⟩), .pointer (some ⟨ba, 0, none⟩), .pointer (some ⟨ba, 1, none⟩), .int .i64 (↑k : Int), .pointer (some ⟨ba, 0, none⟩), .pointer (some ⟨ba, 0, none⟩), .pointer (some ⟨ba, 0, none⟩), .slice p N c, .int .i64 (↑N : Int), .bool (decide ((↑k : Int) ≥ (↑N : Int))), .pointer (some ⟨ba, 0, none⟩), .pointer (some ⟨ba, 0, none⟩), .pointer (some ⟨ba, 1, none⟩), undef, undef, undef, undef, undef, undef, undef, undef, undef, undef, undef, undef, undef, undef, undef], []⟩ (by kernel_rfl) ?_
  refine g_op (by kernel_rfl) (op_load _ (.int .i64 (↑k : Int)) rfl rfl (by kernel_rfl) (hk.cell (i := 1) rfl) ?_)
  refine g_op (by kernel_rfl) (op_val (run_wrap .i64 ((↑k : Int) + 1) (↑(k + 1) : Int) (by kernel_rfl) ((show IntKind.i64.wrap ((↑k : Int) + 1) = ((↑k : Int) + 1) from by first | exact IntWalk.i64_in _ (by omega) | (simp only [IntKind.wrap]; omega)).trans (by omega)) _) ?_)
  refine g_pure 2 ⟨#[.pointer (some ⟨ba, 0, none⟩), undef, .int .i64 0, .bool false, .pointer (some ⟨ba, 0, none⟩), .pointer (some ⟨ba, 0, none⟩), .pointer (some ⟨ba, 1, none⟩), .int .i64 (↑k : Int), .pointer (some ⟨ba, 0, none⟩), .pointer (some ⟨ba, 0, none⟩), .pointer (some ⟨ba, 0, none⟩), .slice p N c, .int .i64 (↑N : Int), .bool (decide ((↑k : Int) ≥ (↑N : Int))), .pointer (some ⟨ba, 0, none⟩), .pointer (some ⟨ba, 0, none⟩), .pointer (some ⟨ba, 1, none⟩), .int .i64 (↑k : Int), .int .i64 (↑(k + 1) : Int), .pointer (some ⟨ba, 0, none⟩), .pointer (some ⟨ba, 1, none⟩), undef, undef, undef, undef, undef, undef, undef, undef, undef, undef, undef], []⟩ (by kernel_rfl) ?_
  refine g_op (by kernel_rfl) (op_store (v := .int .i64 (↑(k + 1) : Int)) rfl rfl rfl (by kernel_rfl) rfl hk (by first | decide | simp) ?_)
  intro W5 u5 k5
  change Blk _ _ [.slice p N c, .int .i64 (↑(k + 1) : Int), m] _ at k5
  replace hX := hX.trans (Fr.of_upd u5 (by simp))
  replace hO := hO.trans (Only.of_upd u5 hk (by decide))
  replace hB := u5.below hB hB0
  replace ho := u5.own2 ho hk (by decide)
  refine wpList_nil ?_
  refine wp_seq ?_
  replace hO := hO.trans (Only.of_below (below_drew W5))
  replace hX := hX.trans (Fr.of_below (below_drew W5))
  replace hB := Bl.nextB hB hBw (below_drew W5)
  replace k5 := k5.below (below_drew W5)
  replace ho := own_below ho (below_drew W5)
  refine h_reg (Below (W5.drew).heap.size (W5.drew)) 13 rfl #[false, false, false, false, false, false, false, false, false, false, false, false, false] rfl (by kernel_rfl) (Below.refl _ _) ?_
  intro hS6
  have hBd8 := hB
  have kd8_ba := k5
  have fd_ho := ho
  have hOd8 := hO
  refine h_pure [0, 1, 2] 10 rfl #[true, true, true, false, false, false, false, false, false, false, false, false, false] ⟨#[.pointer (some ⟨ba, 0, none⟩), undef, .int .i64 0, .bool false, .pointer (some ⟨ba, 0, none⟩), .pointer (some ⟨ba, 0, none⟩), .pointer (some ⟨ba, 1, none⟩), .int .i64 (↑k : Int), .pointer (some ⟨ba, 0, none⟩), .pointer (some ⟨ba, 0, none⟩), .pointer (some ⟨ba, 0, none⟩), .slice p N c, .int .i64 (↑N : Int), .bool (decide ((↑k : Int) ≥ (↑N : Int))), .pointer (some ⟨ba, 0, none⟩), .pointer (some ⟨ba, 0, none⟩), .pointer (some ⟨ba, 1, none⟩), .int .i64 (↑k : Int), .int .i64 (↑(k + 1) : Int), .pointer (some ⟨ba, 0, none⟩), .pointer (some ⟨ba, 1, none⟩), .pointer (some ⟨ba, 0, none⟩), .pointer (some ⟨ba, 0, none⟩), .pointer (some ⟨ba, 0, none⟩), undef, undef, undef, undef, undef, undef, undef, undef], []⟩ (by kernel_rfl) (fun _ _ _ _ _ h => h) (by kernel_rfl) hS6 ?_
  refine h_load 3 9 rfl _ (.slice p N c) rfl (by kernel_rfl) (by kernel_rfl) (by kernel_rfl) (fun _ _ _ _ _ h => h) (by kernel_rfl) rfl rfl (by kernel_rfl) (fun V hV => ((kd8_ba.below hV).cell (i := 0) rfl)) hS6 ?_
  refine h_pure [4, 5, 6] 6 rfl #[true, true, true, true, true, true, true, false, false, false, false, false, false] ⟨#[.pointer (some ⟨ba, 0, none⟩), undef, .int .i64 0, .bool false, .pointer (some ⟨ba, 0, none⟩), .pointer (some ⟨ba, 0, none⟩), .pointer (some ⟨ba, 1, none⟩), .int .i64 (↑k : Int), .pointer (some ⟨ba, 0, none⟩), .pointer (some ⟨ba, 0, none⟩), .pointer (some ⟨ba, 0, none⟩), .slice p N c, .int .i64 (↑N : Int), .bool (decide ((↑k : Int) ≥ (↑N : Int))), .pointer (some ⟨ba, 0, none⟩), .pointer (some ⟨ba, 0, none⟩), .pointer (some ⟨ba, 1, none⟩), .int .i64 (↑k : Int), .int .i64 (↑(k + 1) : Int), .pointer (some ⟨ba, 0, none⟩), .pointer (some ⟨ba, 1, none⟩), .pointer (some ⟨ba, 0, none⟩), .pointer (some ⟨ba, 0, none⟩), .pointer (some ⟨ba, 0, none⟩), .slice p N c, .pointer (some ⟨ba, 0, none⟩), .pointer (some ⟨ba, 0, none⟩), .pointer (some ⟨ba, 1, none⟩), undef, undef, undef, undef], []⟩ (by kernel_rfl) (fun _ _ _ _ _ h => h) (by kernel_rfl) hS6 ?_
  refine h_load 7 5 rfl _ (.int .i64 (↑(k + 1) : Int)) rfl (by kernel_rfl) (by kernel_rfl) (by kernel_rfl) (fun _ _ _ _ _ h => h) (by kernel_rfl) rfl rfl (by kernel_rfl) (fun V hV => ((kd8_ba.below hV).cell (i := 1) rfl)) hS6 ?_
  refine h_val 8 4 rfl (.int .i64 (↑k : Int)) rfl (by kernel_rfl) (by kernel_rfl) (by kernel_rfl) (fun _ _ _ _ _ h => h) (by kernel_rfl) (fun V hV => run_wrap .i64 ((↑(k + 1) : Int) - 1) (↑k : Int) (by kernel_rfl) ((show IntKind.i64.wrap ((↑(k + 1) : Int) - 1) = ((↑(k + 1) : Int) - 1) from IntWalk.i64_in _ (by omega)).trans (by omega)) V) hS6 ?_
  refine h_val 9 3 rfl (.pointer (some (elemAddr p (k * 1)))) rfl (by kernel_rfl) (by kernel_rfl) (by kernel_rfl) (fun _ _ _ _ _ h => h) (by kernel_rfl) (fun V hV => run_indexA (size := 1) (k := k) rfl rfl rfl rfl (by omega) (IntsN.elem (own_sl ho) hL (k := k) (by omega)).1 Tryd.underlying36 (by kernel_rfl) V) hS6 ?_
  refine h_load 10 2 rfl _ (.int .i64 (L.getD k 0)) rfl (by kernel_rfl) (by kernel_rfl) (by kernel_rfl) (fun _ _ _ _ _ h => h) (by kernel_rfl) rfl rfl (by kernel_rfl) (fun V hV => (IntsN.elem ((own_sl fd_ho).below hV) hL (k := k) (by omega)).2) hS6 ?_
  refine h_pure [11, 12] 0 rfl #[true, true, true, true, true, true, true, true, true, true, true, true, true] ⟨#[.pointer (some ⟨ba, 0, none⟩), undef, .int .i64 (L.getD k 0), .bool true, .pointer (some ⟨ba, 0, none⟩), .pointer (some ⟨ba, 0, none⟩), .pointer (some ⟨ba, 1, none⟩), .int .i64 (↑k : Int), .pointer (some ⟨ba, 0, none⟩), .pointer (some ⟨ba, 0, none⟩), .pointer (some ⟨ba, 0, none⟩), .slice p N c, .int .i64 (↑N : Int), .bool (decide ((↑k : Int) ≥ (↑N : Int))), .pointer (some ⟨ba, 0, none⟩), .pointer (some ⟨ba, 0, none⟩), .pointer (some ⟨ba, 1, none⟩), .int .i64 (↑k : Int), .int .i64 (↑(k + 1) : Int), .pointer (some ⟨ba, 0, none⟩), .pointer (some ⟨ba, 1, none⟩), .pointer (some ⟨ba, 0, none⟩), .pointer (some ⟨ba, 0, none⟩), .pointer (some ⟨ba, 0, none⟩), .slice p N c, .pointer (some ⟨ba, 0, none⟩), .pointer (some ⟨ba, 0, none⟩), .pointer (some ⟨ba, 1, none⟩), .int .i64 (↑(k + 1) : Int), .int .i64 (↑k : Int), .pointer (some (elemAddr p (k * 1))), .int .i64 (L.getD k 0)], []⟩ (by kernel_rfl) (fun _ _ _ _ _ h => h) (by kernel_rfl) hS6 ?_
  refine h_done _ (by kernel_rfl) ?_
  refine wp_ret ?_
  show bodyPost _ _ _ .ret _ _
  exact g_ret (.tuple #[.int .i64 (L.getD k 0), .bool true]) rfl (by kernel_rfl) ⟨rfl, hB, hO, hX, k5, ho⟩
set_option maxRecDepth 100000 in
set_option maxHeartbeats 1000000 in
theorem alloc_take_none (ba : Nat) (p : Option Addr) (N c k : Nat) (m : Value) (w : World) (hk : Blk w ba [.slice p N c, .int .i64 (k : Int), m] 54) (hkN : N ≤ k) :
    Calls Tryd.prog 50 #[.pointer (some ⟨ba, 0, none⟩)] w (Ret (.tuple #[.int .i64 0, .bool false]) w) := by
  refine calls_of_wp Tryd.func50 rfl ?_
  refine g_fr ⟨#[.pointer (some ⟨ba, 0, none⟩), undef, undef, undef, undef, undef, undef, undef, undef, undef, undef, undef, undef, undef, undef, undef, undef, undef, undef, undef, undef, undef, undef, undef, undef, undef, undef, undef, undef, undef, undef, undef], []⟩ (by kernel_rfl) ?_
  refine wp_seq ?_
  refine wp_region_lit ?_
  refine g_pure 2 ⟨#[.pointer (some ⟨ba, 0, none⟩), undef, .int .i64 0, .bool false, undef, undef, undef, undef, undef, undef, undef, undef, undef, undef, undef, undef, undef, undef, undef, undef, undef, undef, undef, undef, undef, undef, undef, undef, undef, undef, undef, undef], []⟩ (by kernel_rfl) ?_
  refine wpList_nil ?_
  refine wp_seq ?_
  refine wp_seq ?_
  have hB := (below_drew w)
  replace hk := hk.below (below_drew w)
  refine h_reg (Below (w.drew).heap.size (w.drew)) 10 rfl #[false, false, false, false, false, false, false, false, false, false] rfl (by kernel_rfl) (Below.refl _ _) ?_
  intro hS1
  have hBd3 := hB
  have kd3_ba := hk
  refine h_pure [0, 1, 2] 7 rfl #[true, true, true, false, false, false, false, false, false, false] ⟨#[.pointer (some ⟨ba, 0, none⟩), undef, .int .i64 0, .bool false, .pointer (some ⟨ba, 0, none⟩), .pointer (some ⟨ba, 0, none⟩), .pointer (some ⟨ba, 1, none⟩), undef, undef, undef, undef, undef, undef, undef, undef, undef, undef, undef, undef, undef, undef, undef, undef, undef, undef, undef, undef, undef, undef, undef, undef, undef], []⟩ (by kernel_rfl) (fun _ _ _ _ _ h => h) (by kernel_rfl) hS1 ?_
  refine h_load 3 6 rfl _ (.int .i64 (↑k : Int)) rfl (by kernel_rfl) (by kernel_rfl) (by kernel_rfl) (fun _ _ _ _ _ h => h) (by kernel_rfl) rfl rfl (by kernel_rfl) (fun V hV => ((kd3_ba.below hV).cell (i := 1) rfl)) hS1 ?_
  refine h_pure [4, 5, 6] 3 rfl #[true, true, true, true, true, true, true, false, false, false] ⟨#[.pointer (some ⟨ba, 0, none⟩), undef, .int .i64 0, .bool false, .pointer (some ⟨ba, 0, none⟩), .pointer (some ⟨ba, 0, none⟩), .pointer (some ⟨ba, 1, none⟩), .int .i64 (↑k : Int), .pointer (some ⟨ba, 0, none⟩), .pointer (some ⟨ba, 0, none⟩), .pointer (some ⟨ba, 0, none⟩), undef, undef, undef, undef, undef, undef, undef, undef, undef, undef, undef, undef, undef, undef, undef, undef, undef, undef, undef, undef, undef], []⟩ (by kernel_rfl) (fun _ _ _ _ _ h => h) (by kernel_rfl) hS1 ?_
  refine h_load 7 2 rfl _ (.slice p N c) rfl (by kernel_rfl) (by kernel_rfl) (by kernel_rfl) (fun _ _ _ _ _ h => h) (by kernel_rfl) rfl rfl (by kernel_rfl) (fun V hV => ((kd3_ba.below hV).cell (i := 0) rfl)) hS1 ?_
  refine h_pure [8, 9] 0 rfl #[true, true, true, true, true, true, true, true, true, true] ⟨#[.pointer (some ⟨ba, 0, none⟩), undef, .int .i64 0, .bool false, .pointer (some ⟨ba, 0, none⟩), .pointer (some ⟨ba, 0, none⟩), .pointer (some ⟨ba, 1, none⟩), .int .i64 (↑k : Int), .pointer (some ⟨ba, 0, none⟩), .pointer (some ⟨ba, 0, none⟩), .pointer (some ⟨ba, 0, none⟩), .slice p N c, .int .i64 (↑N : Int), .bool (decide ((↑k : Int) ≥ (↑N : Int))), undef, undef, undef, undef, undef, undef, undef, undef, undef, undef, undef, undef, undef, undef, undef, undef, undef, undef], []⟩ (by kernel_rfl) (fun _ _ _ _ _ h => h) (by kernel_rfl) hS1 ?_
  refine h_done _ (by kernel_rfl) ?_
  refine wp_cond_true (by show Value.bool _ = Value.bool _; rw [(show (decide ((↑k : Int) ≥ (↑N : Int)) : Bool) = true from decide_eq_true (by omega))]) ?_
  refine wp_seq ?_
  refine wp_region_lit ?_
  refine g_pure 2 ⟨#[.pointer (some ⟨ba, 0, none⟩), undef, .int .i64 0, .bool false, .pointer (some ⟨ba, 0, none⟩), .pointer (some ⟨ba, 0, none⟩), .pointer (some ⟨ba, 1, none⟩), .int .i64 (↑k : Int), .pointer (some ⟨ba, 0, none⟩), .pointer (some ⟨ba, 0, none⟩), .pointer (some ⟨ba, 0, none⟩), .slice p N c, .int .i64 (↑N : Int), .bool (decide ((↑k : Int) ≥ (↑N : Int))), undef, undef, undef, undef, undef, undef, undef, undef, undef, undef, undef, undef, undef, undef, undef, undef, undef, undef], []⟩ (by kernel_rfl) ?_
  refine wpList_nil ?_
  refine wp_ret ?_
  show bodyPost _ _ _ .ret _ _
  exact g_ret (.tuple #[.int .i64 0, .bool false]) rfl (by kernel_rfl) ⟨rfl, hB⟩
set_option maxRecDepth 100000 in
set_option maxHeartbeats 1000000 in
theorem alloc_Next (B ba : Nat) (p : Option Addr) (N c k : Nat) (L : List Int) (hL : L.length = N) (b q : Nat) (hq : L.getD k 0 = (q : Int)) (w : World) (hk : Blk w ba [.slice p N c, .int .i64 (k : Int), .pointer (some ⟨b, 0, none⟩)] 54) (ho : w.ownsRow B 3 1 (.slice p N c) N (L.map (Value.int .i64))) (hB0 : B ≤ ba) (hBw : B ≤ w.heap.size) (hN : N ≤ 1000000) (hkN : k < N) :
    Calls Tryd.prog 38 #[.pointer (some ⟨ba, 0, none⟩)] w (Took B ba p N c k (.pointer (some ⟨b, 0, none⟩)) L (.tuple #[.int .i64 (q : Int), .nilIface]) w) := by
  refine calls_of_wp Tryd.func38 rfl ?_
  refine g_fr ⟨#[.pointer (some ⟨ba, 0, none⟩), undef, undef, undef, undef, undef, undef, undef, undef, undef, undef, undef, undef, undef, undef, undef, undef, undef, undef, undef], []⟩ (by kernel_rfl) ?_
  refine wp_seq ?_
  refine wp_region_lit ?_
  refine g_pure 2 ⟨#[.pointer (some ⟨ba, 0, none⟩), undef, .int .i64 0, .nilIface, undef, undef, undef, undef, undef, undef, undef, undef, undef, undef, undef, undef, undef, undef, undef, undef], []⟩ (by kernel_rfl) ?_
  refine wpList_nil ?_
  refine wp_seq ?_
  refine wp_seq ?_
  refine wp_region_lit ?_
  refine g_pure 1 ⟨#[.pointer (some ⟨ba, 0, none⟩), undef, .int .i64 0, .nilIface, undef, undef, .pointer (some ⟨ba, 0, none⟩), undef, undef, undef, undef, undef, undef, undef, undef, undef, undef, undef, undef, undef], []⟩ (by kernel_rfl) ?_
  refine g_op (by kernel_rfl) (op_call 19 #[.pointer (some ⟨ba, 0, none⟩)] rfl rfl (fun _ _ => by kernel_rfl) (by kernel_rfl) ((alloc_nobody ba b _ _ _ hk).mono ?_))
  rintro e W1 ⟨rfl, hb1⟩
  refine ⟨_, rfl, ?_⟩
  have hO : Only [54] w _ := (Only.of_below hb1)
  have hX : Fr [ba] w _ := (Fr.of_below hb1)
  have hB := Bl.nextB (Below.refl B w) hBw hb1
  replace hk := hk.below hb1
  replace ho := own_below ho hb1
  refine wpList_nil ?_
  refine wp_cond_false rfl ?_
  refine wp_skip ?_
  refine wp_seq ?_
  refine wp_region_lit ?_
  refine g_pure 3 ⟨#[.pointer (some ⟨ba, 0, none⟩), undef, .int .i64 0, .nilIface, undef, undef, .pointer (some ⟨ba, 0, none⟩), .bool false, undef, undef, .pointer (some ⟨ba, 0, none⟩), .pointer (some ⟨ba, 0, none⟩), .pointer (some ⟨ba, 0, none⟩), undef, undef, undef, undef, undef, undef, undef], []⟩ (by kernel_rfl) ?_
  refine g_op (by kernel_rfl) (op_call 50 #[.pointer (some ⟨ba, 0, none⟩)] rfl rfl (fun _ _ => by kernel_rfl) (by kernel_rfl) ((alloc_take B ba p N c k L hL _ _ hk ho hB0 (Nat.le_trans hBw hB.size) hN hkN).mono ?_))
  rintro e W2 ⟨rfl, hb2, hO2, hX2, kA, ho⟩
  refine ⟨_, rfl, ?_⟩
  replace hO := hO.trans hO2
  replace hX := hX.trans (hX2.mono (by simp))
  replace hB := hB.trans hb2
  rw [hq]
  refine g_pure 5 ⟨#[.pointer (some ⟨ba, 0, none⟩), undef, .int .i64 0, .nilIface, .int .i64 (↑q : Int), .bool true, .pointer (some ⟨ba, 0, none⟩), .bool false, undef, .tuple #[.int .i64 (↑q : Int), .bool true], .pointer (some ⟨ba, 0, none⟩), .pointer (some ⟨ba, 0, none⟩), .pointer (some ⟨ba, 0, none⟩), .tuple #[.int .i64 (↑q : Int), .bool true], .int .i64 (↑q : Int), .bool true, undef, undef, undef, undef], []⟩ (by kernel_rfl) ?_
  refine wpList_nil ?_
  refine wp_seq ?_
  refine wp_seq ?_
  refine wp_region_lit ?_
  refine g_pure 2 ⟨#[.pointer (some ⟨ba, 0, none⟩), undef, .int .i64 0, .nilIface, .int .i64 (↑q : Int), .bool true, .pointer (some ⟨ba, 0, none⟩), .bool false, undef, .tuple #[.int .i64 (↑q : Int), .bool true], .pointer (some ⟨ba, 0, none⟩), .pointer (some ⟨ba, 0, none⟩), .pointer (some ⟨ba, 0, none⟩), .tuple #[.int .i64 (↑q : Int), .bool true], .int .i64 (↑q : Int), .bool true, .bool true, .bool false, undef, undef], []⟩ (by kernel_rfl) ?_
  refine wpList_nil ?_
  refine wp_cond_false rfl ?_
  refine wp_skip ?_
  refine wp_seq ?_
  refine wp_region_lit ?_
  refine g_pure 3 ⟨#[.pointer (some ⟨ba, 0, none⟩), undef, .int .i64 (↑q : Int), .nilIface, .int .i64 (↑q : Int), .bool true, .pointer (some ⟨ba, 0, none⟩), .bool false, undef, .tuple #[.int .i64 (↑q : Int), .bool true], .pointer (some ⟨ba, 0, none⟩), .pointer (some ⟨ba, 0, none⟩), .pointer (some ⟨ba, 0, none⟩), .tuple #[.int .i64 (↑q : Int), .bool true], .int .i64 (↑q : Int), .bool true, .bool true, .bool false, undef, .int .i64 (↑q : Int)], []⟩ (by kernel_rfl) ?_
  refine wpList_nil ?_
  refine wp_ret ?_
  show bodyPost _ _ _ .ret _ _
  exact g_ret (.tuple #[.int .i64 (↑q : Int), .nilIface]) rfl (by kernel_rfl) ⟨rfl, hB, hO, hX, kA, ho⟩
set_option maxRecDepth 100000 in
set_option maxHeartbeats 1000000 in
theorem alloc_Next_none (ba b : Nat) (p : Option Addr) (N c k : Nat) (w : World) (hk : Blk w ba [.slice p N c, .int .i64 (k : Int), .pointer (some ⟨b, 0, none⟩)] 54) (hkN : N ≤ k) :
    Calls Tryd.prog 38 #[.pointer (some ⟨ba, 0, none⟩)] w (Ret (.tuple #[.int .i64 0, .iface 32 (.int .i64 14)]) w) := by
  refine calls_of_wp Tryd.func38 rfl ?_
  refine g_fr ⟨#[.pointer (some ⟨ba, 0, none⟩), undef, undef, undef, undef, undef, undef, undef, undef, undef, undef, undef, undef, undef, undef, undef, undef, undef, undef, undef], []⟩ (by kernel_rfl) ?_
  refine wp_seq ?_
  refine wp_region_lit ?_
  refine g_pure 2 ⟨#[.pointer (some ⟨ba, 0, none⟩), undef, .int .i64 0, .nilIface, undef, undef, undef, undef, undef, undef, undef, undef, undef, undef, undef, undef, undef, undef, undef, undef], []⟩ (by kernel_rfl) ?_
  refine wpList_nil ?_
  refine wp_seq ?_
  refine wp_seq ?_
  refine wp_region_lit ?_
  refine g_pure 1 ⟨#[.pointer (some ⟨ba, 0, none⟩), undef, .int .i64 0, .nilIface, undef, undef, .pointer (some ⟨ba, 0, none⟩), undef, undef, undef, undef, undef, undef, undef, undef, undef, undef, undef, undef, undef], []⟩ (by kernel_rfl) ?_
  refine g_op (by kernel_rfl) (op_call 19 #[.pointer (some ⟨ba, 0, none⟩)] rfl rfl (fun _ _ => by kernel_rfl) (by kernel_rfl) ((alloc_nobody ba b _ _ _ hk).mono ?_))
  rintro e W1 ⟨rfl, hb1⟩
  refine ⟨_, rfl, ?_⟩
  have hB := hb1
  replace hk := hk.below hb1
  refine wpList_nil ?_
  refine wp_cond_false rfl ?_
  refine wp_skip ?_
  refine wp_seq ?_
  refine wp_region_lit ?_
  refine g_pure 3 ⟨#[.pointer (some ⟨ba, 0, none⟩), undef, .int .i64 0, .nilIface, undef, undef, .pointer (some ⟨ba, 0, none⟩), .bool false, undef, undef, .pointer (some ⟨ba, 0, none⟩), .pointer (some ⟨ba, 0, none⟩), .pointer (some ⟨ba, 0, none⟩), undef, undef, undef, undef, undef, undef, undef], []⟩ (by kernel_rfl) ?_
  refine g_op (by kernel_rfl) (op_call 50 #[.pointer (some ⟨ba, 0, none⟩)] rfl rfl (fun _ _ => by kernel_rfl) (by kernel_rfl) ((alloc_take_none ba p N c k _ _ hk hkN).mono ?_))
  rintro e W2 ⟨rfl, hb2⟩
  refine ⟨_, rfl, ?_⟩
  replace hB := Bl.next hB hb2
  replace hk := hk.below hb2
  refine g_pure 5 ⟨#[.pointer (some ⟨ba, 0, none⟩), undef, .int .i64 0, .nilIface, .int .i64 0, .bool false, .pointer (some ⟨ba, 0, none⟩), .bool false, undef, .tuple #[.int .i64 0, .bool false], .pointer (some ⟨ba, 0, none⟩), .pointer (some ⟨ba, 0, none⟩), .pointer (some ⟨ba, 0, none⟩), .tuple #[.int .i64 0, .bool false], .int .i64 0, .bool false, undef, undef, undef, undef], []⟩ (by kernel_rfl) ?_
  refine wpList_nil ?_
  refine wp_seq ?_
  refine wp_seq ?_
  refine wp_region_lit ?_
  refine g_pure 2 ⟨#[.pointer (some ⟨ba, 0, none⟩), undef, .int .i64 0, .nilIface, .int .i64 0, .bool false, .pointer (some ⟨ba, 0, none⟩), .bool false, undef, .tuple #[.int .i64 0, .bool false], .pointer (some ⟨ba, 0, none⟩), .pointer (some ⟨ba, 0, none⟩), .pointer (some ⟨ba, 0, none⟩), .tuple #[.int .i64 0, .bool false], .int .i64 0, .bool false, .bool false, .bool true, undef, undef], []⟩ (by kernel_rfl) ?_
  refine wpList_nil ?_
  refine wp_cond_true rfl ?_
  refine wp_seq ?_
  refine wp_region_lit ?_
  refine g_pure 3 ⟨#[.pointer (some ⟨ba, 0, none⟩), undef, .int .i64 0, .iface 32 (.int .i64 14), .int .i64 0, .bool false, .pointer (some ⟨ba, 0, none⟩), .bool false, undef, .tuple #[.int .i64 0, .bool false], .pointer (some ⟨ba, 0, none⟩), .pointer (some ⟨ba, 0, none⟩), .pointer (some ⟨ba, 0, none⟩), .tuple #[.int .i64 0, .bool false], .int .i64 0, .bool false, .bool false, .bool true, .iface 32 (.int .i64 14), undef], []⟩ (by kernel_rfl) ?_
  refine wpList_nil ?_
  refine wp_ret ?_
  show bodyPost _ _ _ .ret _ _
  exact g_ret (.tuple #[.int .i64 0, .iface 32 (.int .i64 14)]) rfl (by kernel_rfl) ⟨rfl, hB⟩
set_option maxRecDepth 100000 in
set_option maxHeartbeats 1000000 in
theorem alloc_Lay_none (ba b : Nat) (p : Option Addr) (N c k : Nat) (kind x : Value) (w : World) (hk : Blk w ba [.slice p N c, .int .i64 (k : Int), .pointer (some ⟨b, 0, none⟩)] 54) (hkN : N ≤ k) :
    Calls Tryd.prog 29 #[.pointer (some ⟨ba, 0, none⟩), kind, x] w (Ret (.tuple #[.int .i64 0, .iface 32 (.int .i64 14)]) w) := by
  refine calls_of_wp Tryd.func29 rfl ?_
  refine g_fr ⟨#[.pointer (some ⟨ba, 0, none⟩), kind, x, undef, undef, undef, undef, undef, undef, undef, undef, undef, undef, undef, undef, undef, undef, undef, undef, undef, undef, undef, undef, undef, undef, undef, undef, undef, undef, undef, undef, undef, undef, undef, undef], []⟩ (by kernel_rfl) ?_
  refine wp_seq ?_
  refine wp_region_lit ?_
  refine g_pure 2 ⟨#[.pointer (some ⟨ba, 0, none⟩), kind, x, undef, undef, undef, .int .i64 0, .nilIface, undef, undef, undef, undef, undef, undef, undef, undef, undef, undef, undef, undef, undef, undef, undef, undef, undef, undef, undef, undef, undef, undef, undef, undef, undef, undef, undef], []⟩ (by kernel_rfl) ?_
  refine wpList_nil ?_
  refine wp_seq ?_
  refine wp_region_lit ?_
  refine g_pure 1 ⟨#[.pointer (some ⟨ba, 0, none⟩), kind, x, undef, undef, undef, .int .i64 0, .nilIface, undef, undef, undef, undef, .pointer (some ⟨ba, 0, none⟩), undef, undef, undef, undef, undef, undef, undef, undef, undef, undef, undef, undef, undef, undef, undef, undef, undef, undef, undef, undef, undef, undef], []⟩ (by kernel_rfl) ?_
  refine g_op (by kernel_rfl) (op_call 38 #[.pointer (some ⟨ba, 0, none⟩)] rfl rfl (fun _ _ => by kernel_rfl) (by kernel_rfl) ((alloc_Next_none ba b p N c k _ hk hkN).mono ?_))
  rintro e W1 ⟨rfl, hb1⟩
  refine ⟨_, rfl, ?_⟩
  have hB := hb1
  replace hk := hk.below hb1
  refine g_pure 5 ⟨#[.pointer (some ⟨ba, 0, none⟩), kind, x, undef, undef, undef, .int .i64 0, .nilIface, .int .i64 0, .iface 32 (.int .i64 14), undef, .tuple #[.int .i64 0, .iface 32 (.int .i64 14)], .pointer (some ⟨ba, 0, none⟩), .tuple #[.int .i64 0, .iface 32 (.int .i64 14)], .int .i64 0, .iface 32 (.int .i64 14), undef, undef, undef, undef, undef, undef, undef, undef, undef, undef, undef, undef, undef, undef, undef, undef, undef, undef, undef], []⟩ (by kernel_rfl) ?_
  refine wpList_nil ?_
  refine wp_seq ?_
  refine wp_seq ?_
  refine wp_region_lit ?_
  refine g_pure 2 ⟨#[.pointer (some ⟨ba, 0, none⟩), kind, x, undef, undef, undef, .int .i64 0, .nilIface, .int .i64 0, .iface 32 (.int .i64 14), undef, .tuple #[.int .i64 0, .iface 32 (.int .i64 14)], .pointer (some ⟨ba, 0, none⟩), .tuple #[.int .i64 0, .iface 32 (.int .i64 14)], .int .i64 0, .iface 32 (.int .i64 14), .iface 32 (.int .i64 14), .bool true, undef, undef, undef, undef, undef, undef, undef, undef, undef, undef, undef, undef, undef, undef, undef, undef, undef], []⟩ (by kernel_rfl) ?_
  refine wpList_nil ?_
  refine wp_cond_true rfl ?_
  refine wp_seq ?_
  refine wp_region_lit ?_
  refine g_pure 3 ⟨#[.pointer (some ⟨ba, 0, none⟩), kind, x, undef, undef, undef, .int .i64 0, .iface 32 (.int .i64 14), .int .i64 0, .iface 32 (.int .i64 14), undef, .tuple #[.int .i64 0, .iface 32 (.int .i64 14)], .pointer (some ⟨ba, 0, none⟩), .tuple #[.int .i64 0, .iface 32 (.int .i64 14)], .int .i64 0, .iface 32 (.int .i64 14), .iface 32 (.int .i64 14), .bool true, .iface 32 (.int .i64 14), undef, undef, undef, undef, undef, undef, undef, undef, undef, undef, undef, undef, undef, undef, undef, undef], []⟩ (by kernel_rfl) ?_
  refine wpList_nil ?_
  refine wp_ret ?_
  show bodyPost _ _ _ .ret _ _
  exact g_ret (.tuple #[.int .i64 0, .iface 32 (.int .i64 14)]) rfl (by kernel_rfl) ⟨rfl, hB⟩
/-- an allocator's next number is handed out, and its block written -/
def Laid (B ba b g n c : Nat) (pa : Option Addr) (ca f N k : Nat) (l : List UInt8) (kind : Int) (li : List UInt8) (w : World) (e : Ending) (w' : World) : Prop :=
  e = .returned (.tuple #[.int .i64 ((f + k : Nat) : Int), .nilIface]) ∧ Below B w w' ∧ Only [54, 5] w w' ∧ Fr [ba, g] w w' ∧ Al B ba b g n c pa ca f N (k + 1) (putB l ((f + k) * 256) (sealB kind ((f + k : Nat) : Int) li)) w'
theorem Only.mono {T T' : List TypeId} {w w' : World} (h : Only T w w') (hT : ∀ t, T'.contains t = false → T.contains t = false) : Only T' w w' := fun k cs t fr hk ht => h k cs t fr hk (hT t ht)
theorem only_aa {w w' : World} (h : Only [54] w w') : Only [54, 5] w w' := h.mono fun t ht => by simp at ht ⊢; exact ht.1
theorem only_ab {w w' : World} (h : Only [5] w w') : Only [54, 5] w w' := h.mono fun t ht => by simp at ht ⊢; exact ht.2
set_option maxRecDepth 100000 in
set_option maxHeartbeats 1000000 in
theorem alloc_Lay (B ba b g n c : Nat) (p : Option Addr) (ca f N k : Nat) (l : List UInt8) (kind : Int) (a : Option Addr) (ci : Nat) (li : List UInt8) (w : World) (hC : AlC B ba n c ca f N) (hA : Al B ba b g n c p ca f N k l w) (hkN : k < N) (h1 : 1 ≤ kind) (h2 : kind ≤ 4) (hin : ∀ W, Below B w W → Only [54] w W → Bys W (.slice a li.length ci) li) (hl : li.length ≤ 244) (hBw : B ≤ w.heap.size) :
    Calls Tryd.prog 29 #[.pointer (some ⟨ba, 0, none⟩), .int .i64 kind, .slice a li.length ci] w (Laid B ba b g n c p ca f N k l kind li w) := by
  obtain ⟨hk, hi, hd, ho⟩ := hA
  refine calls_of_wp Tryd.func29 rfl ?_
  refine g_fr ⟨#[.pointer (some ⟨ba, 0, none⟩), .int .i64 kind, .slice a li.length ci, undef, undef, undef, undef, undef, undef, undef, undef, undef, undef, undef, undef, undef, undef, undef, undef, undef, undef, undef, undef, undef, undef, undef, undef, undef, undef, undef, undef, undef, undef, undef, undef], []⟩ (by kernel_rfl) ?_
  refine wp_seq ?_
  refine wp_region_lit ?_
  refine g_pure 2 ⟨#[.pointer (some ⟨ba, 0, none⟩), .int .i64 kind, .slice a li.length ci, undef, undef, undef, .int .i64 0, .nilIface, undef, undef, undef, undef, undef, undef, undef, undef, undef, undef, undef, undef, undef, undef, undef, undef, undef, undef, undef, undef, undef, undef, undef, undef, undef, undef, undef], []⟩ (by kernel_rfl) ?_
  refine wpList_nil ?_
  refine wp_seq ?_
  refine wp_region_lit ?_
  refine g_pure 1 ⟨#[.pointer (some ⟨ba, 0, none⟩), .int .i64 kind, .slice a li.length ci, undef, undef, undef, .int .i64 0, .nilIface, undef, undef, undef, undef, .pointer (some ⟨ba, 0, none⟩), undef, undef, undef, undef, undef, undef, undef, undef, undef, undef, undef, undef, undef, undef, undef, undef, undef, undef, undef, undef, undef, undef], []⟩ (by kernel_rfl) ?_
  refine g_op (by kernel_rfl) (op_call 38 #[.pointer (some ⟨ba, 0, none⟩)] rfl rfl (fun _ _ => by kernel_rfl) (by kernel_rfl) ((alloc_Next B ba p N ca k (rngJ f N) (rngJ_len f N) b (f + k) (rngJ_get hkN) _ hk ho hC.hB (Nat.le_trans hBw (Below.refl B _).size) (by have := hC.hf; have := hC.hn; omega) hkN).mono ?_))
  rintro e W1 ⟨rfl, hb1, hO1, hX1, kA, ho⟩
  refine ⟨_, rfl, ?_⟩
  have hO : Only [54, 5] w _ := (only_aa hO1)
  have hX : Fr [ba, g] w _ := (hX1.mono (by simp))
  have hB := hb1
  replace hi := hi.only hO1 (by decide)
  replace hd := own_only hd hO1 (by decide)
  replace hin := hin _ hb1 hO1
  refine g_pure 5 ⟨#[.pointer (some ⟨ba, 0, none⟩), .int .i64 kind, .slice a li.length ci, undef, undef, undef, .int .i64 0, .nilIface, .int .i64 (↑(f + k) : Int), .nilIface, undef, .tuple #[.int .i64 (↑(f + k) : Int), .nilIface], .pointer (some ⟨ba, 0, none⟩), .tuple #[.int .i64 (↑(f + k) : Int), .nilIface], .int .i64 (↑(f + k) : Int), .nilIface, undef, undef, undef, undef, undef, undef, undef, undef, undef, undef, undef, undef, undef, undef, undef, undef, undef, undef, undef], []⟩ (by kernel_rfl) ?_
  refine wpList_nil ?_
  refine wp_seq ?_
  refine wp_seq ?_
  refine wp_region_lit ?_
  refine g_pure 2 ⟨#[.pointer (some ⟨ba, 0, none⟩), .int .i64 kind, .slice a li.length ci, undef, undef, undef, .int .i64 0, .nilIface, .int .i64 (↑(f + k) : Int), .nilIface, undef, .tuple #[.int .i64 (↑(f + k) : Int), .nilIface], .pointer (some ⟨ba, 0, none⟩), .tuple #[.int .i64 (↑(f + k) : Int), .nilIface], .int .i64 (↑(f + k) : Int), .nilIface, .nilIface, .bool false, undef, undef, undef, undef, undef, undef, undef, undef, undef, undef, undef, undef, undef, undef, undef, undef, undef], []⟩ (by kernel_rfl) ?_
  refine wpList_nil ?_
  refine wp_cond_false rfl ?_
  refine wp_skip ?_
  refine wp_seq ?_
  refine wp_seq ?_
  refine wp_region_lit ?_
  refine g_pure 3 ⟨#[.pointer (some ⟨ba, 0, none⟩), .int .i64 kind, .slice a li.length ci, undef, undef, undef, .int .i64 0, .nilIface, .int .i64 (↑(f + k) : Int), .nilIface, undef, .tuple #[.int .i64 (↑(f + k) : Int), .nilIface], .pointer (some ⟨ba, 0, none⟩), .tuple #[.int .i64 (↑(f + k) : Int), .nilIface], .int .i64 (↑(f + k) : Int), .nilIface, .nilIface, .bool false, undef, .pointer (some ⟨ba, 0, none⟩), .pointer (some ⟨ba, 0, none⟩), .pointer (some ⟨ba, 2, none⟩), undef, undef, undef, undef, undef, undef, undef, undef, undef, undef, undef, undef, undef], []⟩ (by kernel_rfl) ?_
  refine g_op (by kernel_rfl) (op_load _ (.pointer (some ⟨b, 0, none⟩)) rfl rfl (by kernel_rfl) (kA.cell (i := 2) rfl) ?_)
  refine g_pure 3 ⟨#[.pointer (some ⟨ba, 0, none⟩), .int .i64 kind, .slice a li.length ci, undef, undef, undef, .int .i64 0, .nilIface, .int .i64 (↑(f + k) : Int), .nilIface, undef, .tuple #[.int .i64 (↑(f + k) : Int), .nilIface], .pointer (some ⟨ba, 0, none⟩), .tuple #[.int .i64 (↑(f + k) : Int), .nilIface], .int .i64 (↑(f + k) : Int), .nilIface, .nilIface, .bool false, undef, .pointer (some ⟨ba, 0, none⟩), .pointer (some ⟨ba, 0, none⟩), .pointer (some ⟨ba, 2, none⟩), .pointer (some ⟨b, 0, none⟩), .int .i64 (↑(f + k) : Int), .int .i64 kind, .slice a li.length ci, undef, undef, undef, undef, undef, undef, undef, undef, undef], []⟩ (by kernel_rfl) ?_
  refine g_op (by kernel_rfl) (op_call 39 #[.pointer (some ⟨b, 0, none⟩), .int .i64 (↑(f + k) : Int), .int .i64 kind, .slice a li.length ci] rfl rfl (fun _ _ => by kernel_rfl) (by kernel_rfl) ((block_Write B b g n c (f + k) l kind a ci li _ hi hd hC.hn hC.hc (by have := hC.hf; omega) h1 h2 hin hl (Nat.le_trans hBw hB.size)).mono ?_))
  rintro e W2 ⟨rfl, hb2, hO2, hX2, hd⟩
  refine ⟨_, rfl, ?_⟩
  replace hO := hO.trans (only_ab hO2)
  replace hX := hX.trans (hX2.mono (by simp))
  replace hB := hB.trans hb2
  replace kA := kA.only hO2 (by decide)
  replace hi := hi.only hO2 (by decide)
  replace ho := own_only ho hO2 (by decide)
  refine g_pure 1 ⟨#[.pointer (some ⟨ba, 0, none⟩), .int .i64 kind, .slice a li.length ci, undef, undef, undef, .int .i64 0, .nilIface, .int .i64 (↑(f + k) : Int), .nilIface, .nilIface, .tuple #[.int .i64 (↑(f + k) : Int), .nilIface], .pointer (some ⟨ba, 0, none⟩), .tuple #[.int .i64 (↑(f + k) : Int), .nilIface], .int .i64 (↑(f + k) : Int), .nilIface, .nilIface, .bool false, undef, .pointer (some ⟨ba, 0, none⟩), .pointer (some ⟨ba, 0, none⟩), .pointer (some ⟨ba, 2, none⟩), .pointer (some ⟨b, 0, none⟩), .int .i64 (↑(f + k) : Int), .int .i64 kind, .slice a li.length ci, .nilIface, undef, undef, undef, undef, undef, undef, undef, undef], []⟩ (by kernel_rfl) ?_
  refine wpList_nil ?_
  refine wp_seq ?_
  refine wp_region_lit ?_
  refine g_pure 2 ⟨#[.pointer (some ⟨ba, 0, none⟩), .int .i64 kind, .slice a li.length ci, undef, undef, undef, .int .i64 0, .nilIface, .int .i64 (↑(f + k) : Int), .nilIface, .nilIface, .tuple #[.int .i64 (↑(f + k) : Int), .nilIface], .pointer (some ⟨ba, 0, none⟩), .tuple #[.int .i64 (↑(f + k) : Int), .nilIface], .int .i64 (↑(f + k) : Int), .nilIface, .nilIface, .bool false, undef, .pointer (some ⟨ba, 0, none⟩), .pointer (some ⟨ba, 0, none⟩), .pointer (some ⟨ba, 2, none⟩), .pointer (some ⟨b, 0, none⟩), .int .i64 (↑(f + k) : Int), .int .i64 kind, .slice a li.length ci, .nilIface, .nilIface, .bool false, undef, undef, undef, undef, undef, undef], []⟩ (by kernel_rfl) ?_
  refine wpList_nil ?_
  refine wp_cond_false rfl ?_
  refine wp_skip ?_
  refine wp_seq ?_
  refine wp_region_lit ?_
  refine g_pure 3 ⟨#[.pointer (some ⟨ba, 0, none⟩), .int .i64 kind, .slice a li.length ci, undef, undef, undef, .int .i64 (↑(f + k) : Int), .nilIface, .int .i64 (↑(f + k) : Int), .nilIface, .nilIface, .tuple #[.int .i64 (↑(f + k) : Int), .nilIface], .pointer (some ⟨ba, 0, none⟩), .tuple #[.int .i64 (↑(f + k) : Int), .nilIface], .int .i64 (↑(f + k) : Int), .nilIface, .nilIface, .bool false, undef, .pointer (some ⟨ba, 0, none⟩), .pointer (some ⟨ba, 0, none⟩), .pointer (some ⟨ba, 2, none⟩), .pointer (some ⟨b, 0, none⟩), .int .i64 (↑(f + k) : Int), .int .i64 kind, .slice a li.length ci, .nilIface, .nilIface, .bool false, undef, undef, undef, undef, undef, .int .i64 (↑(f + k) : Int)], []⟩ (by kernel_rfl) ?_
  refine wpList_nil ?_
  refine wp_ret ?_
  show bodyPost _ _ _ .ret _ _
  exact g_ret (.tuple #[.int .i64 (↑(f + k) : Int), .nilIface]) rfl (by kernel_rfl) ⟨rfl, hB, hO, hX, kA, hi, hd, ho⟩
end Go.Proofs.YtlmogdjcnbjhfaaDoor

