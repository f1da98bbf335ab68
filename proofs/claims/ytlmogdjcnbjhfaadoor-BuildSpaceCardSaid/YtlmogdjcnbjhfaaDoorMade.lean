/- law17.made: an allocator of a new image. -/
import Derived.Test.YtlmogdjcnbjhfaaDoorBuild1
import Derived.Test.YtlmogdjcnbjhfaaDoorAllocPl
namespace Go.Proofs.YtlmogdjcnbjhfaaDoor
open Go.RowKit Go.Extern.Stop Go.Stop Go.Extern
set_option linter.unusedVariables false

set_option maxRecDepth 100000 in
set_option maxHeartbeats 1000000 in
theorem law17_made (N f : Nat) (w : World) (hN : N ≤ 14400) (h1 : 1 ≤ f) (h2 : f ≤ N) :
    Calls Tryd.prog 5 #[.int .i64 (↑N : Int), .int .i64 (↑f : Int)] w (RetS (fun w' r => ∃ ba b g c pa ca, r = .pointer (some ⟨ba, 0, none⟩) ∧ AlC w.heap.size ba (256 * N) c ca f (N - f) ∧ Al w.heap.size ba b g (256 * N) c pa ca f (N - f) 0 (List.replicate (256 * N) (0 : UInt8)) w') w) := by
  refine calls_of_wp Tryd.func5 rfl ?_
  refine g_fr ⟨#[.int .i64 (↑N : Int), .int .i64 (↑f : Int), undef, undef, undef, undef, undef, undef, undef, undef, undef, undef, undef, undef, undef, undef, undef], []⟩ (by kernel_rfl) ?_
  refine wp_seq ?_
  refine wp_region_lit ?_
  refine g_pure 1 ⟨#[.int .i64 (↑N : Int), .int .i64 (↑f : Int), undef, undef, .pointer none, undef, undef, undef, undef, undef, undef, undef, undef, undef, undef, undef, undef], []⟩ (by kernel_rfl) ?_
  refine wpList_nil ?_
  refine wp_seq ?_
  refine wp_region_lit ?_
  refine g_pure 1 ⟨#[.int .i64 (↑N : Int), .int .i64 (↑f : Int), undef, undef, .pointer none, undef, undef, undef, .int .i64 (↑N : Int), undef, undef, undef, undef, undef, undef, undef, undef], []⟩ (by kernel_rfl) ?_
  refine g_op (by kernel_rfl) (op_wrap .i64 (256 * (↑N : Int)) (↑(256 * N) : Int) (by kernel_rfl) ((show IntKind.i64.wrap (256 * (↑N : Int)) = (256 * (↑N : Int)) from by first | exact IntWalk.i64_in _ (by omega) | (simp only [IntKind.wrap]; omega)).trans (by omega)) ?_)
  refine g_op (by kernel_rfl) (op_make (256 * N) (.int .u8 0) 1 1 ((List.replicate (256 * N) (0 : UInt8)).map bv) rfl rfl rfl Tryd.underlying42 (by kernel_rfl) rfl (by omega) (by omega) (zerosB (256 * N)) ?_)
  intro b1 W1 n1
  have g1 := n1.ge (Below.refl w.heap.size _)
  have hB := n1.below
  have k1 := n1.blk
  have o2 := own_of_blk (size := 1) (n := (256 * N)) k1 g1 (by rw [List.length_map, List.length_replicate, Nat.mul_one]) (by unfold maxLen; omega)
  have hs3 : w.heap.size ≤ (W1).heap.size := Nat.le_trans (Nat.le_refl _) hB.size
  refine g_op (by kernel_rfl) (op_call 14 #[.slice (some ⟨b1, 0, none⟩) (256 * N) (256 * N)] rfl rfl (fun _ _ => by kernel_rfl) (by kernel_rfl) ((image_OfN (some ⟨b1, 0, none⟩) (256 * N) (256 * N) (256 * N) (List.replicate (256 * N) (0 : UInt8)) _ List.length_replicate (by omega) (bys_of (own_sl o2) List.length_replicate) (by omega) (Nat.le_refl _)).mono ?_))
  rintro e W3 ⟨_, rfl, hb3, bi, pi, ci, rfl, gi, ki, hd⟩
  refine ⟨_, rfl, ?_⟩
  replace hB := Bl.next hB hb3
  replace hd := own_mono hd hs3
  rw [List.take_of_length_le (by rw [List.length_replicate]; omega)] at hd
  obtain ⟨g, rfl, hci⟩ := own_someN hd (by omega)
  refine g_pure 1 ⟨#[.int .i64 (↑N : Int), .int .i64 (↑f : Int), undef, undef, .pointer none, undef, undef, undef, .int .i64 (↑N : Int), .int .i64 (↑(256 * N) : Int), .slice (some ⟨b1, 0, none⟩) (256 * N) (256 * N), .pointer (some ⟨bi, 0, none⟩), .int .i64 (↑f : Int), undef, undef, undef, undef], []⟩ (by kernel_rfl) ?_
  have hs9 := hB.size
  have hs4 : w.heap.size ≤ (W3).heap.size := Nat.le_trans (Nat.le_refl _) hB.size
  refine g_op (by kernel_rfl) (op_call 13 #[.pointer (some ⟨bi, 0, none⟩), .int .i64 (↑f : Int)] rfl rfl (fun _ _ => by kernel_rfl) (by kernel_rfl) ((alloc_NewN bi (some ⟨g, 0, none⟩) (256 * N) ci f (N - f) (f : Int) rfl (by omega) _ ki (by omega) h1 (by omega)).mono ?_))
  rintro e W4 ⟨_, rfl, hb4, ba, pa, ca, rfl, ga, ka, ho⟩
  refine ⟨_, rfl, ?_⟩
  replace hB := Bl.next hB hb4
  replace ki := ki.below hb4
  replace hd := own_below hd hb4
  replace ho := own_mono ho hs4
  replace ga := Nat.le_trans hs9 ga
  have hA : Al w.heap.size ba bi g (256 * N) ci pa ca f (N - f) 0 (List.replicate (256 * N) (0 : UInt8)) _ := ⟨ka, ki, hd, ho⟩
  have hca : N - f ≤ ca := by
    rcases Nat.eq_zero_or_pos (N - f) with q | q
    · omega
    · exact own_cap ho q
  have hC : AlC w.heap.size ba (256 * N) ci ca f (N - f) := ⟨by omega, hci, hca, by omega, ga⟩
  refine g_pure 5 ⟨#[.int .i64 (↑N : Int), .int .i64 (↑f : Int), undef, undef, .pointer none, .pointer (some ⟨ba, 0, none⟩), .nilIface, .tuple #[.pointer (some ⟨ba, 0, none⟩), .nilIface], .int .i64 (↑N : Int), .int .i64 (↑(256 * N) : Int), .slice (some ⟨b1, 0, none⟩) (256 * N) (256 * N), .pointer (some ⟨bi, 0, none⟩), .int .i64 (↑f : Int), .tuple #[.pointer (some ⟨ba, 0, none⟩), .nilIface], .pointer (some ⟨ba, 0, none⟩), .nilIface, undef], []⟩ (by kernel_rfl) ?_
  refine wpList_nil ?_
  refine wp_seq ?_
  refine wp_region_lit ?_
  refine g_pure 2 ⟨#[.int .i64 (↑N : Int), .int .i64 (↑f : Int), undef, undef, .pointer (some ⟨ba, 0, none⟩), .pointer (some ⟨ba, 0, none⟩), .nilIface, .tuple #[.pointer (some ⟨ba, 0, none⟩), .nilIface], .int .i64 (↑N : Int), .int .i64 (↑(256 * N) : Int), .slice (some ⟨b1, 0, none⟩) (256 * N) (256 * N), .pointer (some ⟨bi, 0, none⟩), .int .i64 (↑f : Int), .tuple #[.pointer (some ⟨ba, 0, none⟩), .nilIface], .pointer (some ⟨ba, 0, none⟩), .nilIface, .pointer (some ⟨ba, 0, none⟩)], []⟩ (by kernel_rfl) ?_
  refine wpList_nil ?_
  refine wp_ret ?_
  show bodyPost _ _ _ .ret _ _
  exact g_ret (.pointer (some ⟨ba, 0, none⟩)) rfl (by kernel_rfl) ⟨_, rfl, hB, _, _, _, _, _, _, rfl, hC, hA⟩
/-- the law's entries: keys 0, 3, 6 .., values of v zero bytes -/
def someE (v N : Nat) : List Ent := (List.range N).map fun i => (((3 * i : Nat) : Int), List.replicate v 0, 0)
theorem someE_len (v N : Nat) : (someE v N).length = N := by simp [someE]
theorem someE_get {v N i : Nat} (h : i < N) : (someE v N).getD i entD = (((3 * i : Nat) : Int), List.replicate v 0, 0) := by simp [someE, List.getD, List.getElem?_range h]
theorem someE_succ (v j : Nat) : (someE v (j + 1)).flatMap entC = (someE v j).flatMap entC ++ [.int .i64 ((3 * j : Nat) : Int), .string ⟨(List.replicate v (0 : UInt8)).toArray⟩, .int .i64 0] := by
  simp [someE, List.range_succ, entC]
theorem someE_ok {v N : Nat} (h : N ≤ 100000) : EntsOk v (someE v N) where
  hk i hi := by rw [someE_len] at hi; rw [someE_get hi]; constructor <;> (simp only; omega)
  hs j hj := by rw [someE_len] at hj; rw [someE_get (by omega), someE_get hj]; simp only; omega
  hw i hi := by rw [someE_len] at hi; rw [someE_get hi]; simp
set_option maxRecDepth 100000 in
set_option maxHeartbeats 4000000 in
theorem law17_some1 (N : Nat) (w : World) (hN : N ≤ 32768) :
    Calls Tryd.prog 7 #[.int .i64 (↑N : Int), .int .i64 1] w (RetS (fun w' r => ∃ p c, r = .slice p N c ∧ w'.ownsRow w.heap.size 49 3 (.slice p N c) N ((someE 4 N).flatMap entC)) w) := by
  refine calls_of_wp Tryd.func7 rfl ?_
  refine g_fr ⟨#[.int .i64 (↑N : Int), .int .i64 1, undef, undef, undef, undef, undef, undef, undef, undef, undef, undef, undef, undef, undef, undef, undef, undef, undef, undef, undef, undef, undef, undef, undef], []⟩ (by kernel_rfl) ?_
  refine wp_seq ?_
  refine wp_region_lit ?_
  refine g_pure 1 ⟨#[.int .i64 (↑N : Int), .int .i64 1, undef, undef, .slice none 0 0, undef, undef, undef, undef, undef, undef, undef, undef, undef, undef, undef, undef, undef, undef, undef, undef, undef, undef, undef, undef], []⟩ (by kernel_rfl) ?_
  refine wpList_nil ?_
  refine wp_seq ?_
  refine wp_region_lit ?_
  refine g_pure 1 ⟨#[.int .i64 (↑N : Int), .int .i64 1, undef, undef, .slice none 0 0, .slice none 0 0, undef, undef, undef, undef, undef, undef, undef, undef, undef, undef, undef, undef, undef, undef, undef, undef, undef, undef, undef], []⟩ (by kernel_rfl) ?_
  refine wpList_nil ?_
  refine wp_seq ?_
  refine wp_seq ?_
  refine wp_region_lit ?_
  refine g_pure 1 ⟨#[.int .i64 (↑N : Int), .int .i64 1, undef, undef, .slice none 0 0, .slice none 0 0, .int .i64 0, undef, undef, undef, undef, undef, undef, undef, undef, undef, undef, undef, undef, undef, undef, undef, undef, undef, undef], []⟩ (by kernel_rfl) ?_
  refine wpList_nil ?_
  refine wp_block ?_
  refine g_fr ⟨#[.int .i64 (↑N : Int), .int .i64 1, undef, undef, .slice none 0 0, .slice none 0 0, .int .i64 0, undef, undef, undef, undef, undef, undef, undef, undef, undef, undef, undef, undef, undef, undef, undef, undef, undef, undef], []⟩ (by kernel_rfl) ?_
  have hB := Below.refl w.heap.size w
  refine wp_loop (fun act V => ∃ (j : Nat) (p : Option Addr) (c : Nat) (x1_7 x1_8 x1_9 x1_10 x1_11 x1_12 x1_13 x1_14 x1_15 x1_16 x1_17 x1_18 x1_19 x1_20 x1_21 x1_22 x1_23 : Value), act = ⟨#[.int .i64 (↑N : Int), .int .i64 1, undef, undef, .slice none 0 0, .slice p j c, .int .i64 (↑j : Int), x1_7, x1_8, x1_9, x1_10, x1_11, x1_12, x1_13, x1_14, x1_15, x1_16, x1_17, x1_18, x1_19, x1_20, x1_21, x1_22, x1_23, undef], []⟩ ∧ Below w.heap.size w V ∧ V.ownsRow w.heap.size 49 3 (.slice p j c) j ((someE 4 j).flatMap entC) ∧ j ≤ N) (fun act V => N - ((intOf (act.tmps.getD 6 undef))).toNat) ⟨0, _, _, _, _, _, _, _, _, _, _, _, _, _, _, _, _, _, _, _, rfl, hB, World.ownsRow_nil _ _ _ _, Nat.zero_le _⟩ ?_
  rintro _ W1 ⟨j, p, c, x1_7, x1_8, x1_9, x1_10, x1_11, x1_12, x1_13, x1_14, x1_15, x1_16, x1_17, x1_18, x1_19, x1_20, x1_21, x1_22, x1_23, rfl, hB, ho, hj⟩
  refine wp_seq ?_
  refine wp_seq ?_
  refine wp_region_lit ?_
  refine g_pure 3 ⟨#[.int .i64 (↑N : Int), .int .i64 1, undef, undef, .slice none 0 0, .slice p j c, .int .i64 (↑j : Int), .int .i64 (↑j : Int), .int .i64 (↑N : Int), .bool (decide ((↑j : Int) < (↑N : Int))), x1_10, x1_11, x1_12, x1_13, x1_14, x1_15, x1_16, x1_17, x1_18, x1_19, x1_20, x1_21, x1_22, x1_23, undef], []⟩ (by kernel_rfl) ?_
  refine wpList_nil ?_
  refine wp_cond_split (t := decide ((↑j : Int) < (↑N : Int))) rfl (fun hc2 => ?_) (fun hc2 => ?_)
  · have hc2 := of_decide_eq_true hc2
    refine wp_skip ?_
    refine wp_seq ?_
    refine wp_block ?_
    refine wp_region_lit ?_
    refine g_pure 2 ⟨#[.int .i64 (↑N : Int), .int .i64 1, undef, undef, .slice none 0 0, .slice p j c, .int .i64 (↑j : Int), .int .i64 (↑j : Int), .int .i64 (↑N : Int), .bool (decide ((↑j : Int) < (↑N : Int))), x1_10, x1_11, .slice p j c, .int .i64 (↑j : Int), x1_14, x1_15, x1_16, x1_17, x1_18, x1_19, x1_20, x1_21, x1_22, x1_23, undef], []⟩ (by kernel_rfl) ?_
    refine g_op (by kernel_rfl) (op_val (run_wrap .i64 (3 * (↑j : Int)) (↑(3 * j) : Int) (by kernel_rfl) ((show IntKind.i64.wrap (3 * (↑j : Int)) = (3 * (↑j : Int)) from by first | exact IntWalk.i64_in _ (by omega) | (simp only [IntKind.wrap]; omega)).trans (by omega)) _) ?_)
    refine g_op (by kernel_rfl) (op_buildSlice 3 [.int .i64 0, .int .i64 4, .int .i64 8, .int .i64 24, .int .i64 16, .int .i64 4] rfl (by kernel_rfl) ?_)
    intro b3 W3 n3
    have g3 := n3.ge hB
    replace hB := Bl.next hB n3.below
    replace ho := own_below ho n3.below
    have k3 := n3.blk
    refine g_pure 2 ⟨#[.int .i64 (↑N : Int), .int .i64 1, undef, undef, .slice none 0 0, .slice p j c, .int .i64 (↑j : Int), .int .i64 (↑j : Int), .int .i64 (↑N : Int), .bool (decide ((↑j : Int) < (↑N : Int))), x1_10, x1_11, .slice p j c, .int .i64 (↑j : Int), .int .i64 (↑(3 * j) : Int), .slice (some ⟨b3, 0, none⟩) 6 6, .int .i64 1, .pointer (some ⟨b3, 1, none⟩), x1_18, x1_19, x1_20, x1_21, x1_22, x1_23, undef], []⟩ (by kernel_rfl) ?_
    refine g_op (by kernel_rfl) (op_load _ (.int .i64 4) rfl rfl (by kernel_rfl) (k3.cell (i := 1) rfl) ?_)
    refine g_op (by kernel_rfl) (op_make 4 (.int .u8 0) 1 1 ((List.replicate 4 (0 : UInt8)).map bv) rfl rfl rfl Tryd.underlying42 (by kernel_rfl) rfl (by omega) (by omega) (zerosB 4) ?_)
    intro b4 W4 n4
    have d4_b3 := n4.ne k3
    have g4 := n4.ge hB
    replace hB := Bl.next hB n4.below
    replace k3 := k3.below n4.below
    replace ho := own_below ho n4.below
    have k4 := n4.blk
    have o5 := own_of_blk (size := 1) (n := 4) k4 g4 (by rw [List.length_map, List.length_replicate]) (by unfold maxLen; omega)
    refine g_op (by kernel_rfl) (op_val (run_bstr rfl rfl (bys_of (own_sl o5) List.length_replicate) List.length_replicate Tryd.underlying42 Tryd.underlying5 Tryd.underlying9) ?_)
    refine g_pure 1 ⟨#[.int .i64 (↑N : Int), .int .i64 1, undef, undef, .slice none 0 0, .slice p j c, .int .i64 (↑j : Int), .int .i64 (↑j : Int), .int .i64 (↑N : Int), .bool (decide ((↑j : Int) < (↑N : Int))), x1_10, x1_11, .slice p j c, .int .i64 (↑j : Int), .int .i64 (↑(3 * j) : Int), .slice (some ⟨b3, 0, none⟩) 6 6, .int .i64 1, .pointer (some ⟨b3, 1, none⟩), .int .i64 4, .slice (some ⟨b4, 0, none⟩) 4 4, .string ⟨(List.replicate 4 (0 : UInt8)).toArray⟩, .agg #[.int .i64 (↑(3 * j) : Int), .string ⟨(List.replicate 4 (0 : UInt8)).toArray⟩, .int .i64 0], x1_22, x1_23, undef], []⟩ (by kernel_rfl) ?_
    refine g_op (by kernel_rfl) (op_buildSlice 49 [.int .i64 (↑(3 * j) : Int), .string ⟨(List.replicate 4 (0 : UInt8)).toArray⟩, .int .i64 0] rfl (by kernel_rfl) ?_)
    intro b6 W6 n6
    have d6_b3 := n6.ne k3
    have g6 := n6.ge hB
    replace hB := Bl.next hB n6.below
    replace k3 := k3.below n6.below
    replace ho := own_below ho n6.below
    replace o5 := own_below o5 n6.below
    have k6 := n6.blk
    refine g_op (by kernel_rfl) (op_app (e := 49) (n := j) (xs := (someE 4 j).flatMap entC) (m := 1) (news := [.int .i64 (↑(3 * j) : Int), .string ⟨(List.replicate 4 (0 : UInt8)).toArray⟩, .int .i64 0]) (.agg #[.int .i64 0, .string ⟨#[]⟩, .int .i64 0]) 3 32 (j + 1) ((someE 4 (j + 1)).flatMap entC) rfl Tryd.underlying29 (by kernel_rfl) rfl (by decide) rfl ho rfl (k6.sl 1 1 (by decide) (by decide)) rfl (by simp [Value.oneCell']) (by unfold maxLen; omega) (by omega) (Nat.le_trans (Nat.le_refl _) hB.size) (by rfl) ((someE_succ 4 j).symm) ?_)
    intro p7 c7 W7 o7 hg7 hb7
    replace k3 := k3.grown hg7 ho (by decide)
    replace o5 := own_grown o5 hg7 ho (by decide)
    replace hB := hB.trans hb7
    refine g_pure 1 ⟨#[.int .i64 (↑N : Int), .int .i64 1, undef, undef, .slice none 0 0, .slice p7 (j + 1) c7, .int .i64 (↑j : Int), .int .i64 (↑j : Int), .int .i64 (↑N : Int), .bool (decide ((↑j : Int) < (↑N : Int))), x1_10, x1_11, .slice p j c, .int .i64 (↑j : Int), .int .i64 (↑(3 * j) : Int), .slice (some ⟨b3, 0, none⟩) 6 6, .int .i64 1, .pointer (some ⟨b3, 1, none⟩), .int .i64 4, .slice (some ⟨b4, 0, none⟩) 4 4, .string ⟨(List.replicate 4 (0 : UInt8)).toArray⟩, .agg #[.int .i64 (↑(3 * j) : Int), .string ⟨(List.replicate 4 (0 : UInt8)).toArray⟩, .int .i64 0], .slice (some ⟨b6, 0, none⟩) 1 1, .slice p7 (j + 1) c7, undef], []⟩ (by kernel_rfl) ?_
    refine wpList_nil ?_
    refine wp_region_lit ?_
    refine g_pure 1 ⟨#[.int .i64 (↑N : Int), .int .i64 1, undef, undef, .slice none 0 0, .slice p7 (j + 1) c7, .int .i64 (↑j : Int), .int .i64 (↑j : Int), .int .i64 (↑N : Int), .bool (decide ((↑j : Int) < (↑N : Int))), .int .i64 (↑j : Int), x1_11, .slice p j c, .int .i64 (↑j : Int), .int .i64 (↑(3 * j) : Int), .slice (some ⟨b3, 0, none⟩) 6 6, .int .i64 1, .pointer (some ⟨b3, 1, none⟩), .int .i64 4, .slice (some ⟨b4, 0, none⟩) 4 4, .string ⟨(List.replicate 4 (0 : UInt8)).toArray⟩, .agg #[.int .i64 (↑(3 * j) : Int), .string ⟨(List.replicate 4 (0 : UInt8)).toArray⟩, .int .i64 0], .slice (some ⟨b6, 0, none⟩) 1 1, .slice p7 (j + 1) c7, undef], []⟩ (by kernel_rfl) ?_
    refine g_op (by kernel_rfl) (op_val (run_wrap .i64 ((↑j : Int) + 1) (↑(j + 1) : Int) (by kernel_rfl) ((show IntKind.i64.wrap ((↑j : Int) + 1) = ((↑j : Int) + 1) from by first | exact IntWalk.i64_in _ (by omega) | (simp only [IntKind.wrap]; omega)).trans (by omega)) _) ?_)
    refine g_pure 1 ⟨#[.int .i64 (↑N : Int), .int .i64 1, undef, undef, .slice none 0 0, .slice p7 (j + 1) c7, .int .i64 (↑(j + 1) : Int), .int .i64 (↑j : Int), .int .i64 (↑N : Int), .bool (decide ((↑j : Int) < (↑N : Int))), .int .i64 (↑j : Int), .int .i64 (↑(j + 1) : Int), .slice p j c, .int .i64 (↑j : Int), .int .i64 (↑(3 * j) : Int), .slice (some ⟨b3, 0, none⟩) 6 6, .int .i64 1, .pointer (some ⟨b3, 1, none⟩), .int .i64 4, .slice (some ⟨b4, 0, none⟩) 4 4, .string ⟨(List.replicate 4 (0 : UInt8)).toArray⟩, .agg #[.int .i64 (↑(3 * j) : Int), .string ⟨(List.replicate 4 (0 : UInt8)).toArray⟩, .int .i64 0], .slice (some ⟨b6, 0, none⟩) 1 1, .slice p7 (j + 1) c7, undef], []⟩ (by kernel_rfl) ?_
    refine wpList_nil ?_
    refine g_nfr ⟨#[.int .i64 (↑N : Int), .int .i64 1, undef, undef, .slice none 0 0, .slice p7 (j + 1) c7, .int .i64 (↑(j + 1) : Int), .int .i64 (↑j : Int), .int .i64 (↑N : Int), .bool (decide ((↑j : Int) < (↑N : Int))), .int .i64 (↑j : Int), .int .i64 (↑(j + 1) : Int), .slice p j c, .int .i64 (↑j : Int), .int .i64 (↑(3 * j) : Int), .slice (some ⟨b3, 0, none⟩) 6 6, .int .i64 1, .pointer (some ⟨b3, 1, none⟩), .int .i64 4, .slice (some ⟨b4, 0, none⟩) 4 4, .string ⟨(List.replicate 4 (0 : UInt8)).toArray⟩, .agg #[.int .i64 (↑(3 * j) : Int), .string ⟨(List.replicate 4 (0 : UInt8)).toArray⟩, .int .i64 0], .slice (some ⟨b6, 0, none⟩) 1 1, .slice p7 (j + 1) c7, undef], []⟩ (by kernel_rfl) ?_
    refine ⟨⟨j + 1, _, _, _, _, _, _, _, _, _, _, _, _, _, _, _, _, _, _, _, rfl, hB, o7, by omega⟩, ?_⟩
    show N - ((↑(j + 1) : Int)).toNat < N - ((↑j : Int)).toNat
    omega
  · have hc2 := of_decide_eq_false hc2
    refine wp_exit ?_
    refine then_exit ?_
    refine then_exit ?_
    refine inBlock_hit ?_
    refine wp_seq ?_
    refine wp_region_lit ?_
    refine g_pure 2 ⟨#[.int .i64 (↑N : Int), .int .i64 1, undef, undef, .slice p j c, .slice p j c, .int .i64 (↑j : Int), .int .i64 (↑j : Int), .int .i64 (↑N : Int), .bool (decide ((↑j : Int) < (↑N : Int))), x1_10, x1_11, x1_12, x1_13, x1_14, x1_15, x1_16, x1_17, x1_18, x1_19, x1_20, x1_21, x1_22, x1_23, .slice p j c], []⟩ (by kernel_rfl) ?_
    refine wpList_nil ?_
    refine wp_ret ?_
    show bodyPost _ _ _ .ret _ _
    refine g_ret (.slice p j c) rfl (by kernel_rfl) ?_
    obtain rfl : j = N := by omega
    exact ⟨_, rfl, hB, _, _, rfl, ho⟩
set_option maxRecDepth 100000 in
set_option maxHeartbeats 4000000 in
theorem law17_some2 (N : Nat) (w : World) (hN : N ≤ 32768) :
    Calls Tryd.prog 7 #[.int .i64 (↑N : Int), .int .i64 2] w (RetS (fun w' r => ∃ p c, r = .slice p N c ∧ w'.ownsRow w.heap.size 49 3 (.slice p N c) N ((someE 8 N).flatMap entC)) w) := by
  refine calls_of_wp Tryd.func7 rfl ?_
  refine g_fr ⟨#[.int .i64 (↑N : Int), .int .i64 2, undef, undef, undef, undef, undef, undef, undef, undef, undef, undef, undef, undef, undef, undef, undef, undef, undef, undef, undef, undef, undef, undef, undef], []⟩ (by kernel_rfl) ?_
  refine wp_seq ?_
  refine wp_region_lit ?_
  refine g_pure 1 ⟨#[.int .i64 (↑N : Int), .int .i64 2, undef, undef, .slice none 0 0, undef, undef, undef, undef, undef, undef, undef, undef, undef, undef, undef, undef, undef, undef, undef, undef, undef, undef, undef, undef], []⟩ (by kernel_rfl) ?_
  refine wpList_nil ?_
  refine wp_seq ?_
  refine wp_region_lit ?_
  refine g_pure 1 ⟨#[.int .i64 (↑N : Int), .int .i64 2, undef, undef, .slice none 0 0, .slice none 0 0, undef, undef, undef, undef, undef, undef, undef, undef, undef, undef, undef, undef, undef, undef, undef, undef, undef, undef, undef], []⟩ (by kernel_rfl) ?_
  refine wpList_nil ?_
  refine wp_seq ?_
  refine wp_seq ?_
  refine wp_region_lit ?_
  refine g_pure 1 ⟨#[.int .i64 (↑N : Int), .int .i64 2, undef, undef, .slice none 0 0, .slice none 0 0, .int .i64 0, undef, undef, undef, undef, undef, undef, undef, undef, undef, undef, undef, undef, undef, undef, undef, undef, undef, undef], []⟩ (by kernel_rfl) ?_
  refine wpList_nil ?_
  refine wp_block ?_
  refine g_fr ⟨#[.int .i64 (↑N : Int), .int .i64 2, undef, undef, .slice none 0 0, .slice none 0 0, .int .i64 0, undef, undef, undef, undef, undef, undef, undef, undef, undef, undef, undef, undef, undef, undef, undef, undef, undef, undef], []⟩ (by kernel_rfl) ?_
  have hB := Below.refl w.heap.size w
  refine wp_loop (fun act V => ∃ (j : Nat) (p : Option Addr) (c : Nat) (x1_7 x1_8 x1_9 x1_10 x1_11 x1_12 x1_13 x1_14 x1_15 x1_16 x1_17 x1_18 x1_19 x1_20 x1_21 x1_22 x1_23 : Value), act = ⟨#[.int .i64 (↑N : Int), .int .i64 2, undef, undef, .slice none 0 0, .slice p j c, .int .i64 (↑j : Int), x1_7, x1_8, x1_9, x1_10, x1_11, x1_12, x1_13, x1_14, x1_15, x1_16, x1_17, x1_18, x1_19, x1_20, x1_21, x1_22, x1_23, undef], []⟩ ∧ Below w.heap.size w V ∧ V.ownsRow w.heap.size 49 3 (.slice p j c) j ((someE 8 j).flatMap entC) ∧ j ≤ N) (fun act V => N - ((intOf (act.tmps.getD 6 undef))).toNat) ⟨0, _, _, _, _, _, _, _, _, _, _, _, _, _, _, _, _, _, _, _, rfl, hB, World.ownsRow_nil _ _ _ _, Nat.zero_le _⟩ ?_
  rintro _ W1 ⟨j, p, c, x1_7, x1_8, x1_9, x1_10, x1_11, x1_12, x1_13, x1_14, x1_15, x1_16, x1_17, x1_18, x1_19, x1_20, x1_21, x1_22, x1_23, rfl, hB, ho, hj⟩
  refine wp_seq ?_
  refine wp_seq ?_
  refine wp_region_lit ?_
  refine g_pure 3 ⟨#[.int .i64 (↑N : Int), .int .i64 2, undef, undef, .slice none 0 0, .slice p j c, .int .i64 (↑j : Int), .int .i64 (↑j : Int), .int .i64 (↑N : Int), .bool (decide ((↑j : Int) < (↑N : Int))), x1_10, x1_11, x1_12, x1_13, x1_14, x1_15, x1_16, x1_17, x1_18, x1_19, x1_20, x1_21, x1_22, x1_23, undef], []⟩ (by kernel_rfl) ?_
  refine wpList_nil ?_
  refine wp_cond_split (t := decide ((↑j : Int) < (↑N : Int))) rfl (fun hc2 => ?_) (fun hc2 => ?_)
  · have hc2 := of_decide_eq_true hc2
    refine wp_skip ?_
    refine wp_seq ?_
    refine wp_block ?_
    refine wp_region_lit ?_
    refine g_pure 2 ⟨#[.int .i64 (↑N : Int), .int .i64 2, undef, undef, .slice none 0 0, .slice p j c, .int .i64 (↑j : Int), .int .i64 (↑j : Int), .int .i64 (↑N : Int), .bool (decide ((↑j : Int) < (↑N : Int))), x1_10, x1_11, .slice p j c, .int .i64 (↑j : Int), x1_14, x1_15, x1_16, x1_17, x1_18, x1_19, x1_20, x1_21, x1_22, x1_23, undef], []⟩ (by kernel_rfl) ?_
    refine g_op (by kernel_rfl) (op_val (run_wrap .i64 (3 * (↑j : Int)) (↑(3 * j) : Int) (by kernel_rfl) ((show IntKind.i64.wrap (3 * (↑j : Int)) = (3 * (↑j : Int)) from by first | exact IntWalk.i64_in _ (by omega) | (simp only [IntKind.wrap]; omega)).trans (by omega)) _) ?_)
    refine g_op (by kernel_rfl) (op_buildSlice 3 [.int .i64 0, .int .i64 4, .int .i64 8, .int .i64 24, .int .i64 16, .int .i64 4] rfl (by kernel_rfl) ?_)
    intro b3 W3 n3
    have g3 := n3.ge hB
    replace hB := Bl.next hB n3.below
    replace ho := own_below ho n3.below
    have k3 := n3.blk
    refine g_pure 2 ⟨#[.int .i64 (↑N : Int), .int .i64 2, undef, undef, .slice none 0 0, .slice p j c, .int .i64 (↑j : Int), .int .i64 (↑j : Int), .int .i64 (↑N : Int), .bool (decide ((↑j : Int) < (↑N : Int))), x1_10, x1_11, .slice p j c, .int .i64 (↑j : Int), .int .i64 (↑(3 * j) : Int), .slice (some ⟨b3, 0, none⟩) 6 6, .int .i64 2, .pointer (some ⟨b3, 2, none⟩), x1_18, x1_19, x1_20, x1_21, x1_22, x1_23, undef], []⟩ (by kernel_rfl) ?_
    refine g_op (by kernel_rfl) (op_load _ (.int .i64 8) rfl rfl (by kernel_rfl) (k3.cell (i := 2) rfl) ?_)
    refine g_op (by kernel_rfl) (op_make 8 (.int .u8 0) 1 1 ((List.replicate 8 (0 : UInt8)).map bv) rfl rfl rfl Tryd.underlying42 (by kernel_rfl) rfl (by omega) (by omega) (zerosB 8) ?_)
    intro b4 W4 n4
    have d4_b3 := n4.ne k3
    have g4 := n4.ge hB
    replace hB := Bl.next hB n4.below
    replace k3 := k3.below n4.below
    replace ho := own_below ho n4.below
    have k4 := n4.blk
    have o5 := own_of_blk (size := 1) (n := 8) k4 g4 (by rw [List.length_map, List.length_replicate]) (by unfold maxLen; omega)
    refine g_op (by kernel_rfl) (op_val (run_bstr rfl rfl (bys_of (own_sl o5) List.length_replicate) List.length_replicate Tryd.underlying42 Tryd.underlying5 Tryd.underlying9) ?_)
    refine g_pure 1 ⟨#[.int .i64 (↑N : Int), .int .i64 2, undef, undef, .slice none 0 0, .slice p j c, .int .i64 (↑j : Int), .int .i64 (↑j : Int), .int .i64 (↑N : Int), .bool (decide ((↑j : Int) < (↑N : Int))), x1_10, x1_11, .slice p j c, .int .i64 (↑j : Int), .int .i64 (↑(3 * j) : Int), .slice (some ⟨b3, 0, none⟩) 6 6, .int .i64 2, .pointer (some ⟨b3, 2, none⟩), .int .i64 8, .slice (some ⟨b4, 0, none⟩) 8 8, .string ⟨(List.replicate 8 (0 : UInt8)).toArray⟩, .agg #[.int .i64 (↑(3 * j) : Int), .string ⟨(List.replicate 8 (0 : UInt8)).toArray⟩, .int .i64 0], x1_22, x1_23, undef], []⟩ (by kernel_rfl) ?_
    refine g_op (by kernel_rfl) (op_buildSlice 49 [.int .i64 (↑(3 * j) : Int), .string ⟨(List.replicate 8 (0 : UInt8)).toArray⟩, .int .i64 0] rfl (by kernel_rfl) ?_)
    intro b6 W6 n6
    have d6_b3 := n6.ne k3
    have g6 := n6.ge hB
    replace hB := Bl.next hB n6.below
    replace k3 := k3.below n6.below
    replace ho := own_below ho n6.below
    replace o5 := own_below o5 n6.below
    have k6 := n6.blk
    refine g_op (by kernel_rfl) (op_app (e := 49) (n := j) (xs := (someE 8 j).flatMap entC) (m := 1) (news := [.int .i64 (↑(3 * j) : Int), .string ⟨(List.replicate 8 (0 : UInt8)).toArray⟩, .int .i64 0]) (.agg #[.int .i64 0, .string ⟨#[]⟩, .int .i64 0]) 3 32 (j + 1) ((someE 8 (j + 1)).flatMap entC) rfl Tryd.underlying29 (by kernel_rfl) rfl (by decide) rfl ho rfl (k6.sl 1 1 (by decide) (by decide)) rfl (by simp [Value.oneCell']) (by unfold maxLen; omega) (by omega) (Nat.le_trans (Nat.le_refl _) hB.size) (by rfl) ((someE_succ 8 j).symm) ?_)
    intro p7 c7 W7 o7 hg7 hb7
    replace k3 := k3.grown hg7 ho (by decide)
    replace o5 := own_grown o5 hg7 ho (by decide)
    replace hB := hB.trans hb7
    refine g_pure 1 ⟨#[.int .i64 (↑N : Int), .int .i64 2, undef, undef, .slice none 0 0, .slice p7 (j + 1) c7, .int .i64 (↑j : Int), .int .i64 (↑j : Int), .int .i64 (↑N : Int), .bool (decide ((↑j : Int) < (↑N : Int))), x1_10, x1_11, .slice p j c, .int .i64 (↑j : Int), .int .i64 (↑(3 * j) : Int), .slice (some ⟨b3, 0, none⟩) 6 6, .int .i64 2, .pointer (some ⟨b3, 2, none⟩), .int .i64 8, .slice (some ⟨b4, 0, none⟩) 8 8, .string ⟨(List.replicate 8 (0 : UInt8)).toArray⟩, .agg #[.int .i64 (↑(3 * j) : Int), .string ⟨(List.replicate 8 (0 : UInt8)).toArray⟩, .int .i64 0], .slice (some ⟨b6, 0, none⟩) 1 1, .slice p7 (j + 1) c7, undef], []⟩ (by kernel_rfl) ?_
    refine wpList_nil ?_
    refine wp_region_lit ?_
    refine g_pure 1 ⟨#[.int .i64 (↑N : Int), .int .i64 2, undef, undef, .slice none 0 0, .slice p7 (j + 1) c7, .int .i64 (↑j : Int), .int .i64 (↑j : Int), .int .i64 (↑N : Int), .bool (decide ((↑j : Int) < (↑N : Int))), .int .i64 (↑j : Int), x1_11, .slice p j c, .int .i64 (↑j : Int), .int .i64 (↑(3 * j) : Int), .slice (some ⟨b3, 0, none⟩) 6 6, .int .i64 2, .pointer (some ⟨b3, 2, none⟩), .int .i64 8, .slice (some ⟨b4, 0, none⟩) 8 8, .string ⟨(List.replicate 8 (0 : UInt8)).toArray⟩, .agg #[.int .i64 (↑(3 * j) : Int), .string ⟨(List.replicate 8 (0 : UInt8)).toArray⟩, .int .i64 0], .slice (some ⟨b6, 0, none⟩) 1 1, .slice p7 (j + 1) c7, undef], []⟩ (by kernel_rfl) ?_
    refine g_op (by kernel_rfl) (op_val (run_wrap .i64 ((↑j : Int) + 1) (↑(j + 1) : Int) (by kernel_rfl) ((show IntKind.i64.wrap ((↑j : Int) + 1) = ((↑j : Int) + 1) from by first | exact IntWalk.i64_in _ (by omega) | (simp only [IntKind.wrap]; omega)).trans (by omega)) _) ?_)
    refine g_pure 1 ⟨#[.int .i64 (↑N : Int), .int .i64 2, undef, undef, .slice none 0 0, .slice p7 (j + 1) c7, .int .i64 (↑(j + 1) : Int), .int .i64 (↑j : Int), .int .i64 (↑N : Int), .bool (decide ((↑j : Int) < (↑N : Int))), .int .i64 (↑j : Int), .int .i64 (↑(j + 1) : Int), .slice p j c, .int .i64 (↑j : Int), .int .i64 (↑(3 * j) : Int), .slice (some ⟨b3, 0, none⟩) 6 6, .int .i64 2, .pointer (some ⟨b3, 2, none⟩), .int .i64 8, .slice (some ⟨b4, 0, none⟩) 8 8, .string ⟨(List.replicate 8 (0 : UInt8)).toArray⟩, .agg #[.int .i64 (↑(3 * j) : Int), .string ⟨(List.replicate 8 (0 : UInt8)).toArray⟩, .int .i64 0], .slice (some ⟨b6, 0, none⟩) 1 1, .slice p7 (j + 1) c7, undef], []⟩ (by kernel_rfl) ?_
    refine wpList_nil ?_
    refine g_nfr ⟨#[.int .i64 (↑N : Int), .int .i64 2, undef, undef, .slice none 0 0, .slice p7 (j + 1) c7, .int .i64 (↑(j + 1) : Int), .int .i64 (↑j : Int), .int .i64 (↑N : Int), .bool (decide ((↑j : Int) < (↑N : Int))), .int .i64 (↑j : Int), .int .i64 (↑(j + 1) : Int), .slice p j c, .int .i64 (↑j : Int), .int .i64 (↑(3 * j) : Int), .slice (some ⟨b3, 0, none⟩) 6 6, .int .i64 2, .pointer (some ⟨b3, 2, none⟩), .int .i64 8, .slice (some ⟨b4, 0, none⟩) 8 8, .string ⟨(List.replicate 8 (0 : UInt8)).toArray⟩, .agg #[.int .i64 (↑(3 * j) : Int), .string ⟨(List.replicate 8 (0 : UInt8)).toArray⟩, .int .i64 0], .slice (some ⟨b6, 0, none⟩) 1 1, .slice p7 (j + 1) c7, undef], []⟩ (by kernel_rfl) ?_
    refine ⟨⟨j + 1, _, _, _, _, _, _, _, _, _, _, _, _, _, _, _, _, _, _, _, rfl, hB, o7, by omega⟩, ?_⟩
    show N - ((↑(j + 1) : Int)).toNat < N - ((↑j : Int)).toNat
    omega
  · have hc2 := of_decide_eq_false hc2
    refine wp_exit ?_
    refine then_exit ?_
    refine then_exit ?_
    refine inBlock_hit ?_
    refine wp_seq ?_
    refine wp_region_lit ?_
    refine g_pure 2 ⟨#[.int .i64 (↑N : Int), .int .i64 2, undef, undef, .slice p j c, .slice p j c, .int .i64 (↑j : Int), .int .i64 (↑j : Int), .int .i64 (↑N : Int), .bool (decide ((↑j : Int) < (↑N : Int))), x1_10, x1_11, x1_12, x1_13, x1_14, x1_15, x1_16, x1_17, x1_18, x1_19, x1_20, x1_21, x1_22, x1_23, .slice p j c], []⟩ (by kernel_rfl) ?_
    refine wpList_nil ?_
    refine wp_ret ?_
    show bodyPost _ _ _ .ret _ _
    refine g_ret (.slice p j c) rfl (by kernel_rfl) ?_
    obtain rfl : j = N := by omega
    exact ⟨_, rfl, hB, _, _, rfl, ho⟩
set_option maxRecDepth 100000 in
set_option maxHeartbeats 4000000 in
theorem law17_some3 (N : Nat) (w : World) (hN : N ≤ 32768) :
    Calls Tryd.prog 7 #[.int .i64 (↑N : Int), .int .i64 3] w (RetS (fun w' r => ∃ p c, r = .slice p N c ∧ w'.ownsRow w.heap.size 49 3 (.slice p N c) N ((someE 24 N).flatMap entC)) w) := by
  refine calls_of_wp Tryd.func7 rfl ?_
  refine g_fr ⟨#[.int .i64 (↑N : Int), .int .i64 3, undef, undef, undef, undef, undef, undef, undef, undef, undef, undef, undef, undef, undef, undef, undef, undef, undef, undef, undef, undef, undef, undef, undef], []⟩ (by kernel_rfl) ?_
  refine wp_seq ?_
  refine wp_region_lit ?_
  refine g_pure 1 ⟨#[.int .i64 (↑N : Int), .int .i64 3, undef, undef, .slice none 0 0, undef, undef, undef, undef, undef, undef, undef, undef, undef, undef, undef, undef, undef, undef, undef, undef, undef, undef, undef, undef], []⟩ (by kernel_rfl) ?_
  refine wpList_nil ?_
  refine wp_seq ?_
  refine wp_region_lit ?_
  refine g_pure 1 ⟨#[.int .i64 (↑N : Int), .int .i64 3, undef, undef, .slice none 0 0, .slice none 0 0, undef, undef, undef, undef, undef, undef, undef, undef, undef, undef, undef, undef, undef, undef, undef, undef, undef, undef, undef], []⟩ (by kernel_rfl) ?_
  refine wpList_nil ?_
  refine wp_seq ?_
  refine wp_seq ?_
  refine wp_region_lit ?_
  refine g_pure 1 ⟨#[.int .i64 (↑N : Int), .int .i64 3, undef, undef, .slice none 0 0, .slice none 0 0, .int .i64 0, undef, undef, undef, undef, undef, undef, undef, undef, undef, undef, undef, undef, undef, undef, undef, undef, undef, undef], []⟩ (by kernel_rfl) ?_
  refine wpList_nil ?_
  refine wp_block ?_
  refine g_fr ⟨#[.int .i64 (↑N : Int), .int .i64 3, undef, undef, .slice none 0 0, .slice none 0 0, .int .i64 0, undef, undef, undef, undef, undef, undef, undef, undef, undef, undef, undef, undef, undef, undef, undef, undef, undef, undef], []⟩ (by kernel_rfl) ?_
  have hB := Below.refl w.heap.size w
  refine wp_loop (fun act V => ∃ (j : Nat) (p : Option Addr) (c : Nat) (x1_7 x1_8 x1_9 x1_10 x1_11 x1_12 x1_13 x1_14 x1_15 x1_16 x1_17 x1_18 x1_19 x1_20 x1_21 x1_22 x1_23 : Value), act = ⟨#[.int .i64 (↑N : Int), .int .i64 3, undef, undef, .slice none 0 0, .slice p j c, .int .i64 (↑j : Int), x1_7, x1_8, x1_9, x1_10, x1_11, x1_12, x1_13, x1_14, x1_15, x1_16, x1_17, x1_18, x1_19, x1_20, x1_21, x1_22, x1_23, undef], []⟩ ∧ Below w.heap.size w V ∧ V.ownsRow w.heap.size 49 3 (.slice p j c) j ((someE 24 j).flatMap entC) ∧ j ≤ N) (fun act V => N - ((intOf (act.tmps.getD 6 undef))).toNat) ⟨0, _, _, _, _, _, _, _, _, _, _, _, _, _, _, _, _, _, _, _, rfl, hB, World.ownsRow_nil _ _ _ _, Nat.zero_le _⟩ ?_
  rintro _ W1 ⟨j, p, c, x1_7, x1_8, x1_9, x1_10, x1_11, x1_12, x1_13, x1_14, x1_15, x1_16, x1_17, x1_18, x1_19, x1_20, x1_21, x1_22, x1_23, rfl, hB, ho, hj⟩
  refine wp_seq ?_
  refine wp_seq ?_
  refine wp_region_lit ?_
  refine g_pure 3 ⟨#[.int .i64 (↑N : Int), .int .i64 3, undef, undef, .slice none 0 0, .slice p j c, .int .i64 (↑j : Int), .int .i64 (↑j : Int), .int .i64 (↑N : Int), .bool (decide ((↑j : Int) < (↑N : Int))), x1_10, x1_11, x1_12, x1_13, x1_14, x1_15, x1_16, x1_17, x1_18, x1_19, x1_20, x1_21, x1_22, x1_23, undef], []⟩ (by kernel_rfl) ?_
  refine wpList_nil ?_
  refine wp_cond_split (t := decide ((↑j : Int) < (↑N : Int))) rfl (fun hc2 => ?_) (fun hc2 => ?_)
  · have hc2 := of_decide_eq_true hc2
    refine wp_skip ?_
    refine wp_seq ?_
    refine wp_block ?_
    refine wp_region_lit ?_
    refine g_pure 2 ⟨#[.int .i64 (↑N : Int), .int .i64 3, undef, undef, .slice none 0 0, .slice p j c, .int .i64 (↑j : Int), .int .i64 (↑j : Int), .int .i64 (↑N : Int), .bool (decide ((↑j : Int) < (↑N : Int))), x1_10, x1_11, .slice p j c, .int .i64 (↑j : Int), x1_14, x1_15, x1_16, x1_17, x1_18, x1_19, x1_20, x1_21, x1_22, x1_23, undef], []⟩ (by kernel_rfl) ?_
    refine g_op (by kernel_rfl) (op_val (run_wrap .i64 (3 * (↑j : Int)) (↑(3 * j) : Int) (by kernel_rfl) ((show IntKind.i64.wrap (3 * (↑j : Int)) = (3 * (↑j : Int)) from by first | exact IntWalk.i64_in _ (by omega) | (simp only [IntKind.wrap]; omega)).trans (by omega)) _) ?_)
    refine g_op (by kernel_rfl) (op_buildSlice 3 [.int .i64 0, .int .i64 4, .int .i64 8, .int .i64 24, .int .i64 16, .int .i64 4] rfl (by kernel_rfl) ?_)
    intro b3 W3 n3
    have g3 := n3.ge hB
    replace hB := Bl.next hB n3.below
    replace ho := own_below ho n3.below
    have k3 := n3.blk
    refine g_pure 2 ⟨#[.int .i64 (↑N : Int), .int .i64 3, undef, undef, .slice none 0 0, .slice p j c, .int .i64 (↑j : Int), .int .i64 (↑j : Int), .int .i64 (↑N : Int), .bool (decide ((↑j : Int) < (↑N : Int))), x1_10, x1_11, .slice p j c, .int .i64 (↑j : Int), .int .i64 (↑(3 * j) : Int), .slice (some ⟨b3, 0, none⟩) 6 6, .int .i64 3, .pointer (some ⟨b3, 3, none⟩), x1_18, x1_19, x1_20, x1_21, x1_22, x1_23, undef], []⟩ (by kernel_rfl) ?_
    refine g_op (by kernel_rfl) (op_load _ (.int .i64 24) rfl rfl (by kernel_rfl) (k3.cell (i := 3) rfl) ?_)
    refine g_op (by kernel_rfl) (op_make 24 (.int .u8 0) 1 1 ((List.replicate 24 (0 : UInt8)).map bv) rfl rfl rfl Tryd.underlying42 (by kernel_rfl) rfl (by omega) (by omega) (zerosB 24) ?_)
    intro b4 W4 n4
    have d4_b3 := n4.ne k3
    have g4 := n4.ge hB
    replace hB := Bl.next hB n4.below
    replace k3 := k3.below n4.below
    replace ho := own_below ho n4.below
    have k4 := n4.blk
    have o5 := own_of_blk (size := 1) (n := 24) k4 g4 (by rw [List.length_map, List.length_replicate]) (by unfold maxLen; omega)
    refine g_op (by kernel_rfl) (op_val (run_bstr rfl rfl (bys_of (own_sl o5) List.length_replicate) List.length_replicate Tryd.underlying42 Tryd.underlying5 Tryd.underlying9) ?_)
    refine g_pure 1 ⟨#[.int .i64 (↑N : Int), .int .i64 3, undef, undef, .slice none 0 0, .slice p j c, .int .i64 (↑j : Int), .int .i64 (↑j : Int), .int .i64 (↑N : Int), .bool (decide ((↑j : Int) < (↑N : Int))), x1_10, x1_11, .slice p j c, .int .i64 (↑j : Int), .int .i64 (↑(3 * j) : Int), .slice (some ⟨b3, 0, none⟩) 6 6, .int .i64 3, .pointer (some ⟨b3, 3, none⟩), .int .i64 24, .slice (some ⟨b4, 0, none⟩) 24 24, .string ⟨(List.replicate 24 (0 : UInt8)).toArray⟩, .agg #[.int .i64 (↑(3 * j) : Int), .string ⟨(List.replicate 24 (0 : UInt8)).toArray⟩, .int .i64 0], x1_22, x1_23, undef], []⟩ (by kernel_rfl) ?_
    refine g_op (by kernel_rfl) (op_buildSlice 49 [.int .i64 (↑(3 * j) : Int), .string ⟨(List.replicate 24 (0 : UInt8)).toArray⟩, .int .i64 0] rfl (by kernel_rfl) ?_)
    intro b6 W6 n6
    have d6_b3 := n6.ne k3
    have g6 := n6.ge hB
    replace hB := Bl.next hB n6.below
    replace k3 := k3.below n6.below
    replace ho := own_below ho n6.below
    replace o5 := own_below o5 n6.below
    have k6 := n6.blk
    refine g_op (by kernel_rfl) (op_app (e := 49) (n := j) (xs := (someE 24 j).flatMap entC) (m := 1) (news := [.int .i64 (↑(3 * j) : Int), .string ⟨(List.replicate 24 (0 : UInt8)).toArray⟩, .int .i64 0]) (.agg #[.int .i64 0, .string ⟨#[]⟩, .int .i64 0]) 3 32 (j + 1) ((someE 24 (j + 1)).flatMap entC) rfl Tryd.underlying29 (by kernel_rfl) rfl (by decide) rfl ho rfl (k6.sl 1 1 (by decide) (by decide)) rfl (by simp [Value.oneCell']) (by unfold maxLen; omega) (by omega) (Nat.le_trans (Nat.le_refl _) hB.size) (by rfl) ((someE_succ 24 j).symm) ?_)
    intro p7 c7 W7 o7 hg7 hb7
    replace k3 := k3.grown hg7 ho (by decide)
    replace o5 := own_grown o5 hg7 ho (by decide)
    replace hB := hB.trans hb7
    refine g_pure 1 ⟨#[.int .i64 (↑N : Int), .int .i64 3, undef, undef, .slice none 0 0, .slice p7 (j + 1) c7, .int .i64 (↑j : Int), .int .i64 (↑j : Int), .int .i64 (↑N : Int), .bool (decide ((↑j : Int) < (↑N : Int))), x1_10, x1_11, .slice p j c, .int .i64 (↑j : Int), .int .i64 (↑(3 * j) : Int), .slice (some ⟨b3, 0, none⟩) 6 6, .int .i64 3, .pointer (some ⟨b3, 3, none⟩), .int .i64 24, .slice (some ⟨b4, 0, none⟩) 24 24, .string ⟨(List.replicate 24 (0 : UInt8)).toArray⟩, .agg #[.int .i64 (↑(3 * j) : Int), .string ⟨(List.replicate 24 (0 : UInt8)).toArray⟩, .int .i64 0], .slice (some ⟨b6, 0, none⟩) 1 1, .slice p7 (j + 1) c7, undef], []⟩ (by kernel_rfl) ?_
    refine wpList_nil ?_
    refine wp_region_lit ?_
    refine g_pure 1 ⟨#[.int .i64 (↑N : Int), .int .i64 3, undef, undef, .slice none 0 0, .slice p7 (j + 1) c7, .int .i64 (↑j : Int), .int .i64 (↑j : Int), .int .i64 (↑N : Int), .bool (decide ((↑j : Int) < (↑N : Int))), .int .i64 (↑j : Int), x1_11, .slice p j c, .int .i64 (↑j : Int), .int .i64 (↑(3 * j) : Int), .slice (some ⟨b3, 0, none⟩) 6 6, .int .i64 3, .pointer (some ⟨b3, 3, none⟩), .int .i64 24, .slice (some ⟨b4, 0, none⟩) 24 24, .string ⟨(List.replicate 24 (0 : UInt8)).toArray⟩, .agg #[.int .i64 (↑(3 * j) : Int), .string ⟨(List.replicate 24 (0 : UInt8)).toArray⟩, .int .i64 0], .slice (some ⟨b6, 0, none⟩) 1 1, .slice p7 (j + 1) c7, undef], []⟩ (by kernel_rfl) ?_
    refine g_op (by kernel_rfl) (op_val (run_wrap .i64 ((↑j : Int) + 1) (↑(j + 1) : Int) (by kernel_rfl) ((show IntKind.i64.wrap ((↑j : Int) + 1) = ((↑j : Int) + 1) from by first | exact IntWalk.i64_in _ (by omega) | (simp only [IntKind.wrap]; omega)).trans (by omega)) _) ?_)
    refine g_pure 1 ⟨#[.int .i64 (↑N : Int), .int .i64 3, undef, undef, .slice none 0 0, .slice p7 (j + 1) c7, .int .i64 (↑(j + 1) : Int), .int .i64 (↑j : Int), .int .i64 (↑N : Int), .bool (decide ((↑j : Int) < (↑N : Int))), .int .i64 (↑j : Int), .int .i64 (↑(j + 1) : Int), .slice p j c, .int .i64 (↑j : Int), .int .i64 (↑(3 * j) : Int), .slice (some ⟨b3, 0, none⟩) 6 6, .int .i64 3, .pointer (some ⟨b3, 3, none⟩), .int .i64 24, .slice (some ⟨b4, 0, none⟩) 24 24, .string ⟨(List.replicate 24 (0 : UInt8)).toArray⟩, .agg #[.int .i64 (↑(3 * j) : Int), .string ⟨(List.replicate 24 (0 : UInt8)).toArray⟩, .int .i64 0], .slice (some ⟨b6, 0, none⟩) 1 1, .slice p7 (j + 1) c7, undef], []⟩ (by kernel_rfl) ?_
    refine wpList_nil ?_
    refine g_nfr ⟨#[.int .i64 (↑N : Int), .int .i64 3, undef, undef, .slice none 0 0, .slice p7 (j + 1) c7, .int .i64 (↑(j + 1) : Int), .int .i64 (↑j : Int), .int .i64 (↑N : Int), .bool (decide ((↑j : Int) < (↑N : Int))), .int .i64 (↑j : Int), .int .i64 (↑(j + 1) : Int), .slice p j c, .int .i64 (↑j : Int), .int .i64 (↑(3 * j) : Int), .slice (some ⟨b3, 0, none⟩) 6 6, .int .i64 3, .pointer (some ⟨b3, 3, none⟩), .int .i64 24, .slice (some ⟨b4, 0, none⟩) 24 24, .string ⟨(List.replicate 24 (0 : UInt8)).toArray⟩, .agg #[.int .i64 (↑(3 * j) : Int), .string ⟨(List.replicate 24 (0 : UInt8)).toArray⟩, .int .i64 0], .slice (some ⟨b6, 0, none⟩) 1 1, .slice p7 (j + 1) c7, undef], []⟩ (by kernel_rfl) ?_
    refine ⟨⟨j + 1, _, _, _, _, _, _, _, _, _, _, _, _, _, _, _, _, _, _, _, rfl, hB, o7, by omega⟩, ?_⟩
    show N - ((↑(j + 1) : Int)).toNat < N - ((↑j : Int)).toNat
    omega
  · have hc2 := of_decide_eq_false hc2
    refine wp_exit ?_
    refine then_exit ?_
    refine then_exit ?_
    refine inBlock_hit ?_
    refine wp_seq ?_
    refine wp_region_lit ?_
    refine g_pure 2 ⟨#[.int .i64 (↑N : Int), .int .i64 3, undef, undef, .slice p j c, .slice p j c, .int .i64 (↑j : Int), .int .i64 (↑j : Int), .int .i64 (↑N : Int), .bool (decide ((↑j : Int) < (↑N : Int))), x1_10, x1_11, x1_12, x1_13, x1_14, x1_15, x1_16, x1_17, x1_18, x1_19, x1_20, x1_21, x1_22, x1_23, .slice p j c], []⟩ (by kernel_rfl) ?_
    refine wpList_nil ?_
    refine wp_ret ?_
    show bodyPost _ _ _ .ret _ _
    refine g_ret (.slice p j c) rfl (by kernel_rfl) ?_
    obtain rfl : j = N := by omega
    exact ⟨_, rfl, hB, _, _, rfl, ho⟩
set_option maxRecDepth 100000 in
set_option maxHeartbeats 4000000 in
theorem law17_some4 (N : Nat) (w : World) (hN : N ≤ 32768) :
    Calls Tryd.prog 7 #[.int .i64 (↑N : Int), .int .i64 4] w (RetS (fun w' r => ∃ p c, r = .slice p N c ∧ w'.ownsRow w.heap.size 49 3 (.slice p N c) N ((someE 16 N).flatMap entC)) w) := by
  refine calls_of_wp Tryd.func7 rfl ?_
  refine g_fr ⟨#[.int .i64 (↑N : Int), .int .i64 4, undef, undef, undef, undef, undef, undef, undef, undef, undef, undef, undef, undef, undef, undef, undef, undef, undef, undef, undef, undef, undef, undef, undef], []⟩ (by kernel_rfl) ?_
  refine wp_seq ?_
  refine wp_region_lit ?_
  refine g_pure 1 ⟨#[.int .i64 (↑N : Int), .int .i64 4, undef, undef, .slice none 0 0, undef, undef, undef, undef, undef, undef, undef, undef, undef, undef, undef, undef, undef, undef, undef, undef, undef, undef, undef, undef], []⟩ (by kernel_rfl) ?_
  refine wpList_nil ?_
  refine wp_seq ?_
  refine wp_region_lit ?_
  refine g_pure 1 ⟨#[.int .i64 (↑N : Int), .int .i64 4, undef, undef, .slice none 0 0, .slice none 0 0, undef, undef, undef, undef, undef, undef, undef, undef, undef, undef, undef, undef, undef, undef, undef, undef, undef, undef, undef], []⟩ (by kernel_rfl) ?_
  refine wpList_nil ?_
  refine wp_seq ?_
  refine wp_seq ?_
  refine wp_region_lit ?_
  refine g_pure 1 ⟨#[.int .i64 (↑N : Int), .int .i64 4, undef, undef, .slice none 0 0, .slice none 0 0, .int .i64 0, undef, undef, undef, undef, undef, undef, undef, undef, undef, undef, undef, undef, undef, undef, undef, undef, undef, undef], []⟩ (by kernel_rfl) ?_
  refine wpList_nil ?_
  refine wp_block ?_
  refine g_fr ⟨#[.int .i64 (↑N : Int), .int .i64 4, undef, undef, .slice none 0 0, .slice none 0 0, .int .i64 0, undef, undef, undef, undef, undef, undef, undef, undef, undef, undef, undef, undef, undef, undef, undef, undef, undef, undef], []⟩ (by kernel_rfl) ?_
  have hB := Below.refl w.heap.size w
  refine wp_loop (fun act V => ∃ (j : Nat) (p : Option Addr) (c : Nat) (x1_7 x1_8 x1_9 x1_10 x1_11 x1_12 x1_13 x1_14 x1_15 x1_16 x1_17 x1_18 x1_19 x1_20 x1_21 x1_22 x1_23 : Value), act = ⟨#[.int .i64 (↑N : Int), .int .i64 4, undef, undef, .slice none 0 0, .slice p j c, .int .i64 (↑j : Int), x1_7, x1_8, x1_9, x1_10, x1_11, x1_12, x1_13, x1_14, x1_15, x1_16, x1_17, x1_18, x1_19, x1_20, x1_21, x1_22, x1_23, undef], []⟩ ∧ Below w.heap.size w V ∧ V.ownsRow w.heap.size 49 3 (.slice p j c) j ((someE 16 j).flatMap entC) ∧ j ≤ N) (fun act V => N - ((intOf (act.tmps.getD 6 undef))).toNat) ⟨0, _, _, _, _, _, _, _, _, _, _, _, _, _, _, _, _, _, _, _, rfl, hB, World.ownsRow_nil _ _ _ _, Nat.zero_le _⟩ ?_
  rintro _ W1 ⟨j, p, c, x1_7, x1_8, x1_9, x1_10, x1_11, x1_12, x1_13, x1_14, x1_15, x1_16, x1_17, x1_18, x1_19, x1_20, x1_21, x1_22, x1_23, rfl, hB, ho, hj⟩
  refine wp_seq ?_
  refine wp_seq ?_
  refine wp_region_lit ?_
  refine g_pure 3 ⟨#[.int .i64 (↑N : Int), .int .i64 4, undef, undef, .slice none 0 0, .slice p j c, .int .i64 (↑j : Int), .int .i64 (↑j : Int), .int .i64 (↑N : Int), .bool (decide ((↑j : Int) < (↑N : Int))), x1_10, x1_11, x1_12, x1_13, x1_14, x1_15, x1_16, x1_17, x1_18, x1_19, x1_20, x1_21, x1_22, x1_23, undef], []⟩ (by kernel_rfl) ?_
  refine wpList_nil ?_
  refine wp_cond_split (t := decide ((↑j : Int) < (↑N : Int))) rfl (fun hc2 => ?_) (fun hc2 => ?_)
  · have hc2 := of_decide_eq_true hc2
    refine wp_skip ?_
    refine wp_seq ?_
    refine wp_block ?_
    refine wp_region_lit ?_
    refine g_pure 2 ⟨#[.int .i64 (↑N : Int), .int .i64 4, undef, undef, .slice none 0 0, .slice p j c, .int .i64 (↑j : Int), .int .i64 (↑j : Int), .int .i64 (↑N : Int), .bool (decide ((↑j : Int) < (↑N : Int))), x1_10, x1_11, .slice p j c, .int .i64 (↑j : Int), x1_14, x1_15, x1_16, x1_17, x1_18, x1_19, x1_20, x1_21, x1_22, x1_23, undef], []⟩ (by kernel_rfl) ?_
    refine g_op (by kernel_rfl) (op_val (run_wrap .i64 (3 * (↑j : Int)) (↑(3 * j) : Int) (by kernel_rfl) ((show IntKind.i64.wrap (3 * (↑j : Int)) = (3 * (↑j : Int)) from by first | exact IntWalk.i64_in _ (by omega) | (simp only [IntKind.wrap]; omega)).trans (by omega)) _) ?_)
    refine g_op (by kernel_rfl) (op_buildSlice 3 [.int .i64 0, .int .i64 4, .int .i64 8, .int .i64 24, .int .i64 16, .int .i64 4] rfl (by kernel_rfl) ?_)
    intro b3 W3 n3
    have g3 := n3.ge hB
    replace hB := Bl.next hB n3.below
    replace ho := own_below ho n3.below
    have k3 := n3.blk
    refine g_pure 2 ⟨#[.int .i64 (↑N : Int), .int .i64 4, undef, undef, .slice none 0 0, .slice p j c, .int .i64 (↑j : Int), .int .i64 (↑j : Int), .int .i64 (↑N : Int), .bool (decide ((↑j : Int) < (↑N : Int))), x1_10, x1_11, .slice p j c, .int .i64 (↑j : Int), .int .i64 (↑(3 * j) : Int), .slice (some ⟨b3, 0, none⟩) 6 6, .int .i64 4, .pointer (some ⟨b3, 4, none⟩), x1_18, x1_19, x1_20, x1_21, x1_22, x1_23, undef], []⟩ (by kernel_rfl) ?_
    refine g_op (by kernel_rfl) (op_load _ (.int .i64 16) rfl rfl (by kernel_rfl) (k3.cell (i := 4) rfl) ?_)
    refine g_op (by kernel_rfl) (op_make 16 (.int .u8 0) 1 1 ((List.replicate 16 (0 : UInt8)).map bv) rfl rfl rfl Tryd.underlying42 (by kernel_rfl) rfl (by omega) (by omega) (zerosB 16) ?_)
    intro b4 W4 n4
    have d4_b3 := n4.ne k3
    have g4 := n4.ge hB
    replace hB := Bl.next hB n4.below
    replace k3 := k3.below n4.below
    replace ho := own_below ho n4.below
    have k4 := n4.blk
    have o5 := own_of_blk (size := 1) (n := 16) k4 g4 (by rw [List.length_map, List.length_replicate]) (by unfold maxLen; omega)
    refine g_op (by kernel_rfl) (op_val (run_bstr rfl rfl (bys_of (own_sl o5) List.length_replicate) List.length_replicate Tryd.underlying42 Tryd.underlying5 Tryd.underlying9) ?_)
    refine g_pure 1 ⟨#[.int .i64 (↑N : Int), .int .i64 4, undef, undef, .slice none 0 0, .slice p j c, .int .i64 (↑j : Int), .int .i64 (↑j : Int), .int .i64 (↑N : Int), .bool (decide ((↑j : Int) < (↑N : Int))), x1_10, x1_11, .slice p j c, .int .i64 (↑j : Int), .int .i64 (↑(3 * j) : Int), .slice (some ⟨b3, 0, none⟩) 6 6, .int .i64 4, .pointer (some ⟨b3, 4, none⟩), .int .i64 16, .slice (some ⟨b4, 0, none⟩) 16 16, .string ⟨(List.replicate 16 (0 : UInt8)).toArray⟩, .agg #[.int .i64 (↑(3 * j) : Int), .string ⟨(List.replicate 16 (0 : UInt8)).toArray⟩, .int .i64 0], x1_22, x1_23, undef], []⟩ (by kernel_rfl) ?_
    refine g_op (by kernel_rfl) (op_buildSlice 49 [.int .i64 (↑(3 * j) : Int), .string ⟨(List.replicate 16 (0 : UInt8)).toArray⟩, .int .i64 0] rfl (by kernel_rfl) ?_)
    intro b6 W6 n6
    have d6_b3 := n6.ne k3
    have g6 := n6.ge hB
    replace hB := Bl.next hB n6.below
    replace k3 := k3.below n6.below
    replace ho := own_below ho n6.below
    replace o5 := own_below o5 n6.below
    have k6 := n6.blk
    refine g_op (by kernel_rfl) (op_app (e := 49) (n := j) (xs := (someE 16 j).flatMap entC) (m := 1) (news := [.int .i64 (↑(3 * j) : Int), .string ⟨(List.replicate 16 (0 : UInt8)).toArray⟩, .int .i64 0]) (.agg #[.int .i64 0, .string ⟨#[]⟩, .int .i64 0]) 3 32 (j + 1) ((someE 16 (j + 1)).flatMap entC) rfl Tryd.underlying29 (by kernel_rfl) rfl (by decide) rfl ho rfl (k6.sl 1 1 (by decide) (by decide)) rfl (by simp [Value.oneCell']) (by unfold maxLen; omega) (by omega) (Nat.le_trans (Nat.le_refl _) hB.size) (by rfl) ((someE_succ 16 j).symm) ?_)
    intro p7 c7 W7 o7 hg7 hb7
    replace k3 := k3.grown hg7 ho (by decide)
    replace o5 := own_grown o5 hg7 ho (by decide)
    replace hB := hB.trans hb7
    refine g_pure 1 ⟨#[.int .i64 (↑N : Int), .int .i64 4, undef, undef, .slice none 0 0, .slice p7 (j + 1) c7, .int .i64 (↑j : Int), .int .i64 (↑j : Int), .int .i64 (↑N : Int), .bool (decide ((↑j : Int) < (↑N : Int))), x1_10, x1_11, .slice p j c, .int .i64 (↑j : Int), .int .i64 (↑(3 * j) : Int), .slice (some ⟨b3, 0, none⟩) 6 6, .int .i64 4, .pointer (some ⟨b3, 4, none⟩), .int .i64 16, .slice (some ⟨b4, 0, none⟩) 16 16, .string ⟨(List.replicate 16 (0 : UInt8)).toArray⟩, .agg #[.int .i64 (↑(3 * j) : Int), .string ⟨(List.replicate 16 (0 : UInt8)).toArray⟩, .int .i64 0], .slice (some ⟨b6, 0, none⟩) 1 1, .slice p7 (j + 1) c7, undef], []⟩ (by kernel_rfl) ?_
    refine wpList_nil ?_
    refine wp_region_lit ?_
    refine g_pure 1 ⟨#[.int .i64 (↑N : Int), .int .i64 4, undef, undef, .slice none 0 0, .slice p7 (j + 1) c7, .int .i64 (↑j : Int), .int .i64 (↑j : Int), .int .i64 (↑N : Int), .bool (decide ((↑j : Int) < (↑N : Int))), .int .i64 (↑j : Int), x1_11, .slice p j c, .int .i64 (↑j : Int), .int .i64 (↑(3 * j) : Int), .slice (some ⟨b3, 0, none⟩) 6 6, .int .i64 4, .pointer (some ⟨b3, 4, none⟩), .int .i64 16, .slice (some ⟨b4, 0, none⟩) 16 16, .string ⟨(List.replicate 16 (0 : UInt8)).toArray⟩, .agg #[.int .i64 (↑(3 * j) : Int), .string ⟨(List.replicate 16 (0 : UInt8)).toArray⟩, .int .i64 0], .slice (some ⟨b6, 0, none⟩) 1 1, .slice p7 (j + 1) c7, undef], []⟩ (by kernel_rfl) ?_
    refine g_op (by kernel_rfl) (op_val (run_wrap .i64 ((↑j : Int) + 1) (↑(j + 1) : Int) (by kernel_rfl) ((show IntKind.i64.wrap ((↑j : Int) + 1) = ((↑j : Int) + 1) from by first | exact IntWalk.i64_in _ (by omega) | (simp only [IntKind.wrap]; omega)).trans (by omega)) _) ?_)
    refine g_pure 1 ⟨#[.int .i64 (↑N : Int), .int .i64 4, undef, undef, .slice none 0 0, .slice p7 (j + 1) c7, .int .i64 (↑(j + 1) : Int), .int .i64 (↑j : Int), .int .i64 (↑N : Int), .bool (decide ((↑j : Int) < (↑N : Int))), .int .i64 (↑j : Int), .int .i64 (↑(j + 1) : Int), .slice p j c, .int .i64 (↑j : Int), .int .i64 (↑(3 * j) : Int), .slice (some ⟨b3, 0, none⟩) 6 6, .int .i64 4, .pointer (some ⟨b3, 4, none⟩), .int .i64 16, .slice (some ⟨b4, 0, none⟩) 16 16, .string ⟨(List.replicate 16 (0 : UInt8)).toArray⟩, .agg #[.int .i64 (↑(3 * j) : Int), .string ⟨(List.replicate 16 (0 : UInt8)).toArray⟩, .int .i64 0], .slice (some ⟨b6, 0, none⟩) 1 1, .slice p7 (j + 1) c7, undef], []⟩ (by kernel_rfl) ?_
    refine wpList_nil ?_
    refine g_nfr ⟨#[.int .i64 (↑N : Int), .int .i64 4, undef, undef, .slice none 0 0, .slice p7 (j + 1) c7, .int .i64 (↑(j + 1) : Int), .int .i64 (↑j : Int), .int .i64 (↑N : Int), .bool (decide ((↑j : Int) < (↑N : Int))), .int .i64 (↑j : Int), .int .i64 (↑(j + 1) : Int), .slice p j c, .int .i64 (↑j : Int), .int .i64 (↑(3 * j) : Int), .slice (some ⟨b3, 0, none⟩) 6 6, .int .i64 4, .pointer (some ⟨b3, 4, none⟩), .int .i64 16, .slice (some ⟨b4, 0, none⟩) 16 16, .string ⟨(List.replicate 16 (0 : UInt8)).toArray⟩, .agg #[.int .i64 (↑(3 * j) : Int), .string ⟨(List.replicate 16 (0 : UInt8)).toArray⟩, .int .i64 0], .slice (some ⟨b6, 0, none⟩) 1 1, .slice p7 (j + 1) c7, undef], []⟩ (by kernel_rfl) ?_
    refine ⟨⟨j + 1, _, _, _, _, _, _, _, _, _, _, _, _, _, _, _, _, _, _, _, rfl, hB, o7, by omega⟩, ?_⟩
    show N - ((↑(j + 1) : Int)).toNat < N - ((↑j : Int)).toNat
    omega
  · have hc2 := of_decide_eq_false hc2
    refine wp_exit ?_
    refine then_exit ?_
    refine then_exit ?_
    refine inBlock_hit ?_
    refine wp_seq ?_
    refine wp_region_lit ?_
    refine g_pure 2 ⟨#[.int .i64 (↑N : Int), .int .i64 4, undef, undef, .slice p j c, .slice p j c, .int .i64 (↑j : Int), .int .i64 (↑j : Int), .int .i64 (↑N : Int), .bool (decide ((↑j : Int) < (↑N : Int))), x1_10, x1_11, x1_12, x1_13, x1_14, x1_15, x1_16, x1_17, x1_18, x1_19, x1_20, x1_21, x1_22, x1_23, .slice p j c], []⟩ (by kernel_rfl) ?_
    refine wpList_nil ?_
    refine wp_ret ?_
    show bodyPost _ _ _ .ret _ _
    refine g_ret (.slice p j c) rfl (by kernel_rfl) ?_
    obtain rfl : j = N := by omega
    exact ⟨_, rfl, hB, _, _, rfl, ho⟩
set_option maxRecDepth 100000 in
set_option maxHeartbeats 4000000 in
theorem law17_some5 (N : Nat) (w : World) (hN : N ≤ 32768) :
    Calls Tryd.prog 7 #[.int .i64 (↑N : Int), .int .i64 5] w (RetS (fun w' r => ∃ p c, r = .slice p N c ∧ w'.ownsRow w.heap.size 49 3 (.slice p N c) N ((someE 4 N).flatMap entC)) w) := by
  refine calls_of_wp Tryd.func7 rfl ?_
  refine g_fr ⟨#[.int .i64 (↑N : Int), .int .i64 5, undef, undef, undef, undef, undef, undef, undef, undef, undef, undef, undef, undef, undef, undef, undef, undef, undef, undef, undef, undef, undef, undef, undef], []⟩ (by kernel_rfl) ?_
  refine wp_seq ?_
  refine wp_region_lit ?_
  refine g_pure 1 ⟨#[.int .i64 (↑N : Int), .int .i64 5, undef, undef, .slice none 0 0, undef, undef, undef, undef, undef, undef, undef, undef, undef, undef, undef, undef, undef, undef, undef, undef, undef, undef, undef, undef], []⟩ (by kernel_rfl) ?_
  refine wpList_nil ?_
  refine wp_seq ?_
  refine wp_region_lit ?_
  refine g_pure 1 ⟨#[.int .i64 (↑N : Int), .int .i64 5, undef, undef, .slice none 0 0, .slice none 0 0, undef, undef, undef, undef, undef, undef, undef, undef, undef, undef, undef, undef, undef, undef, undef, undef, undef, undef, undef], []⟩ (by kernel_rfl) ?_
  refine wpList_nil ?_
  refine wp_seq ?_
  refine wp_seq ?_
  refine wp_region_lit ?_
  refine g_pure 1 ⟨#[.int .i64 (↑N : Int), .int .i64 5, undef, undef, .slice none 0 0, .slice none 0 0, .int .i64 0, undef, undef, undef, undef, undef, undef, undef, undef, undef, undef, undef, undef, undef, undef, undef, undef, undef, undef], []⟩ (by kernel_rfl) ?_
  refine wpList_nil ?_
  refine wp_block ?_
  refine g_fr ⟨#[.int .i64 (↑N : Int), .int .i64 5, undef, undef, .slice none 0 0, .slice none 0 0, .int .i64 0, undef, undef, undef, undef, undef, undef, undef, undef, undef, undef, undef, undef, undef, undef, undef, undef, undef, undef], []⟩ (by kernel_rfl) ?_
  have hB := Below.refl w.heap.size w
  refine wp_loop (fun act V => ∃ (j : Nat) (p : Option Addr) (c : Nat) (x1_7 x1_8 x1_9 x1_10 x1_11 x1_12 x1_13 x1_14 x1_15 x1_16 x1_17 x1_18 x1_19 x1_20 x1_21 x1_22 x1_23 : Value), act = ⟨#[.int .i64 (↑N : Int), .int .i64 5, undef, undef, .slice none 0 0, .slice p j c, .int .i64 (↑j : Int), x1_7, x1_8, x1_9, x1_10, x1_11, x1_12, x1_13, x1_14, x1_15, x1_16, x1_17, x1_18, x1_19, x1_20, x1_21, x1_22, x1_23, undef], []⟩ ∧ Below w.heap.size w V ∧ V.ownsRow w.heap.size 49 3 (.slice p j c) j ((someE 4 j).flatMap entC) ∧ j ≤ N) (fun act V => N - ((intOf (act.tmps.getD 6 undef))).toNat) ⟨0, _, _, _, _, _, _, _, _, _, _, _, _, _, _, _, _, _, _, _, rfl, hB, World.ownsRow_nil _ _ _ _, Nat.zero_le _⟩ ?_
  rintro _ W1 ⟨j, p, c, x1_7, x1_8, x1_9, x1_10, x1_11, x1_12, x1_13, x1_14, x1_15, x1_16, x1_17, x1_18, x1_19, x1_20, x1_21, x1_22, x1_23, rfl, hB, ho, hj⟩
  refine wp_seq ?_
  refine wp_seq ?_
  refine wp_region_lit ?_
  refine g_pure 3 ⟨#[.int .i64 (↑N : Int), .int .i64 5, undef, undef, .slice none 0 0, .slice p j c, .int .i64 (↑j : Int), .int .i64 (↑j : Int), .int .i64 (↑N : Int), .bool (decide ((↑j : Int) < (↑N : Int))), x1_10, x1_11, x1_12, x1_13, x1_14, x1_15, x1_16, x1_17, x1_18, x1_19, x1_20, x1_21, x1_22, x1_23, undef], []⟩ (by kernel_rfl) ?_
  refine wpList_nil ?_
  refine wp_cond_split (t := decide ((↑j : Int) < (↑N : Int))) rfl (fun hc2 => ?_) (fun hc2 => ?_)
  · have hc2 := of_decide_eq_true hc2
    refine wp_skip ?_
    refine wp_seq ?_
    refine wp_block ?_
    refine wp_region_lit ?_
    refine g_pure 2 ⟨#[.int .i64 (↑N : Int), .int .i64 5, undef, undef, .slice none 0 0, .slice p j c, .int .i64 (↑j : Int), .int .i64 (↑j : Int), .int .i64 (↑N : Int), .bool (decide ((↑j : Int) < (↑N : Int))), x1_10, x1_11, .slice p j c, .int .i64 (↑j : Int), x1_14, x1_15, x1_16, x1_17, x1_18, x1_19, x1_20, x1_21, x1_22, x1_23, undef], []⟩ (by kernel_rfl) ?_
    refine g_op (by kernel_rfl) (op_val (run_wrap .i64 (3 * (↑j : Int)) (↑(3 * j) : Int) (by kernel_rfl) ((show IntKind.i64.wrap (3 * (↑j : Int)) = (3 * (↑j : Int)) from by first | exact IntWalk.i64_in _ (by omega) | (simp only [IntKind.wrap]; omega)).trans (by omega)) _) ?_)
    refine g_op (by kernel_rfl) (op_buildSlice 3 [.int .i64 0, .int .i64 4, .int .i64 8, .int .i64 24, .int .i64 16, .int .i64 4] rfl (by kernel_rfl) ?_)
    intro b3 W3 n3
    have g3 := n3.ge hB
    replace hB := Bl.next hB n3.below
    replace ho := own_below ho n3.below
    have k3 := n3.blk
    refine g_pure 2 ⟨#[.int .i64 (↑N : Int), .int .i64 5, undef, undef, .slice none 0 0, .slice p j c, .int .i64 (↑j : Int), .int .i64 (↑j : Int), .int .i64 (↑N : Int), .bool (decide ((↑j : Int) < (↑N : Int))), x1_10, x1_11, .slice p j c, .int .i64 (↑j : Int), .int .i64 (↑(3 * j) : Int), .slice (some ⟨b3, 0, none⟩) 6 6, .int .i64 5, .pointer (some ⟨b3, 5, none⟩), x1_18, x1_19, x1_20, x1_21, x1_22, x1_23, undef], []⟩ (by kernel_rfl) ?_
    refine g_op (by kernel_rfl) (op_load _ (.int .i64 4) rfl rfl (by kernel_rfl) (k3.cell (i := 5) rfl) ?_)
    refine g_op (by kernel_rfl) (op_make 4 (.int .u8 0) 1 1 ((List.replicate 4 (0 : UInt8)).map bv) rfl rfl rfl Tryd.underlying42 (by kernel_rfl) rfl (by omega) (by omega) (zerosB 4) ?_)
    intro b4 W4 n4
    have d4_b3 := n4.ne k3
    have g4 := n4.ge hB
    replace hB := Bl.next hB n4.below
    replace k3 := k3.below n4.below
    replace ho := own_below ho n4.below
    have k4 := n4.blk
    have o5 := own_of_blk (size := 1) (n := 4) k4 g4 (by rw [List.length_map, List.length_replicate]) (by unfold maxLen; omega)
    refine g_op (by kernel_rfl) (op_val (run_bstr rfl rfl (bys_of (own_sl o5) List.length_replicate) List.length_replicate Tryd.underlying42 Tryd.underlying5 Tryd.underlying9) ?_)
    refine g_pure 1 ⟨#[.int .i64 (↑N : Int), .int .i64 5, undef, undef, .slice none 0 0, .slice p j c, .int .i64 (↑j : Int), .int .i64 (↑j : Int), .int .i64 (↑N : Int), .bool (decide ((↑j : Int) < (↑N : Int))), x1_10, x1_11, .slice p j c, .int .i64 (↑j : Int), .int .i64 (↑(3 * j) : Int), .slice (some ⟨b3, 0, none⟩) 6 6, .int .i64 5, .pointer (some ⟨b3, 5, none⟩), .int .i64 4, .slice (some ⟨b4, 0, none⟩) 4 4, .string ⟨(List.replicate 4 (0 : UInt8)).toArray⟩, .agg #[.int .i64 (↑(3 * j) : Int), .string ⟨(List.replicate 4 (0 : UInt8)).toArray⟩, .int .i64 0], x1_22, x1_23, undef], []⟩ (by kernel_rfl) ?_
    refine g_op (by kernel_rfl) (op_buildSlice 49 [.int .i64 (↑(3 * j) : Int), .string ⟨(List.replicate 4 (0 : UInt8)).toArray⟩, .int .i64 0] rfl (by kernel_rfl) ?_)
    intro b6 W6 n6
    have d6_b3 := n6.ne k3
    have g6 := n6.ge hB
    replace hB := Bl.next hB n6.below
    replace k3 := k3.below n6.below
    replace ho := own_below ho n6.below
    replace o5 := own_below o5 n6.below
    have k6 := n6.blk
    refine g_op (by kernel_rfl) (op_app (e := 49) (n := j) (xs := (someE 4 j).flatMap entC) (m := 1) (news := [.int .i64 (↑(3 * j) : Int), .string ⟨(List.replicate 4 (0 : UInt8)).toArray⟩, .int .i64 0]) (.agg #[.int .i64 0, .string ⟨#[]⟩, .int .i64 0]) 3 32 (j + 1) ((someE 4 (j + 1)).flatMap entC) rfl Tryd.underlying29 (by kernel_rfl) rfl (by decide) rfl ho rfl (k6.sl 1 1 (by decide) (by decide)) rfl (by simp [Value.oneCell']) (by unfold maxLen; omega) (by omega) (Nat.le_trans (Nat.le_refl _) hB.size) (by rfl) ((someE_succ 4 j).symm) ?_)
    intro p7 c7 W7 o7 hg7 hb7
    replace k3 := k3.grown hg7 ho (by decide)
    replace o5 := own_grown o5 hg7 ho (by decide)
    replace hB := hB.trans hb7
    refine g_pure 1 ⟨#[.int .i64 (↑N : Int), .int .i64 5, undef, undef, .slice none 0 0, .slice p7 (j + 1) c7, .int .i64 (↑j : Int), .int .i64 (↑j : Int), .int .i64 (↑N : Int), .bool (decide ((↑j : Int) < (↑N : Int))), x1_10, x1_11, .slice p j c, .int .i64 (↑j : Int), .int .i64 (↑(3 * j) : Int), .slice (some ⟨b3, 0, none⟩) 6 6, .int .i64 5, .pointer (some ⟨b3, 5, none⟩), .int .i64 4, .slice (some ⟨b4, 0, none⟩) 4 4, .string ⟨(List.replicate 4 (0 : UInt8)).toArray⟩, .agg #[.int .i64 (↑(3 * j) : Int), .string ⟨(List.replicate 4 (0 : UInt8)).toArray⟩, .int .i64 0], .slice (some ⟨b6, 0, none⟩) 1 1, .slice p7 (j + 1) c7, undef], []⟩ (by kernel_rfl) ?_
    refine wpList_nil ?_
    refine wp_region_lit ?_
    refine g_pure 1 ⟨#[.int .i64 (↑N : Int), .int .i64 5, undef, undef, .slice none 0 0, .slice p7 (j + 1) c7, .int .i64 (↑j : Int), .int .i64 (↑j : Int), .int .i64 (↑N : Int), .bool (decide ((↑j : Int) < (↑N : Int))), .int .i64 (↑j : Int), x1_11, .slice p j c, .int .i64 (↑j : Int), .int .i64 (↑(3 * j) : Int), .slice (some ⟨b3, 0, none⟩) 6 6, .int .i64 5, .pointer (some ⟨b3, 5, none⟩), .int .i64 4, .slice (some ⟨b4, 0, none⟩) 4 4, .string ⟨(List.replicate 4 (0 : UInt8)).toArray⟩, .agg #[.int .i64 (↑(3 * j) : Int), .string ⟨(List.replicate 4 (0 : UInt8)).toArray⟩, .int .i64 0], .slice (some ⟨b6, 0, none⟩) 1 1, .slice p7 (j + 1) c7, undef], []⟩ (by kernel_rfl) ?_
    refine g_op (by kernel_rfl) (op_val (run_wrap .i64 ((↑j : Int) + 1) (↑(j + 1) : Int) (by kernel_rfl) ((show IntKind.i64.wrap ((↑j : Int) + 1) = ((↑j : Int) + 1) from by first | exact IntWalk.i64_in _ (by omega) | (simp only [IntKind.wrap]; omega)).trans (by omega)) _) ?_)
    refine g_pure 1 ⟨#[.int .i64 (↑N : Int), .int .i64 5, undef, undef, .slice none 0 0, .slice p7 (j + 1) c7, .int .i64 (↑(j + 1) : Int), .int .i64 (↑j : Int), .int .i64 (↑N : Int), .bool (decide ((↑j : Int) < (↑N : Int))), .int .i64 (↑j : Int), .int .i64 (↑(j + 1) : Int), .slice p j c, .int .i64 (↑j : Int), .int .i64 (↑(3 * j) : Int), .slice (some ⟨b3, 0, none⟩) 6 6, .int .i64 5, .pointer (some ⟨b3, 5, none⟩), .int .i64 4, .slice (some ⟨b4, 0, none⟩) 4 4, .string ⟨(List.replicate 4 (0 : UInt8)).toArray⟩, .agg #[.int .i64 (↑(3 * j) : Int), .string ⟨(List.replicate 4 (0 : UInt8)).toArray⟩, .int .i64 0], .slice (some ⟨b6, 0, none⟩) 1 1, .slice p7 (j + 1) c7, undef], []⟩ (by kernel_rfl) ?_
    refine wpList_nil ?_
    refine g_nfr ⟨#[.int .i64 (↑N : Int), .int .i64 5, undef, undef, .slice none 0 0, .slice p7 (j + 1) c7, .int .i64 (↑(j + 1) : Int), .int .i64 (↑j : Int), .int .i64 (↑N : Int), .bool (decide ((↑j : Int) < (↑N : Int))), .int .i64 (↑j : Int), .int .i64 (↑(j + 1) : Int), .slice p j c, .int .i64 (↑j : Int), .int .i64 (↑(3 * j) : Int), .slice (some ⟨b3, 0, none⟩) 6 6, .int .i64 5, .pointer (some ⟨b3, 5, none⟩), .int .i64 4, .slice (some ⟨b4, 0, none⟩) 4 4, .string ⟨(List.replicate 4 (0 : UInt8)).toArray⟩, .agg #[.int .i64 (↑(3 * j) : Int), .string ⟨(List.replicate 4 (0 : UInt8)).toArray⟩, .int .i64 0], .slice (some ⟨b6, 0, none⟩) 1 1, .slice p7 (j + 1) c7, undef], []⟩ (by kernel_rfl) ?_
    refine ⟨⟨j + 1, _, _, _, _, _, _, _, _, _, _, _, _, _, _, _, _, _, _, _, rfl, hB, o7, by omega⟩, ?_⟩
    show N - ((↑(j + 1) : Int)).toNat < N - ((↑j : Int)).toNat
    omega
  · have hc2 := of_decide_eq_false hc2
    refine wp_exit ?_
    refine then_exit ?_
    refine then_exit ?_
    refine inBlock_hit ?_
    refine wp_seq ?_
    refine wp_region_lit ?_
    refine g_pure 2 ⟨#[.int .i64 (↑N : Int), .int .i64 5, undef, undef, .slice p j c, .slice p j c, .int .i64 (↑j : Int), .int .i64 (↑j : Int), .int .i64 (↑N : Int), .bool (decide ((↑j : Int) < (↑N : Int))), x1_10, x1_11, x1_12, x1_13, x1_14, x1_15, x1_16, x1_17, x1_18, x1_19, x1_20, x1_21, x1_22, x1_23, .slice p j c], []⟩ (by kernel_rfl) ?_
    refine wpList_nil ?_
    refine wp_ret ?_
    show bodyPost _ _ _ .ret _ _
    refine g_ret (.slice p j c) rfl (by kernel_rfl) ?_
    obtain rfl : j = N := by omega
    exact ⟨_, rfl, hB, _, _, rfl, ho⟩
end Go.Proofs.YtlmogdjcnbjhfaaDoor

