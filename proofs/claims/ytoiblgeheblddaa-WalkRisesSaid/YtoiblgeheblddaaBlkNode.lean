/- block.Node, whatever lies in the image. -/
import Derived.Test.YtoiblgeheblddaaRdNode
import Derived.Test.YtoiblgeheblddaaRdImg
namespace Go.Proofs.Ytoiblgeheblddaa
open Go.RowKit Go.Extern.Stop Go.Stop Go.Extern
set_option linter.unusedVariables false
attribute [local irreducible] wpList wpAnyH Code.wp Oper.wp

theorem seal_OpenN (kind no : Int) (a : Option Addr) (n c : Nat) (l : List UInt8) (w : World) (hn : l.length = n) (h : Bys w (.slice a n c) l) : Calls Try.prog 35 #[.slice a n c, .int .i64 kind, .int .i64 no] w (OpenP kind no l w) := by
  subst hn; exact seal_Open kind no a c l w h
/-- a node, asked as a tree's: the error's number -/
def nodeTE (l : List UInt8) (tree : Int) : Int := if nodeE l = 0 then (if tree = 0 ∨ nodT l = tree then 0 else 6) else nodeE l
/-- what package block has for a node -/
def nodeErr (l : List UInt8) (no tree : Int) : Int := if inE l 2 no = 0 then nodeTE (inB l no) tree else inE l 2 no
def nodeV (l : List UInt8) (kp vp : Option Addr) (kc vc : Nat) : Value := .agg #[.int .i64 (nodT l), .bool (nodL l), .slice kp (nodC l) kc, .slice vp (nodC l) vc]
def Node1P (l : List UInt8) (tree : Int) (w : World) (e : Ending) (w' : World) : Prop :=
  (nodeTE l tree ≠ 0 ∧ ∃ a b kp n1 kc vp n2 vc, e = .returned (.tuple #[.agg #[.int .i64 a, .bool b, .slice kp n1 kc, .slice vp n2 vc], .int .i64 (nodeTE l tree)]) ∧ Below w.heap.size w w') ∨
  (nodeTE l tree = 0 ∧ ∃ kp kc vp vc, e = .returned (.tuple #[.agg #[.int .i64 (nodT l), .bool (nodL l), .slice kp (nodC l) kc, .slice vp (nodC l) vc], .int .i64 0]) ∧ Below w.heap.size w w' ∧
    w'.ownsRow w.heap.size 3 1 (.slice kp (nodC l) kc) (nodC l) ((keysI l (nodC l)).map (Value.int .i64)) ∧ w'.ownsRow w.heap.size 9 1 (.slice vp (nodC l) vc) (nodC l) ((valsL l (nodC l)).map sv))
def BlkNodeP (l : List UInt8) (no tree : Int) (w : World) (e : Ending) (w' : World) : Prop :=
  (nodeErr l no tree ≠ 0 ∧ ∃ b, e = .returned (.tuple #[.agg #[.int .i64 0, .bool false, .slice none 0 0, .slice none 0 0], .iface 61 (.pointer (some ⟨b, 0, none⟩))]) ∧ Below w.heap.size w w' ∧ ErrV w' [some no] (some (nodeErr l no tree)) (.iface 61 (.pointer (some ⟨b, 0, none⟩)))) ∨
  (nodeErr l no tree = 0 ∧ ∃ kp kc vp vc, e = .returned (.tuple #[.agg #[.int .i64 (nodT (inB l no)), .bool (nodL (inB l no)), .slice kp (nodC (inB l no)) kc, .slice vp (nodC (inB l no)) vc], .nilIface]) ∧ Below w.heap.size w w' ∧
    w'.ownsRow w.heap.size 3 1 (.slice kp (nodC (inB l no)) kc) (nodC (inB l no)) ((keysI (inB l no) (nodC (inB l no))).map (Value.int .i64)) ∧ w'.ownsRow w.heap.size 9 1 (.slice vp (nodC (inB l no)) vc) (nodC (inB l no)) ((valsL (inB l no) (nodC (inB l no))).map sv))
set_option maxRecDepth 100000 in
set_option maxHeartbeats 1000000 in
theorem node_1 (tree : Int) (bt : Nat) (a : Option Addr) (c : Nat) (l : List UInt8) (w : World) (kt : Blk w bt [.int .i64 tree] 3) (hl : l.length = 244) (h : Bys w (.slice a 244 c) l) :
    Calls Try.prog 16 #[.slice a 244 c, .pointer (some ⟨bt, 0, none⟩)] w (Node1P l tree w) := by
  refine calls_of_wp Try.func16 rfl ?_
  refine g_fr ⟨#[.slice a 244 c, .pointer (some ⟨bt, 0, none⟩), undef, undef, undef, undef, undef, undef, undef, undef, undef, undef, undef, undef, undef, undef, undef, undef, undef, undef, undef, undef, undef, undef, undef, undef, undef], []⟩ (by kernel_rfl) ?_
  refine wp_seq ?_
  refine wp_region_lit ?_
  refine g_op (by kernel_rfl) (op_alloc [.int .i64 0, .bool false, .slice none 0 0, .slice none 0 0] rfl (by kernel_rfl) ?_)
  intro b1 W1 n1
  have d1_bt := n1.ne kt
  have g1 := n1.ge (Below.refl w.heap.size _)
  have hB := n1.below
  replace kt := kt.below n1.below
  have k1 := n1.blk
  refine g_pv 1 [(4, .int .i64 0)] (by kernel_rfl) ?_
  refine wpList_nil ?_
  refine wp_seq ?_
  refine wp_region_lit ?_
  refine g_pv 1 [(8, .slice a 244 c)] (by kernel_rfl) ?_
  have hs2 : w.heap.size ≤ (W1).heap.size := hB.size
  refine g_op (by kernel_rfl) (op_call (lb := #[]) 17 #[.slice a 244 c] rfl (by kernel_rfl) (fun _ _ => by kernel_rfl) (by kernel_rfl) ((node_Read a c l _ hl (h.below hB)).mono ?_))
  rintro e W2 hq2
  rcases hq2 with ⟨hz, rfl, hb2⟩ | ⟨hz, kp, kc, vp, vc, rfl, hb2, hk, hv_⟩
  · refine ⟨_, rfl, ?_⟩
    replace hB := Bl.next hB hb2
    replace kt := kt.below hb2
    replace k1 := k1.below hb2
    refine g_pv 3 [(7, .tuple #[.agg #[.int .i64 0, .bool false, .slice none 0 0, .slice none 0 0], .int .i64 (nodeE l)]), (10, .agg #[.int .i64 0, .bool false, .slice none 0 0, .slice none 0 0]), (11, .int .i64 (nodeE l))] (by kernel_rfl) ?_
    refine g_op (by kernel_rfl) (op_alloc [.int .i64 0, .bool false, .slice none 0 0, .slice none 0 0] rfl (by kernel_rfl) ?_)
    intro b3 W3 n3
    have d3_bt := n3.ne kt
    have d3_b1 := n3.ne k1
    have g3 := n3.ge hB
    replace hB := Bl.next hB n3.below
    replace kt := kt.below n3.below
    replace k1 := k1.below n3.below
    have k3 := n3.blk
    refine g_op (by kernel_rfl) (op_storev (b := b3) (off := 0) [.int .i64 0, .bool false, .slice none 0 0, .slice none 0 0] rfl (by kernel_rfl) (by kernel_rfl) (by kernel_rfl) (by first | decide | simp [Value.oneCell']) k3 (by first | decide | simp) ?_)
    intro W4 u4 k4
    change Blk _ _ [.int .i64 0, .bool false, .slice none 0 0, .slice none 0 0] _ at k4
    replace hB := u4.below hB g3
    replace kt := u4.blk kt (Ne.symm (Ne.symm d3_bt))
    replace k1 := u4.blk k1 (Ne.symm (Ne.symm d3_b1))
    refine g_pv 1 [(6, .int .i64 (nodeE l))] (by kernel_rfl) ?_
    refine wpList_nil ?_
    refine wp_seq ?_
    refine wp_seq ?_
    refine wp_region_lit ?_
    refine g_pv 3 [(12, .int .i64 (nodeE l)), (13, .bool ((nodeE l) == (0 : Int))), (14, .bool ((nodeE l) == (0 : Int)))] (by kernel_rfl) ?_
    have hc5 : (((nodeE l) == (0 : Int)) : Bool) = false := beq_false_of_ne hz
    refine g_b [13, 14] _ _ hc5 (by kernel_rfl) ?_
    refine g_pv 9 [(15, undef), (16, undef), (17, .bool false), (18, .bool false), (19, undef), (20, undef), (21, undef), (22, undef), (23, .bool false)] (by kernel_rfl) ?_
    refine wpList_nil ?_
    refine wp_cond_false (by kernel_rfl) ?_
    refine wp_skip ?_
    refine wp_seq ?_
    refine wp_region_lit ?_
    refine g_op (by kernel_rfl) (op_loadv (b := b3) (off := 0) [.int .i64 0, .bool false, .slice none 0 0, .slice none 0 0] _ rfl (by kernel_rfl) Try.underlying36 rfl (by kernel_rfl) k4.whole ?_)
    refine g_pv 1 [(26, .int .i64 (nodeE l))] (by kernel_rfl) ?_
    refine g_op (by kernel_rfl) (op_storev (b := b1) (off := 0) [.int .i64 0, .bool false, .slice none 0 0, .slice none 0 0] rfl (by kernel_rfl) (by kernel_rfl) (by kernel_rfl) (by first | decide | simp [Value.oneCell']) k1 (by first | decide | simp) ?_)
    intro W6 u6 k6
    change Blk _ _ [.int .i64 0, .bool false, .slice none 0 0, .slice none 0 0] _ at k6
    replace hB := u6.below hB g1
    replace kt := u6.blk kt (Ne.symm (Ne.symm d1_bt))
    replace k4 := u6.blk k4 (Ne.symm d3_b1)
    refine g_pv 1 [(4, .int .i64 (nodeE l))] (by kernel_rfl) ?_
    refine wpList_nil ?_
    refine wp_ret ?_
    exact g_ret (.tuple #[.agg #[.int .i64 0, .bool false, .slice none 0 0, .slice none 0 0], .int .i64 (nodeE l)]) (by kernel_rfl) (res_ct (d := _) (cs := [.int .i64 0, .bool false, .slice none 0 0, .slice none 0 0]) rfl (by kernel_rfl) (by kernel_rfl) k6.whole Try.underlying36 rfl (by kernel_rfl)) (.inl ⟨by unfold nodeTE; rw [if_neg hz]; exact hz, _, _, _, _, _, _, _, _, by unfold nodeTE; rw [if_neg hz], hB⟩)
  · refine ⟨_, rfl, ?_⟩
    replace hB := Bl.next hB hb2
    replace kt := kt.below hb2
    replace k1 := k1.below hb2
    replace hk := own_mono hk hs2
    replace hv_ := own_mono hv_ hs2
    refine g_pv 3 [(7, .tuple #[.agg #[.int .i64 (nodT l), .bool (nodL l), .slice kp (nodC l) kc, .slice vp (nodC l) vc], .int .i64 0]), (10, .agg #[.int .i64 (nodT l), .bool (nodL l), .slice kp (nodC l) kc, .slice vp (nodC l) vc]), (11, .int .i64 0)] (by kernel_rfl) ?_
    refine g_op (by kernel_rfl) (op_alloc [.int .i64 0, .bool false, .slice none 0 0, .slice none 0 0] rfl (by kernel_rfl) ?_)
    intro b7 W7 n7
    have d7_bt := n7.ne kt
    have d7_b1 := n7.ne k1
    have g7 := n7.ge hB
    replace hB := Bl.next hB n7.below
    replace kt := kt.below n7.below
    replace k1 := k1.below n7.below
    replace hk := own_below hk n7.below
    replace hv_ := own_below hv_ n7.below
    have k7 := n7.blk
    refine g_op (by kernel_rfl) (op_storev (b := b7) (off := 0) [.int .i64 (nodT l), .bool (nodL l), .slice kp (nodC l) kc, .slice vp (nodC l) vc] rfl (by kernel_rfl) (by kernel_rfl) (by kernel_rfl) (by first | decide | simp [Value.oneCell']) k7 (by first | decide | simp) ?_)
    intro W8 u8 k8
    change Blk _ _ [.int .i64 (nodT l), .bool (nodL l), .slice kp (nodC l) kc, .slice vp (nodC l) vc] _ at k8
    replace hB := u8.below hB g7
    replace kt := u8.blk kt (Ne.symm (Ne.symm d7_bt))
    replace k1 := u8.blk k1 (Ne.symm (Ne.symm d7_b1))
    replace hk := u8.own2 hk k7 (by decide)
    replace hv_ := u8.own2 hv_ k7 (by decide)
    refine g_pv 1 [(6, .int .i64 0)] (by kernel_rfl) ?_
    refine wpList_nil ?_
    refine wp_seq ?_
    refine wp_seq ?_
    refine wp_region_lit ?_
    refine g_pv 3 [(12, .int .i64 0), (13, .bool true), (14, .bool true)] (by kernel_rfl) ?_
    refine g_op (by kernel_rfl) (op_load ⟨bt, 0, none⟩ (.int .i64 tree) rfl (by kernel_rfl) (by kernel_rfl) (kt.cell (i := 0) rfl) ?_)
    refine g_pv 3 [(16, .bool (tree != (0 : Int))), (17, .bool (tree != (0 : Int))), (18, .bool (tree != (0 : Int)))] (by kernel_rfl) ?_
    rcases Bool.eq_false_or_eq_true (tree != (0 : Int)) with hc9 | hc9
    · refine g_b [16, 17, 18] _ _ hc9 (by kernel_rfl) ?_
      have hc9 := ne_of_bne hc9
      refine g_pv 1 [(19, .pointer (some ⟨b7, 0, none⟩))] (by kernel_rfl) ?_
      refine g_op (by kernel_rfl) (op_load ⟨b7, 0, none⟩ (.int .i64 (nodT l)) rfl (by kernel_rfl) (by kernel_rfl) (k8.cell (i := 0) rfl) ?_)
      refine g_op (by kernel_rfl) (op_load ⟨bt, 0, none⟩ (.int .i64 tree) rfl (by kernel_rfl) (by kernel_rfl) (kt.cell (i := 0) rfl) ?_)
      refine g_pv 2 [(22, .bool ((nodT l) != tree)), (23, .bool ((nodT l) != tree))] (by kernel_rfl) ?_
      refine wpList_nil ?_
      refine wp_cond_split (t := ((nodT l) != tree)) (by kernel_rfl) (fun hc10 => ?_) (fun hc10 => ?_)
      · have hc10 := ne_of_bne hc10
        refine wp_seq ?_
        refine wp_region_lit ?_
        refine g_op (by kernel_rfl) (op_loadv (b := b7) (off := 0) [.int .i64 (nodT l), .bool (nodL l), .slice kp (nodC l) kc, .slice vp (nodC l) vc] _ rfl (by kernel_rfl) Try.underlying36 rfl (by kernel_rfl) k8.whole ?_)
        refine g_op (by kernel_rfl) (op_storev (b := b1) (off := 0) [.int .i64 (nodT l), .bool (nodL l), .slice kp (nodC l) kc, .slice vp (nodC l) vc] rfl (by kernel_rfl) (by kernel_rfl) (by kernel_rfl) (by first | decide | simp [Value.oneCell']) k1 (by first | decide | simp) ?_)
        intro W11 u11 k11
        change Blk _ _ [.int .i64 (nodT l), .bool (nodL l), .slice kp (nodC l) kc, .slice vp (nodC l) vc] _ at k11
        replace hB := u11.below hB g1
        replace kt := u11.blk kt (Ne.symm (Ne.symm d1_bt))
        replace k8 := u11.blk k8 (Ne.symm d7_b1)
        replace hk := u11.own2 hk k1 (by decide)
        replace hv_ := u11.own2 hv_ k1 (by decide)
        refine g_pv 1 [(4, .int .i64 6)] (by kernel_rfl) ?_
        refine wpList_nil ?_
        refine wp_ret (then_ret ?_)
        exact g_ret (.tuple #[.agg #[.int .i64 (nodT l), .bool (nodL l), .slice kp (nodC l) kc, .slice vp (nodC l) vc], .int .i64 6]) (by kernel_rfl) (res_ct (d := _) (cs := [.int .i64 (nodT l), .bool (nodL l), .slice kp (nodC l) kc, .slice vp (nodC l) vc]) rfl (by kernel_rfl) (by kernel_rfl) k11.whole Try.underlying36 rfl (by kernel_rfl)) (.inl ⟨by unfold nodeTE; rw [if_pos hz, if_neg (by omega)]; decide, _, _, _, _, _, _, _, _, by unfold nodeTE; rw [if_pos hz, if_neg (by omega)], hB⟩)
      · have hc10 := eq_of_bne_false hc10
        refine wp_skip ?_
        refine wp_seq ?_
        refine wp_region_lit ?_
        refine g_op (by kernel_rfl) (op_loadv (b := b7) (off := 0) [.int .i64 (nodT l), .bool (nodL l), .slice kp (nodC l) kc, .slice vp (nodC l) vc] _ rfl (by kernel_rfl) Try.underlying36 rfl (by kernel_rfl) k8.whole ?_)
        refine g_pv 1 [(26, .int .i64 0)] (by kernel_rfl) ?_
        refine g_op (by kernel_rfl) (op_storev (b := b1) (off := 0) [.int .i64 (nodT l), .bool (nodL l), .slice kp (nodC l) kc, .slice vp (nodC l) vc] rfl (by kernel_rfl) (by kernel_rfl) (by kernel_rfl) (by first | decide | simp [Value.oneCell']) k1 (by first | decide | simp) ?_)
        intro W12 u12 k12
        change Blk _ _ [.int .i64 (nodT l), .bool (nodL l), .slice kp (nodC l) kc, .slice vp (nodC l) vc] _ at k12
        replace hB := u12.below hB g1
        replace kt := u12.blk kt (Ne.symm (Ne.symm d1_bt))
        replace k8 := u12.blk k8 (Ne.symm d7_b1)
        replace hk := u12.own2 hk k1 (by decide)
        replace hv_ := u12.own2 hv_ k1 (by decide)
        refine g_pv 1 [(4, .int .i64 0)] (by kernel_rfl) ?_
        refine wpList_nil ?_
        refine wp_ret ?_
        exact g_ret (.tuple #[.agg #[.int .i64 (nodT l), .bool (nodL l), .slice kp (nodC l) kc, .slice vp (nodC l) vc], .int .i64 0]) (by kernel_rfl) (res_ct (d := _) (cs := [.int .i64 (nodT l), .bool (nodL l), .slice kp (nodC l) kc, .slice vp (nodC l) vc]) rfl (by kernel_rfl) (by kernel_rfl) k12.whole Try.underlying36 rfl (by kernel_rfl)) (.inr ⟨by unfold nodeTE; rw [if_pos hz, if_pos (by omega)], _, _, _, _, rfl, hB, hk, hv_⟩)
    · refine g_b [16, 17, 18] _ _ hc9 (by kernel_rfl) ?_
      have hc9 := eq_of_bne_false hc9
      refine g_pv 5 [(19, undef), (20, undef), (21, undef), (22, undef), (23, .bool false)] (by kernel_rfl) ?_
      refine wpList_nil ?_
      refine wp_cond_false (by kernel_rfl) ?_
      refine wp_skip ?_
      refine wp_seq ?_
      refine wp_region_lit ?_
      refine g_op (by kernel_rfl) (op_loadv (b := b7) (off := 0) [.int .i64 (nodT l), .bool (nodL l), .slice kp (nodC l) kc, .slice vp (nodC l) vc] _ rfl (by kernel_rfl) Try.underlying36 rfl (by kernel_rfl) k8.whole ?_)
      refine g_pv 1 [(26, .int .i64 0)] (by kernel_rfl) ?_
      refine g_op (by kernel_rfl) (op_storev (b := b1) (off := 0) [.int .i64 (nodT l), .bool (nodL l), .slice kp (nodC l) kc, .slice vp (nodC l) vc] rfl (by kernel_rfl) (by kernel_rfl) (by kernel_rfl) (by first | decide | simp [Value.oneCell']) k1 (by first | decide | simp) ?_)
      intro W13 u13 k13
      change Blk _ _ [.int .i64 (nodT l), .bool (nodL l), .slice kp (nodC l) kc, .slice vp (nodC l) vc] _ at k13
      replace hB := u13.below hB g1
      replace kt := u13.blk kt (Ne.symm (Ne.symm d1_bt))
      replace k8 := u13.blk k8 (Ne.symm d7_b1)
      replace hk := u13.own2 hk k1 (by decide)
      replace hv_ := u13.own2 hv_ k1 (by decide)
      refine g_pv 1 [(4, .int .i64 0)] (by kernel_rfl) ?_
      refine wpList_nil ?_
      refine wp_ret ?_
      exact g_ret (.tuple #[.agg #[.int .i64 (nodT l), .bool (nodL l), .slice kp (nodC l) kc, .slice vp (nodC l) vc], .int .i64 0]) (by kernel_rfl) (res_ct (d := _) (cs := [.int .i64 (nodT l), .bool (nodL l), .slice kp (nodC l) kc, .slice vp (nodC l) vc]) rfl (by kernel_rfl) (by kernel_rfl) k13.whole Try.underlying36 rfl (by kernel_rfl)) (.inr ⟨by unfold nodeTE; rw [if_pos hz, if_pos (by omega)], _, _, _, _, rfl, hB, hk, hv_⟩)
set_option maxRecDepth 100000 in
set_option maxHeartbeats 1000000 in
theorem readNode (B b : Nat) (p : Option Addr) (n c : Nat) (l : List UInt8) (no tree : Int) (w : World) (hI : ImgR B b p n c l w) (bt : Nat) (kt : Blk w bt [.int .i64 tree] 3) :
    Calls Try.prog 15 #[.pointer (some ⟨b, 0, none⟩), .int .i64 no, .int .i64 2, .func (.func 16) #[] #[.pointer (some ⟨bt, 0, none⟩)]] w (BlkNodeP l no tree w) := by
  refine calls_of_wp Try.func15 rfl ?_
  refine g_fr ⟨#[.pointer (some ⟨b, 0, none⟩), .int .i64 no, .int .i64 2, .func (.func 16) #[] #[.pointer (some ⟨bt, 0, none⟩)], undef, undef, undef, undef, undef, undef, undef, undef, undef, undef, undef, undef, undef, undef, undef, undef, undef, undef, undef, undef, undef, undef, undef, undef, undef, undef, undef, undef, undef, undef, undef, undef, undef, undef, undef, undef, undef, undef, undef, undef, undef, undef, undef, undef, undef, undef, undef, undef, undef, undef, undef, undef], []⟩ (by kernel_rfl) ?_
  refine wp_seq ?_
  refine wp_region_lit ?_
  refine g_op (by kernel_rfl) (op_alloc [.int .i64 0, .bool false, .slice none 0 0, .slice none 0 0] rfl (by kernel_rfl) ?_)
  intro b1 W1 n1
  have g1 := n1.ge (Below.refl w.heap.size _)
  have hB := n1.below
  have k1 := n1.blk
  refine g_pv 1 [(9, .nilIface)] (by kernel_rfl) ?_
  refine wpList_nil ?_
  refine wp_seq ?_
  refine wp_region_lit ?_
  refine g_op (by kernel_rfl) (op_alloc [.int .i64 0, .bool false, .slice none 0 0, .slice none 0 0] rfl (by kernel_rfl) ?_)
  intro b2 W2 n2
  have d2_b1 := n2.ne k1
  have g2 := n2.ge hB
  replace hB := Bl.next hB n2.below
  replace k1 := k1.below n2.below
  have k2 := n2.blk
  refine wpList_nil ?_
  refine wp_seq ?_
  refine wp_region_lit ?_
  refine g_pv 2 [(16, .pointer (some ⟨b, 0, none⟩)), (17, .int .i64 no)] (by kernel_rfl) ?_
  have hs3 : w.heap.size ≤ (W2).heap.size := hB.size
  refine g_op (by kernel_rfl) (op_call (lb := #[]) 34 #[.pointer (some ⟨b, 0, none⟩), .int .i64 no] rfl (by kernel_rfl) (fun _ _ => by kernel_rfl) (by kernel_rfl) ((image_Read B b p n c l no _ (hI.below hB)).mono ?_))
  rintro e W3 hq3
  rcases hq3 with ⟨ho, vr, rfl, hb3⟩ | ⟨j, hk, hj, p2, c2, rfl, hb3, ho⟩
  · refine ⟨_, rfl, ?_⟩
    replace hB := Bl.next hB hb3
    replace k1 := k1.below hb3
    replace k2 := k2.below hb3
    refine g_pv 5 [(15, .tuple #[vr, .int .i64 3]), (19, vr), (20, .int .i64 3), (11, vr), (12, .int .i64 3)] (by kernel_rfl) ?_
    refine wpList_nil ?_
    refine wp_seq ?_
    refine wp_seq ?_
    refine wp_region_lit ?_
    refine g_pv 2 [(21, .int .i64 3), (22, .bool true)] (by kernel_rfl) ?_
    refine wpList_nil ?_
    refine wp_cond_true (by kernel_rfl) ?_
    refine wp_seq ?_
    replace hB := Bl.next hB (below_drew W3)
    replace k1 := k1.below (below_drew W3)
    replace k2 := k2.below (below_drew W3)
    refine h_reg (BelowBut (W3.drew) b1) 7 rfl #[false, false, false, false, false, false, false] rfl (by kernel_rfl) ((Below.refl _ _).but _) ?_
    intro hS4
    have hBd6 := hB
    have kd6_b1 := k1
    have kd6_b2 := k2
    refine h_loadv (b := b2) (off := 0) 0 6 rfl [.int .i64 0, .bool false, .slice none 0 0, .slice none 0 0] _ rfl (by kernel_rfl) (by kernel_rfl) (by kernel_rfl) (fun _ _ _ _ _ h => h) (by kernel_rfl) rfl (by kernel_rfl) Try.underlying36 rfl (by kernel_rfl) (fun V hV => (hV.blk kd6_b2 (Ne.symm d2_b1)).whole) hS4 ?_
    refine h_pv [1, 2, 3] 3 rfl #[true, true, true, true, false, false, false] [(24, .int .i64 no), (25, .int .i64 3), (26, .iface 43 (.int .i64 3))] (by kernel_rfl) (fun _ _ _ _ _ h => h) (by kernel_rfl) hS4 ?_
    refine h_one 4 2 rfl (by kernel_rfl) rfl (by kernel_rfl) (op_call (lb := #[]) 27 #[.int .i64 no, .iface 43 (.int .i64 3)] rfl (by kernel_rfl) (fun _ _ => by kernel_rfl) (by kernel_rfl) ((block_told no 3 _).mono ?_))
    rintro e W7 ⟨_, rfl, hb7, hv7⟩
    refine ⟨_, rfl, ?_⟩
    replace hB := Bl.next hB hb7
    replace k1 := k1.below hb7
    replace k2 := k2.below hb7
    rw [if_neg (by decide), if_neg (by decide)] at hv7
    have hq7 := hv7
    obtain ⟨bf7, vf7, rfl, _, _⟩ := hq7
    have hS8 : BelowBut (W3.drew) b1 (W7) := hS4.next hb7
    refine ⟨hS8, ?_⟩
    refine h_one 5 1 rfl (by kernel_rfl) rfl (by kernel_rfl) (op_storev (b := b1) (off := 0) [.int .i64 0, .bool false, .slice none 0 0, .slice none 0 0] rfl (by kernel_rfl) (by kernel_rfl) (by kernel_rfl) (by first | decide | simp [Value.oneCell']) k1 (by first | decide | simp) ?_)
    intro W9 u9 k9
    change Blk _ _ [.int .i64 0, .bool false, .slice none 0 0, .slice none 0 0] _ at k9
    replace hB := u9.below hB g1
    replace k2 := u9.blk k2 (Ne.symm d2_b1)
    replace hv7 := hv7.upd u9 k1 (by decide)
    have hS10 : BelowBut (W3.drew) b1 (W9) := hS8.upd u9
    refine ⟨hS10, ?_⟩
    refine h_pv [6] 0 rfl #[true, true, true, true, true, true, true] [(9, .iface 61 (.pointer (some ⟨bf7, 0, none⟩)))] (by kernel_rfl) (fun _ _ _ _ _ h => h) (by kernel_rfl) hS10 ?_
    refine h_done _ (by kernel_rfl) ?_
    refine wp_ret (then_ret ?_)
    refine g_ret (.tuple #[.agg #[.int .i64 0, .bool false, .slice none 0 0, .slice none 0 0], .iface 61 (.pointer (some ⟨bf7, 0, none⟩))]) (by kernel_rfl) (res_ct (d := _) (cs := [.int .i64 0, .bool false, .slice none 0 0, .slice none 0 0]) rfl (by kernel_rfl) (by kernel_rfl) k9.whole Try.underlying36 rfl (by kernel_rfl)) ?_
    have he : nodeErr l no tree = 3 := by unfold nodeErr; rw [inE_out hI.len ho]; rfl
    exact .inl ⟨by rw [he]; decide, _, rfl, hB, by rw [he]; exact hv7⟩
  · refine ⟨_, rfl, ?_⟩
    replace hB := Bl.next hB hb3
    replace k1 := k1.below hb3
    replace k2 := k2.below hb3
    replace ho := own_mono ho hs3
    have hj2 : j < l.length / 256 := by rw [hI.len]; exact hj
    have hlj := blkB_len hj2
    have he2 := inE_in (l := l) (kind := 2) hI.len hk hj
    refine g_pv 5 [(15, .tuple #[.slice p2 256 c2, .int .i64 0]), (19, .slice p2 256 c2), (20, .int .i64 0), (11, .slice p2 256 c2), (12, .int .i64 0)] (by kernel_rfl) ?_
    refine wpList_nil ?_
    refine wp_seq ?_
    refine wp_seq ?_
    refine wp_region_lit ?_
    refine g_pv 2 [(21, .int .i64 0), (22, .bool false)] (by kernel_rfl) ?_
    refine wpList_nil ?_
    refine wp_cond_false (by kernel_rfl) ?_
    refine wp_skip ?_
    refine wp_seq ?_
    refine wp_region_lit ?_
    refine g_pv 3 [(29, .slice p2 256 c2), (30, .int .i64 2), (31, .int .i64 no)] (by kernel_rfl) ?_
    have hs11 : w.heap.size ≤ (W3).heap.size := hB.size
    refine g_op (by kernel_rfl) (op_call (lb := #[]) 35 #[.slice p2 256 c2, .int .i64 2, .int .i64 no] rfl (by kernel_rfl) (fun _ _ => by kernel_rfl) (by kernel_rfl) ((seal_OpenN 2 no p2 256 c2 (blkB l j) _ hlj (bys_of (own_sl ho) hlj)).mono ?_))
    rintro e W11 hq11
    rcases hq11 with ⟨hs, rfl, hb11⟩ | ⟨hs, p3, c3, rfl, hb11, h3⟩
    · refine ⟨_, rfl, ?_⟩
      replace hB := Bl.next hB hb11
      replace k1 := k1.below hb11
      replace k2 := k2.below hb11
      replace ho := own_below ho hb11
      refine g_pv 5 [(28, .tuple #[.slice none 0 0, .int .i64 (openE 2 no (blkB l j))]), (33, .slice none 0 0), (34, .int .i64 (openE 2 no (blkB l j))), (13, .slice none 0 0), (12, .int .i64 (openE 2 no (blkB l j)))] (by kernel_rfl) ?_
      refine wpList_nil ?_
      refine wp_seq ?_
      refine wp_seq ?_
      refine wp_region_lit ?_
      refine g_pv 2 [(35, .int .i64 (openE 2 no (blkB l j))), (36, .bool ((openE 2 no (blkB l j)) != (0 : Int)))] (by kernel_rfl) ?_
      refine wpList_nil ?_
      refine wp_cond_split (t := ((openE 2 no (blkB l j)) != (0 : Int))) (by kernel_rfl) (fun _ => ?_) (fun hh => absurd (hh.symm.trans (show (((openE 2 no (blkB l j)) != (0 : Int)) : Bool) = true from bne_iff_ne.2 hs)) (by decide))
      refine wp_seq ?_
      replace hB := Bl.next hB (below_drew W11)
      replace k1 := k1.below (below_drew W11)
      replace k2 := k2.below (below_drew W11)
      replace ho := own_below ho (below_drew W11)
      refine h_reg (BelowBut (W11.drew) b1) 7 rfl #[false, false, false, false, false, false, false] rfl (by kernel_rfl) ((Below.refl _ _).but _) ?_
      intro hS13
      have hBd15 := hB
      have kd15_b1 := k1
      have kd15_b2 := k2
      refine h_loadv (b := b2) (off := 0) 0 6 rfl [.int .i64 0, .bool false, .slice none 0 0, .slice none 0 0] _ rfl (by kernel_rfl) (by kernel_rfl) (by kernel_rfl) (fun _ _ _ _ _ h => h) (by kernel_rfl) rfl (by kernel_rfl) Try.underlying36 rfl (by kernel_rfl) (fun V hV => (hV.blk kd15_b2 (Ne.symm d2_b1)).whole) hS13 ?_
      refine h_pv [1, 2, 3] 3 rfl #[true, true, true, true, false, false, false] [(38, .int .i64 no), (39, .int .i64 (openE 2 no (blkB l j))), (40, .iface 43 (.int .i64 (openE 2 no (blkB l j))))] (by kernel_rfl) (fun _ _ _ _ _ h => h) (by kernel_rfl) hS13 ?_
      refine h_one 4 2 rfl (by kernel_rfl) rfl (by kernel_rfl) (op_call (lb := #[]) 27 #[.int .i64 no, .iface 43 (.int .i64 (openE 2 no (blkB l j)))] rfl (by kernel_rfl) (fun _ _ => by kernel_rfl) (by kernel_rfl) ((block_told no (openE 2 no (blkB l j)) _).mono ?_))
      rintro e W16 ⟨_, rfl, hb16, hv16⟩
      refine ⟨_, rfl, ?_⟩
      replace hB := Bl.next hB hb16
      replace k1 := k1.below hb16
      replace k2 := k2.below hb16
      replace ho := own_below ho hb16
      rw [if_neg hs, if_neg hs] at hv16
      have hq16 := hv16
      obtain ⟨bf16, vf16, rfl, _, _⟩ := hq16
      have hS17 : BelowBut (W11.drew) b1 (W16) := hS13.next hb16
      refine ⟨hS17, ?_⟩
      refine h_one 5 1 rfl (by kernel_rfl) rfl (by kernel_rfl) (op_storev (b := b1) (off := 0) [.int .i64 0, .bool false, .slice none 0 0, .slice none 0 0] rfl (by kernel_rfl) (by kernel_rfl) (by kernel_rfl) (by first | decide | simp [Value.oneCell']) k1 (by first | decide | simp) ?_)
      intro W18 u18 k18
      change Blk _ _ [.int .i64 0, .bool false, .slice none 0 0, .slice none 0 0] _ at k18
      replace hB := u18.below hB g1
      replace k2 := u18.blk k2 (Ne.symm d2_b1)
      replace ho := u18.own2 ho k1 (by decide)
      replace hv16 := hv16.upd u18 k1 (by decide)
      have hS19 : BelowBut (W11.drew) b1 (W18) := hS17.upd u18
      refine ⟨hS19, ?_⟩
      refine h_pv [6] 0 rfl #[true, true, true, true, true, true, true] [(9, .iface 61 (.pointer (some ⟨bf16, 0, none⟩)))] (by kernel_rfl) (fun _ _ _ _ _ h => h) (by kernel_rfl) hS19 ?_
      refine h_done _ (by kernel_rfl) ?_
      refine wp_ret (then_ret ?_)
      refine g_ret (.tuple #[.agg #[.int .i64 0, .bool false, .slice none 0 0, .slice none 0 0], .iface 61 (.pointer (some ⟨bf16, 0, none⟩))]) (by kernel_rfl) (res_ct (d := _) (cs := [.int .i64 0, .bool false, .slice none 0 0, .slice none 0 0]) rfl (by kernel_rfl) (by kernel_rfl) k18.whole Try.underlying36 rfl (by kernel_rfl)) ?_
      have he : nodeErr l no tree = openE 2 no (blkB l j) := by unfold nodeErr; rw [he2, if_neg hs]
      exact .inl ⟨by rw [he]; exact hs, _, rfl, hB, by rw [he]; exact hv16⟩
    · refine ⟨_, rfl, ?_⟩
      replace hB := Bl.next hB hb11
      replace k1 := k1.below hb11
      replace k2 := k2.below hb11
      replace ho := own_below ho hb11
      replace h3 := own_mono h3 hs11
      have hin : ((blkB l j).drop 8).take 244 = inB l no := (inB_in hk).symm
      have hil := inB_len hI.len hk hj
      rw [hin] at h3
      refine g_pv 5 [(28, .tuple #[.slice p3 244 c3, .int .i64 0]), (33, .slice p3 244 c3), (34, .int .i64 0), (13, .slice p3 244 c3), (12, .int .i64 0)] (by kernel_rfl) ?_
      refine wpList_nil ?_
      refine wp_seq ?_
      refine wp_seq ?_
      refine wp_region_lit ?_
      refine g_pv 2 [(35, .int .i64 0), (36, .bool false)] (by kernel_rfl) ?_
      refine wpList_nil ?_
      refine wp_cond_false (by kernel_rfl) ?_
      refine wp_skip ?_
      refine wp_seq ?_
      refine wp_region_lit ?_
      refine g_pv 2 [(43, .func (.func 16) #[] #[.pointer (some ⟨bt, 0, none⟩)]), (44, .slice p3 244 c3)] (by kernel_rfl) ?_
      have hs20 : w.heap.size ≤ (W11).heap.size := hB.size
      refine g_op (by kernel_rfl) (op_call (lb := #[.pointer (some ⟨bt, 0, none⟩)]) 16 #[.slice p3 244 c3, .pointer (some ⟨bt, 0, none⟩)] rfl (by kernel_rfl) (fun _ _ => by kernel_rfl) (by kernel_rfl) ((node_1 tree bt p3 c3 (inB l no) _ (kt.below hB) hil (bys_of (own_sl h3) hil)).mono ?_))
      rintro e W20 hq20
      rcases hq20 with ⟨hz, a5, b5, kp, m1, kc, vp, m2, vc, rfl, hb20⟩ | ⟨hz, kp, kc, vp, vc, rfl, hb20, hk, hv_⟩
      · refine ⟨_, rfl, ?_⟩
        replace hB := Bl.next hB hb20
        replace k1 := k1.below hb20
        replace k2 := k2.below hb20
        replace ho := own_below ho hb20
        replace h3 := own_below h3 hb20
        refine g_pv 3 [(42, .tuple #[.agg #[.int .i64 a5, .bool b5, .slice kp m1 kc, .slice vp m2 vc], .int .i64 (nodeTE (inB l no) tree)]), (46, .agg #[.int .i64 a5, .bool b5, .slice kp m1 kc, .slice vp m2 vc]), (47, .int .i64 (nodeTE (inB l no) tree))] (by kernel_rfl) ?_
        refine g_op (by kernel_rfl) (op_alloc [.int .i64 0, .bool false, .slice none 0 0, .slice none 0 0] rfl (by kernel_rfl) ?_)
        intro b21 W21 n21
        have d21_b1 := n21.ne k1
        have d21_b2 := n21.ne k2
        have g21 := n21.ge hB
        replace hB := Bl.next hB n21.below
        replace k1 := k1.below n21.below
        replace k2 := k2.below n21.below
        replace ho := own_below ho n21.below
        replace h3 := own_below h3 n21.below
        have k21 := n21.blk
        refine g_op (by kernel_rfl) (op_storev (b := b21) (off := 0) [.int .i64 a5, .bool b5, .slice kp m1 kc, .slice vp m2 vc] rfl (by kernel_rfl) (by kernel_rfl) (by kernel_rfl) (by first | decide | simp [Value.oneCell']) k21 (by first | decide | simp) ?_)
        intro W22 u22 k22
        change Blk _ _ [.int .i64 a5, .bool b5, .slice kp m1 kc, .slice vp m2 vc] _ at k22
        replace hB := u22.below hB g21
        replace k1 := u22.blk k1 (Ne.symm (Ne.symm d21_b1))
        replace k2 := u22.blk k2 (Ne.symm (Ne.symm d21_b2))
        replace ho := u22.own2 ho k21 (by decide)
        replace h3 := u22.own2 h3 k21 (by decide)
        refine g_pv 1 [(12, .int .i64 (nodeTE (inB l no) tree))] (by kernel_rfl) ?_
        refine wpList_nil ?_
        refine wp_seq ?_
        refine wp_seq ?_
        refine wp_region_lit ?_
        refine g_pv 2 [(48, .int .i64 (nodeTE (inB l no) tree)), (49, .bool ((nodeTE (inB l no) tree) != (0 : Int)))] (by kernel_rfl) ?_
        refine wpList_nil ?_
        refine wp_cond_split (t := ((nodeTE (inB l no) tree) != (0 : Int))) (by kernel_rfl) (fun _ => ?_) (fun hh => absurd (hh.symm.trans (show (((nodeTE (inB l no) tree) != (0 : Int)) : Bool) = true from bne_iff_ne.2 hz)) (by decide))
        refine wp_seq ?_
        replace hB := Bl.next hB (below_drew W22)
        replace k1 := k1.below (below_drew W22)
        replace k2 := k2.below (below_drew W22)
        replace k22 := k22.below (below_drew W22)
        replace ho := own_below ho (below_drew W22)
        replace h3 := own_below h3 (below_drew W22)
        refine h_reg (BelowBut (W22.drew) b1) 7 rfl #[false, false, false, false, false, false, false] rfl (by kernel_rfl) ((Below.refl _ _).but _) ?_
        intro hS24
        have hBd26 := hB
        have kd26_b1 := k1
        have kd26_b2 := k2
        have kd26_b21 := k22
        refine h_loadv (b := b2) (off := 0) 0 6 rfl [.int .i64 0, .bool false, .slice none 0 0, .slice none 0 0] _ rfl (by kernel_rfl) (by kernel_rfl) (by kernel_rfl) (fun _ _ _ _ _ h => h) (by kernel_rfl) rfl (by kernel_rfl) Try.underlying36 rfl (by kernel_rfl) (fun V hV => (hV.blk kd26_b2 (Ne.symm d2_b1)).whole) hS24 ?_
        refine h_pv [1, 2, 3] 3 rfl #[true, true, true, true, false, false, false] [(51, .int .i64 no), (52, .int .i64 (nodeTE (inB l no) tree)), (53, .iface 43 (.int .i64 (nodeTE (inB l no) tree)))] (by kernel_rfl) (fun _ _ _ _ _ h => h) (by kernel_rfl) hS24 ?_
        refine h_one 4 2 rfl (by kernel_rfl) rfl (by kernel_rfl) (op_call (lb := #[]) 27 #[.int .i64 no, .iface 43 (.int .i64 (nodeTE (inB l no) tree))] rfl (by kernel_rfl) (fun _ _ => by kernel_rfl) (by kernel_rfl) ((block_told no (nodeTE (inB l no) tree) _).mono ?_))
        rintro e W27 ⟨_, rfl, hb27, hv27⟩
        refine ⟨_, rfl, ?_⟩
        replace hB := Bl.next hB hb27
        replace k1 := k1.below hb27
        replace k2 := k2.below hb27
        replace k22 := k22.below hb27
        replace ho := own_below ho hb27
        replace h3 := own_below h3 hb27
        rw [if_neg hz, if_neg hz] at hv27
        have hq27 := hv27
        obtain ⟨bf27, vf27, rfl, _, _⟩ := hq27
        have hS28 : BelowBut (W22.drew) b1 (W27) := hS24.next hb27
        refine ⟨hS28, ?_⟩
        refine h_one 5 1 rfl (by kernel_rfl) rfl (by kernel_rfl) (op_storev (b := b1) (off := 0) [.int .i64 0, .bool false, .slice none 0 0, .slice none 0 0] rfl (by kernel_rfl) (by kernel_rfl) (by kernel_rfl) (by first | decide | simp [Value.oneCell']) k1 (by first | decide | simp) ?_)
        intro W29 u29 k29
        change Blk _ _ [.int .i64 0, .bool false, .slice none 0 0, .slice none 0 0] _ at k29
        replace hB := u29.below hB g1
        replace k2 := u29.blk k2 (Ne.symm d2_b1)
        replace k22 := u29.blk k22 (Ne.symm d21_b1)
        replace ho := u29.own2 ho k1 (by decide)
        replace h3 := u29.own2 h3 k1 (by decide)
        replace hv27 := hv27.upd u29 k1 (by decide)
        have hS30 : BelowBut (W22.drew) b1 (W29) := hS28.upd u29
        refine ⟨hS30, ?_⟩
        refine h_pv [6] 0 rfl #[true, true, true, true, true, true, true] [(9, .iface 61 (.pointer (some ⟨bf27, 0, none⟩)))] (by kernel_rfl) (fun _ _ _ _ _ h => h) (by kernel_rfl) hS30 ?_
        refine h_done _ (by kernel_rfl) ?_
        refine wp_ret (then_ret ?_)
        refine g_ret (.tuple #[.agg #[.int .i64 0, .bool false, .slice none 0 0, .slice none 0 0], .iface 61 (.pointer (some ⟨bf27, 0, none⟩))]) (by kernel_rfl) (res_ct (d := _) (cs := [.int .i64 0, .bool false, .slice none 0 0, .slice none 0 0]) rfl (by kernel_rfl) (by kernel_rfl) k29.whole Try.underlying36 rfl (by kernel_rfl)) ?_
        have he : nodeErr l no tree = nodeTE (inB l no) tree := by unfold nodeErr; rw [he2, if_pos hs]
        exact .inl ⟨by rw [he]; exact hz, _, rfl, hB, by rw [he]; exact hv27⟩
      · refine ⟨_, rfl, ?_⟩
        replace hB := Bl.next hB hb20
        replace k1 := k1.below hb20
        replace k2 := k2.below hb20
        replace ho := own_below ho hb20
        replace h3 := own_below h3 hb20
        replace hk := own_mono hk hs20
        replace hv_ := own_mono hv_ hs20
        refine g_pv 3 [(42, .tuple #[.agg #[.int .i64 (nodT (inB l no)), .bool (nodL (inB l no)), .slice kp (nodC (inB l no)) kc, .slice vp (nodC (inB l no)) vc], .int .i64 0]), (46, .agg #[.int .i64 (nodT (inB l no)), .bool (nodL (inB l no)), .slice kp (nodC (inB l no)) kc, .slice vp (nodC (inB l no)) vc]), (47, .int .i64 0)] (by kernel_rfl) ?_
        refine g_op (by kernel_rfl) (op_alloc [.int .i64 0, .bool false, .slice none 0 0, .slice none 0 0] rfl (by kernel_rfl) ?_)
        intro b31 W31 n31
        have d31_b1 := n31.ne k1
        have d31_b2 := n31.ne k2
        have g31 := n31.ge hB
        replace hB := Bl.next hB n31.below
        replace k1 := k1.below n31.below
        replace k2 := k2.below n31.below
        replace ho := own_below ho n31.below
        replace h3 := own_below h3 n31.below
        replace hk := own_below hk n31.below
        replace hv_ := own_below hv_ n31.below
        have k31 := n31.blk
        refine g_op (by kernel_rfl) (op_storev (b := b31) (off := 0) [.int .i64 (nodT (inB l no)), .bool (nodL (inB l no)), .slice kp (nodC (inB l no)) kc, .slice vp (nodC (inB l no)) vc] rfl (by kernel_rfl) (by kernel_rfl) (by kernel_rfl) (by first | decide | simp [Value.oneCell']) k31 (by first | decide | simp) ?_)
        intro W32 u32 k32
        change Blk _ _ [.int .i64 (nodT (inB l no)), .bool (nodL (inB l no)), .slice kp (nodC (inB l no)) kc, .slice vp (nodC (inB l no)) vc] _ at k32
        replace hB := u32.below hB g31
        replace k1 := u32.blk k1 (Ne.symm (Ne.symm d31_b1))
        replace k2 := u32.blk k2 (Ne.symm (Ne.symm d31_b2))
        replace ho := u32.own2 ho k31 (by decide)
        replace h3 := u32.own2 h3 k31 (by decide)
        replace hk := u32.own2 hk k31 (by decide)
        replace hv_ := u32.own2 hv_ k31 (by decide)
        refine g_pv 1 [(12, .int .i64 0)] (by kernel_rfl) ?_
        refine wpList_nil ?_
        refine wp_seq ?_
        refine wp_seq ?_
        refine wp_region_lit ?_
        refine g_pv 2 [(48, .int .i64 0), (49, .bool false)] (by kernel_rfl) ?_
        refine wpList_nil ?_
        refine wp_cond_false (by kernel_rfl) ?_
        refine wp_skip ?_
        refine wp_seq ?_
        refine wp_region_lit ?_
        refine g_op (by kernel_rfl) (op_loadv (b := b31) (off := 0) [.int .i64 (nodT (inB l no)), .bool (nodL (inB l no)), .slice kp (nodC (inB l no)) kc, .slice vp (nodC (inB l no)) vc] _ rfl (by kernel_rfl) Try.underlying36 rfl (by kernel_rfl) k32.whole ?_)
        refine g_op (by kernel_rfl) (op_storev (b := b1) (off := 0) [.int .i64 (nodT (inB l no)), .bool (nodL (inB l no)), .slice kp (nodC (inB l no)) kc, .slice vp (nodC (inB l no)) vc] rfl (by kernel_rfl) (by kernel_rfl) (by kernel_rfl) (by first | decide | simp [Value.oneCell']) k1 (by first | decide | simp) ?_)
        intro W33 u33 k33
        change Blk _ _ [.int .i64 (nodT (inB l no)), .bool (nodL (inB l no)), .slice kp (nodC (inB l no)) kc, .slice vp (nodC (inB l no)) vc] _ at k33
        replace hB := u33.below hB g1
        replace k2 := u33.blk k2 (Ne.symm d2_b1)
        replace k32 := u33.blk k32 (Ne.symm d31_b1)
        replace ho := u33.own2 ho k1 (by decide)
        replace h3 := u33.own2 h3 k1 (by decide)
        replace hk := u33.own2 hk k1 (by decide)
        replace hv_ := u33.own2 hv_ k1 (by decide)
        refine g_pv 1 [(9, .nilIface)] (by kernel_rfl) ?_
        refine wpList_nil ?_
        refine wp_ret ?_
        exact g_ret (.tuple #[.agg #[.int .i64 (nodT (inB l no)), .bool (nodL (inB l no)), .slice kp (nodC (inB l no)) kc, .slice vp (nodC (inB l no)) vc], .nilIface]) (by kernel_rfl) (res_ct (d := _) (cs := [.int .i64 (nodT (inB l no)), .bool (nodL (inB l no)), .slice kp (nodC (inB l no)) kc, .slice vp (nodC (inB l no)) vc]) rfl (by kernel_rfl) (by kernel_rfl) k33.whole Try.underlying36 rfl (by kernel_rfl)) (.inr ⟨by unfold nodeErr; rw [he2, if_pos hs, hz], _, _, _, _, rfl, hB, hk, hv_⟩)
set_option maxRecDepth 100000 in
set_option maxHeartbeats 1000000 in
theorem block_Node (B b : Nat) (p : Option Addr) (n c : Nat) (l : List UInt8) (no tree : Int) (w : World) (hI : ImgR B b p n c l w) :
    Calls Try.prog 7 #[.pointer (some ⟨b, 0, none⟩), .int .i64 no, .int .i64 tree] w (BlkNodeP l no tree w) := by
  refine calls_of_wp Try.func7 rfl ?_
  refine g_fr ⟨#[.pointer (some ⟨b, 0, none⟩), .int .i64 no, .int .i64 tree, undef, undef, undef, undef, undef, undef, undef, undef, undef, undef, undef], []⟩ (by kernel_rfl) ?_
  refine wp_seq ?_
  refine wp_region_lit ?_
  refine g_op (by kernel_rfl) (op_box [.int .i64 tree] rfl (by kernel_rfl) ?_)
  intro b1 W1 n1
  have g1 := n1.ge (Below.refl w.heap.size _)
  have hB := n1.below
  have k1 := n1.blk
  refine g_op (by kernel_rfl) (op_alloc [.int .i64 0, .bool false, .slice none 0 0, .slice none 0 0] rfl (by kernel_rfl) ?_)
  intro b2 W2 n2
  have d2_b1 := n2.ne k1
  have g2 := n2.ge hB
  replace hB := Bl.next hB n2.below
  replace k1 := k1.below n2.below
  have k2 := n2.blk
  refine g_pv 1 [(7, .nilIface)] (by kernel_rfl) ?_
  refine wpList_nil ?_
  refine wp_seq ?_
  refine wp_region_lit ?_
  refine g_pv 3 [(8, .pointer (some ⟨b, 0, none⟩)), (9, .int .i64 no), (10, .func (.func 16) #[] #[.pointer (some ⟨b1, 0, none⟩)])] (by kernel_rfl) ?_
  have hs3 : w.heap.size ≤ (W2).heap.size := hB.size
  refine g_op (by kernel_rfl) (op_call (lb := #[]) 15 #[.pointer (some ⟨b, 0, none⟩), .int .i64 no, .int .i64 2, .func (.func 16) #[] #[.pointer (some ⟨b1, 0, none⟩)]] rfl (by kernel_rfl) (fun _ _ => by kernel_rfl) (by kernel_rfl) ((readNode B b p n c l no tree _ (hI.below hB) b1 k1).mono ?_))
  rintro e W3 hq3
  rcases hq3 with ⟨he, bf, rfl, hb3, hv⟩ | ⟨he, kp, kc, vp, vc, rfl, hb3, hk, hv_⟩
  · refine ⟨_, rfl, ?_⟩
    replace hB := Bl.next hB hb3
    replace k1 := k1.below hb3
    replace k2 := k2.below hb3
    refine g_pv 2 [(12, .agg #[.int .i64 0, .bool false, .slice none 0 0, .slice none 0 0]), (13, .iface 61 (.pointer (some ⟨bf, 0, none⟩)))] (by kernel_rfl) ?_
    refine g_op (by kernel_rfl) (op_storev (b := b2) (off := 0) [.int .i64 0, .bool false, .slice none 0 0, .slice none 0 0] rfl (by kernel_rfl) (by kernel_rfl) (by kernel_rfl) (by first | decide | simp [Value.oneCell']) k2 (by first | decide | simp) ?_)
    intro W4 u4 k4
    change Blk _ _ [.int .i64 0, .bool false, .slice none 0 0, .slice none 0 0] _ at k4
    replace hB := u4.below hB g2
    replace k1 := u4.blk k1 (Ne.symm (Ne.symm d2_b1))
    replace hv := hv.upd u4 k2 (by decide)
    refine g_pv 1 [(7, .iface 61 (.pointer (some ⟨bf, 0, none⟩)))] (by kernel_rfl) ?_
    refine wpList_nil ?_
    refine wp_ret ?_
    exact g_ret (.tuple #[.agg #[.int .i64 0, .bool false, .slice none 0 0, .slice none 0 0], .iface 61 (.pointer (some ⟨bf, 0, none⟩))]) (by kernel_rfl) (res_ct (d := _) (cs := [.int .i64 0, .bool false, .slice none 0 0, .slice none 0 0]) rfl (by kernel_rfl) (by kernel_rfl) k4.whole Try.underlying36 rfl (by kernel_rfl)) (.inl ⟨he, _, rfl, hB, hv⟩)
  · refine ⟨_, rfl, ?_⟩
    replace hB := Bl.next hB hb3
    replace k1 := k1.below hb3
    replace k2 := k2.below hb3
    replace hk := own_mono hk hs3
    replace hv_ := own_mono hv_ hs3
    refine g_pv 2 [(12, .agg #[.int .i64 (nodT (inB l no)), .bool (nodL (inB l no)), .slice kp (nodC (inB l no)) kc, .slice vp (nodC (inB l no)) vc]), (13, .nilIface)] (by kernel_rfl) ?_
    refine g_op (by kernel_rfl) (op_storev (b := b2) (off := 0) [.int .i64 (nodT (inB l no)), .bool (nodL (inB l no)), .slice kp (nodC (inB l no)) kc, .slice vp (nodC (inB l no)) vc] rfl (by kernel_rfl) (by kernel_rfl) (by kernel_rfl) (by first | decide | simp [Value.oneCell']) k2 (by first | decide | simp) ?_)
    intro W5 u5 k5
    change Blk _ _ [.int .i64 (nodT (inB l no)), .bool (nodL (inB l no)), .slice kp (nodC (inB l no)) kc, .slice vp (nodC (inB l no)) vc] _ at k5
    replace hB := u5.below hB g2
    replace k1 := u5.blk k1 (Ne.symm (Ne.symm d2_b1))
    replace hk := u5.own2 hk k2 (by decide)
    replace hv_ := u5.own2 hv_ k2 (by decide)
    refine g_pv 1 [(7, .nilIface)] (by kernel_rfl) ?_
    refine wpList_nil ?_
    refine wp_ret ?_
    exact g_ret (.tuple #[.agg #[.int .i64 (nodT (inB l no)), .bool (nodL (inB l no)), .slice kp (nodC (inB l no)) kc, .slice vp (nodC (inB l no)) vc], .nilIface]) (by kernel_rfl) (res_ct (d := _) (cs := [.int .i64 (nodT (inB l no)), .bool (nodL (inB l no)), .slice kp (nodC (inB l no)) kc, .slice vp (nodC (inB l no)) vc]) rfl (by kernel_rfl) (by kernel_rfl) k5.whole Try.underlying36 rfl (by kernel_rfl)) (.inr ⟨he, _, _, _, _, rfl, hB, hk, hv_⟩)
end Go.Proofs.Ytoiblgeheblddaa

