/- Counts of package audit and of scantlingref28, and the law AuditCounts. -/
import Derived.Test.YthjemliaeklecaaDoorAudSame
import Derived.Test.YthjemliaeklecaaDoorDiffer
import Derived.Test.YthjemliaeklecaaDoorBlkSup
namespace Go.Proofs.YthjemliaeklecaaDoor
open Go.RowKit Go.Extern.Stop Go.Stop Go.Extern
set_option linter.unusedVariables false

def dl (kind : Int) (l : List Int) : List (Int × Int × Int) := l.map fun i => (kind, i, 13)
theorem dl_take {kind : Int} {l : List Int} {k : Nat} (h : k < l.length) : dl kind (l.take (k + 1)) = dl kind (l.take k) ++ [(kind, l.getD k 0, 13)] := by
  unfold dl
  rw [List.take_succ_eq_append_getElem h, List.map_append]
  simp [List.getD, List.getElem?_eq_getElem h]
theorem dl_len (kind : Int) (l : List Int) : (dl kind l).length = l.length := by simp [dl]
def Dms (base : Nat) (w : World) (v : Value) (l : List (Int × Int × Int)) : Prop := w.ownsRow base 53 3 v l.length (l.flatMap dmc)
theorem Dms.sts {base : Nat} {w : World} {v : Value} {l : List (Int × Int × Int)} (h : Dms base w v l) : Sts dmc w v l := own_sl h
theorem ref28_Same_same (a b : Option Addr) (ca cb : Nat) (l : List (Int × Int × Int)) (w : World) (ha : Sts dmc w (.slice a l.length ca) l) (hb : Sts dmc w (.slice b l.length cb) l) :
    Calls Tryd.prog 28 #[.slice a l.length ca, .slice b l.length cb] w (Ret (.bool true) w) :=
  (ref28_Same a b ca cb l l w ha hb).mono fun e w' ⟨h1, h2⟩ => ⟨by rw [h1]; simp, h2⟩
/-- what a call that adds to a list of damages does -/
def Added (B b : Nat) (l : List (Int × Int × Int)) (w : World) (e : Ending) (w' : World) : Prop :=
  ∃ p c, e = .returned (.bool true) ∧ Below B w w' ∧ Only [101, 53] w w' ∧ Blk w' b [.slice p l.length c] 101 ∧ w'.ownsRow B 53 3 (.slice p l.length c) l.length (l.flatMap dmc)
set_option maxRecDepth 100000 in
set_option maxHeartbeats 1000000 in
theorem damaged_add (B b : Nat) (kind at_ code : Int) (hc : (code == 0) = false) (p : Option Addr) (c : Nat) (l : List (Int × Int × Int)) (w : World) (hk : Blk w b [.slice p l.length c] 101) (ho : w.ownsRow B 53 3 (.slice p l.length c) l.length (l.flatMap dmc)) (hB0 : B ≤ b) (hBw : B ≤ w.heap.size) (hl : l.length ≤ 2000000) :
    Calls Tryd.prog 52 #[.pointer (some ⟨b, 0, none⟩), .int .i64 kind, .int .i64 at_, .int .i64 code] w (Added B b (l ++ [(kind, at_, code)]) w) := by
  refine calls_of_wp Tryd.func52 rfl ?_
  refine g_fr ⟨#[.pointer (some ⟨b, 0, none⟩), .int .i64 kind, .int .i64 at_, .int .i64 code, undef, undef, undef, undef, undef, undef, undef, undef, undef, undef, undef, undef, undef, undef, undef, undef, undef, undef, undef, undef], []⟩ (by kernel_rfl) ?_
  refine wp_seq ?_
  refine wp_region_lit ?_
  refine g_pure 1 ⟨#[.pointer (some ⟨b, 0, none⟩), .int .i64 kind, .int .i64 at_, .int .i64 code, undef, undef, undef, undef, .bool false, undef, undef, undef, undef, undef, undef, undef, undef, undef, undef, undef, undef, undef, undef, undef], []⟩ (by kernel_rfl) ?_
  refine wpList_nil ?_
  refine wp_seq ?_
  refine wp_seq ?_
  refine wp_region_lit ?_
  refine g_pure 2 ⟨#[.pointer (some ⟨b, 0, none⟩), .int .i64 kind, .int .i64 at_, .int .i64 code, undef, undef, undef, undef, .bool false, .int .i64 code, .bool (code == (0 : Int)), undef, undef, undef, undef, undef, undef, undef, undef, undef, undef, undef, undef, undef], []⟩ (by kernel_rfl) ?_
  refine wpList_nil ?_
  refine wp_cond_false (by show Value.bool _ = Value.bool _; rw [hc]) ?_
  refine wp_skip ?_
  refine wp_seq ?_
  refine wp_region_lit ?_
  refine g_pure 4 ⟨#[.pointer (some ⟨b, 0, none⟩), .int .i64 kind, .int .i64 at_, .int .i64 code, undef, undef, undef, undef, .bool false, .int .i64 code, .bool (code == (0 : Int)), .pointer (some ⟨b, 0, none⟩), .pointer (some ⟨b, 0, none⟩), .pointer (some ⟨b, 0, none⟩), .pointer (some ⟨b, 0, none⟩), undef, undef, undef, undef, undef, undef, undef, undef, undef], []⟩ (by kernel_rfl) ?_
  refine g_op (by kernel_rfl) (op_load _ (.slice p l.length c) rfl rfl (by kernel_rfl) (hk.cell (i := 0) rfl) ?_)
  refine g_pure 4 ⟨#[.pointer (some ⟨b, 0, none⟩), .int .i64 kind, .int .i64 at_, .int .i64 code, undef, undef, undef, undef, .bool false, .int .i64 code, .bool (code == (0 : Int)), .pointer (some ⟨b, 0, none⟩), .pointer (some ⟨b, 0, none⟩), .pointer (some ⟨b, 0, none⟩), .pointer (some ⟨b, 0, none⟩), .slice p l.length c, .int .i64 kind, .int .i64 at_, .int .i64 code, .agg #[.int .i64 kind, .int .i64 at_, .int .i64 code], undef, undef, undef, undef], []⟩ (by kernel_rfl) ?_
  refine g_op (by kernel_rfl) (op_buildSlice 53 [.int .i64 kind, .int .i64 at_, .int .i64 code] rfl (by kernel_rfl) ?_)
  intro b2 W2 n2
  have d2_b := n2.ne hk
  have g2 := n2.geB (Below.refl B _) hBw
  have hO : Only [101, 53] w _ := (Only.of_below n2.below)
  have hB := Bl.nextB (Below.refl B w) hBw n2.below
  replace hk := hk.below n2.below
  replace ho := own_below ho n2.below
  have k2 := n2.blk
  refine g_op (by kernel_rfl) (op_app (e := 53) (n := l.length) (xs := l.flatMap dmc) (m := 1) (news := [.int .i64 kind, .int .i64 at_, .int .i64 code]) (.agg #[.int .i64 0, .int .i64 0, .int .i64 0]) 3 24 ((l ++ [(kind, at_, code)]).length) ((l ++ [(kind, at_, code)]).flatMap dmc) rfl Tryd.underlying58 (by kernel_rfl) rfl (by decide) rfl ho rfl (k2.sl 1 1 (by decide) (by decide)) rfl (by simp [Value.oneCell']) (by unfold maxLen; omega) (by omega) (Nat.le_trans hBw hB.size) (by simp) (by simp [dmc]) ?_)
  intro p3 c3 W3 o3 hg3 hb3
  replace hk := hk.grown hg3 ho (by decide)
  replace hO := hO.trans (Only.of_grown hg3 ho (by decide))
  replace hB := hB.trans hb3
  refine g_pure 2 ⟨#[.pointer (some ⟨b, 0, none⟩), .int .i64 kind, .int .i64 at_, .int .i64 code, undef, undef, undef, undef, .bool false, .int .i64 code, .bool (code == (0 : Int)), .pointer (some ⟨b, 0, none⟩), .pointer (some ⟨b, 0, none⟩), .pointer (some ⟨b, 0, none⟩), .pointer (some ⟨b, 0, none⟩), .slice p l.length c, .int .i64 kind, .int .i64 at_, .int .i64 code, .agg #[.int .i64 kind, .int .i64 at_, .int .i64 code], .slice (some ⟨b2, 0, none⟩) 1 1, .slice p3 ((l ++ [(kind, at_, code)]).length) c3, .pointer (some ⟨b, 0, none⟩), .pointer (some ⟨b, 0, none⟩)], []⟩ (by kernel_rfl) ?_
  refine g_op (by kernel_rfl) (op_store (v := .slice p3 ((l ++ [(kind, at_, code)]).length) c3) rfl rfl rfl (by kernel_rfl) rfl hk (by first | decide | simp) ?_)
  intro W4 u4 k4
  change Blk _ _ [.slice p3 ((l ++ [(kind, at_, code)]).length) c3] _ at k4
  replace hO := hO.trans (Only.of_upd u4 hk (by decide))
  replace hB := u4.below hB hB0
  replace o3 := u4.own2 o3 hk (by decide)
  refine wpList_nil ?_
  refine wp_seq ?_
  refine wp_region_lit ?_
  refine g_pure 1 ⟨#[.pointer (some ⟨b, 0, none⟩), .int .i64 kind, .int .i64 at_, .int .i64 code, undef, undef, undef, undef, .bool true, .int .i64 code, .bool (code == (0 : Int)), .pointer (some ⟨b, 0, none⟩), .pointer (some ⟨b, 0, none⟩), .pointer (some ⟨b, 0, none⟩), .pointer (some ⟨b, 0, none⟩), .slice p l.length c, .int .i64 kind, .int .i64 at_, .int .i64 code, .agg #[.int .i64 kind, .int .i64 at_, .int .i64 code], .slice (some ⟨b2, 0, none⟩) 1 1, .slice p3 ((l ++ [(kind, at_, code)]).length) c3, .pointer (some ⟨b, 0, none⟩), .pointer (some ⟨b, 0, none⟩)], []⟩ (by kernel_rfl) ?_
  refine wpList_nil ?_
  refine wp_ret ?_
  show bodyPost _ _ _ .ret _ _
  exact g_ret (.bool true) rfl (by kernel_rfl) ⟨_, _, rfl, hB, hO, k4, o3⟩
set_option maxRecDepth 100000 in
set_option maxHeartbeats 1000000 in
theorem audit_Counts (kind : Int) (a b : Option Addr) (ca cb : Nat) (la lb : List Int) (w : World) (ha : Ints w (.slice a la.length ca) la) (hb : Ints w (.slice b lb.length cb) lb) (hla : la.length ≤ 1000000) (hlb : lb.length ≤ 1000000) :
    Calls Tryd.prog 29 #[.int .i64 kind, .slice a la.length ca, .slice b lb.length cb] w (RetS (fun w' r => Dms w.heap.size w' r (dl kind (dif la lb (max la.length lb.length)))) w) := by
  refine calls_of_wp Tryd.func29 rfl ?_
  refine g_fr ⟨#[.int .i64 kind, .slice a la.length ca, .slice b lb.length cb, undef, undef, undef, undef, undef, undef, undef, undef, undef, undef, undef, undef, undef, undef, undef, undef, undef, undef, undef, undef, undef], []⟩ (by kernel_rfl) ?_
  refine wp_seq ?_
  refine wp_region_lit ?_
  refine g_pure 1 ⟨#[.int .i64 kind, .slice a la.length ca, .slice b lb.length cb, undef, undef, undef, .slice none 0 0, undef, undef, undef, undef, undef, undef, undef, undef, undef, undef, undef, undef, undef, undef, undef, undef, undef], []⟩ (by kernel_rfl) ?_
  refine wpList_nil ?_
  refine wp_seq ?_
  refine wp_region_lit ?_
  refine g_op (by kernel_rfl) (op_alloc [.slice none 0 0] rfl (by kernel_rfl) ?_)
  intro b1 W1 n1
  have g1 := n1.ge (Below.refl w.heap.size _)
  have hB := n1.below
  have k1 := n1.blk
  refine wpList_nil ?_
  refine wp_seq ?_
  refine wp_seq ?_
  refine wp_region_lit ?_
  refine g_pure 2 ⟨#[.int .i64 kind, .slice a la.length ca, .slice b lb.length cb, undef, undef, undef, .slice none 0 0, .pointer (some ⟨b1, 0, none⟩), undef, undef, .slice a la.length ca, .slice b lb.length cb, undef, undef, undef, undef, undef, undef, undef, undef, undef, undef, undef, undef], []⟩ (by kernel_rfl) ?_
  have hs2 : w.heap.size ≤ (W1).heap.size := Nat.le_trans (Nat.le_refl _) hB.size
  refine g_op (by kernel_rfl) (op_call 51 #[.slice a la.length ca, .slice b lb.length cb] rfl rfl (fun _ _ => by kernel_rfl) (by kernel_rfl) ((refs_Differ a b ca cb la lb _ (ha.below hB) (hb.below hB) hla hlb).mono ?_))
  rintro e W2 ⟨_, rfl, hb2, hd⟩
  refine ⟨_, rfl, ?_⟩
  replace hB := Bl.next hB hb2
  replace k1 := k1.below hb2
  replace hd := own_mono hd hs2
  have hLl := dif_le la lb (max la.length lb.length)
  generalize hL : (dif la lb (max la.length lb.length)) = L at *
  obtain ⟨pd, cd, rfl⟩ := (own_sl hd).slice
  refine g_pure 2 ⟨#[.int .i64 kind, .slice a la.length ca, .slice b lb.length cb, undef, undef, undef, .slice none 0 0, .pointer (some ⟨b1, 0, none⟩), undef, undef, .slice a la.length ca, .slice b lb.length cb, .slice pd L.length cd, .int .i64 (↑L.length : Int), .int .i64 0, undef, undef, undef, undef, undef, undef, undef, undef, undef], []⟩ (by kernel_rfl) ?_
  refine wpList_nil ?_
  refine wp_block ?_
  refine g_fr ⟨#[.int .i64 kind, .slice a la.length ca, .slice b lb.length cb, undef, undef, undef, .slice none 0 0, .pointer (some ⟨b1, 0, none⟩), undef, undef, .slice a la.length ca, .slice b lb.length cb, .slice pd L.length cd, .int .i64 (↑L.length : Int), .int .i64 0, undef, undef, undef, undef, undef, undef, undef, undef, undef], []⟩ (by kernel_rfl) ?_
  refine wp_loop (fun act V => ∃ (k : Nat) (p2 : Option Addr) (c2 : Nat) (x3_9 x3_15 x3_16 x3_17 x3_18 x3_19 x3_20 x3_21 : Value), act = ⟨#[.int .i64 kind, .slice a la.length ca, .slice b lb.length cb, undef, undef, undef, .slice none 0 0, .pointer (some ⟨b1, 0, none⟩), undef, x3_9, .slice a la.length ca, .slice b lb.length cb, .slice pd L.length cd, .int .i64 (↑L.length : Int), .int .i64 (↑k : Int), x3_15, x3_16, x3_17, x3_18, x3_19, x3_20, x3_21, undef, undef], []⟩ ∧ Below w.heap.size w V ∧ Blk V b1 ([.slice p2 ((dl kind (L.take k)).length) c2]) 101 ∧ V.ownsRow w.heap.size 53 3 (.slice p2 (dl kind (L.take k)).length c2) (dl kind (L.take k)).length ((dl kind (L.take k)).flatMap dmc) ∧ V.ownsRow w.heap.size 3 1 (.slice pd L.length cd) L.length (L.map (Value.int .i64)) ∧ k ≤ L.length) (fun act V => L.length - ((intOf (act.tmps.getD 14 undef))).toNat) ⟨0, _, _, _, _, _, _, _, _, _, _, rfl, hB, k1, World.ownsRow_nil _ _ _ _, hd, Nat.zero_le _⟩ ?_
  rintro _ W3 ⟨k, p2, c2, x3_9, x3_15, x3_16, x3_17, x3_18, x3_19, x3_20, x3_21, rfl, hB, k3_b1, od, hd, hk⟩
  refine wp_seq ?_
  refine wp_region_lit ?_
  refine g_pure 1 ⟨#[.int .i64 kind, .slice a la.length ca, .slice b lb.length cb, undef, undef, undef, .slice none 0 0, .pointer (some ⟨b1, 0, none⟩), undef, x3_9, .slice a la.length ca, .slice b lb.length cb, .slice pd L.length cd, .int .i64 (↑L.length : Int), .int .i64 (↑k : Int), .bool (decide ((↑k : Int) < (↑L.length : Int))), x3_16, x3_17, x3_18, x3_19, x3_20, x3_21, undef, undef], []⟩ (by kernel_rfl) ?_
  refine wpList_nil ?_
  refine wp_seq ?_
  refine wp_cond_split (t := decide ((↑k : Int) < (↑L.length : Int))) rfl (fun hc4 => ?_) (fun hc4 => ?_)
  · have hc4 := of_decide_eq_true hc4
    refine wp_skip ?_
    refine wp_seq ?_
    refine wp_block ?_
    refine wp_seq ?_
    refine wp_region_lit ?_
    refine g_op (by kernel_rfl) (op_val (run_indexA (size := 1) (k := k) rfl rfl rfl rfl (by omega) (Ints.elem (own_sl hd) (k := k) (by omega)).1 Tryd.underlying22 (by kernel_rfl) W3) ?_)
    refine g_op (by kernel_rfl) (op_load _ (.int .i64 (L.getD k 0)) rfl rfl (by kernel_rfl) (Ints.elem (own_sl hd) (k := k) (by omega)).2 ?_)
    refine g_pure 1 ⟨#[.int .i64 kind, .slice a la.length ca, .slice b lb.length cb, undef, undef, undef, .slice none 0 0, .pointer (some ⟨b1, 0, none⟩), undef, .int .i64 (L.getD k 0), .slice a la.length ca, .slice b lb.length cb, .slice pd L.length cd, .int .i64 (↑L.length : Int), .int .i64 (↑k : Int), .bool (decide ((↑k : Int) < (↑L.length : Int))), .pointer (some (elemAddr pd (k * 1))), .int .i64 (L.getD k 0), x3_18, x3_19, x3_20, x3_21, undef, undef], []⟩ (by kernel_rfl) ?_
    refine wpList_nil ?_
    refine wp_region_lit ?_
    refine g_pure 2 ⟨#[.int .i64 kind, .slice a la.length ca, .slice b lb.length cb, undef, undef, undef, .slice none 0 0, .pointer (some ⟨b1, 0, none⟩), undef, .int .i64 (L.getD k 0), .slice a la.length ca, .slice b lb.length cb, .slice pd L.length cd, .int .i64 (↑L.length : Int), .int .i64 (↑k : Int), .bool (decide ((↑k : Int) < (↑L.length : Int))), .pointer (some (elemAddr pd (k * 1))), .int .i64 (L.getD k 0), .int .i64 kind, .int .i64 (L.getD k 0), x3_20, x3_21, undef, undef], []⟩ (by kernel_rfl) ?_
    refine g_op (by kernel_rfl) (op_call 52 #[.pointer (some ⟨b1, 0, none⟩), .int .i64 kind, .int .i64 (L.getD k 0), .int .i64 13] rfl rfl (fun _ _ => by kernel_rfl) (by kernel_rfl) ((damaged_add w.heap.size b1 kind (L.getD k 0) 13 rfl p2 c2 (dl kind (L.take k)) _ k3_b1 od g1 hB.size (by have := dl_len kind (L.take k); have := List.length_take_le k L; omega)).mono ?_))
    rintro e W5 ⟨p3, c3, rfl, hb5, hO5, kA, oA⟩
    refine ⟨_, rfl, ?_⟩
    replace hB := hB.trans hb5
    replace hd := own_only hd hO5 (by decide)
    refine wpList_nil ?_
    refine wp_region_lit ?_
    refine g_op (by kernel_rfl) (op_wrap .i64 ((↑k : Int) + 1) ((↑k : Int) + 1) (by kernel_rfl) (by first | exact IntWalk.i64_in _ (by omega) | (simp only [IntKind.wrap]; omega)) ?_)
    refine g_pure 1 ⟨#[.int .i64 kind, .slice a la.length ca, .slice b lb.length cb, undef, undef, undef, .slice none 0 0, .pointer (some ⟨b1, 0, none⟩), undef, .int .i64 (L.getD k 0), .slice a la.length ca, .slice b lb.length cb, .slice pd L.length cd, .int .i64 (↑L.length : Int), .int .i64 ((↑k : Int) + 1), .bool (decide ((↑k : Int) < (↑L.length : Int))), .pointer (some (elemAddr pd (k * 1))), .int .i64 (L.getD k 0), .int .i64 kind, .int .i64 (L.getD k 0), .bool true, .int .i64 ((↑k : Int) + 1), undef, undef], []⟩ (by kernel_rfl) ?_
    refine wpList_nil ?_
    refine g_nfr ⟨#[.int .i64 kind, .slice a la.length ca, .slice b lb.length cb, undef, undef, undef, .slice none 0 0, .pointer (some ⟨b1, 0, none⟩), undef, .int .i64 (L.getD k 0), .slice a la.length ca, .slice b lb.length cb, .slice pd L.length cd, .int .i64 (↑L.length : Int), .int .i64 ((↑k : Int) + 1), .bool (decide ((↑k : Int) < (↑L.length : Int))), .pointer (some (elemAddr pd (k * 1))), .int .i64 (L.getD k 0), .int .i64 kind, .int .i64 (L.getD k 0), .bool true, .int .i64 ((↑k : Int) + 1), undef, undef], []⟩ (by kernel_rfl) ?_
    rw [← dl_take (kind := kind) (l := L) (k := k) (by omega)] at kA oA
    refine ⟨⟨k + 1, _, _, _, _, _, _, _, _, _, _, rfl, hB, kA, oA, hd, by omega⟩, ?_⟩
    show L.length - (((↑k : Int) + 1)).toNat < L.length - ((↑k : Int)).toNat
    omega
  · have hc4 := of_decide_eq_false hc4
    refine wp_exit ?_
    refine then_exit ?_
    refine then_exit ?_
    refine inBlock_hit ?_
    refine wp_seq ?_
    refine wp_region_lit ?_
    refine g_pure 1 ⟨#[.int .i64 kind, .slice a la.length ca, .slice b lb.length cb, undef, undef, undef, .slice none 0 0, .pointer (some ⟨b1, 0, none⟩), undef, x3_9, .slice a la.length ca, .slice b lb.length cb, .slice pd L.length cd, .int .i64 (↑L.length : Int), .int .i64 (↑k : Int), .bool (decide ((↑k : Int) < (↑L.length : Int))), x3_16, x3_17, x3_18, x3_19, x3_20, x3_21, .pointer (some ⟨b1, 0, none⟩), undef], []⟩ (by kernel_rfl) ?_
    refine g_op (by kernel_rfl) (op_load _ (.slice p2 ((dl kind (L.take k)).length) c2) rfl rfl (by kernel_rfl) (k3_b1.cell (i := 0) rfl) ?_)
    refine g_pure 1 ⟨#[.int .i64 kind, .slice a la.length ca, .slice b lb.length cb, undef, undef, undef, .slice p2 ((dl kind (L.take k)).length) c2, .pointer (some ⟨b1, 0, none⟩), undef, x3_9, .slice a la.length ca, .slice b lb.length cb, .slice pd L.length cd, .int .i64 (↑L.length : Int), .int .i64 (↑k : Int), .bool (decide ((↑k : Int) < (↑L.length : Int))), x3_16, x3_17, x3_18, x3_19, x3_20, x3_21, .pointer (some ⟨b1, 0, none⟩), .slice p2 ((dl kind (L.take k)).length) c2], []⟩ (by kernel_rfl) ?_
    refine wpList_nil ?_
    refine wp_ret ?_
    show bodyPost _ _ _ .ret _ _
    refine g_ret (.slice p2 ((dl kind (L.take k)).length) c2) rfl (by kernel_rfl) ?_
    have e : L.take k = L := List.take_of_length_le (by omega)
    rw [e] at od ⊢
    exact ⟨_, rfl, hB, od⟩
set_option maxRecDepth 100000 in
set_option maxHeartbeats 1000000 in
theorem ref28_Counts (kind : Int) (a b : Option Addr) (ca cb : Nat) (la lb : List Int) (w : World) (ha : Ints w (.slice a la.length ca) la) (hb : Ints w (.slice b lb.length cb) lb) (hla : la.length ≤ 1000000) (hlb : lb.length ≤ 1000000) :
    Calls Tryd.prog 30 #[.int .i64 kind, .slice a la.length ca, .slice b lb.length cb] w (RetS (fun w' r => Dms w.heap.size w' r (dl kind (dif la lb (max la.length lb.length)))) w) := by
  refine calls_of_wp Tryd.func30 rfl ?_
  refine g_fr ⟨#[.int .i64 kind, .slice a la.length ca, .slice b lb.length cb, undef, undef, undef, undef, undef, undef, undef, undef, undef, undef, undef, undef, undef, undef, undef, undef, undef, undef, undef, undef, undef, undef, undef, undef, undef, undef], []⟩ (by kernel_rfl) ?_
  refine wp_seq ?_
  refine wp_region_lit ?_
  refine g_pure 1 ⟨#[.int .i64 kind, .slice a la.length ca, .slice b lb.length cb, undef, undef, undef, .slice none 0 0, undef, undef, undef, undef, undef, undef, undef, undef, undef, undef, undef, undef, undef, undef, undef, undef, undef, undef, undef, undef, undef, undef], []⟩ (by kernel_rfl) ?_
  refine wpList_nil ?_
  refine wp_seq ?_
  refine wp_region_lit ?_
  refine g_pure 2 ⟨#[.int .i64 kind, .slice a la.length ca, .slice b lb.length cb, undef, undef, undef, .slice none 0 0, undef, undef, undef, .slice a la.length ca, .slice b lb.length cb, undef, undef, undef, undef, undef, undef, undef, undef, undef, undef, undef, undef, undef, undef, undef, undef, undef], []⟩ (by kernel_rfl) ?_
  have hs1 : w.heap.size ≤ (w).heap.size := Nat.le_trans (Nat.le_refl _) (Below.refl w.heap.size _).size
  refine g_op (by kernel_rfl) (op_call 53 #[.slice a la.length ca, .slice b lb.length cb] rfl rfl (fun _ _ => by kernel_rfl) (by kernel_rfl) ((ref12_Differ a b ca cb la lb _ (ha.below (Below.refl w.heap.size _)) (hb.below (Below.refl w.heap.size _)) hla hlb).mono ?_))
  rintro e W1 ⟨_, rfl, hb1, hd⟩
  refine ⟨_, rfl, ?_⟩
  have hB := hb1
  replace hd := own_mono hd hs1
  have hLl := dif_le la lb (max la.length lb.length)
  generalize hL : (dif la lb (max la.length lb.length)) = L at *
  obtain ⟨pd, cd, rfl⟩ := (own_sl hd).slice
  refine g_pure 1 ⟨#[.int .i64 kind, .slice a la.length ca, .slice b lb.length cb, undef, undef, undef, .slice none 0 0, .slice pd L.length cd, undef, undef, .slice a la.length ca, .slice b lb.length cb, .slice pd L.length cd, undef, undef, undef, undef, undef, undef, undef, undef, undef, undef, undef, undef, undef, undef, undef, undef], []⟩ (by kernel_rfl) ?_
  refine wpList_nil ?_
  refine wp_seq ?_
  refine wp_region_lit ?_
  refine g_pure 1 ⟨#[.int .i64 kind, .slice a la.length ca, .slice b lb.length cb, undef, undef, undef, .slice none 0 0, .slice pd L.length cd, .slice none 0 0, undef, .slice a la.length ca, .slice b lb.length cb, .slice pd L.length cd, undef, undef, undef, undef, undef, undef, undef, undef, undef, undef, undef, undef, undef, undef, undef, undef], []⟩ (by kernel_rfl) ?_
  refine wpList_nil ?_
  refine wp_seq ?_
  refine wp_seq ?_
  refine wp_region_lit ?_
  refine g_pure 1 ⟨#[.int .i64 kind, .slice a la.length ca, .slice b lb.length cb, undef, undef, undef, .slice none 0 0, .slice pd L.length cd, .slice none 0 0, .int .i64 0, .slice a la.length ca, .slice b lb.length cb, .slice pd L.length cd, undef, undef, undef, undef, undef, undef, undef, undef, undef, undef, undef, undef, undef, undef, undef, undef], []⟩ (by kernel_rfl) ?_
  refine wpList_nil ?_
  refine wp_block ?_
  refine g_fr ⟨#[.int .i64 kind, .slice a la.length ca, .slice b lb.length cb, undef, undef, undef, .slice none 0 0, .slice pd L.length cd, .slice none 0 0, .int .i64 0, .slice a la.length ca, .slice b lb.length cb, .slice pd L.length cd, undef, undef, undef, undef, undef, undef, undef, undef, undef, undef, undef, undef, undef, undef, undef, undef], []⟩ (by kernel_rfl) ?_
  refine wp_loop (fun act V => ∃ (k : Nat) (p2 : Option Addr) (c2 : Nat) (x2_13 x2_14 x2_15 x2_16 x2_17 x2_18 x2_19 x2_20 x2_21 x2_22 x2_23 x2_24 x2_25 x2_26 x2_27 : Value), act = ⟨#[.int .i64 kind, .slice a la.length ca, .slice b lb.length cb, undef, undef, undef, .slice none 0 0, .slice pd L.length cd, .slice p2 ((dl kind (L.take k)).length) c2, .int .i64 (↑k : Int), .slice a la.length ca, .slice b lb.length cb, .slice pd L.length cd, x2_13, x2_14, x2_15, x2_16, x2_17, x2_18, x2_19, x2_20, x2_21, x2_22, x2_23, x2_24, x2_25, x2_26, x2_27, undef], []⟩ ∧ Below w.heap.size w V ∧ V.ownsRow w.heap.size 53 3 (.slice p2 (dl kind (L.take k)).length c2) (dl kind (L.take k)).length ((dl kind (L.take k)).flatMap dmc) ∧ V.ownsRow w.heap.size 3 1 (.slice pd L.length cd) L.length (L.map (Value.int .i64)) ∧ k ≤ L.length) (fun act V => L.length - ((intOf (act.tmps.getD 9 undef))).toNat) ⟨0, _, _, _, _, _, _, _, _, _, _, _, _, _, _, _, _, _, rfl, hB, World.ownsRow_nil _ _ _ _, hd, Nat.zero_le _⟩ ?_
  rintro _ W2 ⟨k, p2, c2, x2_13, x2_14, x2_15, x2_16, x2_17, x2_18, x2_19, x2_20, x2_21, x2_22, x2_23, x2_24, x2_25, x2_26, x2_27, rfl, hB, od, hd, hk⟩
  refine wp_seq ?_
  refine wp_seq ?_
  refine wp_region_lit ?_
  refine g_pure 4 ⟨#[.int .i64 kind, .slice a la.length ca, .slice b lb.length cb, undef, undef, undef, .slice none 0 0, .slice pd L.length cd, .slice p2 ((dl kind (L.take k)).length) c2, .int .i64 (↑k : Int), .slice a la.length ca, .slice b lb.length cb, .slice pd L.length cd, .int .i64 (↑k : Int), .slice pd L.length cd, .int .i64 (↑L.length : Int), .bool (decide ((↑k : Int) < (↑L.length : Int))), x2_17, x2_18, x2_19, x2_20, x2_21, x2_22, x2_23, x2_24, x2_25, x2_26, x2_27, undef], []⟩ (by kernel_rfl) ?_
  refine wpList_nil ?_
  refine wp_cond_split (t := decide ((↑k : Int) < (↑L.length : Int))) rfl (fun hc3 => ?_) (fun hc3 => ?_)
  · have hc3 := of_decide_eq_true hc3
    refine wp_skip ?_
    refine wp_seq ?_
    refine wp_block ?_
    refine wp_region_lit ?_
    refine g_pure 4 ⟨#[.int .i64 kind, .slice a la.length ca, .slice b lb.length cb, undef, undef, undef, .slice none 0 0, .slice pd L.length cd, .slice p2 ((dl kind (L.take k)).length) c2, .int .i64 (↑k : Int), .slice a la.length ca, .slice b lb.length cb, .slice pd L.length cd, .int .i64 (↑k : Int), .slice pd L.length cd, .int .i64 (↑L.length : Int), .bool (decide ((↑k : Int) < (↑L.length : Int))), x2_17, x2_18, .slice p2 ((dl kind (L.take k)).length) c2, .int .i64 kind, .slice pd L.length cd, .int .i64 (↑k : Int), x2_23, x2_24, x2_25, x2_26, x2_27, undef], []⟩ (by kernel_rfl) ?_
    refine g_op (by kernel_rfl) (op_val (run_indexA (size := 1) (k := k) rfl rfl rfl rfl (by omega) (Ints.elem (own_sl hd) (k := k) (by omega)).1 Tryd.underlying22 (by kernel_rfl) W2) ?_)
    refine g_op (by kernel_rfl) (op_load _ (.int .i64 (L.getD k 0)) rfl rfl (by kernel_rfl) (Ints.elem (own_sl hd) (k := k) (by omega)).2 ?_)
    refine g_op (by kernel_rfl) (op_call 50 #[.int .i64 kind, .int .i64 (L.getD k 0), .int .i64 13] rfl rfl (fun _ _ => by kernel_rfl) (by kernel_rfl) ((ref28_Damage kind (L.getD k 0) 13 _).mono ?_))
    rintro e W4 ⟨rfl, hb4⟩
    refine ⟨_, rfl, ?_⟩
    replace hB := Bl.next hB hb4
    replace hd := own_below hd hb4
    replace od := own_below od hb4
    refine g_op (by kernel_rfl) (op_buildSlice 53 [.int .i64 kind, .int .i64 (L.getD k 0), .int .i64 13] rfl (by kernel_rfl) ?_)
    intro b5 W5 n5
    have g5 := n5.ge hB
    replace hB := Bl.next hB n5.below
    replace hd := own_below hd n5.below
    replace od := own_below od n5.below
    have k5 := n5.blk
    refine g_op (by kernel_rfl) (op_app (e := 53) (n := (dl kind (L.take k)).length) (xs := (dl kind (L.take k)).flatMap dmc) (m := 1) (news := [.int .i64 kind, .int .i64 (L.getD k 0), .int .i64 13]) (.agg #[.int .i64 0, .int .i64 0, .int .i64 0]) 3 24 ((dl kind (L.take (k + 1))).length) ((dl kind (L.take (k + 1))).flatMap dmc) rfl Tryd.underlying58 (by kernel_rfl) rfl (by decide) rfl od rfl (k5.sl 1 1 (by decide) (by decide)) rfl (by simp [Value.oneCell']) (by have := dl_len kind (L.take k); have := List.length_take_le k L; unfold maxLen; omega) (by have := dl_len kind (L.take k); have := List.length_take_le k L; omega) (Nat.le_trans (Nat.le_refl _) hB.size) (by rw [dl_take (kind := kind) (l := L) (k := k) (by omega)]; simp) (by rw [dl_take (kind := kind) (l := L) (k := k) (by omega)]; simp [dmc]) ?_)
    intro p6 c6 W6 o6 hg6 hb6
    replace hd := own_grown hd hg6 od (by decide)
    replace hB := hB.trans hb6
    refine g_pure 1 ⟨#[.int .i64 kind, .slice a la.length ca, .slice b lb.length cb, undef, undef, undef, .slice none 0 0, .slice pd L.length cd, .slice p6 ((dl kind (L.take (k + 1))).length) c6, .int .i64 (↑k : Int), .slice a la.length ca, .slice b lb.length cb, .slice pd L.length cd, .int .i64 (↑k : Int), .slice pd L.length cd, .int .i64 (↑L.length : Int), .bool (decide ((↑k : Int) < (↑L.length : Int))), x2_17, x2_18, .slice p2 ((dl kind (L.take k)).length) c2, .int .i64 kind, .slice pd L.length cd, .int .i64 (↑k : Int), .pointer (some (elemAddr pd (k * 1))), .int .i64 (L.getD k 0), .agg #[.int .i64 kind, .int .i64 (L.getD k 0), .int .i64 13], .slice (some ⟨b5, 0, none⟩) 1 1, .slice p6 ((dl kind (L.take (k + 1))).length) c6, undef], []⟩ (by kernel_rfl) ?_
    refine wpList_nil ?_
    refine wp_region_lit ?_
    refine g_pure 1 ⟨#[.int .i64 kind, .slice a la.length ca, .slice b lb.length cb, undef, undef, undef, .slice none 0 0, .slice pd L.length cd, .slice p6 ((dl kind (L.take (k + 1))).length) c6, .int .i64 (↑k : Int), .slice a la.length ca, .slice b lb.length cb, .slice pd L.length cd, .int .i64 (↑k : Int), .slice pd L.length cd, .int .i64 (↑L.length : Int), .bool (decide ((↑k : Int) < (↑L.length : Int))), .int .i64 (↑k : Int), x2_18, .slice p2 ((dl kind (L.take k)).length) c2, .int .i64 kind, .slice pd L.length cd, .int .i64 (↑k : Int), .pointer (some (elemAddr pd (k * 1))), .int .i64 (L.getD k 0), .agg #[.int .i64 kind, .int .i64 (L.getD k 0), .int .i64 13], .slice (some ⟨b5, 0, none⟩) 1 1, .slice p6 ((dl kind (L.take (k + 1))).length) c6, undef], []⟩ (by kernel_rfl) ?_
    refine g_op (by kernel_rfl) (op_wrap .i64 ((↑k : Int) + 1) ((↑k : Int) + 1) (by kernel_rfl) (by first | exact IntWalk.i64_in _ (by omega) | (simp only [IntKind.wrap]; omega)) ?_)
    refine g_pure 1 ⟨#[.int .i64 kind, .slice a la.length ca, .slice b lb.length cb, undef, undef, undef, .slice none 0 0, .slice pd L.length cd, .slice p6 ((dl kind (L.take (k + 1))).length) c6, .int .i64 ((↑k : Int) + 1), .slice a la.length ca, .slice b lb.length cb, .slice pd L.length cd, .int .i64 (↑k : Int), .slice pd L.length cd, .int .i64 (↑L.length : Int), .bool (decide ((↑k : Int) < (↑L.length : Int))), .int .i64 (↑k : Int), .int .i64 ((↑k : Int) + 1), .slice p2 ((dl kind (L.take k)).length) c2, .int .i64 kind, .slice pd L.length cd, .int .i64 (↑k : Int), .pointer (some (elemAddr pd (k * 1))), .int .i64 (L.getD k 0), .agg #[.int .i64 kind, .int .i64 (L.getD k 0), .int .i64 13], .slice (some ⟨b5, 0, none⟩) 1 1, .slice p6 ((dl kind (L.take (k + 1))).length) c6, undef], []⟩ (by kernel_rfl) ?_
    refine wpList_nil ?_
    refine g_nfr ⟨#[.int .i64 kind, .slice a la.length ca, .slice b lb.length cb, undef, undef, undef, .slice none 0 0, .slice pd L.length cd, .slice p6 ((dl kind (L.take (k + 1))).length) c6, .int .i64 ((↑k : Int) + 1), .slice a la.length ca, .slice b lb.length cb, .slice pd L.length cd, .int .i64 (↑k : Int), .slice pd L.length cd, .int .i64 (↑L.length : Int), .bool (decide ((↑k : Int) < (↑L.length : Int))), .int .i64 (↑k : Int), .int .i64 ((↑k : Int) + 1), .slice p2 ((dl kind (L.take k)).length) c2, .int .i64 kind, .slice pd L.length cd, .int .i64 (↑k : Int), .pointer (some (elemAddr pd (k * 1))), .int .i64 (L.getD k 0), .agg #[.int .i64 kind, .int .i64 (L.getD k 0), .int .i64 13], .slice (some ⟨b5, 0, none⟩) 1 1, .slice p6 ((dl kind (L.take (k + 1))).length) c6, undef], []⟩ (by kernel_rfl) ?_
    refine ⟨⟨k + 1, _, _, _, _, _, _, _, _, _, _, _, _, _, _, _, _, _, rfl, hB, o6, hd, by omega⟩, ?_⟩
    show L.length - (((↑k : Int) + 1)).toNat < L.length - ((↑k : Int)).toNat
    omega
  · have hc3 := of_decide_eq_false hc3
    refine wp_exit ?_
    refine then_exit ?_
    refine then_exit ?_
    refine inBlock_hit ?_
    refine wp_seq ?_
    refine wp_region_lit ?_
    refine g_pure 2 ⟨#[.int .i64 kind, .slice a la.length ca, .slice b lb.length cb, undef, undef, undef, .slice p2 ((dl kind (L.take k)).length) c2, .slice pd L.length cd, .slice p2 ((dl kind (L.take k)).length) c2, .int .i64 (↑k : Int), .slice a la.length ca, .slice b lb.length cb, .slice pd L.length cd, .int .i64 (↑k : Int), .slice pd L.length cd, .int .i64 (↑L.length : Int), .bool (decide ((↑k : Int) < (↑L.length : Int))), x2_17, x2_18, x2_19, x2_20, x2_21, x2_22, x2_23, x2_24, x2_25, x2_26, x2_27, .slice p2 ((dl kind (L.take k)).length) c2], []⟩ (by kernel_rfl) ?_
    refine wpList_nil ?_
    refine wp_ret ?_
    show bodyPost _ _ _ .ret _ _
    refine g_ret (.slice p2 ((dl kind (L.take k)).length) c2) rfl (by kernel_rfl) ?_
    have e : L.take k = L := List.take_of_length_le (by omega)
    rw [e] at od ⊢
    exact ⟨_, rfl, hB, od⟩
theorem Dms.below {base : Nat} {w w' : World} {v : Value} {l : List (Int × Int × Int)} (h : Dms base w v l) (hb : Below w.heap.size w w') : Dms base w' v l := own_below h hb
set_option maxRecDepth 100000 in
set_option maxHeartbeats 1000000 in
theorem auditCounts_law (kind : Int) (a b : Option Addr) (ca cb : Nat) (la lb : List Int) (w : World) (hg : ErrT w) (ha : Ints w (.slice a la.length ca) la) (hb : Ints w (.slice b lb.length cb) lb) :
    Calls Tryd.prog 8 #[.int .i64 kind, .slice a la.length ca, .slice b lb.length cb] w (Ret (.bool true) w) := by
  refine calls_of_wp Tryd.func8 rfl ?_
  refine g_fr ⟨#[.int .i64 kind, .slice a la.length ca, .slice b lb.length cb, undef, undef, undef, undef, undef, undef, undef, undef, undef, undef, undef, undef, undef, undef, undef, undef, undef, undef, undef, undef, undef, undef, undef, undef, undef], []⟩ (by kernel_rfl) ?_
  refine wp_seq ?_
  refine wp_region_lit ?_
  refine g_pure 1 ⟨#[.int .i64 kind, .slice a la.length ca, .slice b lb.length cb, undef, undef, undef, .bool false, undef, undef, undef, undef, undef, undef, undef, undef, undef, undef, undef, undef, undef, undef, undef, undef, undef, undef, undef, undef, undef], []⟩ (by kernel_rfl) ?_
  refine wpList_nil ?_
  refine wp_seq ?_
  refine wp_seq ?_
  refine wp_region_lit ?_
  refine g_pure 4 ⟨#[.int .i64 kind, .slice a la.length ca, .slice b lb.length cb, undef, undef, undef, .bool false, .slice a la.length ca, .int .i64 (↑la.length : Int), .bool (decide ((↑la.length : Int) > (2000 : Int))), .bool (decide ((↑la.length : Int) > (2000 : Int))), undef, undef, undef, undef, undef, undef, undef, undef, undef, undef, undef, undef, undef, undef, undef, undef, undef], []⟩ (by kernel_rfl) ?_
  rcases Bool.eq_false_or_eq_true (decide ((↑la.length : Int) > (2000 : Int))) with hc1 | hc1
  · refine g_lfr ⟨#[.int .i64 kind, .slice a la.length ca, .slice b lb.length cb, undef, undef, undef, .bool false, .slice a la.length ca, .int .i64 (↑la.length : Int), .bool true, .bool true, undef, undef, undef, undef, undef, undef, undef, undef, undef, undef, undef, undef, undef, undef, undef, undef, undef], []⟩ (by rw [hc1]) ?_
    have hc1 := of_decide_eq_true hc1
    refine g_pure 4 ⟨#[.int .i64 kind, .slice a la.length ca, .slice b lb.length cb, undef, undef, undef, .bool false, .slice a la.length ca, .int .i64 (↑la.length : Int), .bool true, .bool true, undef, undef, undef, .bool true, undef, undef, undef, undef, undef, undef, undef, undef, undef, undef, undef, undef, undef], []⟩ (by kernel_rfl) ?_
    refine wpList_nil ?_
    refine wp_cond_true rfl ?_
    refine wp_seq ?_
    refine wp_region_lit ?_
    refine g_op (by kernel_rfl) (op_call 25 #[] rfl rfl (fun _ _ => by kernel_rfl) (by kernel_rfl) ((lives28 _ (hg.below (Below.refl w.heap.size _))).mono ?_))
    rintro e W2 ⟨rfl, hb2⟩
    refine ⟨_, rfl, ?_⟩
    have hB := hb2
    refine g_pure 1 ⟨#[.int .i64 kind, .slice a la.length ca, .slice b lb.length cb, undef, undef, undef, .bool true, .slice a la.length ca, .int .i64 (↑la.length : Int), .bool true, .bool true, undef, undef, undef, .bool true, .bool true, undef, undef, undef, undef, undef, undef, undef, undef, undef, undef, undef, undef], []⟩ (by kernel_rfl) ?_
    refine wpList_nil ?_
    refine wp_ret ?_
    show bodyPost _ _ _ .ret _ _
    exact g_ret (.bool true) rfl (by kernel_rfl) ⟨rfl, hB⟩
  · refine g_lfr ⟨#[.int .i64 kind, .slice a la.length ca, .slice b lb.length cb, undef, undef, undef, .bool false, .slice a la.length ca, .int .i64 (↑la.length : Int), .bool false, .bool false, undef, undef, undef, undef, undef, undef, undef, undef, undef, undef, undef, undef, undef, undef, undef, undef, undef], []⟩ (by rw [hc1]) ?_
    have hc1 := of_decide_eq_false hc1
    refine g_pure 4 ⟨#[.int .i64 kind, .slice a la.length ca, .slice b lb.length cb, undef, undef, undef, .bool false, .slice a la.length ca, .int .i64 (↑la.length : Int), .bool false, .bool false, .slice b lb.length cb, .int .i64 (↑lb.length : Int), .bool (decide ((↑lb.length : Int) > (2000 : Int))), .bool (decide ((↑lb.length : Int) > (2000 : Int))), undef, undef, undef, undef, undef, undef, undef, undef, undef, undef, undef, undef, undef], []⟩ (by kernel_rfl) ?_
    refine wpList_nil ?_
    refine wp_cond_split (t := decide ((↑lb.length : Int) > (2000 : Int))) rfl (fun hc3 => ?_) (fun hc3 => ?_)
    · have hc3 := of_decide_eq_true hc3
      refine wp_seq ?_
      refine wp_region_lit ?_
      refine g_op (by kernel_rfl) (op_call 25 #[] rfl rfl (fun _ _ => by kernel_rfl) (by kernel_rfl) ((lives28 _ (hg.below (Below.refl w.heap.size _))).mono ?_))
      rintro e W4 ⟨rfl, hb4⟩
      refine ⟨_, rfl, ?_⟩
      have hB := hb4
      refine g_pure 1 ⟨#[.int .i64 kind, .slice a la.length ca, .slice b lb.length cb, undef, undef, undef, .bool true, .slice a la.length ca, .int .i64 (↑la.length : Int), .bool false, .bool false, .slice b lb.length cb, .int .i64 (↑lb.length : Int), .bool (decide ((↑lb.length : Int) > (2000 : Int))), .bool (decide ((↑lb.length : Int) > (2000 : Int))), .bool true, undef, undef, undef, undef, undef, undef, undef, undef, undef, undef, undef, undef], []⟩ (by kernel_rfl) ?_
      refine wpList_nil ?_
      refine wp_ret ?_
      show bodyPost _ _ _ .ret _ _
      exact g_ret (.bool true) rfl (by kernel_rfl) ⟨rfl, hB⟩
    · have hc3 := of_decide_eq_false hc3
      refine wp_skip ?_
      refine wp_seq ?_
      refine wp_region_lit ?_
      refine g_pure 3 ⟨#[.int .i64 kind, .slice a la.length ca, .slice b lb.length cb, undef, undef, undef, .bool false, .slice a la.length ca, .int .i64 (↑la.length : Int), .bool false, .bool false, .slice b lb.length cb, .int .i64 (↑lb.length : Int), .bool (decide ((↑lb.length : Int) > (2000 : Int))), .bool (decide ((↑lb.length : Int) > (2000 : Int))), undef, .int .i64 kind, .slice a la.length ca, .slice b lb.length cb, undef, undef, undef, undef, undef, undef, undef, undef, undef], []⟩ (by kernel_rfl) ?_
      refine g_op (by kernel_rfl) (op_call 29 #[.int .i64 kind, .slice a la.length ca, .slice b lb.length cb] rfl rfl (fun _ _ => by kernel_rfl) (by kernel_rfl) ((audit_Counts kind a b ca cb la lb _ (ha.below (Below.refl w.heap.size _)) (hb.below (Below.refl w.heap.size _)) (by omega) (by omega)).mono ?_))
      rintro e W5 ⟨_, rfl, hb5, h1⟩
      refine ⟨_, rfl, ?_⟩
      have hB := hb5
      obtain ⟨p1, c1, rfl⟩ := (own_sl h1).slice
      refine g_pure 3 ⟨#[.int .i64 kind, .slice a la.length ca, .slice b lb.length cb, undef, undef, undef, .bool false, .slice a la.length ca, .int .i64 (↑la.length : Int), .bool false, .bool false, .slice b lb.length cb, .int .i64 (↑lb.length : Int), .bool (decide ((↑lb.length : Int) > (2000 : Int))), .bool (decide ((↑lb.length : Int) > (2000 : Int))), undef, .int .i64 kind, .slice a la.length ca, .slice b lb.length cb, .slice p1 ((dl kind (dif la lb (max la.length lb.length))).length) c1, .int .i64 kind, .slice a la.length ca, .slice b lb.length cb, undef, undef, undef, undef, undef], []⟩ (by kernel_rfl) ?_
      refine g_op (by kernel_rfl) (op_call 30 #[.int .i64 kind, .slice a la.length ca, .slice b lb.length cb] rfl rfl (fun _ _ => by kernel_rfl) (by kernel_rfl) ((ref28_Counts kind a b ca cb la lb _ (ha.below hB) (hb.below hB) (by omega) (by omega)).mono ?_))
      rintro e W6 ⟨_, rfl, hb6, h2⟩
      refine ⟨_, rfl, ?_⟩
      replace hB := Bl.next hB hb6
      replace h1 := h1.below hb6
      obtain ⟨p2, c2, rfl⟩ := (own_sl h2).slice
      refine g_op (by kernel_rfl) (op_call 28 #[.slice p1 ((dl kind (dif la lb (max la.length lb.length))).length) c1, .slice p2 ((dl kind (dif la lb (max la.length lb.length))).length) c2] rfl rfl (fun _ _ => by kernel_rfl) (by kernel_rfl) ((ref28_Same_same p1 p2 c1 c2 _ _ h1.sts h2.sts).mono ?_))
      rintro e W7 ⟨rfl, hb7⟩
      refine ⟨_, rfl, ?_⟩
      replace hB := Bl.next hB hb7
      replace h1 := h1.below hb7
      replace h2 := h2.below hb7
      refine g_pure 1 ⟨#[.int .i64 kind, .slice a la.length ca, .slice b lb.length cb, undef, undef, undef, .bool false, .slice a la.length ca, .int .i64 (↑la.length : Int), .bool false, .bool false, .slice b lb.length cb, .int .i64 (↑lb.length : Int), .bool (decide ((↑lb.length : Int) > (2000 : Int))), .bool (decide ((↑lb.length : Int) > (2000 : Int))), undef, .int .i64 kind, .slice a la.length ca, .slice b lb.length cb, .slice p1 ((dl kind (dif la lb (max la.length lb.length))).length) c1, .int .i64 kind, .slice a la.length ca, .slice b lb.length cb, .slice p2 ((dl kind (dif la lb (max la.length lb.length))).length) c2, .bool true, .bool true, undef, undef], []⟩ (by kernel_rfl) ?_
      refine g_op (by kernel_rfl) (op_call 25 #[] rfl rfl (fun _ _ => by kernel_rfl) (by kernel_rfl) ((lives28 _ (hg.below hB)).mono ?_))
      rintro e W8 ⟨rfl, hb8⟩
      refine ⟨_, rfl, ?_⟩
      replace hB := Bl.next hB hb8
      replace h1 := h1.below hb8
      replace h2 := h2.below hb8
      refine g_pure 2 ⟨#[.int .i64 kind, .slice a la.length ca, .slice b lb.length cb, undef, undef, undef, .bool true, .slice a la.length ca, .int .i64 (↑la.length : Int), .bool false, .bool false, .slice b lb.length cb, .int .i64 (↑lb.length : Int), .bool (decide ((↑lb.length : Int) > (2000 : Int))), .bool (decide ((↑lb.length : Int) > (2000 : Int))), undef, .int .i64 kind, .slice a la.length ca, .slice b lb.length cb, .slice p1 ((dl kind (dif la lb (max la.length lb.length))).length) c1, .int .i64 kind, .slice a la.length ca, .slice b lb.length cb, .slice p2 ((dl kind (dif la lb (max la.length lb.length))).length) c2, .bool true, .bool true, .bool true, .bool true], []⟩ (by kernel_rfl) ?_
      refine wpList_nil ?_
      refine wp_ret ?_
      show bodyPost _ _ _ .ret _ _
      exact g_ret (.bool true) rfl (by kernel_rfl) ⟨rfl, hB⟩
end Go.Proofs.YthjemliaeklecaaDoor
