/- (*Alloc).Image, and build.right at entries that are right. -/
import Derived.Test.YtlmogdjcnbjhfaaDoorNodePut
import Derived.Test.YtlmogdjcnbjhfaaDoorAlloc
namespace Go.Proofs.YtlmogdjcnbjhfaaDoor
open Go.RowKit Go.Extern.Stop Go.Stop Go.Extern
set_option linter.unusedVariables false

set_option maxRecDepth 100000 in
set_option maxHeartbeats 1000000 in
theorem alloc_Image (ba b : Nat) (v x : Value) (w : World) (hk : Blk w ba [v, x, .pointer (some ⟨b, 0, none⟩)] 54) :
    Calls Tryd.prog 15 #[.pointer (some ⟨ba, 0, none⟩)] w (Ret (.pointer (some ⟨b, 0, none⟩)) w) := by
  refine calls_of_wp Tryd.func15 rfl ?_
  refine g_fr ⟨#[.pointer (some ⟨ba, 0, none⟩), undef, undef, undef, undef, undef, undef, undef, undef], []⟩ (by kernel_rfl) ?_
  refine wp_seq ?_
  refine wp_region_lit ?_
  refine g_pure 1 ⟨#[.pointer (some ⟨ba, 0, none⟩), undef, .pointer none, undef, undef, undef, undef, undef, undef], []⟩ (by kernel_rfl) ?_
  refine wpList_nil ?_
  refine wp_seq ?_
  refine wp_seq ?_
  refine wp_region_lit ?_
  refine g_pure 1 ⟨#[.pointer (some ⟨ba, 0, none⟩), undef, .pointer none, .pointer (some ⟨ba, 0, none⟩), undef, undef, undef, undef, undef], []⟩ (by kernel_rfl) ?_
  refine g_op (by kernel_rfl) (op_call 19 #[.pointer (some ⟨ba, 0, none⟩)] rfl rfl (fun _ _ => by kernel_rfl) (by kernel_rfl) ((alloc_nobody ba b _ _ _ hk).mono ?_))
  rintro e W1 ⟨rfl, hb1⟩
  refine ⟨_, rfl, ?_⟩
  have hB := hb1
  replace hk := hk.below hb1
  refine wpList_nil ?_
  refine wp_cond_false rfl ?_
  refine wp_skip ?_
  refine wp_seq ?_
  refine wp_region_lit ?_
  refine g_pure 3 ⟨#[.pointer (some ⟨ba, 0, none⟩), undef, .pointer none, .pointer (some ⟨ba, 0, none⟩), .bool false, .pointer (some ⟨ba, 0, none⟩), .pointer (some ⟨ba, 0, none⟩), .pointer (some ⟨ba, 2, none⟩), undef], []⟩ (by kernel_rfl) ?_
  refine g_op (by kernel_rfl) (op_load _ (.pointer (some ⟨b, 0, none⟩)) rfl rfl (by kernel_rfl) (hk.cell (i := 2) rfl) ?_)
  refine g_pure 1 ⟨#[.pointer (some ⟨ba, 0, none⟩), undef, .pointer (some ⟨b, 0, none⟩), .pointer (some ⟨ba, 0, none⟩), .bool false, .pointer (some ⟨ba, 0, none⟩), .pointer (some ⟨ba, 0, none⟩), .pointer (some ⟨ba, 2, none⟩), .pointer (some ⟨b, 0, none⟩)], []⟩ (by kernel_rfl) ?_
  refine wpList_nil ?_
  refine wp_ret ?_
  show bodyPost _ _ _ .ret _ _
  exact g_ret (.pointer (some ⟨b, 0, none⟩)) rfl (by kernel_rfl) ⟨rfl, hB⟩
/-- an entry: its key, its value, its block -/
abbrev Ent := Int × List UInt8 × Int
def entD : Ent := (0, [], 0)
def entC (x : Ent) : List Value := [.int .i64 x.1, .string ⟨x.2.1.toArray⟩, .int .i64 x.2.2]
theorem entC_len (x : Ent) : (entC x).length = 3 := rfl
/-- the key ahead of entry i -/
def lastK (l : List Ent) : Nat → Int
  | 0 => -1
  | i + 1 => (l.getD i entD).1
/-- entries that a tree may be built of -/
structure EntsOk (v : Nat) (l : List Ent) : Prop where
  hk : ∀ i, i < l.length → 0 ≤ (l.getD i entD).1 ∧ (l.getD i entD).1 ≤ 281474976710655
  hs : ∀ j, j + 1 < l.length → (l.getD j entD).1 < (l.getD (j + 1) entD).1
  hw : ∀ i, i < l.length → (l.getD i entD).2.1.length = v
theorem EntsOk.last {v : Nat} {l : List Ent} (E : EntsOk v l) {i : Nat} (h : i < l.length) : lastK l i < (l.getD i entD).1 := by
  cases i with
  | zero => have := (E.hk 0 h).1; simp only [lastK]; omega
  | succ j => exact E.hs j h
theorem levs_ge (x : Nat) : x ≤ (levs x).sum := by
  by_cases h : x ≤ 1
  · rw [levs_one h]; simp
  · rw [levs_more h]; simp
theorem nodN_pos (t : Int) (n : Nat) : 1 ≤ nodN t n := by
  have h1 := levs_ge (ovN n (maxN t true)); have h2 := ovN_pos n (maxN t true); unfold nodN levL; omega
set_option maxRecDepth 100000 in
set_option maxHeartbeats 4000000 in
theorem build_right (t : Int) (v : Nat) (a : Option Addr) (c : Nat) (l : List Ent) (w : World) (ht1 : 1 ≤ t) (ht2 : t ≤ 5) (hv : widN t true = v) (E : EntsOk v l) (h : Sts entC w (.slice a l.length c) l) (hn : l.length ≤ 32768) :
    Calls Tryd.prog 16 #[.int .i64 t, .slice a l.length c] w (Ret (.bool true) w) := by
  have hwb := widN_bd t true
  rw [hv] at hwb
  have hnp := nodN_pos t l.length
  refine calls_of_wp Tryd.func16 rfl ?_
  refine g_fr ⟨#[.int .i64 t, .slice a l.length c, undef, undef, undef, undef, undef, undef, undef, undef, undef, undef, undef, undef, undef, undef, undef, undef, undef, undef, undef, undef, undef, undef, undef, undef, undef, undef, undef, undef, undef, undef, undef, undef, undef, undef, undef, undef, undef, undef, undef, undef, undef, undef, undef], []⟩ (by kernel_rfl) ?_
  refine wp_seq ?_
  refine wp_region_lit ?_
  refine g_pure 1 ⟨#[.int .i64 t, .slice a l.length c, undef, undef, .bool false, undef, undef, undef, undef, undef, undef, undef, undef, undef, undef, undef, undef, undef, undef, undef, undef, undef, undef, undef, undef, undef, undef, undef, undef, undef, undef, undef, undef, undef, undef, undef, undef, undef, undef, undef, undef, undef, undef, undef, undef], []⟩ (by kernel_rfl) ?_
  refine wpList_nil ?_
  refine wp_seq ?_
  refine wp_region_lit ?_
  refine g_pure 1 ⟨#[.int .i64 t, .slice a l.length c, undef, undef, .bool false, undef, undef, undef, undef, .int .i64 t, undef, undef, undef, undef, undef, undef, undef, undef, undef, undef, undef, undef, undef, undef, undef, undef, undef, undef, undef, undef, undef, undef, undef, undef, undef, undef, undef, undef, undef, undef, undef, undef, undef, undef, undef], []⟩ (by kernel_rfl) ?_
  refine g_op (by kernel_rfl) (op_call 26 #[.int .i64 t, .bool true] rfl rfl (fun _ _ => by kernel_rfl) (by kernel_rfl) ((node_WidthN t true v hv ht1 ht2 _).mono ?_))
  rintro e W1 ⟨rfl, hb1⟩
  refine ⟨_, rfl, ?_⟩
  have hB := hb1
  refine g_pure 1 ⟨#[.int .i64 t, .slice a l.length c, undef, undef, .bool false, .int .i64 (↑v : Int), undef, undef, undef, .int .i64 t, .int .i64 (↑v : Int), undef, undef, undef, undef, undef, undef, undef, undef, undef, undef, undef, undef, undef, undef, undef, undef, undef, undef, undef, undef, undef, undef, undef, undef, undef, undef, undef, undef, undef, undef, undef, undef, undef, undef], []⟩ (by kernel_rfl) ?_
  refine wpList_nil ?_
  refine wp_seq ?_
  refine wp_seq ?_
  refine wp_region_lit ?_
  refine g_pure 3 ⟨#[.int .i64 t, .slice a l.length c, undef, undef, .bool false, .int .i64 (↑v : Int), undef, undef, undef, .int .i64 t, .int .i64 (↑v : Int), .int .i64 (↑v : Int), .bool ((↑v : Int) == (0 : Int)), .bool ((↑v : Int) == (0 : Int)), undef, undef, undef, undef, undef, undef, undef, undef, undef, undef, undef, undef, undef, undef, undef, undef, undef, undef, undef, undef, undef, undef, undef, undef, undef, undef, undef, undef, undef, undef, undef], []⟩ (by kernel_rfl) ?_
  have hc2 : (((↑v : Int) == (0 : Int)) : Bool) = false := by simp; omega
  refine g_lfr ⟨#[.int .i64 t, .slice a l.length c, undef, undef, .bool false, .int .i64 (↑v : Int), undef, undef, undef, .int .i64 t, .int .i64 (↑v : Int), .int .i64 (↑v : Int), .bool false, .bool false, undef, undef, undef, undef, undef, undef, undef, undef, undef, undef, undef, undef, undef, undef, undef, undef, undef, undef, undef, undef, undef, undef, undef, undef, undef, undef, undef, undef, undef, undef, undef], []⟩ (by rw [← hc2]) ?_
  refine g_pure 3 ⟨#[.int .i64 t, .slice a l.length c, undef, undef, .bool false, .int .i64 (↑v : Int), undef, undef, undef, .int .i64 t, .int .i64 (↑v : Int), .int .i64 (↑v : Int), .bool false, .bool false, .int .i64 t, .slice a l.length c, .int .i64 (↑l.length : Int), undef, undef, undef, undef, undef, undef, undef, undef, undef, undef, undef, undef, undef, undef, undef, undef, undef, undef, undef, undef, undef, undef, undef, undef, undef, undef, undef, undef], []⟩ (by kernel_rfl) ?_
  refine g_op (by kernel_rfl) (op_call 4 #[.int .i64 t, .int .i64 (↑l.length : Int)] rfl rfl (fun _ _ => by kernel_rfl) (by kernel_rfl) ((tall_Nodes t l.length _ ht1 ht2 hn).mono ?_))
  rintro e W3 ⟨rfl, hb3⟩
  refine ⟨_, rfl, ?_⟩
  replace hB := Bl.next hB hb3
  refine g_pure 2 ⟨#[.int .i64 t, .slice a l.length c, undef, undef, .bool false, .int .i64 (↑v : Int), undef, undef, undef, .int .i64 t, .int .i64 (↑v : Int), .int .i64 (↑v : Int), .bool false, .bool false, .int .i64 t, .slice a l.length c, .int .i64 (↑l.length : Int), .int .i64 (↑(nodN t l.length) : Int), .bool ((↑(nodN t l.length) : Int) == (0 : Int)), .bool ((↑(nodN t l.length) : Int) == (0 : Int)), undef, undef, undef, undef, undef, undef, undef, undef, undef, undef, undef, undef, undef, undef, undef, undef, undef, undef, undef, undef, undef, undef, undef, undef, undef], []⟩ (by kernel_rfl) ?_
  refine wpList_nil ?_
  refine wp_cond_false (by show Value.bool _ = Value.bool _; rw [(show (((↑(nodN t l.length) : Int) == (0 : Int)) : Bool) = false from by simp; omega)]) ?_
  refine wp_skip ?_
  refine wp_seq ?_
  refine wp_region_lit ?_
  refine g_pure 1 ⟨#[.int .i64 t, .slice a l.length c, undef, undef, .bool false, .int .i64 (↑v : Int), .int .i64 (-1), undef, undef, .int .i64 t, .int .i64 (↑v : Int), .int .i64 (↑v : Int), .bool false, .bool false, .int .i64 t, .slice a l.length c, .int .i64 (↑l.length : Int), .int .i64 (↑(nodN t l.length) : Int), .bool ((↑(nodN t l.length) : Int) == (0 : Int)), .bool ((↑(nodN t l.length) : Int) == (0 : Int)), undef, undef, undef, undef, undef, undef, undef, undef, undef, undef, undef, undef, undef, undef, undef, undef, undef, undef, undef, undef, undef, undef, undef, undef, undef], []⟩ (by kernel_rfl) ?_
  refine wpList_nil ?_
  refine wp_seq ?_
  refine wp_seq ?_
  refine wp_region_lit ?_
  refine g_pure 3 ⟨#[.int .i64 t, .slice a l.length c, undef, undef, .bool false, .int .i64 (↑v : Int), .int .i64 (-1), undef, undef, .int .i64 t, .int .i64 (↑v : Int), .int .i64 (↑v : Int), .bool false, .bool false, .int .i64 t, .slice a l.length c, .int .i64 (↑l.length : Int), .int .i64 (↑(nodN t l.length) : Int), .bool ((↑(nodN t l.length) : Int) == (0 : Int)), .bool ((↑(nodN t l.length) : Int) == (0 : Int)), .slice a l.length c, .int .i64 (↑l.length : Int), .int .i64 0, undef, undef, undef, undef, undef, undef, undef, undef, undef, undef, undef, undef, undef, undef, undef, undef, undef, undef, undef, undef, undef, undef], []⟩ (by kernel_rfl) ?_
  refine wpList_nil ?_
  refine wp_block ?_
  refine g_fr ⟨#[.int .i64 t, .slice a l.length c, undef, undef, .bool false, .int .i64 (↑v : Int), .int .i64 (-1), undef, undef, .int .i64 t, .int .i64 (↑v : Int), .int .i64 (↑v : Int), .bool false, .bool false, .int .i64 t, .slice a l.length c, .int .i64 (↑l.length : Int), .int .i64 (↑(nodN t l.length) : Int), .bool ((↑(nodN t l.length) : Int) == (0 : Int)), .bool ((↑(nodN t l.length) : Int) == (0 : Int)), .slice a l.length c, .int .i64 (↑l.length : Int), .int .i64 0, undef, undef, undef, undef, undef, undef, undef, undef, undef, undef, undef, undef, undef, undef, undef, undef, undef, undef, undef, undef, undef, undef], []⟩ (by kernel_rfl) ?_
  refine wp_loop (fun act V => ∃ (i : Nat) (x5_4 x5_8 x5_23 x5_24 x5_25 x5_26 x5_27 x5_28 x5_29 x5_30 x5_31 x5_32 x5_33 x5_34 x5_35 x5_36 x5_37 x5_38 x5_39 x5_40 x5_41 x5_42 x5_43 x5_44 : Value), act = ⟨#[.int .i64 t, .slice a l.length c, undef, undef, x5_4, .int .i64 (↑v : Int), .int .i64 (lastK l i), undef, x5_8, .int .i64 t, .int .i64 (↑v : Int), .int .i64 (↑v : Int), .bool false, .bool false, .int .i64 t, .slice a l.length c, .int .i64 (↑l.length : Int), .int .i64 (↑(nodN t l.length) : Int), .bool ((↑(nodN t l.length) : Int) == (0 : Int)), .bool ((↑(nodN t l.length) : Int) == (0 : Int)), .slice a l.length c, .int .i64 (↑l.length : Int), .int .i64 (↑i : Int), x5_23, x5_24, x5_25, x5_26, x5_27, x5_28, x5_29, x5_30, x5_31, x5_32, x5_33, x5_34, x5_35, x5_36, x5_37, x5_38, x5_39, x5_40, x5_41, x5_42, x5_43, x5_44], []⟩ ∧ Below w.heap.size w V ∧ i ≤ l.length) (fun act V => l.length - ((intOf (act.tmps.getD 22 undef))).toNat) ⟨0, _, _, _, _, _, _, _, _, _, _, _, _, _, _, _, _, _, _, _, _, _, _, _, _, rfl, hB, Nat.zero_le _⟩ ?_
  rintro _ W5 ⟨i, x5_4, x5_8, x5_23, x5_24, x5_25, x5_26, x5_27, x5_28, x5_29, x5_30, x5_31, x5_32, x5_33, x5_34, x5_35, x5_36, x5_37, x5_38, x5_39, x5_40, x5_41, x5_42, x5_43, x5_44, rfl, hB, hi⟩
  refine wp_seq ?_
  refine wp_region_lit ?_
  refine g_pure 1 ⟨#[.int .i64 t, .slice a l.length c, undef, undef, x5_4, .int .i64 (↑v : Int), .int .i64 (lastK l i), undef, x5_8, .int .i64 t, .int .i64 (↑v : Int), .int .i64 (↑v : Int), .bool false, .bool false, .int .i64 t, .slice a l.length c, .int .i64 (↑l.length : Int), .int .i64 (↑(nodN t l.length) : Int), .bool ((↑(nodN t l.length) : Int) == (0 : Int)), .bool ((↑(nodN t l.length) : Int) == (0 : Int)), .slice a l.length c, .int .i64 (↑l.length : Int), .int .i64 (↑i : Int), .bool (decide ((↑i : Int) < (↑l.length : Int))), x5_24, x5_25, x5_26, x5_27, x5_28, x5_29, x5_30, x5_31, x5_32, x5_33, x5_34, x5_35, x5_36, x5_37, x5_38, x5_39, x5_40, x5_41, x5_42, x5_43, x5_44], []⟩ (by kernel_rfl) ?_
  refine wpList_nil ?_
  refine wp_seq ?_
  refine wp_cond_split (t := decide ((↑i : Int) < (↑l.length : Int))) rfl (fun hc6 => ?_) (fun hc6 => ?_)
  · have hc6 := of_decide_eq_true hc6
    refine wp_skip ?_
    refine wp_seq ?_
    refine wp_block ?_
    refine wp_seq ?_
    refine wp_region_lit ?_
    refine g_op (by kernel_rfl) (op_val (run_indexA (size := 3) (k := i) rfl rfl rfl rfl (by omega) (Sts.cell h entC_len entD (k := i) (i := 0) (by omega) rfl).1 Tryd.underlying29 (by kernel_rfl) W5) ?_)
    refine g_op (by kernel_rfl) (op_val (run_loadSt (k := i) entC_len entD _ rfl rfl (h.below hB) (by omega) (by decide) Tryd.underlying49 rfl (by kernel_rfl)) ?_)
    refine g_op (by kernel_rfl) (op_alloc [.int .i64 0, .string ⟨#[]⟩, .int .i64 0] rfl (by kernel_rfl) ?_)
    intro b7 W7 n7
    have g7 := n7.ge hB
    replace hB := Bl.next hB n7.below
    have k7 := n7.blk
    refine g_op (by kernel_rfl) (op_storev [.int .i64 ((l.getD i entD).1), .string ⟨((l.getD i entD).2.1).toArray⟩, .int .i64 ((l.getD i entD).2.2)] rfl rfl rfl (by kernel_rfl) (by first | decide | simp [Value.oneCell']) k7 (by first | decide | simp) ?_)
    intro W8 u8 k8
    change Blk _ _ [.int .i64 ((l.getD i entD).1), .string ⟨((l.getD i entD).2.1).toArray⟩, .int .i64 ((l.getD i entD).2.2)] _ at k8
    replace hB := u8.below hB g7
    refine wpList_nil ?_
    refine wp_seq ?_
    refine wp_seq ?_
    refine wp_region_lit ?_
    refine g_pure 1 ⟨#[.int .i64 t, .slice a l.length c, undef, undef, x5_4, .int .i64 (↑v : Int), .int .i64 (lastK l i), undef, .pointer (some ⟨b7, 0, none⟩), .int .i64 t, .int .i64 (↑v : Int), .int .i64 (↑v : Int), .bool false, .bool false, .int .i64 t, .slice a l.length c, .int .i64 (↑l.length : Int), .int .i64 (↑(nodN t l.length) : Int), .bool ((↑(nodN t l.length) : Int) == (0 : Int)), .bool ((↑(nodN t l.length) : Int) == (0 : Int)), .slice a l.length c, .int .i64 (↑l.length : Int), .int .i64 (↑i : Int), .bool (decide ((↑i : Int) < (↑l.length : Int))), .pointer (some (elemAddr a (i * 3))), .agg #[.int .i64 ((l.getD i entD).1), .string ⟨((l.getD i entD).2.1).toArray⟩, .int .i64 ((l.getD i entD).2.2)], .pointer (some ⟨b7, 0, none⟩), x5_27, x5_28, x5_29, x5_30, x5_31, x5_32, x5_33, x5_34, x5_35, x5_36, x5_37, x5_38, x5_39, x5_40, x5_41, x5_42, x5_43, x5_44], []⟩ (by kernel_rfl) ?_
    refine g_op (by kernel_rfl) (op_load _ (.int .i64 ((l.getD i entD).1)) rfl rfl (by kernel_rfl) (k8.cell (i := 0) rfl) ?_)
    refine g_pure 3 ⟨#[.int .i64 t, .slice a l.length c, undef, undef, x5_4, .int .i64 (↑v : Int), .int .i64 (lastK l i), undef, .pointer (some ⟨b7, 0, none⟩), .int .i64 t, .int .i64 (↑v : Int), .int .i64 (↑v : Int), .bool false, .bool false, .int .i64 t, .slice a l.length c, .int .i64 (↑l.length : Int), .int .i64 (↑(nodN t l.length) : Int), .bool ((↑(nodN t l.length) : Int) == (0 : Int)), .bool ((↑(nodN t l.length) : Int) == (0 : Int)), .slice a l.length c, .int .i64 (↑l.length : Int), .int .i64 (↑i : Int), .bool (decide ((↑i : Int) < (↑l.length : Int))), .pointer (some (elemAddr a (i * 3))), .agg #[.int .i64 ((l.getD i entD).1), .string ⟨((l.getD i entD).2.1).toArray⟩, .int .i64 ((l.getD i entD).2.2)], .pointer (some ⟨b7, 0, none⟩), .int .i64 ((l.getD i entD).1), .int .i64 (lastK l i), .bool (decide ((l.getD i entD).1 ≤ (lastK l i))), .bool (decide ((l.getD i entD).1 ≤ (lastK l i))), x5_31, x5_32, x5_33, x5_34, x5_35, x5_36, x5_37, x5_38, x5_39, x5_40, x5_41, x5_42, x5_43, x5_44], []⟩ (by kernel_rfl) ?_
    have hc9 : (decide ((l.getD i entD).1 ≤ (lastK l i)) : Bool) = false := decide_eq_false (by have := E.last (i := i) (by omega); omega)
    refine g_lfr ⟨#[.int .i64 t, .slice a l.length c, undef, undef, x5_4, .int .i64 (↑v : Int), .int .i64 (lastK l i), undef, .pointer (some ⟨b7, 0, none⟩), .int .i64 t, .int .i64 (↑v : Int), .int .i64 (↑v : Int), .bool false, .bool false, .int .i64 t, .slice a l.length c, .int .i64 (↑l.length : Int), .int .i64 (↑(nodN t l.length) : Int), .bool ((↑(nodN t l.length) : Int) == (0 : Int)), .bool ((↑(nodN t l.length) : Int) == (0 : Int)), .slice a l.length c, .int .i64 (↑l.length : Int), .int .i64 (↑i : Int), .bool (decide ((↑i : Int) < (↑l.length : Int))), .pointer (some (elemAddr a (i * 3))), .agg #[.int .i64 ((l.getD i entD).1), .string ⟨((l.getD i entD).2.1).toArray⟩, .int .i64 ((l.getD i entD).2.2)], .pointer (some ⟨b7, 0, none⟩), .int .i64 ((l.getD i entD).1), .int .i64 (lastK l i), .bool false, .bool false, x5_31, x5_32, x5_33, x5_34, x5_35, x5_36, x5_37, x5_38, x5_39, x5_40, x5_41, x5_42, x5_43, x5_44], []⟩ (by rw [← hc9]) ?_
    refine g_pure 1 ⟨#[.int .i64 t, .slice a l.length c, undef, undef, x5_4, .int .i64 (↑v : Int), .int .i64 (lastK l i), undef, .pointer (some ⟨b7, 0, none⟩), .int .i64 t, .int .i64 (↑v : Int), .int .i64 (↑v : Int), .bool false, .bool false, .int .i64 t, .slice a l.length c, .int .i64 (↑l.length : Int), .int .i64 (↑(nodN t l.length) : Int), .bool ((↑(nodN t l.length) : Int) == (0 : Int)), .bool ((↑(nodN t l.length) : Int) == (0 : Int)), .slice a l.length c, .int .i64 (↑l.length : Int), .int .i64 (↑i : Int), .bool (decide ((↑i : Int) < (↑l.length : Int))), .pointer (some (elemAddr a (i * 3))), .agg #[.int .i64 ((l.getD i entD).1), .string ⟨((l.getD i entD).2.1).toArray⟩, .int .i64 ((l.getD i entD).2.2)], .pointer (some ⟨b7, 0, none⟩), .int .i64 ((l.getD i entD).1), .int .i64 (lastK l i), .bool false, .bool false, .pointer (some ⟨b7, 0, none⟩), x5_32, x5_33, x5_34, x5_35, x5_36, x5_37, x5_38, x5_39, x5_40, x5_41, x5_42, x5_43, x5_44], []⟩ (by kernel_rfl) ?_
    refine g_op (by kernel_rfl) (op_load _ (.int .i64 ((l.getD i entD).1)) rfl rfl (by kernel_rfl) (k8.cell (i := 0) rfl) ?_)
    refine g_pure 3 ⟨#[.int .i64 t, .slice a l.length c, undef, undef, x5_4, .int .i64 (↑v : Int), .int .i64 (lastK l i), undef, .pointer (some ⟨b7, 0, none⟩), .int .i64 t, .int .i64 (↑v : Int), .int .i64 (↑v : Int), .bool false, .bool false, .int .i64 t, .slice a l.length c, .int .i64 (↑l.length : Int), .int .i64 (↑(nodN t l.length) : Int), .bool ((↑(nodN t l.length) : Int) == (0 : Int)), .bool ((↑(nodN t l.length) : Int) == (0 : Int)), .slice a l.length c, .int .i64 (↑l.length : Int), .int .i64 (↑i : Int), .bool (decide ((↑i : Int) < (↑l.length : Int))), .pointer (some (elemAddr a (i * 3))), .agg #[.int .i64 ((l.getD i entD).1), .string ⟨((l.getD i entD).2.1).toArray⟩, .int .i64 ((l.getD i entD).2.2)], .pointer (some ⟨b7, 0, none⟩), .int .i64 ((l.getD i entD).1), .int .i64 (lastK l i), .bool false, .bool false, .pointer (some ⟨b7, 0, none⟩), .int .i64 ((l.getD i entD).1), .bool (decide ((l.getD i entD).1 > (281474976710655 : Int))), .bool (decide ((l.getD i entD).1 > (281474976710655 : Int))), .bool (decide ((l.getD i entD).1 > (281474976710655 : Int))), x5_36, x5_37, x5_38, x5_39, x5_40, x5_41, x5_42, x5_43, x5_44], []⟩ (by kernel_rfl) ?_
    have hc10 : (decide ((l.getD i entD).1 > (281474976710655 : Int)) : Bool) = false := decide_eq_false (by have := (E.hk i (by omega)).2; omega)
    refine g_lfr ⟨#[.int .i64 t, .slice a l.length c, undef, undef, x5_4, .int .i64 (↑v : Int), .int .i64 (lastK l i), undef, .pointer (some ⟨b7, 0, none⟩), .int .i64 t, .int .i64 (↑v : Int), .int .i64 (↑v : Int), .bool false, .bool false, .int .i64 t, .slice a l.length c, .int .i64 (↑l.length : Int), .int .i64 (↑(nodN t l.length) : Int), .bool ((↑(nodN t l.length) : Int) == (0 : Int)), .bool ((↑(nodN t l.length) : Int) == (0 : Int)), .slice a l.length c, .int .i64 (↑l.length : Int), .int .i64 (↑i : Int), .bool (decide ((↑i : Int) < (↑l.length : Int))), .pointer (some (elemAddr a (i * 3))), .agg #[.int .i64 ((l.getD i entD).1), .string ⟨((l.getD i entD).2.1).toArray⟩, .int .i64 ((l.getD i entD).2.2)], .pointer (some ⟨b7, 0, none⟩), .int .i64 ((l.getD i entD).1), .int .i64 (lastK l i), .bool false, .bool false, .pointer (some ⟨b7, 0, none⟩), .int .i64 ((l.getD i entD).1), .bool false, .bool false, .bool false, x5_36, x5_37, x5_38, x5_39, x5_40, x5_41, x5_42, x5_43, x5_44], []⟩ (by rw [← hc10]) ?_
    refine g_pure 1 ⟨#[.int .i64 t, .slice a l.length c, undef, undef, x5_4, .int .i64 (↑v : Int), .int .i64 (lastK l i), undef, .pointer (some ⟨b7, 0, none⟩), .int .i64 t, .int .i64 (↑v : Int), .int .i64 (↑v : Int), .bool false, .bool false, .int .i64 t, .slice a l.length c, .int .i64 (↑l.length : Int), .int .i64 (↑(nodN t l.length) : Int), .bool ((↑(nodN t l.length) : Int) == (0 : Int)), .bool ((↑(nodN t l.length) : Int) == (0 : Int)), .slice a l.length c, .int .i64 (↑l.length : Int), .int .i64 (↑i : Int), .bool (decide ((↑i : Int) < (↑l.length : Int))), .pointer (some (elemAddr a (i * 3))), .agg #[.int .i64 ((l.getD i entD).1), .string ⟨((l.getD i entD).2.1).toArray⟩, .int .i64 ((l.getD i entD).2.2)], .pointer (some ⟨b7, 0, none⟩), .int .i64 ((l.getD i entD).1), .int .i64 (lastK l i), .bool false, .bool false, .pointer (some ⟨b7, 0, none⟩), .int .i64 ((l.getD i entD).1), .bool false, .bool false, .bool false, .pointer (some ⟨b7, 1, none⟩), x5_37, x5_38, x5_39, x5_40, x5_41, x5_42, x5_43, x5_44], []⟩ (by kernel_rfl) ?_
    refine g_op (by kernel_rfl) (op_load _ (.string ⟨((l.getD i entD).2.1).toArray⟩) rfl rfl (by kernel_rfl) (k8.cell (i := 1) rfl) ?_)
    refine g_pure 4 ⟨#[.int .i64 t, .slice a l.length c, undef, undef, x5_4, .int .i64 (↑v : Int), .int .i64 (lastK l i), undef, .pointer (some ⟨b7, 0, none⟩), .int .i64 t, .int .i64 (↑v : Int), .int .i64 (↑v : Int), .bool false, .bool false, .int .i64 t, .slice a l.length c, .int .i64 (↑l.length : Int), .int .i64 (↑(nodN t l.length) : Int), .bool ((↑(nodN t l.length) : Int) == (0 : Int)), .bool ((↑(nodN t l.length) : Int) == (0 : Int)), .slice a l.length c, .int .i64 (↑l.length : Int), .int .i64 (↑i : Int), .bool (decide ((↑i : Int) < (↑l.length : Int))), .pointer (some (elemAddr a (i * 3))), .agg #[.int .i64 ((l.getD i entD).1), .string ⟨((l.getD i entD).2.1).toArray⟩, .int .i64 ((l.getD i entD).2.2)], .pointer (some ⟨b7, 0, none⟩), .int .i64 ((l.getD i entD).1), .int .i64 (lastK l i), .bool false, .bool false, .pointer (some ⟨b7, 0, none⟩), .int .i64 ((l.getD i entD).1), .bool false, .bool false, .bool false, .pointer (some ⟨b7, 1, none⟩), .string ⟨((l.getD i entD).2.1).toArray⟩, .int .i64 (↑((l.getD i entD).2.1).length : Int), .int .i64 (↑v : Int), .bool ((↑((l.getD i entD).2.1).length : Int) != (↑v : Int)), .bool ((↑((l.getD i entD).2.1).length : Int) != (↑v : Int)), x5_42, x5_43, x5_44], []⟩ (by kernel_rfl) ?_
    refine wpList_nil ?_
    refine wp_cond_false (by show Value.bool _ = Value.bool _; rw [(show (((↑((l.getD i entD).2.1).length : Int) != (↑v : Int)) : Bool) = false from by rw [E.hw i (by omega)]; simp)]) ?_
    refine wp_skip ?_
    refine wp_region_lit ?_
    refine g_pure 1 ⟨#[.int .i64 t, .slice a l.length c, undef, undef, x5_4, .int .i64 (↑v : Int), .int .i64 (lastK l i), undef, .pointer (some ⟨b7, 0, none⟩), .int .i64 t, .int .i64 (↑v : Int), .int .i64 (↑v : Int), .bool false, .bool false, .int .i64 t, .slice a l.length c, .int .i64 (↑l.length : Int), .int .i64 (↑(nodN t l.length) : Int), .bool ((↑(nodN t l.length) : Int) == (0 : Int)), .bool ((↑(nodN t l.length) : Int) == (0 : Int)), .slice a l.length c, .int .i64 (↑l.length : Int), .int .i64 (↑i : Int), .bool (decide ((↑i : Int) < (↑l.length : Int))), .pointer (some (elemAddr a (i * 3))), .agg #[.int .i64 ((l.getD i entD).1), .string ⟨((l.getD i entD).2.1).toArray⟩, .int .i64 ((l.getD i entD).2.2)], .pointer (some ⟨b7, 0, none⟩), .int .i64 ((l.getD i entD).1), .int .i64 (lastK l i), .bool false, .bool false, .pointer (some ⟨b7, 0, none⟩), .int .i64 ((l.getD i entD).1), .bool false, .bool false, .bool false, .pointer (some ⟨b7, 1, none⟩), .string ⟨((l.getD i entD).2.1).toArray⟩, .int .i64 (↑((l.getD i entD).2.1).length : Int), .int .i64 (↑v : Int), .bool ((↑((l.getD i entD).2.1).length : Int) != (↑v : Int)), .bool ((↑((l.getD i entD).2.1).length : Int) != (↑v : Int)), .pointer (some ⟨b7, 0, none⟩), x5_43, x5_44], []⟩ (by kernel_rfl) ?_
    refine g_op (by kernel_rfl) (op_load _ (.int .i64 ((l.getD i entD).1)) rfl rfl (by kernel_rfl) (k8.cell (i := 0) rfl) ?_)
    refine g_pure 1 ⟨#[.int .i64 t, .slice a l.length c, undef, undef, x5_4, .int .i64 (↑v : Int), .int .i64 ((l.getD i entD).1), undef, .pointer (some ⟨b7, 0, none⟩), .int .i64 t, .int .i64 (↑v : Int), .int .i64 (↑v : Int), .bool false, .bool false, .int .i64 t, .slice a l.length c, .int .i64 (↑l.length : Int), .int .i64 (↑(nodN t l.length) : Int), .bool ((↑(nodN t l.length) : Int) == (0 : Int)), .bool ((↑(nodN t l.length) : Int) == (0 : Int)), .slice a l.length c, .int .i64 (↑l.length : Int), .int .i64 (↑i : Int), .bool (decide ((↑i : Int) < (↑l.length : Int))), .pointer (some (elemAddr a (i * 3))), .agg #[.int .i64 ((l.getD i entD).1), .string ⟨((l.getD i entD).2.1).toArray⟩, .int .i64 ((l.getD i entD).2.2)], .pointer (some ⟨b7, 0, none⟩), .int .i64 ((l.getD i entD).1), .int .i64 (lastK l i), .bool false, .bool false, .pointer (some ⟨b7, 0, none⟩), .int .i64 ((l.getD i entD).1), .bool false, .bool false, .bool false, .pointer (some ⟨b7, 1, none⟩), .string ⟨((l.getD i entD).2.1).toArray⟩, .int .i64 (↑((l.getD i entD).2.1).length : Int), .int .i64 (↑v : Int), .bool ((↑((l.getD i entD).2.1).length : Int) != (↑v : Int)), .bool ((↑((l.getD i entD).2.1).length : Int) != (↑v : Int)), .pointer (some ⟨b7, 0, none⟩), .int .i64 ((l.getD i entD).1), x5_44], []⟩ (by kernel_rfl) ?_
    refine wpList_nil ?_
    refine wp_region_lit ?_
    refine g_op (by kernel_rfl) (op_wrap .i64 ((↑i : Int) + 1) ((↑i : Int) + 1) (by kernel_rfl) (by first | exact IntWalk.i64_in _ (by omega) | (simp only [IntKind.wrap]; omega)) ?_)
    refine g_pure 1 ⟨#[.int .i64 t, .slice a l.length c, undef, undef, x5_4, .int .i64 (↑v : Int), .int .i64 ((l.getD i entD).1), undef, .pointer (some ⟨b7, 0, none⟩), .int .i64 t, .int .i64 (↑v : Int), .int .i64 (↑v : Int), .bool false, .bool false, .int .i64 t, .slice a l.length c, .int .i64 (↑l.length : Int), .int .i64 (↑(nodN t l.length) : Int), .bool ((↑(nodN t l.length) : Int) == (0 : Int)), .bool ((↑(nodN t l.length) : Int) == (0 : Int)), .slice a l.length c, .int .i64 (↑l.length : Int), .int .i64 ((↑i : Int) + 1), .bool (decide ((↑i : Int) < (↑l.length : Int))), .pointer (some (elemAddr a (i * 3))), .agg #[.int .i64 ((l.getD i entD).1), .string ⟨((l.getD i entD).2.1).toArray⟩, .int .i64 ((l.getD i entD).2.2)], .pointer (some ⟨b7, 0, none⟩), .int .i64 ((l.getD i entD).1), .int .i64 (lastK l i), .bool false, .bool false, .pointer (some ⟨b7, 0, none⟩), .int .i64 ((l.getD i entD).1), .bool false, .bool false, .bool false, .pointer (some ⟨b7, 1, none⟩), .string ⟨((l.getD i entD).2.1).toArray⟩, .int .i64 (↑((l.getD i entD).2.1).length : Int), .int .i64 (↑v : Int), .bool ((↑((l.getD i entD).2.1).length : Int) != (↑v : Int)), .bool ((↑((l.getD i entD).2.1).length : Int) != (↑v : Int)), .pointer (some ⟨b7, 0, none⟩), .int .i64 ((l.getD i entD).1), .int .i64 ((↑i : Int) + 1)], []⟩ (by kernel_rfl) ?_
    refine wpList_nil ?_
    refine g_nfr ⟨#[.int .i64 t, .slice a l.length c, undef, undef, x5_4, .int .i64 (↑v : Int), .int .i64 ((l.getD i entD).1), undef, .pointer (some ⟨b7, 0, none⟩), .int .i64 t, .int .i64 (↑v : Int), .int .i64 (↑v : Int), .bool false, .bool false, .int .i64 t, .slice a l.length c, .int .i64 (↑l.length : Int), .int .i64 (↑(nodN t l.length) : Int), .bool ((↑(nodN t l.length) : Int) == (0 : Int)), .bool ((↑(nodN t l.length) : Int) == (0 : Int)), .slice a l.length c, .int .i64 (↑l.length : Int), .int .i64 ((↑i : Int) + 1), .bool (decide ((↑i : Int) < (↑l.length : Int))), .pointer (some (elemAddr a (i * 3))), .agg #[.int .i64 ((l.getD i entD).1), .string ⟨((l.getD i entD).2.1).toArray⟩, .int .i64 ((l.getD i entD).2.2)], .pointer (some ⟨b7, 0, none⟩), .int .i64 ((l.getD i entD).1), .int .i64 (lastK l i), .bool false, .bool false, .pointer (some ⟨b7, 0, none⟩), .int .i64 ((l.getD i entD).1), .bool false, .bool false, .bool false, .pointer (some ⟨b7, 1, none⟩), .string ⟨((l.getD i entD).2.1).toArray⟩, .int .i64 (↑((l.getD i entD).2.1).length : Int), .int .i64 (↑v : Int), .bool ((↑((l.getD i entD).2.1).length : Int) != (↑v : Int)), .bool ((↑((l.getD i entD).2.1).length : Int) != (↑v : Int)), .pointer (some ⟨b7, 0, none⟩), .int .i64 ((l.getD i entD).1), .int .i64 ((↑i : Int) + 1)], []⟩ (by kernel_rfl) ?_
    refine ⟨⟨i + 1, _, _, _, _, _, _, _, _, _, _, _, _, _, _, _, _, _, _, _, _, _, _, _, _, rfl, hB, by omega⟩, ?_⟩
    show l.length - (((↑i : Int) + 1)).toNat < l.length - ((↑i : Int)).toNat
    omega
  · have hc6 := of_decide_eq_false hc6
    refine wp_exit ?_
    refine then_exit ?_
    refine then_exit ?_
    refine inBlock_hit ?_
    refine wp_seq ?_
    refine wp_region_lit ?_
    refine g_pure 1 ⟨#[.int .i64 t, .slice a l.length c, undef, undef, .bool true, .int .i64 (↑v : Int), .int .i64 (lastK l i), undef, x5_8, .int .i64 t, .int .i64 (↑v : Int), .int .i64 (↑v : Int), .bool false, .bool false, .int .i64 t, .slice a l.length c, .int .i64 (↑l.length : Int), .int .i64 (↑(nodN t l.length) : Int), .bool ((↑(nodN t l.length) : Int) == (0 : Int)), .bool ((↑(nodN t l.length) : Int) == (0 : Int)), .slice a l.length c, .int .i64 (↑l.length : Int), .int .i64 (↑i : Int), .bool (decide ((↑i : Int) < (↑l.length : Int))), x5_24, x5_25, x5_26, x5_27, x5_28, x5_29, x5_30, x5_31, x5_32, x5_33, x5_34, x5_35, x5_36, x5_37, x5_38, x5_39, x5_40, x5_41, x5_42, x5_43, x5_44], []⟩ (by kernel_rfl) ?_
    refine wpList_nil ?_
    refine wp_ret ?_
    show bodyPost _ _ _ .ret _ _
    exact g_ret (.bool true) rfl (by kernel_rfl) ⟨rfl, hB⟩
end Go.Proofs.YtlmogdjcnbjhfaaDoor

