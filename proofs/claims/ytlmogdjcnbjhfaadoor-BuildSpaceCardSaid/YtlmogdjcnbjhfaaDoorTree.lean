/- build.Tree at entries that are right: with room, and without. -/
import Derived.Test.YtlmogdjcnbjhfaaDoorLevel
namespace Go.Proofs.YtlmogdjcnbjhfaaDoor
open Go.RowKit Go.Extern.Stop Go.Stop Go.Extern
set_option linter.unusedVariables false

theorem only_a3 {w w' : World} (h : Only [54, 5] w w') : Only [54, 5, 26] w w' := h.mono fun t ht => by simp at ht ⊢; exact ⟨ht.1, ht.2.1⟩
def Tree1Post (B ba b g nn cc : Nat) (pa : Option Addr) (ca f N k0 : Nat) (bs : List UInt8) (t : Int) (leaf : Bool) (m v : Nat) (l : List Ent) (b8 : Nat) (w : World) (e : Ending) (w' : World) : Prop :=
  ∃ p c, e = .returned (.slice p (ovN l.length m) c) ∧ Below B w w' ∧ Only [54, 5, 26] w w' ∧ Fr [ba, g, b8] w w' ∧ Blk w' b8 [.nilIface] 26 ∧ Al B ba b g nn cc pa ca f N (k0 + ovN l.length m) (levB t leaf m v l (f + k0) bs (ovN l.length m)) w' ∧ w'.ownsRow w.heap.size 49 3 (.slice p (ovN l.length m) c) (ovN l.length m) ((upE l m (f + k0) (ovN l.length m)).flatMap entC)
set_option maxRecDepth 100000 in
set_option maxHeartbeats 4000000 in
theorem build_Tree1 (B ba b g nn cc : Nat) (pa : Option Addr) (ca f N k0 : Nat) (bs : List UInt8) (t : Int) (leaf : Bool) (m v : Nat) (a : Option Addr) (c : Nat) (l : List Ent) (b3 b4 b8 : Nat) (w : World) (k3 : Blk w b3 [.pointer (some ⟨ba, 0, none⟩)] 23) (k4 : Blk w b4 [.int .i64 t] 3) (k8 : Blk w b8 [.nilIface] 26) (h38 : b3 ≠ b8) (h48 : b4 ≠ b8) (hB8 : B ≤ b8) (hC : AlC B ba nn cc ca f N) (hA : Al B ba b g nn cc pa ca f N k0 bs w) (ht1 : 1 ≤ t) (ht2 : t ≤ 5) (hm : maxN t leaf = m) (hv : widN t leaf = v) (E : EntsOk v l) (hl : leaf = false → 1 ≤ l.length) (hn : l.length ≤ 32768) (hf1 : 1 ≤ f) (hk : k0 + ovN l.length m ≤ N) (hin : ∀ W, Below B w W → Only [54, 5, 26] w W → Sts entC W (.slice a l.length c) l) (hBw : B ≤ w.heap.size) :
    Calls Tryd.prog 17 #[.bool leaf, .slice a l.length c, .pointer (some ⟨b3, 0, none⟩), .pointer (some ⟨b4, 0, none⟩), .pointer (some ⟨b8, 0, none⟩)] w (Tree1Post B ba b g nn cc pa ca f N k0 bs t leaf m v l b8 w) := by
  refine calls_of_wp Tryd.func17 rfl ?_
  refine g_fr ⟨#[.bool leaf, .slice a l.length c, .pointer (some ⟨b3, 0, none⟩), .pointer (some ⟨b4, 0, none⟩), .pointer (some ⟨b8, 0, none⟩), undef, undef, undef, undef, undef, undef, undef, undef, undef, undef, undef, undef, undef, undef, undef], []⟩ (by kernel_rfl) ?_
  refine wp_seq ?_
  refine wp_region_lit ?_
  refine g_pure 1 ⟨#[.bool leaf, .slice a l.length c, .pointer (some ⟨b3, 0, none⟩), .pointer (some ⟨b4, 0, none⟩), .pointer (some ⟨b8, 0, none⟩), undef, undef, .slice none 0 0, undef, undef, undef, undef, undef, undef, undef, undef, undef, undef, undef, undef], []⟩ (by kernel_rfl) ?_
  refine wpList_nil ?_
  refine wp_seq ?_
  refine wp_region_lit ?_
  refine g_op (by kernel_rfl) (op_load _ (.pointer (some ⟨ba, 0, none⟩)) rfl rfl (by kernel_rfl) (k3.cell (i := 0) rfl) ?_)
  refine g_op (by kernel_rfl) (op_load _ (.int .i64 t) rfl rfl (by kernel_rfl) (k4.cell (i := 0) rfl) ?_)
  refine g_pure 2 ⟨#[.bool leaf, .slice a l.length c, .pointer (some ⟨b3, 0, none⟩), .pointer (some ⟨b4, 0, none⟩), .pointer (some ⟨b8, 0, none⟩), undef, undef, .slice none 0 0, undef, undef, undef, .pointer (some ⟨ba, 0, none⟩), .int .i64 t, .bool leaf, .slice a l.length c, undef, undef, undef, undef, undef], []⟩ (by kernel_rfl) ?_
  have hs1 : w.heap.size ≤ (w).heap.size := (Below.refl B _).size
  refine g_op (by kernel_rfl) (op_call 18 #[.pointer (some ⟨ba, 0, none⟩), .int .i64 t, .bool leaf, .slice a l.length c] rfl rfl (fun _ _ => by kernel_rfl) (by kernel_rfl) ((build_level B ba b g nn cc pa ca f N k0 bs t leaf m v a c l _ hC hA ht1 ht2 hm hv E hl hn hf1 hk (fun W h1 h2 => hin W ((Below.refl B _).trans h1) ((Only.refl _ _).trans (only_a3 h2))) (Nat.le_trans hBw (Below.refl B _).size)).mono ?_))
  rintro e W1 ⟨p4, c4, rfl, hb1, hO1, hX1, hA, hup⟩
  refine ⟨_, rfl, ?_⟩
  have hO : Only [54, 5, 26] w _ := (only_a3 hO1)
  have hX : Fr [ba, g, b8] w _ := (hX1.mono (by simp))
  have hB := hb1
  replace k3 := k3.only hO1 (by decide)
  replace k4 := k4.only hO1 (by decide)
  replace k8 := k8.only hO1 (by decide)
  replace hup := own_mono hup hs1
  refine g_pure 5 ⟨#[.bool leaf, .slice a l.length c, .pointer (some ⟨b3, 0, none⟩), .pointer (some ⟨b4, 0, none⟩), .pointer (some ⟨b8, 0, none⟩), undef, undef, .slice none 0 0, .slice p4 (ovN l.length m) c4, .nilIface, .tuple #[.slice p4 (ovN l.length m) c4, .nilIface], .pointer (some ⟨ba, 0, none⟩), .int .i64 t, .bool leaf, .slice a l.length c, .tuple #[.slice p4 (ovN l.length m) c4, .nilIface], .slice p4 (ovN l.length m) c4, .nilIface, undef, undef], []⟩ (by kernel_rfl) ?_
  refine wpList_nil ?_
  refine wp_seq ?_
  refine wp_region_lit ?_
  refine g_pure 1 ⟨#[.bool leaf, .slice a l.length c, .pointer (some ⟨b3, 0, none⟩), .pointer (some ⟨b4, 0, none⟩), .pointer (some ⟨b8, 0, none⟩), undef, undef, .slice none 0 0, .slice p4 (ovN l.length m) c4, .nilIface, .tuple #[.slice p4 (ovN l.length m) c4, .nilIface], .pointer (some ⟨ba, 0, none⟩), .int .i64 t, .bool leaf, .slice a l.length c, .tuple #[.slice p4 (ovN l.length m) c4, .nilIface], .slice p4 (ovN l.length m) c4, .nilIface, .nilIface, undef], []⟩ (by kernel_rfl) ?_
  refine g_op (by kernel_rfl) (op_store (v := .nilIface) rfl rfl rfl (by kernel_rfl) rfl k8 (by first | decide | simp) ?_)
  intro W2 u2 k2
  change Blk _ _ [.nilIface] _ at k2
  replace hX := hX.trans (Fr.of_upd u2 (by simp))
  replace hO := hO.trans (Only.of_upd u2 k8 (by decide))
  replace hB := u2.below hB hB8
  replace k3 := u2.blk k3 h38
  replace k4 := u2.blk k4 h48
  replace hA := hA.only (Only.of_upd (T := [26]) u2 k8 (by decide)) (by decide)
  replace hup := u2.own2 hup k8 (by decide)
  refine wpList_nil ?_
  refine wp_seq ?_
  refine wp_region_lit ?_
  refine g_pure 2 ⟨#[.bool leaf, .slice a l.length c, .pointer (some ⟨b3, 0, none⟩), .pointer (some ⟨b4, 0, none⟩), .pointer (some ⟨b8, 0, none⟩), undef, undef, .slice p4 (ovN l.length m) c4, .slice p4 (ovN l.length m) c4, .nilIface, .tuple #[.slice p4 (ovN l.length m) c4, .nilIface], .pointer (some ⟨ba, 0, none⟩), .int .i64 t, .bool leaf, .slice a l.length c, .tuple #[.slice p4 (ovN l.length m) c4, .nilIface], .slice p4 (ovN l.length m) c4, .nilIface, .nilIface, .slice p4 (ovN l.length m) c4], []⟩ (by kernel_rfl) ?_
  refine wpList_nil ?_
  refine wp_ret ?_
  show bodyPost _ _ _ .ret _ _
  exact g_ret (.slice p4 (ovN l.length m) c4) rfl (by kernel_rfl) ⟨_, _, rfl, hB, hO, hX, k2, hA, hup⟩
def TreePost (B ba b g nn cc : Nat) (pa : Option Addr) (ca f N k0 : Nat) (bs : List UInt8) (t : Int) (l : List Ent) (w : World) (e : Ending) (w' : World) : Prop :=
  e = .returned (.tuple #[.int .i64 (treeB t l (f + k0) bs).1, .nilIface]) ∧ Below B w w' ∧ Only [54, 5, 26] w w' ∧ Fr [ba, g] w w' ∧ Al B ba b g nn cc pa ca f N (k0 + nodN t l.length) (treeB t l (f + k0) bs).2 w'
set_option maxRecDepth 100000 in
set_option maxHeartbeats 8000000 in
theorem build_Tree (B ba b g nn cc : Nat) (pa : Option Addr) (ca f N k0 : Nat) (bs : List UInt8) (t : Int) (a : Option Addr) (c : Nat) (l : List Ent) (w : World) (hC : AlC B ba nn cc ca f N) (hA : Al B ba b g nn cc pa ca f N k0 bs w) (ht1 : 1 ≤ t) (ht2 : t ≤ 5) (E : EntsOk (widN t true) l) (hn : l.length ≤ 32768) (hf1 : 1 ≤ f) (hkN : k0 ≤ N) (hk : k0 + nodN t l.length ≤ N) (hin : ∀ W, Below B w W → Only [54, 5, 26] w W → Sts entC W (.slice a l.length c) l) (hBw : B ≤ w.heap.size) :
    Calls Tryd.prog 6 #[.pointer (some ⟨ba, 0, none⟩), .int .i64 t, .slice a l.length c] w (TreePost B ba b g nn cc pa ca f N k0 bs t l w) := by
  have hnp := nodN_pos t l.length
  have hog : (ovN l.length (maxN t true)) ≤ nodN t l.length := levs_ge _
  have hov := ovN_le l.length (maxN t true) (maxN_pos t true).1
  have hop := ovN_pos l.length (maxN t true)
  have hcf := hC.hf
  have hcn := hC.hn
  refine calls_of_wp Tryd.func6 rfl ?_
  refine g_fr ⟨#[.pointer (some ⟨ba, 0, none⟩), .int .i64 t, .slice a l.length c, undef, undef, undef, undef, undef, undef, undef, undef, undef, undef, undef, undef, undef, undef, undef, undef, undef, undef, undef, undef, undef, undef, undef, undef, undef, undef, undef, undef, undef, undef, undef, undef, undef, undef, undef, undef, undef, undef, undef, undef, undef, undef, undef, undef, undef, undef, undef, undef, undef], []⟩ (by kernel_rfl) ?_
  refine wp_seq ?_
  refine wp_region_lit ?_
  refine g_op (by kernel_rfl) (op_box [.pointer (some ⟨ba, 0, none⟩)] rfl (by kernel_rfl) ?_)
  intro b1 W1 n1
  have g1 := n1.ge0 (Below.refl B _)
  have hO : Only [54, 5, 26] w _ := (Only.of_below n1.below)
  have hX : Fr [ba, g] w _ := (Fr.of_below n1.below)
  have hB := Bl.nextB (Below.refl B w) hBw n1.below
  replace hA := hA.below n1.below
  have k1 := n1.blk
  refine g_op (by kernel_rfl) (op_box [.int .i64 t] rfl (by kernel_rfl) ?_)
  intro b2 W2 n2
  have d2_b1 := n2.ne k1
  have g2 := n2.ge0 hB
  replace hO := hO.trans (Only.of_below n2.below)
  replace hX := hX.trans (Fr.of_below n2.below)
  replace hB := Bl.nextB hB hBw n2.below
  replace k1 := k1.below n2.below
  replace hA := hA.below n2.below
  have k2 := n2.blk
  refine g_pure 2 ⟨#[.pointer (some ⟨ba, 0, none⟩), .int .i64 t, .slice a l.length c, .pointer (some ⟨b1, 0, none⟩), .pointer (some ⟨b2, 0, none⟩), undef, .int .i64 0, .nilIface, undef, undef, undef, undef, undef, undef, undef, undef, undef, undef, undef, undef, undef, undef, undef, undef, undef, undef, undef, undef, undef, undef, undef, undef, undef, undef, undef, undef, undef, undef, undef, undef, undef, undef, undef, undef, undef, undef, undef, undef, undef, undef, undef, undef], []⟩ (by kernel_rfl) ?_
  refine wpList_nil ?_
  refine wp_seq ?_
  refine wp_block ?_
  refine wp_seq ?_
  refine wp_region_lit ?_
  refine g_op (by kernel_rfl) (op_load _ (.pointer (some ⟨ba, 0, none⟩)) rfl rfl (by kernel_rfl) (k1.cell (i := 0) rfl) ?_)
  refine g_op (by kernel_rfl) (op_call 15 #[.pointer (some ⟨ba, 0, none⟩)] rfl rfl (fun _ _ => by kernel_rfl) (by kernel_rfl) ((alloc_Image ba b _ _ _ hA.blkA).mono ?_))
  rintro e W3 ⟨rfl, hb3⟩
  refine ⟨_, rfl, ?_⟩
  replace hO := hO.trans (Only.of_below hb3)
  replace hX := hX.trans (Fr.of_below hb3)
  replace hB := Bl.nextB hB hBw hb3
  replace k1 := k1.below hb3
  replace k2 := k2.below hb3
  replace hA := hA.below hb3
  refine g_pure 2 ⟨#[.pointer (some ⟨ba, 0, none⟩), .int .i64 t, .slice a l.length c, .pointer (some ⟨b1, 0, none⟩), .pointer (some ⟨b2, 0, none⟩), undef, .int .i64 0, .nilIface, undef, undef, undef, .bool false, .pointer (some ⟨ba, 0, none⟩), .pointer (some ⟨b, 0, none⟩), .bool false, undef, undef, undef, undef, undef, undef, undef, undef, undef, undef, undef, undef, undef, undef, undef, undef, undef, undef, undef, undef, undef, undef, undef, undef, undef, undef, undef, undef, undef, undef, undef, undef, undef, undef, undef, undef, undef], []⟩ (by kernel_rfl) ?_
  refine wpList_nil ?_
  refine wp_cond_false rfl ?_
  refine wp_seq ?_
  refine wp_region_lit ?_
  refine g_op (by kernel_rfl) (op_load _ (.int .i64 t) rfl rfl (by kernel_rfl) (k2.cell (i := 0) rfl) ?_)
  refine g_pure 1 ⟨#[.pointer (some ⟨ba, 0, none⟩), .int .i64 t, .slice a l.length c, .pointer (some ⟨b1, 0, none⟩), .pointer (some ⟨b2, 0, none⟩), undef, .int .i64 0, .nilIface, undef, undef, undef, .bool false, .pointer (some ⟨ba, 0, none⟩), .pointer (some ⟨b, 0, none⟩), .bool false, undef, undef, .int .i64 t, .slice a l.length c, undef, undef, undef, undef, undef, undef, undef, undef, undef, undef, undef, undef, undef, undef, undef, undef, undef, undef, undef, undef, undef, undef, undef, undef, undef, undef, undef, undef, undef, undef, undef, undef, undef], []⟩ (by kernel_rfl) ?_
  refine g_op (by kernel_rfl) (op_call 16 #[.int .i64 t, .slice a l.length c] rfl rfl (fun _ _ => by kernel_rfl) (by kernel_rfl) ((build_right t (widN t true) a c l _ ht1 ht2 rfl E (hin _ hB hO) hn).mono ?_))
  rintro e W4 ⟨rfl, hb4⟩
  refine ⟨_, rfl, ?_⟩
  replace hO := hO.trans (Only.of_below hb4)
  replace hX := hX.trans (Fr.of_below hb4)
  replace hB := Bl.nextB hB hBw hb4
  replace k1 := k1.below hb4
  replace k2 := k2.below hb4
  replace hA := hA.below hb4
  refine g_pure 2 ⟨#[.pointer (some ⟨ba, 0, none⟩), .int .i64 t, .slice a l.length c, .pointer (some ⟨b1, 0, none⟩), .pointer (some ⟨b2, 0, none⟩), undef, .int .i64 0, .nilIface, undef, undef, undef, .bool false, .pointer (some ⟨ba, 0, none⟩), .pointer (some ⟨b, 0, none⟩), .bool false, undef, .bool false, .int .i64 t, .slice a l.length c, .bool true, .bool false, undef, undef, undef, undef, undef, undef, undef, undef, undef, undef, undef, undef, undef, undef, undef, undef, undef, undef, undef, undef, undef, undef, undef, undef, undef, undef, undef, undef, undef, undef, undef], []⟩ (by kernel_rfl) ?_
  refine wpList_nil ?_
  refine wp_cond_false rfl ?_
  refine wp_seq ?_
  replace hO := hO.trans (Only.of_below (below_drew W4))
  replace hX := hX.trans (Fr.of_below (below_drew W4))
  replace hB := Bl.nextB hB hBw (below_drew W4)
  replace k1 := k1.below (below_drew W4)
  replace k2 := k2.below (below_drew W4)
  replace hA := hA.below (below_drew W4)
  refine h_reg (Below (W4.drew).heap.size (W4.drew)) 8 rfl #[false, false, false, false, false, false, false, false] rfl (by kernel_rfl) (Below.refl _ _) ?_
  intro hS5
  have hBd7 := hB
  have kd7_b1 := k1
  have kd7_b2 := k2
  have hOd7 := hO
  refine h_load 0 7 rfl _ (.pointer (some ⟨ba, 0, none⟩)) rfl (by kernel_rfl) (by kernel_rfl) (by kernel_rfl) (fun _ _ _ _ _ h => h) (by kernel_rfl) rfl rfl (by kernel_rfl) (fun V hV => ((kd7_b1.below hV).cell (i := 0) rfl)) hS5 ?_
  refine h_load 2 6 rfl _ (.int .i64 t) rfl (by kernel_rfl) (by kernel_rfl) (by kernel_rfl) (fun _ _ _ _ _ h => h) (by kernel_rfl) rfl rfl (by kernel_rfl) (fun V hV => ((kd7_b2.below hV).cell (i := 0) rfl)) hS5 ?_
  refine h_pure [3, 4] 4 rfl #[true, false, true, true, true, false, false, false] ⟨#[.pointer (some ⟨ba, 0, none⟩), .int .i64 t, .slice a l.length c, .pointer (some ⟨b1, 0, none⟩), .pointer (some ⟨b2, 0, none⟩), undef, .int .i64 0, .nilIface, undef, undef, undef, .bool false, .pointer (some ⟨ba, 0, none⟩), .pointer (some ⟨b, 0, none⟩), .bool false, undef, .bool false, .int .i64 t, .slice a l.length c, .bool true, .bool false, undef, undef, .pointer (some ⟨ba, 0, none⟩), undef, .int .i64 t, .slice a l.length c, .int .i64 (↑l.length : Int), undef, undef, undef, undef, undef, undef, undef, undef, undef, undef, undef, undef, undef, undef, undef, undef, undef, undef, undef, undef, undef, undef, undef, undef], []⟩ (by kernel_rfl) (fun _ _ _ _ _ h => h) (by kernel_rfl) hS5 ?_
  refine h_one 1 3 rfl (by kernel_rfl) rfl (by kernel_rfl) (op_call 8 #[.pointer (some ⟨ba, 0, none⟩)] rfl rfl (fun _ _ => by kernel_rfl) (by kernel_rfl) ((alloc_Left ba b pa N ca k0 _ hA.blkA hkN).mono ?_))
  rintro e W8 ⟨rfl, hb8⟩
  refine ⟨_, rfl, ?_⟩
  replace hO := hO.trans (Only.of_below hb8)
  replace hX := hX.trans (Fr.of_below hb8)
  replace hB := Bl.nextB hB hBw hb8
  replace k1 := k1.below hb8
  replace k2 := k2.below hb8
  replace hA := hA.below hb8
  have hS9 : Below (W4.drew).heap.size (W4.drew) (W8) := Bl.next hS5 hb8
  refine ⟨hS9, ?_⟩
  refine h_one 5 2 rfl (by kernel_rfl) rfl (by kernel_rfl) (op_call 4 #[.int .i64 t, .int .i64 (↑l.length : Int)] rfl rfl (fun _ _ => by kernel_rfl) (by kernel_rfl) ((tall_Nodes t l.length _ ht1 ht2 hn).mono ?_))
  rintro e W10 ⟨rfl, hb10⟩
  refine ⟨_, rfl, ?_⟩
  replace hO := hO.trans (Only.of_below hb10)
  replace hX := hX.trans (Fr.of_below hb10)
  replace hB := Bl.nextB hB hBw hb10
  replace k1 := k1.below hb10
  replace k2 := k2.below hb10
  replace hA := hA.below hb10
  have hS11 : Below (W4.drew).heap.size (W4.drew) (W10) := Bl.next hS9 hb10
  refine ⟨hS11, ?_⟩
  refine h_pure [6, 7] 0 rfl #[true, true, true, true, true, true, true, true] ⟨#[.pointer (some ⟨ba, 0, none⟩), .int .i64 t, .slice a l.length c, .pointer (some ⟨b1, 0, none⟩), .pointer (some ⟨b2, 0, none⟩), undef, .int .i64 0, .nilIface, undef, undef, undef, .bool false, .pointer (some ⟨ba, 0, none⟩), .pointer (some ⟨b, 0, none⟩), .bool false, undef, .bool false, .int .i64 t, .slice a l.length c, .bool true, .bool false, undef, .bool (decide ((↑(N - k0) : Int) < (↑(nodN t l.length) : Int))), .pointer (some ⟨ba, 0, none⟩), .int .i64 (↑(N - k0) : Int), .int .i64 t, .slice a l.length c, .int .i64 (↑l.length : Int), .int .i64 (↑(nodN t l.length) : Int), .bool (decide ((↑(N - k0) : Int) < (↑(nodN t l.length) : Int))), undef, undef, undef, undef, undef, undef, undef, undef, undef, undef, undef, undef, undef, undef, undef, undef, undef, undef, undef, undef, undef, undef], []⟩ (by kernel_rfl) (fun _ _ _ _ _ h => h) (by kernel_rfl) hS11 ?_
  refine h_done _ (by kernel_rfl) ?_
  refine wp_cond_false (by show Value.bool _ = Value.bool _; rw [(show (decide ((↑(N - k0) : Int) < (↑(nodN t l.length) : Int)) : Bool) = false from decide_eq_false (by omega))]) ?_
  refine wp_skip ?_
  refine wp_seq ?_
  refine wp_region_lit ?_
  refine g_op (by kernel_rfl) (op_alloc [.nilIface] rfl (by kernel_rfl) ?_)
  intro b13 W13 n13
  have d13_b1 := n13.ne k1
  have d13_b2 := n13.ne k2
  have g13 := n13.ge0 hB
  replace hO := hO.trans (Only.of_below n13.below)
  replace hX := hX.trans (Fr.of_below n13.below)
  replace hB := Bl.nextB hB hBw n13.below
  replace k1 := k1.below n13.below
  replace k2 := k2.below n13.below
  replace hA := hA.below n13.below
  have k13 := n13.blk
  refine wpList_nil ?_
  refine wp_seq ?_
  refine wp_region_lit ?_
  refine g_pure 2 ⟨#[.pointer (some ⟨ba, 0, none⟩), .int .i64 t, .slice a l.length c, .pointer (some ⟨b1, 0, none⟩), .pointer (some ⟨b2, 0, none⟩), undef, .int .i64 0, .nilIface, .pointer (some ⟨b13, 0, none⟩), .func (.func 17) #[] #[.pointer (some ⟨b1, 0, none⟩), .pointer (some ⟨b2, 0, none⟩), .pointer (some ⟨b13, 0, none⟩)], undef, .bool false, .pointer (some ⟨ba, 0, none⟩), .pointer (some ⟨b, 0, none⟩), .bool false, undef, .bool false, .int .i64 t, .slice a l.length c, .bool true, .bool false, undef, .bool (decide ((↑(N - k0) : Int) < (↑(nodN t l.length) : Int))), .pointer (some ⟨ba, 0, none⟩), .int .i64 (↑(N - k0) : Int), .int .i64 t, .slice a l.length c, .int .i64 (↑l.length : Int), .int .i64 (↑(nodN t l.length) : Int), .bool (decide ((↑(N - k0) : Int) < (↑(nodN t l.length) : Int))), undef, .func (.func 17) #[] #[.pointer (some ⟨b1, 0, none⟩), .pointer (some ⟨b2, 0, none⟩), .pointer (some ⟨b13, 0, none⟩)], undef, undef, undef, undef, undef, undef, undef, undef, undef, undef, undef, undef, undef, undef, undef, undef, undef, undef, undef, undef], []⟩ (by kernel_rfl) ?_
  refine wpList_nil ?_
  refine wp_seq ?_
  refine wp_region_lit ?_
  refine g_pure 2 ⟨#[.pointer (some ⟨ba, 0, none⟩), .int .i64 t, .slice a l.length c, .pointer (some ⟨b1, 0, none⟩), .pointer (some ⟨b2, 0, none⟩), undef, .int .i64 0, .nilIface, .pointer (some ⟨b13, 0, none⟩), .func (.func 17) #[] #[.pointer (some ⟨b1, 0, none⟩), .pointer (some ⟨b2, 0, none⟩), .pointer (some ⟨b13, 0, none⟩)], undef, .bool false, .pointer (some ⟨ba, 0, none⟩), .pointer (some ⟨b, 0, none⟩), .bool false, undef, .bool false, .int .i64 t, .slice a l.length c, .bool true, .bool false, undef, .bool (decide ((↑(N - k0) : Int) < (↑(nodN t l.length) : Int))), .pointer (some ⟨ba, 0, none⟩), .int .i64 (↑(N - k0) : Int), .int .i64 t, .slice a l.length c, .int .i64 (↑l.length : Int), .int .i64 (↑(nodN t l.length) : Int), .bool (decide ((↑(N - k0) : Int) < (↑(nodN t l.length) : Int))), undef, .func (.func 17) #[] #[.pointer (some ⟨b1, 0, none⟩), .pointer (some ⟨b2, 0, none⟩), .pointer (some ⟨b13, 0, none⟩)], .func (.func 17) #[] #[.pointer (some ⟨b1, 0, none⟩), .pointer (some ⟨b2, 0, none⟩), .pointer (some ⟨b13, 0, none⟩)], .slice a l.length c, undef, undef, undef, undef, undef, undef, undef, undef, undef, undef, undef, undef, undef, undef, undef, undef, undef, undef], []⟩ (by kernel_rfl) ?_
  have hs14 : w.heap.size ≤ (W13).heap.size := hB.size
  refine g_op (by kernel_rfl) (op_call 17 #[.bool true, .slice a l.length c, .pointer (some ⟨b1, 0, none⟩), .pointer (some ⟨b2, 0, none⟩), .pointer (some ⟨b13, 0, none⟩)] rfl rfl (fun _ _ => by kernel_rfl) (by kernel_rfl) ((build_Tree1 B ba b g nn cc pa ca f N k0 bs t true (maxN t true) (widN t true) a c l b1 b2 b13 _ k1 k2 k13 (Ne.symm (Ne.symm d13_b1)) (Ne.symm (Ne.symm d13_b2)) (Nat.le_trans hBw g13) hC hA ht1 ht2 rfl rfl E (by simp) hn hf1 (by omega) (fun W h1 h2 => hin W (hB.trans h1) (hO.trans h2)) (Nat.le_trans hBw hB.size)).mono ?_))
  rintro e W14 ⟨p41, c41, rfl, hb14, hO14, hX14, k8n, hA, hup⟩
  refine ⟨_, rfl, ?_⟩
  replace hO := hO.trans hO14
  replace hX := (Fr.trans_new hX hX14 g13)
  replace hB := hB.trans hb14
  replace k1 := k1.only hO14 (by decide)
  replace k2 := k2.only hO14 (by decide)
  replace hup := own_mono hup hs14
  refine g_pure 1 ⟨#[.pointer (some ⟨ba, 0, none⟩), .int .i64 t, .slice a l.length c, .pointer (some ⟨b1, 0, none⟩), .pointer (some ⟨b2, 0, none⟩), undef, .int .i64 0, .nilIface, .pointer (some ⟨b13, 0, none⟩), .func (.func 17) #[] #[.pointer (some ⟨b1, 0, none⟩), .pointer (some ⟨b2, 0, none⟩), .pointer (some ⟨b13, 0, none⟩)], .slice p41 (ovN l.length (maxN t true)) c41, .bool false, .pointer (some ⟨ba, 0, none⟩), .pointer (some ⟨b, 0, none⟩), .bool false, undef, .bool false, .int .i64 t, .slice a l.length c, .bool true, .bool false, undef, .bool (decide ((↑(N - k0) : Int) < (↑(nodN t l.length) : Int))), .pointer (some ⟨ba, 0, none⟩), .int .i64 (↑(N - k0) : Int), .int .i64 t, .slice a l.length c, .int .i64 (↑l.length : Int), .int .i64 (↑(nodN t l.length) : Int), .bool (decide ((↑(N - k0) : Int) < (↑(nodN t l.length) : Int))), undef, .func (.func 17) #[] #[.pointer (some ⟨b1, 0, none⟩), .pointer (some ⟨b2, 0, none⟩), .pointer (some ⟨b13, 0, none⟩)], .func (.func 17) #[] #[.pointer (some ⟨b1, 0, none⟩), .pointer (some ⟨b2, 0, none⟩), .pointer (some ⟨b13, 0, none⟩)], .slice a l.length c, .slice p41 (ovN l.length (maxN t true)) c41, undef, undef, undef, undef, undef, undef, undef, undef, undef, undef, undef, undef, undef, undef, undef, undef, undef], []⟩ (by kernel_rfl) ?_
  refine wpList_nil ?_
  refine wp_seq ?_
  refine wp_block ?_
  refine g_fr ⟨#[.pointer (some ⟨ba, 0, none⟩), .int .i64 t, .slice a l.length c, .pointer (some ⟨b1, 0, none⟩), .pointer (some ⟨b2, 0, none⟩), undef, .int .i64 0, .nilIface, .pointer (some ⟨b13, 0, none⟩), .func (.func 17) #[] #[.pointer (some ⟨b1, 0, none⟩), .pointer (some ⟨b2, 0, none⟩), .pointer (some ⟨b13, 0, none⟩)], .slice p41 (ovN l.length (maxN t true)) c41, .bool false, .pointer (some ⟨ba, 0, none⟩), .pointer (some ⟨b, 0, none⟩), .bool false, undef, .bool false, .int .i64 t, .slice a l.length c, .bool true, .bool false, undef, .bool (decide ((↑(N - k0) : Int) < (↑(nodN t l.length) : Int))), .pointer (some ⟨ba, 0, none⟩), .int .i64 (↑(N - k0) : Int), .int .i64 t, .slice a l.length c, .int .i64 (↑l.length : Int), .int .i64 (↑(nodN t l.length) : Int), .bool (decide ((↑(N - k0) : Int) < (↑(nodN t l.length) : Int))), undef, .func (.func 17) #[] #[.pointer (some ⟨b1, 0, none⟩), .pointer (some ⟨b2, 0, none⟩), .pointer (some ⟨b13, 0, none⟩)], .func (.func 17) #[] #[.pointer (some ⟨b1, 0, none⟩), .pointer (some ⟨b2, 0, none⟩), .pointer (some ⟨b13, 0, none⟩)], .slice a l.length c, .slice p41 (ovN l.length (maxN t true)) c41, undef, undef, undef, undef, undef, undef, undef, undef, undef, undef, undef, undef, undef, undef, undef, undef, undef], []⟩ (by kernel_rfl) ?_
  refine g_fr ⟨#[.pointer (some ⟨ba, 0, none⟩), .int .i64 t, .slice a l.length c, .pointer (some ⟨b1, 0, none⟩), .pointer (some ⟨b2, 0, none⟩), undef, .int .i64 0, .nilIface, .pointer (some ⟨b13, 0, none⟩), .func (.func 17) #[] #[.pointer (some ⟨b1, 0, none⟩), .pointer (some ⟨b2, 0, none⟩), .pointer (some ⟨b13, 0, none⟩)], .slice p41 ((upE l (maxN t true) (f + k0) (ovN l.length (maxN t true))).length) c41, .bool false, .pointer (some ⟨ba, 0, none⟩), .pointer (some ⟨b, 0, none⟩), .bool false, undef, .bool false, .int .i64 t, .slice a l.length c, .bool true, .bool false, undef, .bool (decide ((↑(N - k0) : Int) < (↑(nodN t l.length) : Int))), .pointer (some ⟨ba, 0, none⟩), .int .i64 (↑(N - k0) : Int), .int .i64 t, .slice a l.length c, .int .i64 (↑l.length : Int), .int .i64 (↑(nodN t l.length) : Int), .bool (decide ((↑(N - k0) : Int) < (↑(nodN t l.length) : Int))), undef, .func (.func 17) #[] #[.pointer (some ⟨b1, 0, none⟩), .pointer (some ⟨b2, 0, none⟩), .pointer (some ⟨b13, 0, none⟩)], .func (.func 17) #[] #[.pointer (some ⟨b1, 0, none⟩), .pointer (some ⟨b2, 0, none⟩), .pointer (some ⟨b13, 0, none⟩)], .slice a l.length c, .slice p41 (ovN l.length (maxN t true)) c41, undef, undef, undef, undef, undef, undef, undef, undef, undef, undef, undef, undef, undef, undef, undef, undef, undef], []⟩ (by rw [upE_len]) ?_
  refine wp_loop (fun act V => ∃ (u : List Ent) (K : Nat) (bs2 : List UInt8) (p : Option Addr) (c2 : Nat) (x15 : Nat → Value), act = ⟨#[.pointer (some ⟨ba, 0, none⟩), .int .i64 t, .slice a l.length c, .pointer (some ⟨b1, 0, none⟩), .pointer (some ⟨b2, 0, none⟩), undef, .int .i64 0, .nilIface, .pointer (some ⟨b13, 0, none⟩), .func (.func 17) #[] #[.pointer (some ⟨b1, 0, none⟩), .pointer (some ⟨b2, 0, none⟩), .pointer (some ⟨b13, 0, none⟩)], .slice p u.length c2, .bool false, .pointer (some ⟨ba, 0, none⟩), .pointer (some ⟨b, 0, none⟩), .bool false, undef, .bool false, .int .i64 t, .slice a l.length c, .bool true, .bool false, undef, .bool (decide ((↑(N - k0) : Int) < (↑(nodN t l.length) : Int))), .pointer (some ⟨ba, 0, none⟩), .int .i64 (↑(N - k0) : Int), .int .i64 t, .slice a l.length c, .int .i64 (↑l.length : Int), .int .i64 (↑(nodN t l.length) : Int), .bool (decide ((↑(N - k0) : Int) < (↑(nodN t l.length) : Int))), undef, .func (.func 17) #[] #[.pointer (some ⟨b1, 0, none⟩), .pointer (some ⟨b2, 0, none⟩), .pointer (some ⟨b13, 0, none⟩)], .func (.func 17) #[] #[.pointer (some ⟨b1, 0, none⟩), .pointer (some ⟨b2, 0, none⟩), .pointer (some ⟨b13, 0, none⟩)], .slice a l.length c, .slice p41 (ovN l.length (maxN t true)) c41, (x15 0), (x15 1), (x15 2), (x15 3), (x15 4), (x15 5), (x15 6), (x15 7), (x15 8), (x15 9), undef, undef, undef, undef, undef, undef, undef], []⟩ ∧ Below B w V ∧ Fr [ba, g] w V ∧ Only [54, 5, 26] w V ∧ Blk V b1 ([.pointer (some ⟨ba, 0, none⟩)]) 23 ∧ Blk V b2 ([.int .i64 t]) 3 ∧ Blk V b13 ([.nilIface]) 26 ∧ V.ownsRow w.heap.size 49 3 (.slice p u.length c2) u.length (u.flatMap entC) ∧ Al B ba b g nn cc pa ca f N K bs2 V ∧ K + (levs u.length).sum = k0 + nodN t l.length + u.length ∧ 1 ≤ u.length ∧ u.length ≤ 32768 ∧ EntsOk 4 u ∧ treeUp t u (f + K) bs2 = treeB t l (f + k0) bs) (fun act V => (lenOf (act.tmps.getD 10 undef))) ⟨(upE l (maxN t true) (f + k0) (ovN l.length (maxN t true))), (k0 + (ovN l.length (maxN t true))), _, _, _, (pk [undef, undef, undef, undef, undef, undef, undef, undef, undef, undef]), rfl, hB, hX, hO, k1, k2, k8n, (by rw [upE_len]; exact hup), hA, (by rw [upE_len]; unfold nodN levL; omega), (by rw [upE_len]; exact hop), (by rw [upE_len]; omega), up_ok E (maxN_pos t true).1, (by rw [← Nat.add_assoc]; rfl)⟩ ?_
  rintro _ W15 ⟨u, K, bs2, p, c2, x15, rfl, hB, hX, hO, k15_b1, k15_b2, k15_b13, hup, hA, hK, hu1, hun, hE, htr⟩
  have hlm : ¬ u.length ≤ 1 → (levs u.length).sum = u.length + (levs (ovN u.length 18)).sum := fun h => by rw [levs_more h]; rfl
  have hlg := levs_ge (ovN u.length 18)
  have h18 : 2 ≤ u.length → ovN u.length 18 ≤ u.length / 2 := ov18
  have h18p := ovN_pos u.length 18
  refine wp_seq ?_
  refine wp_seq ?_
  refine wp_region_lit ?_
  refine g_op (by kernel_rfl) (op_load _ .nilIface rfl rfl (by kernel_rfl) (k15_b13.cell (i := 0) rfl) ?_)
  refine g_pure 6 ⟨#[.pointer (some ⟨ba, 0, none⟩), .int .i64 t, .slice a l.length c, .pointer (some ⟨b1, 0, none⟩), .pointer (some ⟨b2, 0, none⟩), undef, .int .i64 0, .nilIface, .pointer (some ⟨b13, 0, none⟩), .func (.func 17) #[] #[.pointer (some ⟨b1, 0, none⟩), .pointer (some ⟨b2, 0, none⟩), .pointer (some ⟨b13, 0, none⟩)], .slice p u.length c2, .bool false, .pointer (some ⟨ba, 0, none⟩), .pointer (some ⟨b, 0, none⟩), .bool false, undef, .bool false, .int .i64 t, .slice a l.length c, .bool true, .bool false, undef, .bool (decide ((↑(N - k0) : Int) < (↑(nodN t l.length) : Int))), .pointer (some ⟨ba, 0, none⟩), .int .i64 (↑(N - k0) : Int), .int .i64 t, .slice a l.length c, .int .i64 (↑l.length : Int), .int .i64 (↑(nodN t l.length) : Int), .bool (decide ((↑(N - k0) : Int) < (↑(nodN t l.length) : Int))), undef, .func (.func 17) #[] #[.pointer (some ⟨b1, 0, none⟩), .pointer (some ⟨b2, 0, none⟩), .pointer (some ⟨b13, 0, none⟩)], .func (.func 17) #[] #[.pointer (some ⟨b1, 0, none⟩), .pointer (some ⟨b2, 0, none⟩), .pointer (some ⟨b13, 0, none⟩)], .slice a l.length c, .slice p41 (ovN l.length (maxN t true)) c41, .nilIface, .bool true, .bool true, .slice p u.length c2, .int .i64 (↑u.length : Int), .bool (decide ((↑u.length : Int) > (1 : Int))), .bool (decide ((↑u.length : Int) > (1 : Int))), (x15 7), (x15 8), (x15 9), undef, undef, undef, undef, undef, undef, undef], []⟩ (by kernel_rfl) ?_
  refine wpList_nil ?_
  refine wp_cond_split (t := decide ((↑u.length : Int) > (1 : Int))) rfl (fun hc16 => ?_) (fun hc16 => ?_)
  · have hc16 := of_decide_eq_true hc16
    refine wp_skip ?_
    refine wp_block ?_
    refine wp_region_lit ?_
    refine g_pure 2 ⟨#[.pointer (some ⟨ba, 0, none⟩), .int .i64 t, .slice a l.length c, .pointer (some ⟨b1, 0, none⟩), .pointer (some ⟨b2, 0, none⟩), undef, .int .i64 0, .nilIface, .pointer (some ⟨b13, 0, none⟩), .func (.func 17) #[] #[.pointer (some ⟨b1, 0, none⟩), .pointer (some ⟨b2, 0, none⟩), .pointer (some ⟨b13, 0, none⟩)], .slice p u.length c2, .bool false, .pointer (some ⟨ba, 0, none⟩), .pointer (some ⟨b, 0, none⟩), .bool false, undef, .bool false, .int .i64 t, .slice a l.length c, .bool true, .bool false, undef, .bool (decide ((↑(N - k0) : Int) < (↑(nodN t l.length) : Int))), .pointer (some ⟨ba, 0, none⟩), .int .i64 (↑(N - k0) : Int), .int .i64 t, .slice a l.length c, .int .i64 (↑l.length : Int), .int .i64 (↑(nodN t l.length) : Int), .bool (decide ((↑(N - k0) : Int) < (↑(nodN t l.length) : Int))), undef, .func (.func 17) #[] #[.pointer (some ⟨b1, 0, none⟩), .pointer (some ⟨b2, 0, none⟩), .pointer (some ⟨b13, 0, none⟩)], .func (.func 17) #[] #[.pointer (some ⟨b1, 0, none⟩), .pointer (some ⟨b2, 0, none⟩), .pointer (some ⟨b13, 0, none⟩)], .slice a l.length c, .slice p41 (ovN l.length (maxN t true)) c41, .nilIface, .bool true, .bool true, .slice p u.length c2, .int .i64 (↑u.length : Int), .bool (decide ((↑u.length : Int) > (1 : Int))), .bool (decide ((↑u.length : Int) > (1 : Int))), .func (.func 17) #[] #[.pointer (some ⟨b1, 0, none⟩), .pointer (some ⟨b2, 0, none⟩), .pointer (some ⟨b13, 0, none⟩)], .slice p u.length c2, (x15 9), undef, undef, undef, undef, undef, undef, undef], []⟩ (by kernel_rfl) ?_
    have hs17 : w.heap.size ≤ (W15).heap.size := hB.size
    refine g_op (by kernel_rfl) (op_call 17 #[.bool false, .slice p u.length c2, .pointer (some ⟨b1, 0, none⟩), .pointer (some ⟨b2, 0, none⟩), .pointer (some ⟨b13, 0, none⟩)] rfl rfl (fun _ _ => by kernel_rfl) (by kernel_rfl) ((build_Tree1 B ba b g nn cc pa ca f N K bs2 t false 18 4 p c2 u b1 b2 b13 _ k15_b1 k15_b2 k15_b13 (Ne.symm (Ne.symm d13_b1)) (Ne.symm (Ne.symm d13_b2)) (Nat.le_trans hBw g13) hC hA ht1 ht2 rfl rfl hE (fun _ => hu1) (by omega) hf1 (by omega) (fun W _ h2 => own_sl (own_only hup h2 (by decide))) (Nat.le_trans hBw hB.size)).mono ?_))
    rintro e W17 ⟨p42, c42, rfl, hb17, hO17, hX17, k8n, hA, hup⟩
    refine ⟨_, rfl, ?_⟩
    replace hO := hO.trans hO17
    replace hX := (Fr.trans_new hX hX17 g13)
    replace hB := hB.trans hb17
    replace k15_b1 := k15_b1.only hO17 (by decide)
    replace k15_b2 := k15_b2.only hO17 (by decide)
    replace hup := own_mono hup hs17
    refine g_pure 1 ⟨#[.pointer (some ⟨ba, 0, none⟩), .int .i64 t, .slice a l.length c, .pointer (some ⟨b1, 0, none⟩), .pointer (some ⟨b2, 0, none⟩), undef, .int .i64 0, .nilIface, .pointer (some ⟨b13, 0, none⟩), .func (.func 17) #[] #[.pointer (some ⟨b1, 0, none⟩), .pointer (some ⟨b2, 0, none⟩), .pointer (some ⟨b13, 0, none⟩)], .slice p42 (ovN u.length 18) c42, .bool false, .pointer (some ⟨ba, 0, none⟩), .pointer (some ⟨b, 0, none⟩), .bool false, undef, .bool false, .int .i64 t, .slice a l.length c, .bool true, .bool false, undef, .bool (decide ((↑(N - k0) : Int) < (↑(nodN t l.length) : Int))), .pointer (some ⟨ba, 0, none⟩), .int .i64 (↑(N - k0) : Int), .int .i64 t, .slice a l.length c, .int .i64 (↑l.length : Int), .int .i64 (↑(nodN t l.length) : Int), .bool (decide ((↑(N - k0) : Int) < (↑(nodN t l.length) : Int))), undef, .func (.func 17) #[] #[.pointer (some ⟨b1, 0, none⟩), .pointer (some ⟨b2, 0, none⟩), .pointer (some ⟨b13, 0, none⟩)], .func (.func 17) #[] #[.pointer (some ⟨b1, 0, none⟩), .pointer (some ⟨b2, 0, none⟩), .pointer (some ⟨b13, 0, none⟩)], .slice a l.length c, .slice p41 (ovN l.length (maxN t true)) c41, .nilIface, .bool true, .bool true, .slice p u.length c2, .int .i64 (↑u.length : Int), .bool (decide ((↑u.length : Int) > (1 : Int))), .bool (decide ((↑u.length : Int) > (1 : Int))), .func (.func 17) #[] #[.pointer (some ⟨b1, 0, none⟩), .pointer (some ⟨b2, 0, none⟩), .pointer (some ⟨b13, 0, none⟩)], .slice p u.length c2, .slice p42 (ovN u.length 18) c42, undef, undef, undef, undef, undef, undef, undef], []⟩ (by kernel_rfl) ?_
    refine wpList_nil ?_
    refine g_nfr ⟨#[.pointer (some ⟨ba, 0, none⟩), .int .i64 t, .slice a l.length c, .pointer (some ⟨b1, 0, none⟩), .pointer (some ⟨b2, 0, none⟩), undef, .int .i64 0, .nilIface, .pointer (some ⟨b13, 0, none⟩), .func (.func 17) #[] #[.pointer (some ⟨b1, 0, none⟩), .pointer (some ⟨b2, 0, none⟩), .pointer (some ⟨b13, 0, none⟩)], .slice p42 (ovN u.length 18) c42, .bool false, .pointer (some ⟨ba, 0, none⟩), .pointer (some ⟨b, 0, none⟩), .bool false, undef, .bool false, .int .i64 t, .slice a l.length c, .bool true, .bool false, undef, .bool (decide ((↑(N - k0) : Int) < (↑(nodN t l.length) : Int))), .pointer (some ⟨ba, 0, none⟩), .int .i64 (↑(N - k0) : Int), .int .i64 t, .slice a l.length c, .int .i64 (↑l.length : Int), .int .i64 (↑(nodN t l.length) : Int), .bool (decide ((↑(N - k0) : Int) < (↑(nodN t l.length) : Int))), undef, .func (.func 17) #[] #[.pointer (some ⟨b1, 0, none⟩), .pointer (some ⟨b2, 0, none⟩), .pointer (some ⟨b13, 0, none⟩)], .func (.func 17) #[] #[.pointer (some ⟨b1, 0, none⟩), .pointer (some ⟨b2, 0, none⟩), .pointer (some ⟨b13, 0, none⟩)], .slice a l.length c, .slice p41 (ovN l.length (maxN t true)) c41, .nilIface, .bool true, .bool true, .slice p u.length c2, .int .i64 (↑u.length : Int), .bool (decide ((↑u.length : Int) > (1 : Int))), .bool (decide ((↑u.length : Int) > (1 : Int))), .func (.func 17) #[] #[.pointer (some ⟨b1, 0, none⟩), .pointer (some ⟨b2, 0, none⟩), .pointer (some ⟨b13, 0, none⟩)], .slice p u.length c2, .slice p42 (ovN u.length 18) c42, undef, undef, undef, undef, undef, undef, undef], []⟩ (by kernel_rfl) ?_
    refine g_nfr ⟨#[.pointer (some ⟨ba, 0, none⟩), .int .i64 t, .slice a l.length c, .pointer (some ⟨b1, 0, none⟩), .pointer (some ⟨b2, 0, none⟩), undef, .int .i64 0, .nilIface, .pointer (some ⟨b13, 0, none⟩), .func (.func 17) #[] #[.pointer (some ⟨b1, 0, none⟩), .pointer (some ⟨b2, 0, none⟩), .pointer (some ⟨b13, 0, none⟩)], .slice p42 ((upE u 18 (f + K) (ovN u.length 18)).length) c42, .bool false, .pointer (some ⟨ba, 0, none⟩), .pointer (some ⟨b, 0, none⟩), .bool false, undef, .bool false, .int .i64 t, .slice a l.length c, .bool true, .bool false, undef, .bool (decide ((↑(N - k0) : Int) < (↑(nodN t l.length) : Int))), .pointer (some ⟨ba, 0, none⟩), .int .i64 (↑(N - k0) : Int), .int .i64 t, .slice a l.length c, .int .i64 (↑l.length : Int), .int .i64 (↑(nodN t l.length) : Int), .bool (decide ((↑(N - k0) : Int) < (↑(nodN t l.length) : Int))), undef, .func (.func 17) #[] #[.pointer (some ⟨b1, 0, none⟩), .pointer (some ⟨b2, 0, none⟩), .pointer (some ⟨b13, 0, none⟩)], .func (.func 17) #[] #[.pointer (some ⟨b1, 0, none⟩), .pointer (some ⟨b2, 0, none⟩), .pointer (some ⟨b13, 0, none⟩)], .slice a l.length c, .slice p41 (ovN l.length (maxN t true)) c41, .nilIface, .bool true, .bool true, .slice p u.length c2, .int .i64 (↑u.length : Int), .bool (decide ((↑u.length : Int) > (1 : Int))), .bool (decide ((↑u.length : Int) > (1 : Int))), .func (.func 17) #[] #[.pointer (some ⟨b1, 0, none⟩), .pointer (some ⟨b2, 0, none⟩), .pointer (some ⟨b13, 0, none⟩)], .slice p u.length c2, .slice p42 (ovN u.length 18) c42, undef, undef, undef, undef, undef, undef, undef], []⟩ (by rw [upE_len]) ?_
    refine ⟨⟨(upE u 18 (f + K) (ovN u.length 18)), (K + ovN u.length 18), _, _, _, (pk [.nilIface, .bool true, .bool true, .slice p u.length c2, .int .i64 (↑u.length : Int), .bool (decide ((↑u.length : Int) > (1 : Int))), .bool (decide ((↑u.length : Int) > (1 : Int))), .func (.func 17) #[] #[.pointer (some ⟨b1, 0, none⟩), .pointer (some ⟨b2, 0, none⟩), .pointer (some ⟨b13, 0, none⟩)], .slice p u.length c2, .slice p42 (ovN u.length 18) c42]), rfl, hB, hX, hO, k15_b1, k15_b2, k8n, (by rw [upE_len]; exact hup), hA, (by rw [upE_len]; omega), (by rw [upE_len]; exact h18p), (by rw [upE_len]; omega), up_ok hE (by decide), (by rw [← htr, ← Nat.add_assoc]; exact (treeUp_more (by omega)).symm)⟩, ?_⟩
    show ((upE u 18 (f + K) (ovN u.length 18)).length) < u.length
    rw [upE_len]; omega
  · have hc16 := of_decide_eq_false hc16
    refine wp_exit ?_
    refine then_exit ?_
    refine then_exit ?_
    refine inBlock_hit ?_
    refine wp_seq ?_
    refine wp_seq ?_
    refine wp_region_lit ?_
    refine g_op (by kernel_rfl) (op_load _ .nilIface rfl rfl (by kernel_rfl) (k15_b13.cell (i := 0) rfl) ?_)
    refine g_pure 1 ⟨#[.pointer (some ⟨ba, 0, none⟩), .int .i64 t, .slice a l.length c, .pointer (some ⟨b1, 0, none⟩), .pointer (some ⟨b2, 0, none⟩), undef, .int .i64 0, .nilIface, .pointer (some ⟨b13, 0, none⟩), .func (.func 17) #[] #[.pointer (some ⟨b1, 0, none⟩), .pointer (some ⟨b2, 0, none⟩), .pointer (some ⟨b13, 0, none⟩)], .slice p u.length c2, .bool false, .pointer (some ⟨ba, 0, none⟩), .pointer (some ⟨b, 0, none⟩), .bool false, undef, .bool false, .int .i64 t, .slice a l.length c, .bool true, .bool false, undef, .bool (decide ((↑(N - k0) : Int) < (↑(nodN t l.length) : Int))), .pointer (some ⟨ba, 0, none⟩), .int .i64 (↑(N - k0) : Int), .int .i64 t, .slice a l.length c, .int .i64 (↑l.length : Int), .int .i64 (↑(nodN t l.length) : Int), .bool (decide ((↑(N - k0) : Int) < (↑(nodN t l.length) : Int))), undef, .func (.func 17) #[] #[.pointer (some ⟨b1, 0, none⟩), .pointer (some ⟨b2, 0, none⟩), .pointer (some ⟨b13, 0, none⟩)], .func (.func 17) #[] #[.pointer (some ⟨b1, 0, none⟩), .pointer (some ⟨b2, 0, none⟩), .pointer (some ⟨b13, 0, none⟩)], .slice a l.length c, .slice p41 (ovN l.length (maxN t true)) c41, .nilIface, .bool true, .bool true, .slice p u.length c2, .int .i64 (↑u.length : Int), .bool (decide ((↑u.length : Int) > (1 : Int))), .bool (decide ((↑u.length : Int) > (1 : Int))), (x15 7), (x15 8), (x15 9), .nilIface, .bool false, undef, undef, undef, undef, undef], []⟩ (by kernel_rfl) ?_
    refine wpList_nil ?_
    refine wp_cond_false rfl ?_
    refine wp_skip ?_
    refine wp_seq ?_
    refine wp_region_lit ?_
    refine g_pure 1 ⟨#[.pointer (some ⟨ba, 0, none⟩), .int .i64 t, .slice a l.length c, .pointer (some ⟨b1, 0, none⟩), .pointer (some ⟨b2, 0, none⟩), undef, .int .i64 0, .nilIface, .pointer (some ⟨b13, 0, none⟩), .func (.func 17) #[] #[.pointer (some ⟨b1, 0, none⟩), .pointer (some ⟨b2, 0, none⟩), .pointer (some ⟨b13, 0, none⟩)], .slice p u.length c2, .bool false, .pointer (some ⟨ba, 0, none⟩), .pointer (some ⟨b, 0, none⟩), .bool false, undef, .bool false, .int .i64 t, .slice a l.length c, .bool true, .bool false, undef, .bool (decide ((↑(N - k0) : Int) < (↑(nodN t l.length) : Int))), .pointer (some ⟨ba, 0, none⟩), .int .i64 (↑(N - k0) : Int), .int .i64 t, .slice a l.length c, .int .i64 (↑l.length : Int), .int .i64 (↑(nodN t l.length) : Int), .bool (decide ((↑(N - k0) : Int) < (↑(nodN t l.length) : Int))), undef, .func (.func 17) #[] #[.pointer (some ⟨b1, 0, none⟩), .pointer (some ⟨b2, 0, none⟩), .pointer (some ⟨b13, 0, none⟩)], .func (.func 17) #[] #[.pointer (some ⟨b1, 0, none⟩), .pointer (some ⟨b2, 0, none⟩), .pointer (some ⟨b13, 0, none⟩)], .slice a l.length c, .slice p41 (ovN l.length (maxN t true)) c41, .nilIface, .bool true, .bool true, .slice p u.length c2, .int .i64 (↑u.length : Int), .bool (decide ((↑u.length : Int) > (1 : Int))), .bool (decide ((↑u.length : Int) > (1 : Int))), (x15 7), (x15 8), (x15 9), .nilIface, .bool false, undef, .slice p u.length c2, undef, undef, undef], []⟩ (by kernel_rfl) ?_
    refine g_op (by kernel_rfl) (op_val (run_indexA (size := 3) (k := 0) rfl rfl rfl rfl (by omega) (Sts.cell (own_sl hup) entC_len entD (k := 0) (i := 0) (by omega) rfl).1 Tryd.underlying29 (by kernel_rfl) W15) ?_)
    refine g_pure 1 ⟨#[.pointer (some ⟨ba, 0, none⟩), .int .i64 t, .slice a l.length c, .pointer (some ⟨b1, 0, none⟩), .pointer (some ⟨b2, 0, none⟩), undef, .int .i64 0, .nilIface, .pointer (some ⟨b13, 0, none⟩), .func (.func 17) #[] #[.pointer (some ⟨b1, 0, none⟩), .pointer (some ⟨b2, 0, none⟩), .pointer (some ⟨b13, 0, none⟩)], .slice p u.length c2, .bool false, .pointer (some ⟨ba, 0, none⟩), .pointer (some ⟨b, 0, none⟩), .bool false, undef, .bool false, .int .i64 t, .slice a l.length c, .bool true, .bool false, undef, .bool (decide ((↑(N - k0) : Int) < (↑(nodN t l.length) : Int))), .pointer (some ⟨ba, 0, none⟩), .int .i64 (↑(N - k0) : Int), .int .i64 t, .slice a l.length c, .int .i64 (↑l.length : Int), .int .i64 (↑(nodN t l.length) : Int), .bool (decide ((↑(N - k0) : Int) < (↑(nodN t l.length) : Int))), undef, .func (.func 17) #[] #[.pointer (some ⟨b1, 0, none⟩), .pointer (some ⟨b2, 0, none⟩), .pointer (some ⟨b13, 0, none⟩)], .func (.func 17) #[] #[.pointer (some ⟨b1, 0, none⟩), .pointer (some ⟨b2, 0, none⟩), .pointer (some ⟨b13, 0, none⟩)], .slice a l.length c, .slice p41 (ovN l.length (maxN t true)) c41, .nilIface, .bool true, .bool true, .slice p u.length c2, .int .i64 (↑u.length : Int), .bool (decide ((↑u.length : Int) > (1 : Int))), .bool (decide ((↑u.length : Int) > (1 : Int))), (x15 7), (x15 8), (x15 9), .nilIface, .bool false, undef, .slice p u.length c2, .pointer (some (elemAddr p (0 * 3))), .pointer (some ((elemAddr p (0 * 3)).add 2)), undef], []⟩ (by kernel_rfl) ?_
    refine g_op (by kernel_rfl) (op_load _ (.int .i64 ((u.getD 0 entD).2.2)) rfl rfl (by kernel_rfl) (Sts.cell (own_sl hup) entC_len entD (k := 0) (i := 2) (by omega) rfl).2 ?_)
    refine g_pure 2 ⟨#[.pointer (some ⟨ba, 0, none⟩), .int .i64 t, .slice a l.length c, .pointer (some ⟨b1, 0, none⟩), .pointer (some ⟨b2, 0, none⟩), undef, .int .i64 ((u.getD 0 entD).2.2), .nilIface, .pointer (some ⟨b13, 0, none⟩), .func (.func 17) #[] #[.pointer (some ⟨b1, 0, none⟩), .pointer (some ⟨b2, 0, none⟩), .pointer (some ⟨b13, 0, none⟩)], .slice p u.length c2, .bool false, .pointer (some ⟨ba, 0, none⟩), .pointer (some ⟨b, 0, none⟩), .bool false, undef, .bool false, .int .i64 t, .slice a l.length c, .bool true, .bool false, undef, .bool (decide ((↑(N - k0) : Int) < (↑(nodN t l.length) : Int))), .pointer (some ⟨ba, 0, none⟩), .int .i64 (↑(N - k0) : Int), .int .i64 t, .slice a l.length c, .int .i64 (↑l.length : Int), .int .i64 (↑(nodN t l.length) : Int), .bool (decide ((↑(N - k0) : Int) < (↑(nodN t l.length) : Int))), undef, .func (.func 17) #[] #[.pointer (some ⟨b1, 0, none⟩), .pointer (some ⟨b2, 0, none⟩), .pointer (some ⟨b13, 0, none⟩)], .func (.func 17) #[] #[.pointer (some ⟨b1, 0, none⟩), .pointer (some ⟨b2, 0, none⟩), .pointer (some ⟨b13, 0, none⟩)], .slice a l.length c, .slice p41 (ovN l.length (maxN t true)) c41, .nilIface, .bool true, .bool true, .slice p u.length c2, .int .i64 (↑u.length : Int), .bool (decide ((↑u.length : Int) > (1 : Int))), .bool (decide ((↑u.length : Int) > (1 : Int))), (x15 7), (x15 8), (x15 9), .nilIface, .bool false, undef, .slice p u.length c2, .pointer (some (elemAddr p (0 * 3))), .pointer (some ((elemAddr p (0 * 3)).add 2)), .int .i64 ((u.getD 0 entD).2.2)], []⟩ (by kernel_rfl) ?_
    refine wpList_nil ?_
    refine wp_ret ?_
    show bodyPost _ _ _ .ret _ _
    refine g_ret (.tuple #[.int .i64 ((u.getD 0 entD).2.2), .nilIface]) rfl (by kernel_rfl) ?_
    have h1 : u.length ≤ 1 := by omega
    rw [treeUp_one h1] at htr
    rw [levs_one h1] at hK
    simp only [List.sum_cons, List.sum_nil] at hK
    obtain rfl : K = k0 + nodN t l.length := by omega
    refine ⟨by rw [← htr], hB, hO, hX, by rw [← htr]; exact hA⟩
set_option maxRecDepth 100000 in
set_option maxHeartbeats 8000000 in
theorem build_Tree_none (B ba b g nn cc : Nat) (pa : Option Addr) (ca f N k0 : Nat) (bs : List UInt8) (t : Int) (a : Option Addr) (c : Nat) (l : List Ent) (w : World) (hA : Al B ba b g nn cc pa ca f N k0 bs w) (ht1 : 1 ≤ t) (ht2 : t ≤ 5) (E : EntsOk (widN t true) l) (hn : l.length ≤ 32768) (hkN : k0 ≤ N) (hk : N < k0 + nodN t l.length) (h : Sts entC w (.slice a l.length c) l) :
    Calls Tryd.prog 6 #[.pointer (some ⟨ba, 0, none⟩), .int .i64 t, .slice a l.length c] w (Ret (.tuple #[.int .i64 0, .iface 32 (.int .i64 14)]) w) := by
  refine calls_of_wp Tryd.func6 rfl ?_
  refine g_fr ⟨#[.pointer (some ⟨ba, 0, none⟩), .int .i64 t, .slice a l.length c, undef, undef, undef, undef, undef, undef, undef, undef, undef, undef, undef, undef, undef, undef, undef, undef, undef, undef, undef, undef, undef, undef, undef, undef, undef, undef, undef, undef, undef, undef, undef, undef, undef, undef, undef, undef, undef, undef, undef, undef, undef, undef, undef, undef, undef, undef, undef, undef, undef], []⟩ (by kernel_rfl) ?_
  refine wp_seq ?_
  refine wp_region_lit ?_
  refine g_op (by kernel_rfl) (op_box [.pointer (some ⟨ba, 0, none⟩)] rfl (by kernel_rfl) ?_)
  intro b1 W1 n1
  have g1 := n1.ge (Below.refl w.heap.size _)
  have hB := n1.below
  replace hA := hA.below n1.below
  have k1 := n1.blk
  refine g_op (by kernel_rfl) (op_box [.int .i64 t] rfl (by kernel_rfl) ?_)
  intro b2 W2 n2
  have d2_b1 := n2.ne k1
  have g2 := n2.ge hB
  replace hB := Bl.next hB n2.below
  replace k1 := k1.below n2.below
  replace hA := hA.below n2.below
  have k2 := n2.blk
  refine g_pure 2 ⟨#[.pointer (some ⟨ba, 0, none⟩), .int .i64 t, .slice a l.length c, .pointer (some ⟨b1, 0, none⟩), .pointer (some ⟨b2, 0, none⟩), undef, .int .i64 0, .nilIface, undef, undef, undef, undef, undef, undef, undef, undef, undef, undef, undef, undef, undef, undef, undef, undef, undef, undef, undef, undef, undef, undef, undef, undef, undef, undef, undef, undef, undef, undef, undef, undef, undef, undef, undef, undef, undef, undef, undef, undef, undef, undef, undef, undef], []⟩ (by kernel_rfl) ?_
  refine wpList_nil ?_
  refine wp_seq ?_
  refine wp_block ?_
  refine wp_seq ?_
  refine wp_region_lit ?_
  refine g_op (by kernel_rfl) (op_load _ (.pointer (some ⟨ba, 0, none⟩)) rfl rfl (by kernel_rfl) (k1.cell (i := 0) rfl) ?_)
  refine g_op (by kernel_rfl) (op_call 15 #[.pointer (some ⟨ba, 0, none⟩)] rfl rfl (fun _ _ => by kernel_rfl) (by kernel_rfl) ((alloc_Image ba b _ _ _ hA.blkA).mono ?_))
  rintro e W3 ⟨rfl, hb3⟩
  refine ⟨_, rfl, ?_⟩
  replace hB := Bl.next hB hb3
  replace k1 := k1.below hb3
  replace k2 := k2.below hb3
  replace hA := hA.below hb3
  refine g_pure 2 ⟨#[.pointer (some ⟨ba, 0, none⟩), .int .i64 t, .slice a l.length c, .pointer (some ⟨b1, 0, none⟩), .pointer (some ⟨b2, 0, none⟩), undef, .int .i64 0, .nilIface, undef, undef, undef, .bool false, .pointer (some ⟨ba, 0, none⟩), .pointer (some ⟨b, 0, none⟩), .bool false, undef, undef, undef, undef, undef, undef, undef, undef, undef, undef, undef, undef, undef, undef, undef, undef, undef, undef, undef, undef, undef, undef, undef, undef, undef, undef, undef, undef, undef, undef, undef, undef, undef, undef, undef, undef, undef], []⟩ (by kernel_rfl) ?_
  refine wpList_nil ?_
  refine wp_cond_false rfl ?_
  refine wp_seq ?_
  refine wp_region_lit ?_
  refine g_op (by kernel_rfl) (op_load _ (.int .i64 t) rfl rfl (by kernel_rfl) (k2.cell (i := 0) rfl) ?_)
  refine g_pure 1 ⟨#[.pointer (some ⟨ba, 0, none⟩), .int .i64 t, .slice a l.length c, .pointer (some ⟨b1, 0, none⟩), .pointer (some ⟨b2, 0, none⟩), undef, .int .i64 0, .nilIface, undef, undef, undef, .bool false, .pointer (some ⟨ba, 0, none⟩), .pointer (some ⟨b, 0, none⟩), .bool false, undef, undef, .int .i64 t, .slice a l.length c, undef, undef, undef, undef, undef, undef, undef, undef, undef, undef, undef, undef, undef, undef, undef, undef, undef, undef, undef, undef, undef, undef, undef, undef, undef, undef, undef, undef, undef, undef, undef, undef, undef], []⟩ (by kernel_rfl) ?_
  refine g_op (by kernel_rfl) (op_call 16 #[.int .i64 t, .slice a l.length c] rfl rfl (fun _ _ => by kernel_rfl) (by kernel_rfl) ((build_right t (widN t true) a c l _ ht1 ht2 rfl E (h.below hB) hn).mono ?_))
  rintro e W4 ⟨rfl, hb4⟩
  refine ⟨_, rfl, ?_⟩
  replace hB := Bl.next hB hb4
  replace k1 := k1.below hb4
  replace k2 := k2.below hb4
  replace hA := hA.below hb4
  refine g_pure 2 ⟨#[.pointer (some ⟨ba, 0, none⟩), .int .i64 t, .slice a l.length c, .pointer (some ⟨b1, 0, none⟩), .pointer (some ⟨b2, 0, none⟩), undef, .int .i64 0, .nilIface, undef, undef, undef, .bool false, .pointer (some ⟨ba, 0, none⟩), .pointer (some ⟨b, 0, none⟩), .bool false, undef, .bool false, .int .i64 t, .slice a l.length c, .bool true, .bool false, undef, undef, undef, undef, undef, undef, undef, undef, undef, undef, undef, undef, undef, undef, undef, undef, undef, undef, undef, undef, undef, undef, undef, undef, undef, undef, undef, undef, undef, undef, undef], []⟩ (by kernel_rfl) ?_
  refine wpList_nil ?_
  refine wp_cond_false rfl ?_
  refine wp_seq ?_
  replace hB := Bl.next hB (below_drew W4)
  replace k1 := k1.below (below_drew W4)
  replace k2 := k2.below (below_drew W4)
  replace hA := hA.below (below_drew W4)
  refine h_reg (Below (W4.drew).heap.size (W4.drew)) 8 rfl #[false, false, false, false, false, false, false, false] rfl (by kernel_rfl) (Below.refl _ _) ?_
  intro hS5
  have hBd7 := hB
  have kd7_b1 := k1
  have kd7_b2 := k2
  refine h_load 0 7 rfl _ (.pointer (some ⟨ba, 0, none⟩)) rfl (by kernel_rfl) (by kernel_rfl) (by kernel_rfl) (fun _ _ _ _ _ h => h) (by kernel_rfl) rfl rfl (by kernel_rfl) (fun V hV => ((kd7_b1.below hV).cell (i := 0) rfl)) hS5 ?_
  refine h_load 2 6 rfl _ (.int .i64 t) rfl (by kernel_rfl) (by kernel_rfl) (by kernel_rfl) (fun _ _ _ _ _ h => h) (by kernel_rfl) rfl rfl (by kernel_rfl) (fun V hV => ((kd7_b2.below hV).cell (i := 0) rfl)) hS5 ?_
  refine h_pure [3, 4] 4 rfl #[true, false, true, true, true, false, false, false] ⟨#[.pointer (some ⟨ba, 0, none⟩), .int .i64 t, .slice a l.length c, .pointer (some ⟨b1, 0, none⟩), .pointer (some ⟨b2, 0, none⟩), undef, .int .i64 0, .nilIface, undef, undef, undef, .bool false, .pointer (some ⟨ba, 0, none⟩), .pointer (some ⟨b, 0, none⟩), .bool false, undef, .bool false, .int .i64 t, .slice a l.length c, .bool true, .bool false, undef, undef, .pointer (some ⟨ba, 0, none⟩), undef, .int .i64 t, .slice a l.length c, .int .i64 (↑l.length : Int), undef, undef, undef, undef, undef, undef, undef, undef, undef, undef, undef, undef, undef, undef, undef, undef, undef, undef, undef, undef, undef, undef, undef, undef], []⟩ (by kernel_rfl) (fun _ _ _ _ _ h => h) (by kernel_rfl) hS5 ?_
  refine h_one 1 3 rfl (by kernel_rfl) rfl (by kernel_rfl) (op_call 8 #[.pointer (some ⟨ba, 0, none⟩)] rfl rfl (fun _ _ => by kernel_rfl) (by kernel_rfl) ((alloc_Left ba b pa N ca k0 _ hA.blkA hkN).mono ?_))
  rintro e W8 ⟨rfl, hb8⟩
  refine ⟨_, rfl, ?_⟩
  replace hB := Bl.next hB hb8
  replace k1 := k1.below hb8
  replace k2 := k2.below hb8
  replace hA := hA.below hb8
  have hS9 : Below (W4.drew).heap.size (W4.drew) (W8) := Bl.next hS5 hb8
  refine ⟨hS9, ?_⟩
  refine h_one 5 2 rfl (by kernel_rfl) rfl (by kernel_rfl) (op_call 4 #[.int .i64 t, .int .i64 (↑l.length : Int)] rfl rfl (fun _ _ => by kernel_rfl) (by kernel_rfl) ((tall_Nodes t l.length _ ht1 ht2 hn).mono ?_))
  rintro e W10 ⟨rfl, hb10⟩
  refine ⟨_, rfl, ?_⟩
  replace hB := Bl.next hB hb10
  replace k1 := k1.below hb10
  replace k2 := k2.below hb10
  replace hA := hA.below hb10
  have hS11 : Below (W4.drew).heap.size (W4.drew) (W10) := Bl.next hS9 hb10
  refine ⟨hS11, ?_⟩
  refine h_pure [6, 7] 0 rfl #[true, true, true, true, true, true, true, true] ⟨#[.pointer (some ⟨ba, 0, none⟩), .int .i64 t, .slice a l.length c, .pointer (some ⟨b1, 0, none⟩), .pointer (some ⟨b2, 0, none⟩), undef, .int .i64 0, .nilIface, undef, undef, undef, .bool false, .pointer (some ⟨ba, 0, none⟩), .pointer (some ⟨b, 0, none⟩), .bool false, undef, .bool false, .int .i64 t, .slice a l.length c, .bool true, .bool false, undef, .bool (decide ((↑(N - k0) : Int) < (↑(nodN t l.length) : Int))), .pointer (some ⟨ba, 0, none⟩), .int .i64 (↑(N - k0) : Int), .int .i64 t, .slice a l.length c, .int .i64 (↑l.length : Int), .int .i64 (↑(nodN t l.length) : Int), .bool (decide ((↑(N - k0) : Int) < (↑(nodN t l.length) : Int))), undef, undef, undef, undef, undef, undef, undef, undef, undef, undef, undef, undef, undef, undef, undef, undef, undef, undef, undef, undef, undef, undef], []⟩ (by kernel_rfl) (fun _ _ _ _ _ h => h) (by kernel_rfl) hS11 ?_
  refine h_done _ (by kernel_rfl) ?_
  refine wp_cond_true (by show Value.bool _ = Value.bool _; rw [(show (decide ((↑(N - k0) : Int) < (↑(nodN t l.length) : Int)) : Bool) = true from decide_eq_true (by omega))]) ?_
  refine wp_seq ?_
  refine wp_region_lit ?_
  refine g_pure 3 ⟨#[.pointer (some ⟨ba, 0, none⟩), .int .i64 t, .slice a l.length c, .pointer (some ⟨b1, 0, none⟩), .pointer (some ⟨b2, 0, none⟩), undef, .int .i64 0, .iface 32 (.int .i64 14), undef, undef, undef, .bool false, .pointer (some ⟨ba, 0, none⟩), .pointer (some ⟨b, 0, none⟩), .bool false, undef, .bool false, .int .i64 t, .slice a l.length c, .bool true, .bool false, undef, .bool (decide ((↑(N - k0) : Int) < (↑(nodN t l.length) : Int))), .pointer (some ⟨ba, 0, none⟩), .int .i64 (↑(N - k0) : Int), .int .i64 t, .slice a l.length c, .int .i64 (↑l.length : Int), .int .i64 (↑(nodN t l.length) : Int), .bool (decide ((↑(N - k0) : Int) < (↑(nodN t l.length) : Int))), .iface 32 (.int .i64 14), undef, undef, undef, undef, undef, undef, undef, undef, undef, undef, undef, undef, undef, undef, undef, undef, undef, undef, undef, undef, undef], []⟩ (by kernel_rfl) ?_
  refine wpList_nil ?_
  refine wp_ret ?_
  show bodyPost _ _ _ .ret _ _
  exact g_ret (.tuple #[.int .i64 0, .iface 32 (.int .i64 14)]) rfl (by kernel_rfl) ⟨rfl, hB⟩
end Go.Proofs.YtlmogdjcnbjhfaaDoor

