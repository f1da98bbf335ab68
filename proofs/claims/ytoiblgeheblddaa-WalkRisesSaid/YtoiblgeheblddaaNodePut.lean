/- node.Put of a node that is right. -/
import Derived.Test.YtoiblgeheblddaaNode
import Derived.Test.YtoiblgeheblddaaPack
import Derived.Test.YtoiblgeheblddaaSeal
namespace Go.Proofs.Ytoiblgeheblddaa
open Go.RowKit Go.Extern.Stop Go.Stop Go.Extern
set_option linter.unusedVariables false
attribute [local irreducible] wpList wpAnyH Code.wp Oper.wp

/-- the head of a node -/
def headB (t : Int) (leaf : Bool) (n m v : Nat) : List UInt8 := leB (flagN leaf) 1 ++ leB t 1 ++ leB (n : Int) 2 ++ leB (v : Int) 2 ++ leB (m : Int) 2 ++ leB 0 4
theorem headB_len (t : Int) (leaf : Bool) (n m v : Nat) : (headB t leaf n m v).length = 12 := by simp [headB, leB_len]
/-- the bytes of a node, when i of its entries stand -/
def nodeP (m v : Nat) (H : List UInt8) (K : List Int) (Vs : List (List UInt8)) : Nat → List UInt8
  | 0 => putB (List.replicate 244 0) 0 H
  | i + 1 => putB (putB (nodeP m v H K Vs i) (12 + i * 8) (leB (K.getD i 0) 8)) (12 + m * 8 + i * v) (Vs.getD i [])
set_option maxRecDepth 100000 in
theorem nodeP_len {m v : Nat} {H : List UInt8} {K : List Int} {Vs : List (List UInt8)} (hH : H.length = 12) (hf : 12 + m * 8 + m * v ≤ 244) : ∀ {i : Nat}, i ≤ m → (∀ j, j < i → (Vs.getD j []).length = v) → (nodeP m v H K Vs i).length = 244
  | 0, _, _ => by rw [nodeP, putB_len (by rw [List.length_replicate]; omega), List.length_replicate]
  | i + 1, hi, hV => by
    have ih := nodeP_len (K := K) hH hf (i := i) (by omega) (fun j hj => hV j (by omega))
    have h1 := hV i (by omega)
    have h2 : (i + 1) * v ≤ m * v := Nat.mul_le_mul_right v hi
    rw [Nat.add_mul, Nat.one_mul] at h2
    have h3 : (putB (nodeP m v H K Vs i) (12 + i * 8) (leB (K.getD i 0) 8)).length = 244 := by rw [putB_len (by rw [leB_len, ih]; omega), ih]
    rw [nodeP, putB_len (by rw [h1, h3]; omega), h3]
set_option maxRecDepth 100000 in
set_option maxHeartbeats 8000000 in
theorem node_Put (t : Int) (leaf : Bool) (n m v : Nat) (K : List Int) (Vs : List (List UInt8)) (ak av : Option Addr) (ck cv : Nat) (w : World) (N : NodeOk t leaf n m v K Vs) (hKs : Sl w (.slice ak n ck) n (K.map (Value.int .i64))) (hVs : Sl w (.slice av n cv) n (Vs.map sv)) :
    Calls Try.prog 10 #[.agg #[.int .i64 t, .bool leaf, .slice ak n ck, .slice av n cv]] w (RetS (fun w' r => ∃ p c, r = .tuple #[.slice p 244 c, .int .i64 0] ∧ w'.ownsRow w.heap.size 5 1 (.slice p 244 c) 244 ((nodeP m v (headB t leaf n m v) K Vs n).map bv)) w) := by
  have ht1 := N.ht1
  have ht2 := N.ht2
  have hnm := N.hn
  have hwb := widN_bd t leaf
  rw [N.hv] at hwb
  have hmb := maxN_pos t leaf
  rw [N.hm] at hmb
  have hfit := fitN t leaf
  rw [N.hm, N.hv] at hfit
  have hcap := Sl.cap hKs
  refine calls_of_wp Try.func10 rfl ?_
  refine g_fr ⟨#[.agg #[.int .i64 t, .bool leaf, .slice ak n ck, .slice av n cv], undef, undef, undef, undef, undef, undef, undef, undef, undef, undef, undef, undef, undef, undef, undef, undef, undef, undef, undef, undef, undef, undef, undef, undef, undef, undef, undef, undef, undef, undef, undef, undef, undef, undef, undef, undef, undef, undef, undef, undef, undef, undef, undef, undef, undef, undef, undef, undef, undef, undef, undef, undef, undef, undef, undef, undef, undef, undef, undef, undef, undef, undef, undef, undef, undef, undef, undef, undef, undef, undef, undef, undef, undef, undef, undef, undef, undef, undef, undef, undef, undef, undef, undef, undef, undef, undef, undef, undef, undef], []⟩ (by kernel_rfl) ?_
  refine wp_seq ?_
  refine wp_region_lit ?_
  refine g_op (by kernel_rfl) (op_box [.int .i64 t, .bool leaf, .slice ak n ck, .slice av n cv] rfl (by kernel_rfl) ?_)
  intro b1 W1 n1
  have g1 := n1.ge (Below.refl w.heap.size _)
  have hB := n1.below
  have k1 := n1.blk
  refine g_pv 2 [(2, .slice none 0 0), (3, .int .i64 0)] (by kernel_rfl) ?_
  refine wpList_nil ?_
  refine wp_seq ?_
  refine wp_seq ?_
  refine wp_region_lit ?_
  refine g_op (by kernel_rfl) (op_loadv (b := b1) (off := 0) [.int .i64 t, .bool leaf, .slice ak n ck, .slice av n cv] _ rfl (by kernel_rfl) Try.underlying36 rfl (by kernel_rfl) k1.whole ?_)
  refine g_op (by kernel_rfl) (op_call (lb := #[]) 20 #[.agg #[.int .i64 t, .bool leaf, .slice ak n ck, .slice av n cv]] rfl (by kernel_rfl) (fun _ _ => by kernel_rfl) (by kernel_rfl) ((node_Right t leaf n m v K Vs ak av ck cv _ N (hKs.below hB) (hVs.below hB)).mono ?_))
  rintro e W2 ⟨rfl, hb2⟩
  refine ⟨_, rfl, ?_⟩
  replace hB := Bl.next hB hb2
  replace k1 := k1.below hb2
  refine g_pv 1 [(15, .bool false)] (by kernel_rfl) ?_
  refine wpList_nil ?_
  refine wp_cond_false (by kernel_rfl) ?_
  refine wp_skip ?_
  refine wp_seq ?_
  replace hB := Bl.next hB (below_drew W2)
  replace k1 := k1.below (below_drew W2)
  refine h_reg (Below (W2.drew).heap.size (W2.drew)) 12 rfl #[false, false, false, false, false, false, false, false, false, false, false, false] rfl (by kernel_rfl) (Below.refl _ _) ?_
  intro hS3
  have hBd5 := hB
  have kd5_b1 := k1
  refine h_pv [0] 11 rfl #[true, false, false, false, false, false, false, false, false, false, false, false] [(16, .pointer (some ⟨b1, 0, none⟩))] (by kernel_rfl) (fun _ _ _ _ _ h => h) (by kernel_rfl) hS3 ?_
  refine h_load 1 10 rfl ⟨b1, 0, none⟩ (.int .i64 t) rfl (by kernel_rfl) (by kernel_rfl) (by kernel_rfl) (fun _ _ _ _ _ h => h) (by kernel_rfl) rfl (by kernel_rfl) (by kernel_rfl) (fun V hV => ((kd5_b1.below hV).cell (i := 0) rfl)) hS3 ?_
  refine h_pv [2] 9 rfl #[true, true, true, false, false, false, false, false, false, false, false, false] [(18, .pointer (some ⟨b1, 1, none⟩))] (by kernel_rfl) (fun _ _ _ _ _ h => h) (by kernel_rfl) hS3 ?_
  refine h_load 3 8 rfl ⟨b1, 1, none⟩ (.bool leaf) rfl (by kernel_rfl) (by kernel_rfl) (by kernel_rfl) (fun _ _ _ _ _ h => h) (by kernel_rfl) rfl (by kernel_rfl) (by kernel_rfl) (fun V hV => ((kd5_b1.below hV).cell (i := 1) rfl)) hS3 ?_
  refine h_pv [5] 7 rfl #[true, true, true, true, false, true, false, false, false, false, false, false] [(21, .pointer (some ⟨b1, 0, none⟩))] (by kernel_rfl) (fun _ _ _ _ _ h => h) (by kernel_rfl) hS3 ?_
  refine h_load 6 6 rfl ⟨b1, 0, none⟩ (.int .i64 t) rfl (by kernel_rfl) (by kernel_rfl) (by kernel_rfl) (fun _ _ _ _ _ h => h) (by kernel_rfl) rfl (by kernel_rfl) (by kernel_rfl) (fun V hV => ((kd5_b1.below hV).cell (i := 0) rfl)) hS3 ?_
  refine h_pv [7] 5 rfl #[true, true, true, true, false, true, true, true, false, false, false, false] [(23, .pointer (some ⟨b1, 1, none⟩))] (by kernel_rfl) (fun _ _ _ _ _ h => h) (by kernel_rfl) hS3 ?_
  refine h_load 8 4 rfl ⟨b1, 1, none⟩ (.bool leaf) rfl (by kernel_rfl) (by kernel_rfl) (by kernel_rfl) (fun _ _ _ _ _ h => h) (by kernel_rfl) rfl (by kernel_rfl) (by kernel_rfl) (fun V hV => ((kd5_b1.below hV).cell (i := 1) rfl)) hS3 ?_
  refine h_one 4 3 rfl (by kernel_rfl) rfl (by kernel_rfl) (op_call (lb := #[]) 21 #[.int .i64 t, .bool leaf] rfl (by kernel_rfl) (fun _ _ => by kernel_rfl) (by kernel_rfl) ((node_WidthN t leaf v N.hv ht1 ht2 _).mono ?_))
  rintro e W6 ⟨rfl, hb6⟩
  refine ⟨_, rfl, ?_⟩
  replace hB := Bl.next hB hb6
  replace k1 := k1.below hb6
  have hS7 : Below (W2.drew).heap.size (W2.drew) (W6) := Bl.next hS3 hb6
  refine ⟨hS7, ?_⟩
  refine h_one 9 2 rfl (by kernel_rfl) rfl (by kernel_rfl) (op_call (lb := #[]) 22 #[.int .i64 t, .bool leaf] rfl (by kernel_rfl) (fun _ _ => by kernel_rfl) (by kernel_rfl) ((node_MaxN t leaf m N.hm ht1 ht2 _).mono ?_))
  rintro e W8 ⟨rfl, hb8⟩
  refine ⟨_, rfl, ?_⟩
  replace hB := Bl.next hB hb8
  replace k1 := k1.below hb8
  have hS9 : Below (W2.drew).heap.size (W2.drew) (W8) := Bl.next hS7 hb8
  refine ⟨hS9, ?_⟩
  refine h_pv [10, 11] 0 rfl #[true, true, true, true, true, true, true, true, true, true, true, true] [(4, .int .i64 (↑v : Int)), (5, .int .i64 (↑m : Int))] (by kernel_rfl) (fun _ _ _ _ _ h => h) (by kernel_rfl) hS9 ?_
  refine h_done _ (by kernel_rfl) ?_
  refine wp_seq ?_
  replace hB := Bl.next hB (below_drew W8)
  replace k1 := k1.below (below_drew W8)
  refine h_reg (Below (W8.drew).heap.size (W8.drew)) 23 rfl #[false, false, false, false, false, false, false, false, false, false, false, false, false, false, false, false, false, false, false, false, false, false, false] rfl (by kernel_rfl) (Below.refl _ _) ?_
  intro hS10
  have hBd12 := hB
  have kd12_b1 := k1
  refine h_pv [0] 22 rfl #[true, false, false, false, false, false, false, false, false, false, false, false, false, false, false, false, false, false, false, false, false, false, false] [(27, .pointer (some ⟨b1, 1, none⟩))] (by kernel_rfl) (fun _ _ _ _ _ h => h) (by kernel_rfl) hS10 ?_
  refine h_load 1 21 rfl ⟨b1, 1, none⟩ (.bool leaf) rfl (by kernel_rfl) (by kernel_rfl) (by kernel_rfl) (fun _ _ _ _ _ h => h) (by kernel_rfl) rfl (by kernel_rfl) (by kernel_rfl) (fun V hV => ((kd12_b1.below hV).cell (i := 1) rfl)) hS10 ?_
  refine h_pv [4] 20 rfl #[true, true, false, false, true, false, false, false, false, false, false, false, false, false, false, false, false, false, false, false, false, false, false] [(31, .pointer (some ⟨b1, 0, none⟩))] (by kernel_rfl) (fun _ _ _ _ _ h => h) (by kernel_rfl) hS10 ?_
  refine h_load 5 19 rfl ⟨b1, 0, none⟩ (.int .i64 t) rfl (by kernel_rfl) (by kernel_rfl) (by kernel_rfl) (fun _ _ _ _ _ h => h) (by kernel_rfl) rfl (by kernel_rfl) (by kernel_rfl) (fun V hV => ((kd12_b1.below hV).cell (i := 0) rfl)) hS10 ?_
  refine h_pv [6, 7] 17 rfl #[true, true, false, false, true, true, true, true, false, false, false, false, false, false, false, false, false, false, false, false, false, false, false] [(33, .agg #[.int .i64 1, .int .i64 t]), (34, .pointer (some ⟨b1, 2, none⟩))] (by kernel_rfl) (fun _ _ _ _ _ h => h) (by kernel_rfl) hS10 ?_
  refine h_load 8 16 rfl ⟨b1, 2, none⟩ (.slice ak n ck) rfl (by kernel_rfl) (by kernel_rfl) (by kernel_rfl) (fun _ _ _ _ _ h => h) (by kernel_rfl) rfl (by kernel_rfl) (by kernel_rfl) (fun V hV => ((kd12_b1.below hV).cell (i := 2) rfl)) hS10 ?_
  refine h_pv [9, 10, 11, 12, 13, 14, 15] 9 rfl #[true, true, false, false, true, true, true, true, true, true, true, true, true, true, true, true, false, false, false, false, false, false, false] [(36, .int .i64 (↑n : Int)), (37, .agg #[.int .i64 2, .int .i64 (↑n : Int)]), (38, .int .i64 (↑v : Int)), (39, .agg #[.int .i64 2, .int .i64 (↑v : Int)]), (40, .int .i64 (↑m : Int)), (41, .agg #[.int .i64 2, .int .i64 (↑m : Int)]), (42, .agg #[.int .i64 4, .int .i64 0])] (by kernel_rfl) (fun _ _ _ _ _ h => h) (by kernel_rfl) hS10 ?_
  refine h_one 2 8 rfl (by kernel_rfl) rfl (by kernel_rfl) (op_call (lb := #[]) 24 #[.bool leaf] rfl (by kernel_rfl) (fun _ _ => by kernel_rfl) (by kernel_rfl) ((node_flag leaf _).mono ?_))
  rintro e W13 ⟨rfl, hb13⟩
  refine ⟨_, rfl, ?_⟩
  replace hB := Bl.next hB hb13
  replace k1 := k1.below hb13
  have hS14 : Below (W8.drew).heap.size (W8.drew) (W13) := Bl.next hS10 hb13
  refine ⟨hS14, ?_⟩
  refine h_pv [3] 7 rfl #[true, true, true, true, true, true, true, true, true, true, true, true, true, true, true, true, false, false, false, false, false, false, false] [(30, .agg #[.int .i64 1, .int .i64 (flagN leaf)])] (by kernel_rfl) (fun _ _ _ _ _ h => h) (by kernel_rfl) hS14 ?_
  refine h_one 16 6 rfl (by kernel_rfl) rfl (by kernel_rfl) (op_buildSlice 72 [.int .i64 1, .int .i64 (flagN leaf), .int .i64 1, .int .i64 t, .int .i64 2, .int .i64 (↑n : Int), .int .i64 2, .int .i64 (↑v : Int), .int .i64 2, .int .i64 (↑m : Int), .int .i64 4, .int .i64 0] rfl (by kernel_rfl) ?_)
  intro b15 W15 n15
  have d15_b1 := n15.ne k1
  have g15 := n15.ge hB
  have gd_b15 : (W8.drew).heap.size ≤ b15 := by have := hS14.size; have := n15.at_; omega
  replace hB := Bl.next hB n15.below
  replace k1 := k1.below n15.below
  have k15 := n15.blk
  have hS16 : Below (W8.drew).heap.size (W8.drew) (W15) := Bl.next hS14 n15.below
  refine ⟨hS16, ?_⟩
  have hs17 : w.heap.size ≤ (W15).heap.size := hB.size
  refine h_one 17 5 rfl (by kernel_rfl) rfl (by kernel_rfl) (op_call (lb := #[]) 23 #[.slice (some ⟨b15, 0, none⟩) 6 6] rfl (by kernel_rfl) (fun _ _ => by kernel_rfl) (by kernel_rfl) ((Pack_node b15 (flagN leaf) t (n : Int) (v : Int) (m : Int) (flagN_bd leaf).1 (flagN_bd leaf).2 (by omega) (by omega) (by omega) (by omega) (by omega) (by omega) (by omega) (by omega) _ k15).mono ?_))
  rintro e W17 ⟨_, rfl, hb17, p2, c2, rfl, h2⟩
  refine ⟨_, rfl, ?_⟩
  replace hB := Bl.next hB hb17
  replace k1 := k1.below hb17
  replace k15 := k15.below hb17
  replace h2 := own_mono h2 hs17
  have hS18 : Below (W8.drew).heap.size (W8.drew) (W17) := Bl.next hS16 hb17
  refine ⟨hS18, ?_⟩
  refine h_pv [18, 19, 20, 21, 22] 0 rfl #[true, true, true, true, true, true, true, true, true, true, true, true, true, true, true, true, true, true, true, true, true, true, true] [(26, .tuple #[.slice p2 12 c2, .int .i64 0]), (45, .slice p2 12 c2), (46, .int .i64 0), (6, .slice p2 12 c2), (7, .int .i64 0)] (by kernel_rfl) (fun _ _ _ _ _ h => h) (by kernel_rfl) hS18 ?_
  refine h_done _ (by kernel_rfl) ?_
  refine wp_seq ?_
  refine wp_region_lit ?_
  refine g_op (by kernel_rfl) (op_make 244 (.int .u8 0) 1 1 ((List.replicate 244 (0 : UInt8)).map bv) rfl (by kernel_rfl) (by kernel_rfl) Try.underlying22 (by kernel_rfl) rfl (by omega) (by omega) (zerosB 244) ?_)
  intro b19 W19 n19
  have d19_b1 := n19.ne k1
  have d19_b15 := n19.ne k15
  have g19 := n19.ge hB
  have r19_h2 := own_ne h2 n19
  replace hB := Bl.next hB n19.below
  replace k1 := k1.below n19.below
  replace k15 := k15.below n19.below
  replace h2 := own_below h2 n19.below
  have k19 := n19.blk
  have o20 := own_of_blk (size := 1) (n := 244) k19 g19 (by rw [List.length_map, List.length_replicate]) (by unfold maxLen; omega)
  refine g_pv 1 [(8, .slice (some ⟨b19, 0, none⟩) 244 244)] (by kernel_rfl) ?_
  refine wpList_nil ?_
  refine wp_seq ?_
  refine wp_region_lit ?_
  refine g_pv 2 [(48, .slice (some ⟨b19, 0, none⟩) 244 244), (49, .slice p2 12 c2)] (by kernel_rfl) ?_
  refine g_op (by kernel_rfl) (op_copy (dLen := 244) (dCap := 244) (base := w.heap.size) (g := b19) (off := 0) (n := 244) (cap := 244) (xs := ((List.replicate 244 (0 : UInt8)).map bv)) (12) ((headB t leaf n m v).map bv) ((nodeP m v (headB t leaf n m v) K Vs 0).map bv) rfl Try.underlying22 (by kernel_rfl) (by kernel_rfl) (by kernel_rfl) (own_sl h2) o20 (by simp [headB_len]) (by omega) (by omega) (bv_one _) (hB.size) (by simp [nodeP, putB, headB_len]) ?_)
  intro W21 o21 hg21 hb21
  replace k1 := k1.grown hg21 o20 (by decide)
  replace k15 := k15.grown hg21 o20 (by decide)
  replace hB := hB.trans hb21
  clear hg21
  refine wpList_nil ?_
  refine wp_seq ?_
  refine wp_seq ?_
  refine wp_region_lit ?_
  refine g_pv 1 [(51, .pointer (some ⟨b1, 2, none⟩))] (by kernel_rfl) ?_
  refine g_op (by kernel_rfl) (op_load ⟨b1, 2, none⟩ (.slice ak n ck) rfl (by kernel_rfl) (by kernel_rfl) (k1.cell (i := 2) rfl) ?_)
  refine g_pv 2 [(53, .int .i64 (↑n : Int)), (54, .int .i64 0)] (by kernel_rfl) ?_
  refine wpList_nil ?_
  refine wp_block ?_
  refine g_fr ⟨#[.agg #[.int .i64 t, .bool leaf, .slice ak n ck, .slice av n cv], .pointer (some ⟨b1, 0, none⟩), .slice none 0 0, .int .i64 0, .int .i64 (↑v : Int), .int .i64 (↑m : Int), .slice p2 12 c2, .int .i64 0, .slice (some ⟨b19, 0, none⟩) 244 244, undef, undef, undef, undef, .agg #[.int .i64 t, .bool leaf, .slice ak n ck, .slice av n cv], .bool true, .bool false, .pointer (some ⟨b1, 0, none⟩), .int .i64 t, .pointer (some ⟨b1, 1, none⟩), .bool leaf, .int .i64 (↑v : Int), .pointer (some ⟨b1, 0, none⟩), .int .i64 t, .pointer (some ⟨b1, 1, none⟩), .bool leaf, .int .i64 (↑m : Int), .tuple #[.slice p2 12 c2, .int .i64 0], .pointer (some ⟨b1, 1, none⟩), .bool leaf, .int .i64 (flagN leaf), .agg #[.int .i64 1, .int .i64 (flagN leaf)], .pointer (some ⟨b1, 0, none⟩), .int .i64 t, .agg #[.int .i64 1, .int .i64 t], .pointer (some ⟨b1, 2, none⟩), .slice ak n ck, .int .i64 (↑n : Int), .agg #[.int .i64 2, .int .i64 (↑n : Int)], .int .i64 (↑v : Int), .agg #[.int .i64 2, .int .i64 (↑v : Int)], .int .i64 (↑m : Int), .agg #[.int .i64 2, .int .i64 (↑m : Int)], .agg #[.int .i64 4, .int .i64 0], .slice (some ⟨b15, 0, none⟩) 6 6, .tuple #[.slice p2 12 c2, .int .i64 0], .slice p2 12 c2, .int .i64 0, .slice (some ⟨b19, 0, none⟩) 244 244, .slice (some ⟨b19, 0, none⟩) 244 244, .slice p2 12 c2, .int .i64 12, .pointer (some ⟨b1, 2, none⟩), .slice ak n ck, .int .i64 (↑n : Int), .int .i64 0, undef, undef, undef, undef, undef, undef, undef, undef, undef, undef, undef, undef, undef, undef, undef, undef, undef, undef, undef, undef, undef, undef, undef, undef, undef, undef, undef, undef, undef, undef, undef, undef, undef, undef, undef], []⟩ (by kernel_rfl) ?_
  refine wp_loop (fun act V => ∃ (i : Nat) (x22 : Nat → Value), act = ⟨#[.agg #[.int .i64 t, .bool leaf, .slice ak n ck, .slice av n cv], .pointer (some ⟨b1, 0, none⟩), .slice none 0 0, .int .i64 0, .int .i64 (↑v : Int), .int .i64 (↑m : Int), .slice p2 12 c2, .int .i64 0, .slice (some ⟨b19, 0, none⟩) 244 244, (x22 0), (x22 1), (x22 2), (x22 3), .agg #[.int .i64 t, .bool leaf, .slice ak n ck, .slice av n cv], .bool true, .bool false, .pointer (some ⟨b1, 0, none⟩), .int .i64 t, .pointer (some ⟨b1, 1, none⟩), .bool leaf, .int .i64 (↑v : Int), .pointer (some ⟨b1, 0, none⟩), .int .i64 t, .pointer (some ⟨b1, 1, none⟩), .bool leaf, .int .i64 (↑m : Int), .tuple #[.slice p2 12 c2, .int .i64 0], .pointer (some ⟨b1, 1, none⟩), .bool leaf, .int .i64 (flagN leaf), .agg #[.int .i64 1, .int .i64 (flagN leaf)], .pointer (some ⟨b1, 0, none⟩), .int .i64 t, .agg #[.int .i64 1, .int .i64 t], .pointer (some ⟨b1, 2, none⟩), .slice ak n ck, .int .i64 (↑n : Int), .agg #[.int .i64 2, .int .i64 (↑n : Int)], .int .i64 (↑v : Int), .agg #[.int .i64 2, .int .i64 (↑v : Int)], .int .i64 (↑m : Int), .agg #[.int .i64 2, .int .i64 (↑m : Int)], .agg #[.int .i64 4, .int .i64 0], .slice (some ⟨b15, 0, none⟩) 6 6, .tuple #[.slice p2 12 c2, .int .i64 0], .slice p2 12 c2, .int .i64 0, .slice (some ⟨b19, 0, none⟩) 244 244, .slice (some ⟨b19, 0, none⟩) 244 244, .slice p2 12 c2, .int .i64 12, .pointer (some ⟨b1, 2, none⟩), .slice ak n ck, .int .i64 (↑n : Int), .int .i64 (↑i : Int), (x22 4), (x22 5), (x22 6), (x22 7), (x22 8), (x22 9), (x22 10), (x22 11), (x22 12), (x22 13), (x22 14), (x22 15), (x22 16), (x22 17), (x22 18), (x22 19), (x22 20), (x22 21), (x22 22), (x22 23), (x22 24), (x22 25), (x22 26), (x22 27), (x22 28), (x22 29), (x22 30), (x22 31), (x22 32), (x22 33), (x22 34), (x22 35), (x22 36), (x22 37), undef], []⟩ ∧ Below w.heap.size w V ∧ Blk V b1 ([.int .i64 t, .bool leaf, .slice ak n ck, .slice av n cv]) 36 ∧ Blk V b15 ([.int .i64 1, .int .i64 (flagN leaf), .int .i64 1, .int .i64 t, .int .i64 2, .int .i64 (↑n : Int), .int .i64 2, .int .i64 (↑v : Int), .int .i64 2, .int .i64 (↑m : Int), .int .i64 4, .int .i64 0]) 72 ∧ V.ownsRow w.heap.size 5 1 (.slice (some ⟨b19, 0, none⟩) 244 244) 244 ((nodeP m v (headB t leaf n m v) K Vs i).map bv) ∧ i ≤ n) (fun act V => n - ((intOf (act.tmps.getD 54 undef))).toNat) ⟨0, (pk [undef, undef, undef, undef, undef, undef, undef, undef, undef, undef, undef, undef, undef, undef, undef, undef, undef, undef, undef, undef, undef, undef, undef, undef, undef, undef, undef, undef, undef, undef, undef, undef, undef, undef, undef, undef, undef, undef]), rfl, hB, k1, k15, o21, Nat.zero_le _⟩ ?_
  rintro _ W22 ⟨i, x22, rfl, hB, k22_b1, k22_b15, ho, hi⟩
  have hb9 : i < n → i * v + v ≤ m * v := fun h => by have h9 : (i + 1) * v ≤ m * v := Nat.mul_le_mul_right v (by omega); rw [Nat.add_mul, Nat.one_mul] at h9; exact h9
  refine wp_seq ?_
  refine wp_region_lit ?_
  refine g_pv 1 [(55, .bool (decide ((↑i : Int) < (↑n : Int))))] (by kernel_rfl) ?_
  refine wpList_nil ?_
  refine wp_seq ?_
  refine wp_cond_split (t := decide ((↑i : Int) < (↑n : Int))) (by kernel_rfl) (fun hc23 => ?_) (fun hc23 => ?_)
  · have hc23 := of_decide_eq_true hc23
    refine wp_skip ?_
    refine wp_seq ?_
    refine wp_block ?_
    refine wp_seq ?_
    refine wp_region_lit ?_
    refine g_pv 1 [(56, .int .i64 (↑i : Int))] (by kernel_rfl) ?_
    refine g_op (by kernel_rfl) (op_val (run_indexA (size := 1) (k := i) (b := ak) (n := n) (c := ck) (i := (↑i : Int)) (ki := .i64) rfl (by kernel_rfl) (by kernel_rfl) rfl (by omega) (IntsN.elem hKs N.hK (k := i) (by omega)).1 Try.underlying27 (by kernel_rfl) W22) ?_)
    refine g_op (by kernel_rfl) (op_load (elemAddr ak (i * 1)) (.int .i64 (K.getD i 0)) rfl (by kernel_rfl) (by kernel_rfl) (IntsN.elem (hKs.below hB) N.hK (k := i) (by omega)).2 ?_)
    refine g_pv 2 [(9, .int .i64 (↑i : Int)), (10, .int .i64 (K.getD i 0))] (by kernel_rfl) ?_
    refine wpList_nil ?_
    refine wp_seq ?_
    refine wp_region_lit ?_
    refine g_pv 2 [(60, .int .i64 (K.getD i 0)), (61, .agg #[.int .i64 8, .int .i64 (K.getD i 0)])] (by kernel_rfl) ?_
    refine g_op (by kernel_rfl) (op_buildSlice 72 [.int .i64 8, .int .i64 (K.getD i 0)] rfl (by kernel_rfl) ?_)
    intro b24 W24 n24
    have d24_b1 := n24.ne k22_b1
    have d24_b15 := n24.ne k22_b15
    have g24 := n24.ge hB
    replace hB := Bl.next hB n24.below
    replace k22_b1 := k22_b1.below n24.below
    replace k22_b15 := k22_b15.below n24.below
    replace ho := own_below ho n24.below
    have k24 := n24.blk
    have hs25 : w.heap.size ≤ (W24).heap.size := hB.size
    refine g_op (by kernel_rfl) (op_call (lb := #[]) 23 #[.slice (some ⟨b24, 0, none⟩) 1 1] rfl (by kernel_rfl) (fun _ _ => by kernel_rfl) (by kernel_rfl) ((Pack_8 b24 (K.getD i 0) (N.hk0 i (by omega)).1 _ k24).mono ?_))
    rintro e W25 ⟨_, rfl, hb25, p3, c3, rfl, h3⟩
    refine ⟨_, rfl, ?_⟩
    replace hB := Bl.next hB hb25
    replace k22_b1 := k22_b1.below hb25
    replace k22_b15 := k22_b15.below hb25
    replace k24 := k24.below hb25
    replace ho := own_below ho hb25
    replace h3 := own_mono h3 hs25
    refine g_pv 5 [(59, .tuple #[.slice p3 8 c3, .int .i64 0]), (64, .slice p3 8 c3), (65, .int .i64 0), (11, .slice p3 8 c3), (12, .int .i64 0)] (by kernel_rfl) ?_
    refine wpList_nil ?_
    refine wp_seq ?_
    refine wp_region_lit ?_
    refine g_pv 2 [(66, .slice (some ⟨b19, 0, none⟩) 244 244), (67, .int .i64 (↑i : Int))] (by kernel_rfl) ?_
    refine g_op (by kernel_rfl) (op_wrap .i64 ((↑i : Int) * 8) (↑(i * 8) : Int) (by kernel_rfl) ((show IntKind.i64.wrap ((↑i : Int) * 8) = ((↑i : Int) * 8) from by first | exact IntWalk.i64_in _ (by omega) | (simp only [IntKind.wrap]; omega)).trans (by omega)) ?_)
    refine g_op (by kernel_rfl) (op_wrap .i64 (12 + (↑(i * 8) : Int)) (↑(12 + (i * 8)) : Int) (by kernel_rfl) ((show IntKind.i64.wrap (12 + (↑(i * 8) : Int)) = (12 + (↑(i * 8) : Int)) from by first | exact IntWalk.i64_in _ (by omega) | (simp only [IntKind.wrap]; omega)).trans (by omega)) ?_)
    refine g_op (by kernel_rfl) (op_val (run_sliceL (k := (12 + (i * 8))) (b := b19) (off := 0) (n := 244) (c := 244) (i := (↑(12 + (i * 8)) : Int)) (ki := .i64) 1 rfl (by kernel_rfl) (by kernel_rfl) rfl (by omega) (by omega) Try.underlying22 (by kernel_rfl) _) ?_)
    refine g_pv 1 [(71, .slice p3 8 c3)] (by kernel_rfl) ?_
    refine g_op (by kernel_rfl) (op_copy (dLen := (244 - (12 + (i * 8)))) (dCap := (244 - (12 + (i * 8)))) (base := w.heap.size) (g := b19) (off := (0 + (12 + (i * 8)) * 1)) (n := 244) (cap := 244) (xs := (nodeP m v (headB t leaf n m v) K Vs i).map bv) (8) ((leB (K.getD i 0) 8).map bv) ((putB (nodeP m v (headB t leaf n m v) K Vs i) (12 + i * 8) (leB (K.getD i 0) 8)).map bv) rfl Try.underlying22 (by kernel_rfl) (by kernel_rfl) (by kernel_rfl) (own_sl h3) ho (by simp [leB_len]) (by omega) (by omega) (bv_one _) (hB.size) (by simp [putB, leB_len, List.map_take, List.map_drop]) ?_)
    intro W26 o26 hg26 hb26
    replace k22_b1 := k22_b1.grown hg26 ho (by decide)
    replace k22_b15 := k22_b15.grown hg26 ho (by decide)
    replace k24 := k24.grown hg26 ho (by decide)
    replace hB := hB.trans hb26
    clear hg26
    refine wpList_nil ?_
    replace hB := Bl.next hB (below_drew W26)
    replace k22_b1 := k22_b1.below (below_drew W26)
    replace k22_b15 := k22_b15.below (below_drew W26)
    replace k24 := k24.below (below_drew W26)
    replace o26 := own_below o26 (below_drew W26)
    refine h_reg (Below w.heap.size (W26.drew)) 15 rfl #[false, false, false, false, false, false, false, false, false, false, false, false, false, false, false] rfl (by kernel_rfl) (Below.refl _ _) ?_
    intro hS27
    have hBd29 := hB
    have kd29_b1 := k22_b1
    have kd29_b15 := k22_b15
    have kd29_b24 := k24
    refine h_pv [0, 1] 13 rfl #[true, true, false, false, false, false, false, false, false, false, false, false, false, false, false] [(73, .slice (some ⟨b19, 0, none⟩) 244 244), (74, .int .i64 (↑m : Int))] (by kernel_rfl) (fun _ _ _ _ _ h => h) (by kernel_rfl) hS27 ?_
    refine h_val 2 12 rfl (.int .i64 (↑(m * 8) : Int)) rfl (by kernel_rfl) (by kernel_rfl) (by kernel_rfl) (fun _ _ _ _ _ h => h) (by kernel_rfl) (fun V hV => run_wrap .i64 ((↑m : Int) * 8) (↑(m * 8) : Int) (by kernel_rfl) ((show IntKind.i64.wrap ((↑m : Int) * 8) = ((↑m : Int) * 8) from by first | exact IntWalk.i64_in _ (by omega) | (simp only [IntKind.wrap]; omega)).trans (by omega)) V) hS27 ?_
    refine h_val 3 11 rfl (.int .i64 (↑(12 + (m * 8)) : Int)) rfl (by kernel_rfl) (by kernel_rfl) (by kernel_rfl) (fun _ _ _ _ _ h => h) (by kernel_rfl) (fun V hV => run_wrap .i64 (12 + (↑(m * 8) : Int)) (↑(12 + (m * 8)) : Int) (by kernel_rfl) ((show IntKind.i64.wrap (12 + (↑(m * 8) : Int)) = (12 + (↑(m * 8) : Int)) from by first | exact IntWalk.i64_in _ (by omega) | (simp only [IntKind.wrap]; omega)).trans (by omega)) V) hS27 ?_
    refine h_pv [4, 5] 9 rfl #[true, true, true, true, true, true, false, false, false, false, false, false, false, false, false] [(77, .int .i64 (↑i : Int)), (78, .int .i64 (↑v : Int))] (by kernel_rfl) (fun _ _ _ _ _ h => h) (by kernel_rfl) hS27 ?_
    refine h_val 6 8 rfl (.int .i64 (↑(i * v) : Int)) rfl (by kernel_rfl) (by kernel_rfl) (by kernel_rfl) (fun _ _ _ _ _ h => h) (by kernel_rfl) (fun V hV => run_wrap .i64 ((↑i : Int) * (↑v : Int)) (↑(i * v) : Int) (by kernel_rfl) ((show IntKind.i64.wrap ((↑i : Int) * (↑v : Int)) = ((↑i : Int) * (↑v : Int)) from by first | exact IntWalk.i64_in _ (by omega) | (simp only [IntKind.wrap]; omega)).trans (by omega)) V) hS27 ?_
    refine h_val 7 7 rfl (.int .i64 (↑((12 + (m * 8)) + (i * v)) : Int)) rfl (by kernel_rfl) (by kernel_rfl) (by kernel_rfl) (fun _ _ _ _ _ h => h) (by kernel_rfl) (fun V hV => run_wrap .i64 ((↑(12 + (m * 8)) : Int) + (↑(i * v) : Int)) (↑((12 + (m * 8)) + (i * v)) : Int) (by kernel_rfl) ((show IntKind.i64.wrap ((↑(12 + (m * 8)) : Int) + (↑(i * v) : Int)) = ((↑(12 + (m * 8)) : Int) + (↑(i * v) : Int)) from by first | exact IntWalk.i64_in _ (by omega) | (simp only [IntKind.wrap]; omega)).trans (by omega)) V) hS27 ?_
    refine h_val 8 6 rfl (.slice (some ⟨b19, (0 + ((12 + (m * 8)) + (i * v)) * 1), none⟩) (244 - ((12 + (m * 8)) + (i * v))) (244 - ((12 + (m * 8)) + (i * v)))) rfl (by kernel_rfl) (by kernel_rfl) (by kernel_rfl) (fun _ _ _ _ _ h => h) (by kernel_rfl) (fun V hV => run_sliceL (k := ((12 + (m * 8)) + (i * v))) (b := b19) (off := 0) (n := 244) (c := 244) (i := (↑((12 + (m * 8)) + (i * v)) : Int)) (ki := .i64) 1 rfl (by kernel_rfl) (by kernel_rfl) rfl (by omega) (by omega) Try.underlying22 (by kernel_rfl) V) hS27 ?_
    refine h_pv [9, 11] 4 rfl #[true, true, true, true, true, true, true, true, true, true, false, true, false, false, false] [(82, .pointer (some ⟨b1, 3, none⟩)), (84, .int .i64 (↑i : Int))] (by kernel_rfl) (fun _ _ _ _ _ h => h) (by kernel_rfl) hS27 ?_
    refine h_one 10 3 rfl (by kernel_rfl) rfl (by kernel_rfl) (op_load ⟨b1, 3, none⟩ (.slice av n cv) rfl (by kernel_rfl) (by kernel_rfl) (k22_b1.cell (i := 3) rfl) ?_)
    have hS30 : Below w.heap.size (W26.drew) (W26.drew) := hS27
    refine ⟨hS30, ?_⟩
    refine h_val 12 2 rfl (.pointer (some (elemAddr av (i * 1)))) rfl (by kernel_rfl) (by kernel_rfl) (by kernel_rfl) (fun _ _ _ _ _ h => h) (by kernel_rfl) (fun V hV => run_indexA (size := 1) (k := i) (b := av) (n := n) (c := cv) (i := (↑i : Int)) (ki := .i64) rfl (by kernel_rfl) (by kernel_rfl) rfl (by omega) (Strs.elem hVs N.hV (k := i) (by omega)).1 Try.underlying34 (by kernel_rfl) V) hS30 ?_
    refine h_load 13 1 rfl (elemAddr av (i * 1)) (.string ⟨(Vs.getD i []).toArray⟩) rfl (by kernel_rfl) (by kernel_rfl) (by kernel_rfl) (fun _ _ _ _ _ h => h) (by kernel_rfl) rfl (by kernel_rfl) (by kernel_rfl) (fun V hV => (Strs.elem (hVs.below (hBd29.trans hV)) N.hV (k := i) (by omega)).2) hS30 ?_
    refine h_one 14 0 rfl (by kernel_rfl) rfl (by kernel_rfl) (op_copyS (dLen := (244 - ((12 + (m * 8)) + (i * v)))) (dCap := (244 - ((12 + (m * 8)) + (i * v)))) (base := w.heap.size) (g := b19) (off := (0 + ((12 + (m * 8)) + (i * v)) * 1)) (n := 244) (cap := 244) (xs := (putB (nodeP m v (headB t leaf n m v) K Vs i) (12 + i * 8) (leB (K.getD i 0) 8)).map bv) (Vs.getD i []) ((nodeP m v (headB t leaf n m v) K Vs (i + 1)).map bv) rfl Try.underlying22 (by kernel_rfl) (by kernel_rfl) (by kernel_rfl) o26 (by rw [N.hw i (by omega)]; omega) (by rw [N.hw i (by omega)]; omega) (hB.size) (by simp [nodeP, putB, List.map_take, List.map_drop]) ?_)
    intro W31 o31 hg31 hb31
    replace k22_b1 := k22_b1.grown hg31 o26 (by decide)
    replace k22_b15 := k22_b15.grown hg31 o26 (by decide)
    replace k24 := k24.grown hg31 o26 (by decide)
    replace hB := hB.trans hb31
    clear hg31
    have hS32 : Below w.heap.size (W26.drew) (W31) := hS30.trans hb31
    refine ⟨hS32, ?_⟩
    refine h_done _ (by kernel_rfl) ?_
    refine wp_region_lit ?_
    refine g_op (by kernel_rfl) (op_wrap .i64 ((↑i : Int) + 1) (↑(i + 1) : Int) (by kernel_rfl) ((show IntKind.i64.wrap ((↑i : Int) + 1) = ((↑i : Int) + 1) from by first | exact IntWalk.i64_in _ (by omega) | (simp only [IntKind.wrap]; omega)).trans (by omega)) ?_)
    refine g_pv 1 [(54, .int .i64 (↑(i + 1) : Int))] (by kernel_rfl) ?_
    refine wpList_nil ?_
    refine g_nfr ⟨#[.agg #[.int .i64 t, .bool leaf, .slice ak n ck, .slice av n cv], .pointer (some ⟨b1, 0, none⟩), .slice none 0 0, .int .i64 0, .int .i64 (↑v : Int), .int .i64 (↑m : Int), .slice p2 12 c2, .int .i64 0, .slice (some ⟨b19, 0, none⟩) 244 244, .int .i64 (↑i : Int), .int .i64 (K.getD i 0), .slice p3 8 c3, .int .i64 0, .agg #[.int .i64 t, .bool leaf, .slice ak n ck, .slice av n cv], .bool true, .bool false, .pointer (some ⟨b1, 0, none⟩), .int .i64 t, .pointer (some ⟨b1, 1, none⟩), .bool leaf, .int .i64 (↑v : Int), .pointer (some ⟨b1, 0, none⟩), .int .i64 t, .pointer (some ⟨b1, 1, none⟩), .bool leaf, .int .i64 (↑m : Int), .tuple #[.slice p2 12 c2, .int .i64 0], .pointer (some ⟨b1, 1, none⟩), .bool leaf, .int .i64 (flagN leaf), .agg #[.int .i64 1, .int .i64 (flagN leaf)], .pointer (some ⟨b1, 0, none⟩), .int .i64 t, .agg #[.int .i64 1, .int .i64 t], .pointer (some ⟨b1, 2, none⟩), .slice ak n ck, .int .i64 (↑n : Int), .agg #[.int .i64 2, .int .i64 (↑n : Int)], .int .i64 (↑v : Int), .agg #[.int .i64 2, .int .i64 (↑v : Int)], .int .i64 (↑m : Int), .agg #[.int .i64 2, .int .i64 (↑m : Int)], .agg #[.int .i64 4, .int .i64 0], .slice (some ⟨b15, 0, none⟩) 6 6, .tuple #[.slice p2 12 c2, .int .i64 0], .slice p2 12 c2, .int .i64 0, .slice (some ⟨b19, 0, none⟩) 244 244, .slice (some ⟨b19, 0, none⟩) 244 244, .slice p2 12 c2, .int .i64 12, .pointer (some ⟨b1, 2, none⟩), .slice ak n ck, .int .i64 (↑n : Int), .int .i64 (↑(i + 1) : Int), .bool (decide ((↑i : Int) < (↑n : Int))), .int .i64 (↑i : Int), .pointer (some (elemAddr ak (i * 1))), .int .i64 (K.getD i 0), .tuple #[.slice p3 8 c3, .int .i64 0], .int .i64 (K.getD i 0), .agg #[.int .i64 8, .int .i64 (K.getD i 0)], .slice (some ⟨b24, 0, none⟩) 1 1, .tuple #[.slice p3 8 c3, .int .i64 0], .slice p3 8 c3, .int .i64 0, .slice (some ⟨b19, 0, none⟩) 244 244, .int .i64 (↑i : Int), .int .i64 (↑(i * 8) : Int), .int .i64 (↑(12 + (i * 8)) : Int), .slice (some ⟨b19, (0 + (12 + (i * 8)) * 1), none⟩) (244 - (12 + (i * 8))) (244 - (12 + (i * 8))), .slice p3 8 c3, .int .i64 8, .slice (some ⟨b19, 0, none⟩) 244 244, .int .i64 (↑m : Int), .int .i64 (↑(m * 8) : Int), .int .i64 (↑(12 + (m * 8)) : Int), .int .i64 (↑i : Int), .int .i64 (↑v : Int), .int .i64 (↑(i * v) : Int), .int .i64 (↑((12 + (m * 8)) + (i * v)) : Int), .slice (some ⟨b19, (0 + ((12 + (m * 8)) + (i * v)) * 1), none⟩) (244 - ((12 + (m * 8)) + (i * v))) (244 - ((12 + (m * 8)) + (i * v))), .pointer (some ⟨b1, 3, none⟩), .slice av n cv, .int .i64 (↑i : Int), .pointer (some (elemAddr av (i * 1))), .string ⟨(Vs.getD i []).toArray⟩, .int .i64 (↑((Vs.getD i []).length) : Int), .int .i64 (↑(i + 1) : Int), undef], []⟩ (by kernel_rfl) ?_
    refine ⟨⟨i + 1, (pk [.int .i64 (↑i : Int), .int .i64 (K.getD i 0), .slice p3 8 c3, .int .i64 0, .bool (decide ((↑i : Int) < (↑n : Int))), .int .i64 (↑i : Int), .pointer (some (elemAddr ak (i * 1))), .int .i64 (K.getD i 0), .tuple #[.slice p3 8 c3, .int .i64 0], .int .i64 (K.getD i 0), .agg #[.int .i64 8, .int .i64 (K.getD i 0)], .slice (some ⟨b24, 0, none⟩) 1 1, .tuple #[.slice p3 8 c3, .int .i64 0], .slice p3 8 c3, .int .i64 0, .slice (some ⟨b19, 0, none⟩) 244 244, .int .i64 (↑i : Int), .int .i64 (↑(i * 8) : Int), .int .i64 (↑(12 + (i * 8)) : Int), .slice (some ⟨b19, (0 + (12 + (i * 8)) * 1), none⟩) (244 - (12 + (i * 8))) (244 - (12 + (i * 8))), .slice p3 8 c3, .int .i64 8, .slice (some ⟨b19, 0, none⟩) 244 244, .int .i64 (↑m : Int), .int .i64 (↑(m * 8) : Int), .int .i64 (↑(12 + (m * 8)) : Int), .int .i64 (↑i : Int), .int .i64 (↑v : Int), .int .i64 (↑(i * v) : Int), .int .i64 (↑((12 + (m * 8)) + (i * v)) : Int), .slice (some ⟨b19, (0 + ((12 + (m * 8)) + (i * v)) * 1), none⟩) (244 - ((12 + (m * 8)) + (i * v))) (244 - ((12 + (m * 8)) + (i * v))), .pointer (some ⟨b1, 3, none⟩), .slice av n cv, .int .i64 (↑i : Int), .pointer (some (elemAddr av (i * 1))), .string ⟨(Vs.getD i []).toArray⟩, .int .i64 (↑((Vs.getD i []).length) : Int), .int .i64 (↑(i + 1) : Int)]), rfl, hB, k22_b1, k22_b15, o31, by omega⟩, ?_⟩
    show n - ((↑(i + 1) : Int)).toNat < n - ((↑i : Int)).toNat
    omega
  · have hc23 := of_decide_eq_false hc23
    refine wp_exit ?_
    refine then_exit ?_
    refine then_exit ?_
    refine inBlock_hit ?_
    refine wp_seq ?_
    refine wp_region_lit ?_
    refine g_pv 3 [(89, .slice (some ⟨b19, 0, none⟩) 244 244), (2, .slice (some ⟨b19, 0, none⟩) 244 244), (3, .int .i64 0)] (by kernel_rfl) ?_
    refine wpList_nil ?_
    refine wp_ret ?_
    refine g_ret (.tuple #[.slice (some ⟨b19, 0, none⟩) 244 244, .int .i64 0]) (by kernel_rfl) (by kernel_rfl) ?_
    have e : i = n := by omega
    subst e
    exact ⟨_, rfl, hB, _, _, rfl, ho⟩
end Go.Proofs.Ytoiblgeheblddaa

