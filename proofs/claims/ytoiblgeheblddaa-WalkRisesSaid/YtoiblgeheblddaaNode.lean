/- Package node at a node that is right: flag, key, Right, Put. -/
import Derived.Test.YtoiblgeheblddaaTall
import Derived.Test.YtoiblgeheblddaaGw3
namespace Go.Proofs.Ytoiblgeheblddaa
open Go.RowKit Go.Extern.Stop Go.Stop Go.Extern
set_option linter.unusedVariables false
attribute [local irreducible] wpList wpAnyH Code.wp Oper.wp

theorem Sl.cap {w : World} {b : Option Addr} {n c : Nat} {xs : List Value} (h : Sl w (.slice b n c) n xs) : n ≤ c := by
  rcases h with ⟨a', c', h1, h2, _⟩ | ⟨b', off, cap, h1, h2, _, _⟩
  · omega
  · simp only [Value.slice.injEq] at h1; omega
def flagN (b : Bool) : Int := if b then 1 else 0
theorem flagN_bd (b : Bool) : 0 ≤ flagN b ∧ flagN b < 256 := by cases b <;> decide
/-- what a node that is right has -/
structure NodeOk (t : Int) (leaf : Bool) (n m v : Nat) (K : List Int) (Vs : List (List UInt8)) : Prop where
  ht1 : 1 ≤ t
  ht2 : t ≤ 5
  hm : maxN t leaf = m
  hv : widN t leaf = v
  hK : K.length = n
  hV : Vs.length = n
  hn : n ≤ m
  hl : leaf = false → 1 ≤ n
  hk0 : ∀ i, i < n → 0 ≤ K.getD i 0 ∧ K.getD i 0 ≤ 281474976710655
  hk1 : ∀ j, j + 1 < n → K.getD j 0 < K.getD (j + 1) 0
  hw : ∀ i, i < n → (Vs.getD i []).length = v
theorem widN_bd (t : Int) (leaf : Bool) : 4 ≤ widN t leaf ∧ widN t leaf ≤ 24 := by
  unfold widN
  repeat' split
  all_goals decide
theorem fitN (t : Int) (leaf : Bool) : 12 + maxN t leaf * 8 + maxN t leaf * widN t leaf ≤ 244 := by
  unfold widN maxN
  repeat' split
  all_goals decide
theorem take_getD {K : List Int} {i j : Nat} (h : j < i) : (K.take i).getD j 0 = K.getD j 0 := by simp [List.getD, List.getElem?_take_of_lt h]
theorem node_MaxN (t : Int) (leaf : Bool) (m : Nat) (hm : maxN t leaf = m) (h1 : 1 ≤ t) (h2 : t ≤ 5) (w : World) : Calls Try.prog 22 #[.int .i64 t, .bool leaf] w (Ret (.int .i64 (m : Int)) w) := by
  subst hm; exact node_Max t leaf h1 h2 w
theorem node_WidthN (t : Int) (leaf : Bool) (v : Nat) (hv : widN t leaf = v) (h1 : 1 ≤ t) (h2 : t ≤ 5) (w : World) : Calls Try.prog 21 #[.int .i64 t, .bool leaf] w (Ret (.int .i64 (v : Int)) w) := by
  subst hv; exact node_Width t leaf h1 h2 w
set_option maxRecDepth 100000 in
set_option maxHeartbeats 1000000 in
theorem node_flag (leaf : Bool) (w : World) :
    Calls Try.prog 24 #[.bool leaf] w (Ret (.int .i64 (flagN leaf)) w) := by
  refine calls_of_wp Try.func24 rfl ?_
  refine g_fr ⟨#[.bool leaf, undef, undef, undef], []⟩ (by kernel_rfl) ?_
  refine wp_seq ?_
  refine wp_region_lit ?_
  refine g_pv 1 [(2, .int .i64 0)] (by kernel_rfl) ?_
  refine wpList_nil ?_
  refine wp_seq ?_
  refine wp_seq ?_
  refine wp_region_lit ?_
  refine g_pv 1 [(3, .bool leaf)] (by kernel_rfl) ?_
  refine wpList_nil ?_
  refine wp_cond_split (t := leaf) (by kernel_rfl) (fun hc1 => ?_) (fun hc1 => ?_)
  · refine wp_seq ?_
    refine wp_region_lit ?_
    refine g_pv 1 [(2, .int .i64 1)] (by kernel_rfl) ?_
    refine wpList_nil ?_
    refine wp_ret (then_ret ?_)
    exact g_ret (.int .i64 1) (by kernel_rfl) (by kernel_rfl) ⟨by simp_all [flagN], (Below.refl w.heap.size _)⟩
  · refine wp_skip ?_
    refine wp_seq ?_
    refine wp_region_lit ?_
    refine g_pv 1 [(2, .int .i64 0)] (by kernel_rfl) ?_
    refine wpList_nil ?_
    refine wp_ret ?_
    exact g_ret (.int .i64 0) (by kernel_rfl) (by kernel_rfl) ⟨by simp_all [flagN], (Below.refl w.heap.size _)⟩
set_option maxRecDepth 100000 in
set_option maxHeartbeats 1000000 in
theorem node_key (a : Option Addr) (i c : Nat) (L : List Int) (k : Int) (w : World) (hL : L.length = i) (h : Sl w (.slice a i c) i (L.map (Value.int .i64))) (h1 : 0 ≤ k) (h2 : k ≤ 281474976710655) (h3 : ∀ j, i = j + 1 → L.getD j 0 < k) (hi : i ≤ 1000) :
    Calls Try.prog 39 #[.slice a i c, .int .i64 k] w (Ret (.int .i64 0) w) := by
  refine calls_of_wp Try.func39 rfl ?_
  refine g_fr ⟨#[.slice a i c, .int .i64 k, undef, undef, undef, undef, undef, undef, undef, undef, undef, undef, undef, undef, undef, undef, undef, undef, undef, undef, undef, undef, undef, undef, undef, undef], []⟩ (by kernel_rfl) ?_
  refine wp_seq ?_
  refine wp_region_lit ?_
  refine g_pv 1 [(4, .int .i64 0)] (by kernel_rfl) ?_
  refine wpList_nil ?_
  refine wp_seq ?_
  refine wp_block ?_
  refine wp_seq ?_
  refine wp_region_lit ?_
  refine g_pv 3 [(6, .int .i64 k), (7, .bool (decide (k < (0 : Int)))), (8, .bool (decide (k < (0 : Int))))] (by kernel_rfl) ?_
  have hc1 : (decide (k < (0 : Int)) : Bool) = false := decide_eq_false (by omega)
  refine g_b [7, 8] _ _ hc1 (by kernel_rfl) ?_
  refine g_pv 4 [(9, .int .i64 k), (10, .bool (decide (k > (281474976710655 : Int)))), (11, .bool (decide (k > (281474976710655 : Int)))), (5, .bool (decide (k > (281474976710655 : Int))))] (by kernel_rfl) ?_
  refine wpList_nil ?_
  refine wp_cond_split (t := decide (k > (281474976710655 : Int))) (by kernel_rfl) (fun hh => absurd (hh.symm.trans (show (decide (k > (281474976710655 : Int)) : Bool) = false from decide_eq_false (by omega))) (by decide)) (fun _ => ?_)
  refine wp_seq ?_
  refine wp_region_lit ?_
  refine g_pv 4 [(13, .slice a i c), (14, .int .i64 (↑i : Int)), (15, .bool (decide ((↑i : Int) > (0 : Int)))), (16, .bool (decide ((↑i : Int) > (0 : Int))))] (by kernel_rfl) ?_
  rcases Bool.eq_false_or_eq_true (decide ((↑i : Int) > (0 : Int))) with hc3 | hc3
  · refine g_b [15, 16] _ _ hc3 (by kernel_rfl) ?_
    have hc3 := of_decide_eq_true hc3
    refine g_pv 3 [(17, .slice a i c), (18, .slice a i c), (19, .int .i64 (↑i : Int))] (by kernel_rfl) ?_
    refine g_op (by kernel_rfl) (op_wrap .i64 ((↑i : Int) - 1) (↑(i - 1) : Int) (by kernel_rfl) ((show IntKind.i64.wrap ((↑i : Int) - 1) = ((↑i : Int) - 1) from by first | exact IntWalk.i64_in _ (by omega) | (simp only [IntKind.wrap]; omega)).trans (by omega)) ?_)
    refine g_op (by kernel_rfl) (op_val (run_indexA (size := 1) (k := (i - 1)) (b := a) (n := i) (c := c) (i := (↑(i - 1) : Int)) (ki := .i64) rfl (by kernel_rfl) (by kernel_rfl) rfl (by omega) (IntsN.elem h hL (k := (i - 1)) (by omega)).1 Try.underlying27 (by kernel_rfl) w) ?_)
    refine g_op (by kernel_rfl) (op_load (elemAddr a ((i - 1) * 1)) (.int .i64 (L.getD (i - 1) 0)) rfl (by kernel_rfl) (by kernel_rfl) (IntsN.elem (h) hL (k := (i - 1)) (by omega)).2 ?_)
    refine g_pv 4 [(23, .int .i64 k), (24, .bool (decide ((L.getD (i - 1) 0) ≥ k))), (25, .bool (decide ((L.getD (i - 1) 0) ≥ k))), (12, .bool (decide ((L.getD (i - 1) 0) ≥ k)))] (by kernel_rfl) ?_
    refine wpList_nil ?_
    refine wp_cond_split (t := decide ((L.getD (i - 1) 0) ≥ k)) (by kernel_rfl) (fun hh => absurd (hh.symm.trans (show (decide ((L.getD (i - 1) 0) ≥ k) : Bool) = false from decide_eq_false (by have := h3 (i - 1) (by omega); omega))) (by decide)) (fun _ => ?_)
    refine wp_skip ?_
    refine wp_seq ?_
    refine wp_region_lit ?_
    refine g_pv 1 [(4, .int .i64 0)] (by kernel_rfl) ?_
    refine wpList_nil ?_
    refine wp_ret ?_
    exact g_ret (.int .i64 0) (by kernel_rfl) (by kernel_rfl) ⟨rfl, (Below.refl w.heap.size _)⟩
  · refine g_b [15, 16] _ _ hc3 (by kernel_rfl) ?_
    have hc3 := of_decide_eq_false hc3
    refine g_pv 10 [(17, undef), (18, undef), (19, undef), (20, undef), (21, undef), (22, undef), (23, undef), (24, undef), (25, .bool false), (12, .bool false)] (by kernel_rfl) ?_
    refine wpList_nil ?_
    refine wp_cond_false (by kernel_rfl) ?_
    refine wp_skip ?_
    refine wp_seq ?_
    refine wp_region_lit ?_
    refine g_pv 1 [(4, .int .i64 0)] (by kernel_rfl) ?_
    refine wpList_nil ?_
    refine wp_ret ?_
    exact g_ret (.int .i64 0) (by kernel_rfl) (by kernel_rfl) ⟨rfl, (Below.refl w.heap.size _)⟩
set_option maxRecDepth 100000 in
set_option maxHeartbeats 4000000 in
theorem node_Right (t : Int) (leaf : Bool) (n m v : Nat) (K : List Int) (Vs : List (List UInt8)) (ak av : Option Addr) (ck cv : Nat) (w : World) (N : NodeOk t leaf n m v K Vs) (hKs : Sl w (.slice ak n ck) n (K.map (Value.int .i64))) (hVs : Sl w (.slice av n cv) n (Vs.map sv)) :
    Calls Try.prog 20 #[.agg #[.int .i64 t, .bool leaf, .slice ak n ck, .slice av n cv]] w (Ret (.bool true) w) := by
  have ht1 := N.ht1
  have ht2 := N.ht2
  have hnm := N.hn
  have hwb := widN_bd t leaf
  rw [N.hv] at hwb
  have hmb := maxN_pos t leaf
  rw [N.hm] at hmb
  have hfit := fitN t leaf
  rw [N.hm, N.hv] at hfit
  have hcap := Sl.cap hKs
  refine calls_of_wp Try.func20 rfl ?_
  refine g_fr ⟨#[.agg #[.int .i64 t, .bool leaf, .slice ak n ck, .slice av n cv], undef, undef, undef, undef, undef, undef, undef, undef, undef, undef, undef, undef, undef, undef, undef, undef, undef, undef, undef, undef, undef, undef, undef, undef, undef, undef, undef, undef, undef, undef, undef, undef, undef, undef, undef, undef, undef, undef, undef, undef, undef, undef, undef, undef, undef, undef, undef, undef, undef, undef, undef, undef, undef, undef, undef, undef, undef, undef, undef, undef, undef, undef, undef, undef, undef, undef, undef, undef, undef], []⟩ (by kernel_rfl) ?_
  refine wp_seq ?_
  refine wp_region_lit ?_
  refine g_op (by kernel_rfl) (op_box [.int .i64 t, .bool leaf, .slice ak n ck, .slice av n cv] rfl (by kernel_rfl) ?_)
  intro b1 W1 n1
  have g1 := n1.ge (Below.refl w.heap.size _)
  have hB := n1.below
  have k1 := n1.blk
  refine g_pv 1 [(2, .bool false)] (by kernel_rfl) ?_
  refine wpList_nil ?_
  refine wp_seq ?_
  refine wp_region_lit ?_
  refine g_pv 1 [(6, .pointer (some ⟨b1, 0, none⟩))] (by kernel_rfl) ?_
  refine g_op (by kernel_rfl) (op_load ⟨b1, 0, none⟩ (.int .i64 t) rfl (by kernel_rfl) (by kernel_rfl) (k1.cell (i := 0) rfl) ?_)
  refine g_pv 1 [(8, .pointer (some ⟨b1, 1, none⟩))] (by kernel_rfl) ?_
  refine g_op (by kernel_rfl) (op_load ⟨b1, 1, none⟩ (.bool leaf) rfl (by kernel_rfl) (by kernel_rfl) (k1.cell (i := 1) rfl) ?_)
  refine g_op (by kernel_rfl) (op_call (lb := #[]) 21 #[.int .i64 t, .bool leaf] rfl (by kernel_rfl) (fun _ _ => by kernel_rfl) (by kernel_rfl) ((node_WidthN t leaf v N.hv ht1 ht2 _).mono ?_))
  rintro e W2 ⟨rfl, hb2⟩
  refine ⟨_, rfl, ?_⟩
  replace hB := Bl.next hB hb2
  replace k1 := k1.below hb2
  refine g_pv 1 [(3, .int .i64 (↑v : Int))] (by kernel_rfl) ?_
  refine wpList_nil ?_
  refine wp_seq ?_
  refine wp_seq ?_
  replace hB := Bl.next hB (below_drew W2)
  replace k1 := k1.below (below_drew W2)
  refine h_reg (Below (W2.drew).heap.size (W2.drew)) 33 rfl #[false, false, false, false, false, false, false, false, false, false, false, false, false, false, false, false, false, false, false, false, false, false, false, false, false, false, false, false, false, false, false, false, false] rfl (by kernel_rfl) (Below.refl _ _) ?_
  intro hS3
  have hBd5 := hB
  have kd5_b1 := k1
  refine h_pv [0, 1, 2] 30 rfl #[true, true, true, false, false, false, false, false, false, false, false, false, false, false, false, false, false, false, false, false, false, false, false, false, false, false, false, false, false, false, false, false, false] [(11, .int .i64 (↑v : Int)), (12, .bool ((↑v : Int) == (0 : Int))), (13, .bool ((↑v : Int) == (0 : Int)))] (by kernel_rfl) (fun _ _ _ _ _ h => h) (by kernel_rfl) hS3 ?_
  have hc6 : (((↑v : Int) == (0 : Int)) : Bool) = false := by simp; omega
  refine h_b [12, 13] _ _ hc6 (by kernel_rfl) ?_
  refine h_pv [3] 29 rfl #[true, true, true, true, false, false, false, false, false, false, false, false, false, false, false, false, false, false, false, false, false, false, false, false, false, false, false, false, false, false, false, false, false] [(14, .pointer (some ⟨b1, 2, none⟩))] (by kernel_rfl) (fun _ _ _ _ _ h => h) (by kernel_rfl) hS3 ?_
  refine h_load 4 28 rfl ⟨b1, 2, none⟩ (.slice ak n ck) rfl (by kernel_rfl) (by kernel_rfl) (by kernel_rfl) (fun _ _ _ _ _ h => h) (by kernel_rfl) rfl (by kernel_rfl) (by kernel_rfl) (fun V hV => ((kd5_b1.below hV).cell (i := 2) rfl)) hS3 ?_
  refine h_pv [5, 6] 26 rfl #[true, true, true, true, true, true, true, false, false, false, false, false, false, false, false, false, false, false, false, false, false, false, false, false, false, false, false, false, false, false, false, false, false] [(16, .int .i64 (↑n : Int)), (17, .pointer (some ⟨b1, 0, none⟩))] (by kernel_rfl) (fun _ _ _ _ _ h => h) (by kernel_rfl) hS3 ?_
  refine h_load 7 25 rfl ⟨b1, 0, none⟩ (.int .i64 t) rfl (by kernel_rfl) (by kernel_rfl) (by kernel_rfl) (fun _ _ _ _ _ h => h) (by kernel_rfl) rfl (by kernel_rfl) (by kernel_rfl) (fun V hV => ((kd5_b1.below hV).cell (i := 0) rfl)) hS3 ?_
  refine h_pv [8] 24 rfl #[true, true, true, true, true, true, true, true, true, false, false, false, false, false, false, false, false, false, false, false, false, false, false, false, false, false, false, false, false, false, false, false, false] [(19, .pointer (some ⟨b1, 1, none⟩))] (by kernel_rfl) (fun _ _ _ _ _ h => h) (by kernel_rfl) hS3 ?_
  refine h_load 9 23 rfl ⟨b1, 1, none⟩ (.bool leaf) rfl (by kernel_rfl) (by kernel_rfl) (by kernel_rfl) (fun _ _ _ _ _ h => h) (by kernel_rfl) rfl (by kernel_rfl) (by kernel_rfl) (fun V hV => ((kd5_b1.below hV).cell (i := 1) rfl)) hS3 ?_
  refine h_one 10 22 rfl (by kernel_rfl) rfl (by kernel_rfl) (op_call (lb := #[]) 22 #[.int .i64 t, .bool leaf] rfl (by kernel_rfl) (fun _ _ => by kernel_rfl) (by kernel_rfl) ((node_MaxN t leaf m N.hm ht1 ht2 _).mono ?_))
  rintro e W7 ⟨rfl, hb7⟩
  refine ⟨_, rfl, ?_⟩
  replace hB := Bl.next hB hb7
  replace k1 := k1.below hb7
  have hS8 : Below (W2.drew).heap.size (W2.drew) (W7) := Bl.next hS3 hb7
  refine ⟨hS8, ?_⟩
  refine h_pv [11, 12, 13] 19 rfl #[true, true, true, true, true, true, true, true, true, true, true, true, true, true, false, false, false, false, false, false, false, false, false, false, false, false, false, false, false, false, false, false, false] [(22, .bool (decide ((↑n : Int) > (↑m : Int)))), (23, .bool (decide ((↑n : Int) > (↑m : Int)))), (24, .bool (decide ((↑n : Int) > (↑m : Int))))] (by kernel_rfl) (fun _ _ _ _ _ h => h) (by kernel_rfl) hS8 ?_
  have hc9 : (decide ((↑n : Int) > (↑m : Int)) : Bool) = false := decide_eq_false (by omega)
  refine h_b [22, 23, 24] _ _ hc9 (by kernel_rfl) ?_
  refine h_pv [14] 18 rfl #[true, true, true, true, true, true, true, true, true, true, true, true, true, true, true, false, false, false, false, false, false, false, false, false, false, false, false, false, false, false, false, false, false] [(25, .pointer (some ⟨b1, 3, none⟩))] (by kernel_rfl) (fun _ _ _ _ _ h => h) (by kernel_rfl) hS8 ?_
  refine h_load 15 17 rfl ⟨b1, 3, none⟩ (.slice av n cv) rfl (by kernel_rfl) (by kernel_rfl) (by kernel_rfl) (fun _ _ _ _ _ h => h) (by kernel_rfl) rfl (by kernel_rfl) (by kernel_rfl) (fun V hV => ((kd5_b1.below hV).cell (i := 3) rfl)) hS8 ?_
  refine h_pv [16, 17] 15 rfl #[true, true, true, true, true, true, true, true, true, true, true, true, true, true, true, true, true, true, false, false, false, false, false, false, false, false, false, false, false, false, false, false, false] [(27, .int .i64 (↑n : Int)), (28, .pointer (some ⟨b1, 2, none⟩))] (by kernel_rfl) (fun _ _ _ _ _ h => h) (by kernel_rfl) hS8 ?_
  refine h_load 18 14 rfl ⟨b1, 2, none⟩ (.slice ak n ck) rfl (by kernel_rfl) (by kernel_rfl) (by kernel_rfl) (fun _ _ _ _ _ h => h) (by kernel_rfl) rfl (by kernel_rfl) (by kernel_rfl) (fun V hV => ((kd5_b1.below hV).cell (i := 2) rfl)) hS8 ?_
  refine h_pv [19, 20, 21, 22] 10 rfl #[true, true, true, true, true, true, true, true, true, true, true, true, true, true, true, true, true, true, true, true, true, true, true, false, false, false, false, false, false, false, false, false, false] [(30, .int .i64 (↑n : Int)), (31, .bool ((↑n : Int) != (↑n : Int))), (32, .bool ((↑n : Int) != (↑n : Int))), (33, .bool ((↑n : Int) != (↑n : Int)))] (by kernel_rfl) (fun _ _ _ _ _ h => h) (by kernel_rfl) hS8 ?_
  have hc10 : (((↑n : Int) != (↑n : Int)) : Bool) = false := by simp
  refine h_b [31, 32, 33] _ _ hc10 (by kernel_rfl) ?_
  refine h_pv [23] 9 rfl #[true, true, true, true, true, true, true, true, true, true, true, true, true, true, true, true, true, true, true, true, true, true, true, true, false, false, false, false, false, false, false, false, false] [(34, .pointer (some ⟨b1, 1, none⟩))] (by kernel_rfl) (fun _ _ _ _ _ h => h) (by kernel_rfl) hS8 ?_
  refine h_load 24 8 rfl ⟨b1, 1, none⟩ (.bool leaf) rfl (by kernel_rfl) (by kernel_rfl) (by kernel_rfl) (fun _ _ _ _ _ h => h) (by kernel_rfl) rfl (by kernel_rfl) (by kernel_rfl) (fun V hV => ((kd5_b1.below hV).cell (i := 1) rfl)) hS8 ?_
  refine h_pv [25, 26] 6 rfl #[true, true, true, true, true, true, true, true, true, true, true, true, true, true, true, true, true, true, true, true, true, true, true, true, true, true, true, false, false, false, false, false, false] [(36, .bool (!leaf)), (37, .bool (!leaf))] (by kernel_rfl) (fun _ _ _ _ _ h => h) (by kernel_rfl) hS8 ?_
  rcases Bool.eq_false_or_eq_true (!leaf) with hc11 | hc11
  · refine h_b [36, 37] _ _ hc11 (by kernel_rfl) ?_
    refine h_pv [27] 5 rfl #[true, true, true, true, true, true, true, true, true, true, true, true, true, true, true, true, true, true, true, true, true, true, true, true, true, true, true, true, false, false, false, false, false] [(38, .pointer (some ⟨b1, 2, none⟩))] (by kernel_rfl) (fun _ _ _ _ _ h => h) (by kernel_rfl) hS8 ?_
    refine h_load 28 4 rfl ⟨b1, 2, none⟩ (.slice ak n ck) rfl (by kernel_rfl) (by kernel_rfl) (by kernel_rfl) (fun _ _ _ _ _ h => h) (by kernel_rfl) rfl (by kernel_rfl) (by kernel_rfl) (fun V hV => ((kd5_b1.below hV).cell (i := 2) rfl)) hS8 ?_
    refine h_pv [29, 30, 31, 32] 0 rfl #[true, true, true, true, true, true, true, true, true, true, true, true, true, true, true, true, true, true, true, true, true, true, true, true, true, true, true, true, true, true, true, true, true] [(40, .int .i64 (↑n : Int)), (41, .bool ((↑n : Int) == (0 : Int))), (42, .bool ((↑n : Int) == (0 : Int))), (43, .bool ((↑n : Int) == (0 : Int)))] (by kernel_rfl) (fun _ _ _ _ _ h => h) (by kernel_rfl) hS8 ?_
    refine h_done _ (by kernel_rfl) ?_
    refine wp_cond_split (t := ((↑n : Int) == (0 : Int))) (by kernel_rfl) (fun hh => absurd (hh.symm.trans (show (((↑n : Int) == (0 : Int)) : Bool) = false from by have := N.hl (by simp_all); simp; omega)) (by decide)) (fun _ => ?_)
    refine wp_skip ?_
    refine wp_seq ?_
    refine wp_seq ?_
    refine wp_region_lit ?_
    refine g_pv 1 [(44, .pointer (some ⟨b1, 2, none⟩))] (by kernel_rfl) ?_
    refine g_op (by kernel_rfl) (op_load ⟨b1, 2, none⟩ (.slice ak n ck) rfl (by kernel_rfl) (by kernel_rfl) (k1.cell (i := 2) rfl) ?_)
    refine g_pv 2 [(46, .int .i64 (↑n : Int)), (47, .int .i64 0)] (by kernel_rfl) ?_
    refine wpList_nil ?_
    refine wp_block ?_
    refine g_fr ⟨#[.agg #[.int .i64 t, .bool leaf, .slice ak n ck, .slice av n cv], .pointer (some ⟨b1, 0, none⟩), .bool false, .int .i64 (↑v : Int), undef, undef, .pointer (some ⟨b1, 0, none⟩), .int .i64 t, .pointer (some ⟨b1, 1, none⟩), .bool leaf, .int .i64 (↑v : Int), .int .i64 (↑v : Int), .bool false, .bool false, .pointer (some ⟨b1, 2, none⟩), .slice ak n ck, .int .i64 (↑n : Int), .pointer (some ⟨b1, 0, none⟩), .int .i64 t, .pointer (some ⟨b1, 1, none⟩), .bool leaf, .int .i64 (↑m : Int), .bool false, .bool false, .bool false, .pointer (some ⟨b1, 3, none⟩), .slice av n cv, .int .i64 (↑n : Int), .pointer (some ⟨b1, 2, none⟩), .slice ak n ck, .int .i64 (↑n : Int), .bool false, .bool false, .bool false, .pointer (some ⟨b1, 1, none⟩), .bool leaf, .bool true, .bool true, .pointer (some ⟨b1, 2, none⟩), .slice ak n ck, .int .i64 (↑n : Int), .bool ((↑n : Int) == (0 : Int)), .bool ((↑n : Int) == (0 : Int)), .bool ((↑n : Int) == (0 : Int)), .pointer (some ⟨b1, 2, none⟩), .slice ak n ck, .int .i64 (↑n : Int), .int .i64 0, undef, undef, undef, undef, undef, undef, undef, undef, undef, undef, undef, undef, undef, undef, undef, undef, undef, undef, undef, undef, undef, undef], []⟩ (by kernel_rfl) ?_
    refine wp_loop (fun act V => ∃ (i : Nat) (x13 : Nat → Value), act = ⟨#[.agg #[.int .i64 t, .bool leaf, .slice ak n ck, .slice av n cv], .pointer (some ⟨b1, 0, none⟩), (x13 0), .int .i64 (↑v : Int), (x13 1), (x13 2), .pointer (some ⟨b1, 0, none⟩), .int .i64 t, .pointer (some ⟨b1, 1, none⟩), .bool leaf, .int .i64 (↑v : Int), .int .i64 (↑v : Int), .bool false, .bool false, .pointer (some ⟨b1, 2, none⟩), .slice ak n ck, .int .i64 (↑n : Int), .pointer (some ⟨b1, 0, none⟩), .int .i64 t, .pointer (some ⟨b1, 1, none⟩), .bool leaf, .int .i64 (↑m : Int), .bool false, .bool false, .bool false, .pointer (some ⟨b1, 3, none⟩), .slice av n cv, .int .i64 (↑n : Int), .pointer (some ⟨b1, 2, none⟩), .slice ak n ck, .int .i64 (↑n : Int), .bool false, .bool false, .bool false, .pointer (some ⟨b1, 1, none⟩), .bool leaf, .bool true, .bool true, .pointer (some ⟨b1, 2, none⟩), .slice ak n ck, .int .i64 (↑n : Int), .bool ((↑n : Int) == (0 : Int)), .bool ((↑n : Int) == (0 : Int)), .bool ((↑n : Int) == (0 : Int)), .pointer (some ⟨b1, 2, none⟩), .slice ak n ck, .int .i64 (↑n : Int), .int .i64 (↑i : Int), (x13 3), (x13 4), (x13 5), (x13 6), (x13 7), (x13 8), (x13 9), (x13 10), (x13 11), (x13 12), (x13 13), (x13 14), (x13 15), (x13 16), (x13 17), (x13 18), (x13 19), (x13 20), (x13 21), (x13 22), (x13 23), (x13 24)], []⟩ ∧ Below w.heap.size w V ∧ Blk V b1 ([.int .i64 t, .bool leaf, .slice ak n ck, .slice av n cv]) 36 ∧ i ≤ n) (fun act V => n - ((intOf (act.tmps.getD 47 undef))).toNat) ⟨0, (pk [.bool false, undef, undef, undef, undef, undef, undef, undef, undef, undef, undef, undef, undef, undef, undef, undef, undef, undef, undef, undef, undef, undef, undef, undef, undef]), rfl, hB, k1, Nat.zero_le _⟩ ?_
    rintro _ W13 ⟨i, x13, rfl, hB, k13_b1, hi⟩
    refine wp_seq ?_
    refine wp_region_lit ?_
    refine g_pv 1 [(48, .bool (decide ((↑i : Int) < (↑n : Int))))] (by kernel_rfl) ?_
    refine wpList_nil ?_
    refine wp_seq ?_
    refine wp_cond_split (t := decide ((↑i : Int) < (↑n : Int))) (by kernel_rfl) (fun hc14 => ?_) (fun hc14 => ?_)
    · have hc14 := of_decide_eq_true hc14
      refine wp_skip ?_
      refine wp_seq ?_
      refine wp_block ?_
      refine wp_seq ?_
      refine wp_region_lit ?_
      refine g_pv 1 [(49, .int .i64 (↑i : Int))] (by kernel_rfl) ?_
      refine g_op (by kernel_rfl) (op_val (run_indexA (size := 1) (k := i) (b := ak) (n := n) (c := ck) (i := (↑i : Int)) (ki := .i64) rfl (by kernel_rfl) (by kernel_rfl) rfl (by omega) (IntsN.elem hKs N.hK (k := i) (by omega)).1 Try.underlying27 (by kernel_rfl) W13) ?_)
      refine g_op (by kernel_rfl) (op_load (elemAddr ak (i * 1)) (.int .i64 (K.getD i 0)) rfl (by kernel_rfl) (by kernel_rfl) (IntsN.elem (hKs.below hB) N.hK (k := i) (by omega)).2 ?_)
      refine g_pv 2 [(4, .int .i64 (↑i : Int)), (5, .int .i64 (K.getD i 0))] (by kernel_rfl) ?_
      refine wpList_nil ?_
      refine wp_seq ?_
      refine wp_region_lit ?_
      refine g_pv 1 [(52, .pointer (some ⟨b1, 2, none⟩))] (by kernel_rfl) ?_
      refine g_op (by kernel_rfl) (op_load ⟨b1, 2, none⟩ (.slice ak n ck) rfl (by kernel_rfl) (by kernel_rfl) (k13_b1.cell (i := 2) rfl) ?_)
      refine g_pv 1 [(54, .int .i64 (↑i : Int))] (by kernel_rfl) ?_
      refine g_op (by kernel_rfl) (op_val (run_sliceH (k := i) (b := ak) (n := n) (c := ck) (i := (↑i : Int)) (ki := .i64) rfl (by kernel_rfl) (by kernel_rfl) rfl (by omega) Try.underlying27 (by kernel_rfl) _) ?_)
      refine g_pv 1 [(56, .int .i64 (K.getD i 0))] (by kernel_rfl) ?_
      refine g_op (by kernel_rfl) (op_call (lb := #[]) 39 #[.slice ak i ck, .int .i64 (K.getD i 0)] rfl (by kernel_rfl) (fun _ _ => by kernel_rfl) (by kernel_rfl) ((node_key ak i ck (K.take i) (K.getD i 0) _ (by rw [List.length_take, N.hK]; omega) (by rw [List.map_take]; exact (hKs.below hB).head (by simpa using N.hK) i (by omega)) (N.hk0 i (by omega)).1 (N.hk0 i (by omega)).2 (fun j e => by subst e; rw [take_getD (by omega)]; exact N.hk1 j (by omega)) (by omega)).mono ?_))
      rintro e W15 ⟨rfl, hb15⟩
      refine ⟨_, rfl, ?_⟩
      replace hB := Bl.next hB hb15
      replace k13_b1 := k13_b1.below hb15
      refine g_pv 3 [(58, .bool false), (59, .bool false), (60, .pointer (some ⟨b1, 3, none⟩))] (by kernel_rfl) ?_
      refine g_op (by kernel_rfl) (op_load ⟨b1, 3, none⟩ (.slice av n cv) rfl (by kernel_rfl) (by kernel_rfl) (k13_b1.cell (i := 3) rfl) ?_)
      refine g_pv 1 [(62, .int .i64 (↑i : Int))] (by kernel_rfl) ?_
      refine g_op (by kernel_rfl) (op_val (run_indexA (size := 1) (k := i) (b := av) (n := n) (c := cv) (i := (↑i : Int)) (ki := .i64) rfl (by kernel_rfl) (by kernel_rfl) rfl (by omega) (Strs.elem hVs N.hV (k := i) (by omega)).1 Try.underlying34 (by kernel_rfl) W15) ?_)
      refine g_op (by kernel_rfl) (op_load (elemAddr av (i * 1)) (.string ⟨(Vs.getD i []).toArray⟩) rfl (by kernel_rfl) (by kernel_rfl) (Strs.elem (hVs.below hB) N.hV (k := i) (by omega)).2 ?_)
      refine g_pv 4 [(65, .int .i64 (↑(Vs.getD i []).length : Int)), (66, .int .i64 (↑v : Int)), (67, .bool ((↑(Vs.getD i []).length : Int) != (↑v : Int))), (68, .bool ((↑(Vs.getD i []).length : Int) != (↑v : Int)))] (by kernel_rfl) ?_
      refine wpList_nil ?_
      refine wp_cond_split (t := ((↑(Vs.getD i []).length : Int) != (↑v : Int))) (by kernel_rfl) (fun hh => absurd (hh.symm.trans (show (((↑(Vs.getD i []).length : Int) != (↑v : Int)) : Bool) = false from by rw [N.hw i (by omega)]; simp)) (by decide)) (fun _ => ?_)
      refine wp_skip ?_
      refine wp_region_lit ?_
      refine g_op (by kernel_rfl) (op_wrap .i64 ((↑i : Int) + 1) ((↑i : Int) + 1) (by kernel_rfl) (by first | exact IntWalk.i64_in _ (by omega) | (simp only [IntKind.wrap]; omega)) ?_)
      refine g_pv 1 [(47, .int .i64 ((↑i : Int) + 1))] (by kernel_rfl) ?_
      refine wpList_nil ?_
      refine g_nfr ⟨#[.agg #[.int .i64 t, .bool leaf, .slice ak n ck, .slice av n cv], .pointer (some ⟨b1, 0, none⟩), (x13 0), .int .i64 (↑v : Int), .int .i64 (↑i : Int), .int .i64 (K.getD i 0), .pointer (some ⟨b1, 0, none⟩), .int .i64 t, .pointer (some ⟨b1, 1, none⟩), .bool leaf, .int .i64 (↑v : Int), .int .i64 (↑v : Int), .bool false, .bool false, .pointer (some ⟨b1, 2, none⟩), .slice ak n ck, .int .i64 (↑n : Int), .pointer (some ⟨b1, 0, none⟩), .int .i64 t, .pointer (some ⟨b1, 1, none⟩), .bool leaf, .int .i64 (↑m : Int), .bool false, .bool false, .bool false, .pointer (some ⟨b1, 3, none⟩), .slice av n cv, .int .i64 (↑n : Int), .pointer (some ⟨b1, 2, none⟩), .slice ak n ck, .int .i64 (↑n : Int), .bool false, .bool false, .bool false, .pointer (some ⟨b1, 1, none⟩), .bool leaf, .bool true, .bool true, .pointer (some ⟨b1, 2, none⟩), .slice ak n ck, .int .i64 (↑n : Int), .bool ((↑n : Int) == (0 : Int)), .bool ((↑n : Int) == (0 : Int)), .bool ((↑n : Int) == (0 : Int)), .pointer (some ⟨b1, 2, none⟩), .slice ak n ck, .int .i64 (↑n : Int), .int .i64 ((↑i : Int) + 1), .bool (decide ((↑i : Int) < (↑n : Int))), .int .i64 (↑i : Int), .pointer (some (elemAddr ak (i * 1))), .int .i64 (K.getD i 0), .pointer (some ⟨b1, 2, none⟩), .slice ak n ck, .int .i64 (↑i : Int), .slice ak i ck, .int .i64 (K.getD i 0), .int .i64 0, .bool false, .bool false, .pointer (some ⟨b1, 3, none⟩), .slice av n cv, .int .i64 (↑i : Int), .pointer (some (elemAddr av (i * 1))), .string ⟨(Vs.getD i []).toArray⟩, .int .i64 (↑(Vs.getD i []).length : Int), .int .i64 (↑v : Int), .bool ((↑(Vs.getD i []).length : Int) != (↑v : Int)), .bool ((↑(Vs.getD i []).length : Int) != (↑v : Int)), .int .i64 ((↑i : Int) + 1)], []⟩ (by kernel_rfl) ?_
      refine ⟨⟨i + 1, (pk [(x13 0), .int .i64 (↑i : Int), .int .i64 (K.getD i 0), .bool (decide ((↑i : Int) < (↑n : Int))), .int .i64 (↑i : Int), .pointer (some (elemAddr ak (i * 1))), .int .i64 (K.getD i 0), .pointer (some ⟨b1, 2, none⟩), .slice ak n ck, .int .i64 (↑i : Int), .slice ak i ck, .int .i64 (K.getD i 0), .int .i64 0, .bool false, .bool false, .pointer (some ⟨b1, 3, none⟩), .slice av n cv, .int .i64 (↑i : Int), .pointer (some (elemAddr av (i * 1))), .string ⟨(Vs.getD i []).toArray⟩, .int .i64 (↑(Vs.getD i []).length : Int), .int .i64 (↑v : Int), .bool ((↑(Vs.getD i []).length : Int) != (↑v : Int)), .bool ((↑(Vs.getD i []).length : Int) != (↑v : Int)), .int .i64 ((↑i : Int) + 1)]), rfl, hB, k13_b1, by omega⟩, ?_⟩
      show n - (((↑i : Int) + 1)).toNat < n - ((↑i : Int)).toNat
      omega
    · have hc14 := of_decide_eq_false hc14
      refine wp_exit ?_
      refine then_exit ?_
      refine then_exit ?_
      refine inBlock_hit ?_
      refine wp_seq ?_
      refine wp_region_lit ?_
      refine g_pv 1 [(2, .bool true)] (by kernel_rfl) ?_
      refine wpList_nil ?_
      refine wp_ret ?_
      exact g_ret (.bool true) (by kernel_rfl) (by kernel_rfl) ⟨rfl, hB⟩
  · refine h_b [36, 37] _ _ hc11 (by kernel_rfl) ?_
    refine h_pv [27, 28, 29, 30, 31, 32] 0 rfl #[true, true, true, true, true, true, true, true, true, true, true, true, true, true, true, true, true, true, true, true, true, true, true, true, true, true, true, true, true, true, true, true, true] [(38, undef), (39, undef), (40, undef), (41, undef), (42, .bool false), (43, .bool false)] (by kernel_rfl) (fun _ _ _ _ _ h => h) (by kernel_rfl) hS8 ?_
    refine h_done _ (by kernel_rfl) ?_
    refine wp_cond_false (by kernel_rfl) ?_
    refine wp_skip ?_
    refine wp_seq ?_
    refine wp_seq ?_
    refine wp_region_lit ?_
    refine g_pv 1 [(44, .pointer (some ⟨b1, 2, none⟩))] (by kernel_rfl) ?_
    refine g_op (by kernel_rfl) (op_load ⟨b1, 2, none⟩ (.slice ak n ck) rfl (by kernel_rfl) (by kernel_rfl) (k1.cell (i := 2) rfl) ?_)
    refine g_pv 2 [(46, .int .i64 (↑n : Int)), (47, .int .i64 0)] (by kernel_rfl) ?_
    refine wpList_nil ?_
    refine wp_block ?_
    refine g_fr ⟨#[.agg #[.int .i64 t, .bool leaf, .slice ak n ck, .slice av n cv], .pointer (some ⟨b1, 0, none⟩), .bool false, .int .i64 (↑v : Int), undef, undef, .pointer (some ⟨b1, 0, none⟩), .int .i64 t, .pointer (some ⟨b1, 1, none⟩), .bool leaf, .int .i64 (↑v : Int), .int .i64 (↑v : Int), .bool false, .bool false, .pointer (some ⟨b1, 2, none⟩), .slice ak n ck, .int .i64 (↑n : Int), .pointer (some ⟨b1, 0, none⟩), .int .i64 t, .pointer (some ⟨b1, 1, none⟩), .bool leaf, .int .i64 (↑m : Int), .bool false, .bool false, .bool false, .pointer (some ⟨b1, 3, none⟩), .slice av n cv, .int .i64 (↑n : Int), .pointer (some ⟨b1, 2, none⟩), .slice ak n ck, .int .i64 (↑n : Int), .bool false, .bool false, .bool false, .pointer (some ⟨b1, 1, none⟩), .bool leaf, .bool false, .bool false, undef, undef, undef, undef, .bool false, .bool false, .pointer (some ⟨b1, 2, none⟩), .slice ak n ck, .int .i64 (↑n : Int), .int .i64 0, undef, undef, undef, undef, undef, undef, undef, undef, undef, undef, undef, undef, undef, undef, undef, undef, undef, undef, undef, undef, undef, undef], []⟩ (by kernel_rfl) ?_
    refine wp_loop (fun act V => ∃ (i : Nat) (x17 : Nat → Value), act = ⟨#[.agg #[.int .i64 t, .bool leaf, .slice ak n ck, .slice av n cv], .pointer (some ⟨b1, 0, none⟩), (x17 0), .int .i64 (↑v : Int), (x17 1), (x17 2), .pointer (some ⟨b1, 0, none⟩), .int .i64 t, .pointer (some ⟨b1, 1, none⟩), .bool leaf, .int .i64 (↑v : Int), .int .i64 (↑v : Int), .bool false, .bool false, .pointer (some ⟨b1, 2, none⟩), .slice ak n ck, .int .i64 (↑n : Int), .pointer (some ⟨b1, 0, none⟩), .int .i64 t, .pointer (some ⟨b1, 1, none⟩), .bool leaf, .int .i64 (↑m : Int), .bool false, .bool false, .bool false, .pointer (some ⟨b1, 3, none⟩), .slice av n cv, .int .i64 (↑n : Int), .pointer (some ⟨b1, 2, none⟩), .slice ak n ck, .int .i64 (↑n : Int), .bool false, .bool false, .bool false, .pointer (some ⟨b1, 1, none⟩), .bool leaf, .bool false, .bool false, undef, undef, undef, undef, .bool false, .bool false, .pointer (some ⟨b1, 2, none⟩), .slice ak n ck, .int .i64 (↑n : Int), .int .i64 (↑i : Int), (x17 3), (x17 4), (x17 5), (x17 6), (x17 7), (x17 8), (x17 9), (x17 10), (x17 11), (x17 12), (x17 13), (x17 14), (x17 15), (x17 16), (x17 17), (x17 18), (x17 19), (x17 20), (x17 21), (x17 22), (x17 23), (x17 24)], []⟩ ∧ Below w.heap.size w V ∧ Blk V b1 ([.int .i64 t, .bool leaf, .slice ak n ck, .slice av n cv]) 36 ∧ i ≤ n) (fun act V => n - ((intOf (act.tmps.getD 47 undef))).toNat) ⟨0, (pk [.bool false, undef, undef, undef, undef, undef, undef, undef, undef, undef, undef, undef, undef, undef, undef, undef, undef, undef, undef, undef, undef, undef, undef, undef, undef]), rfl, hB, k1, Nat.zero_le _⟩ ?_
    rintro _ W17 ⟨i, x17, rfl, hB, k17_b1, hi⟩
    refine wp_seq ?_
    refine wp_region_lit ?_
    refine g_pv 1 [(48, .bool (decide ((↑i : Int) < (↑n : Int))))] (by kernel_rfl) ?_
    refine wpList_nil ?_
    refine wp_seq ?_
    refine wp_cond_split (t := decide ((↑i : Int) < (↑n : Int))) (by kernel_rfl) (fun hc18 => ?_) (fun hc18 => ?_)
    · have hc18 := of_decide_eq_true hc18
      refine wp_skip ?_
      refine wp_seq ?_
      refine wp_block ?_
      refine wp_seq ?_
      refine wp_region_lit ?_
      refine g_pv 1 [(49, .int .i64 (↑i : Int))] (by kernel_rfl) ?_
      refine g_op (by kernel_rfl) (op_val (run_indexA (size := 1) (k := i) (b := ak) (n := n) (c := ck) (i := (↑i : Int)) (ki := .i64) rfl (by kernel_rfl) (by kernel_rfl) rfl (by omega) (IntsN.elem hKs N.hK (k := i) (by omega)).1 Try.underlying27 (by kernel_rfl) W17) ?_)
      refine g_op (by kernel_rfl) (op_load (elemAddr ak (i * 1)) (.int .i64 (K.getD i 0)) rfl (by kernel_rfl) (by kernel_rfl) (IntsN.elem (hKs.below hB) N.hK (k := i) (by omega)).2 ?_)
      refine g_pv 2 [(4, .int .i64 (↑i : Int)), (5, .int .i64 (K.getD i 0))] (by kernel_rfl) ?_
      refine wpList_nil ?_
      refine wp_seq ?_
      refine wp_region_lit ?_
      refine g_pv 1 [(52, .pointer (some ⟨b1, 2, none⟩))] (by kernel_rfl) ?_
      refine g_op (by kernel_rfl) (op_load ⟨b1, 2, none⟩ (.slice ak n ck) rfl (by kernel_rfl) (by kernel_rfl) (k17_b1.cell (i := 2) rfl) ?_)
      refine g_pv 1 [(54, .int .i64 (↑i : Int))] (by kernel_rfl) ?_
      refine g_op (by kernel_rfl) (op_val (run_sliceH (k := i) (b := ak) (n := n) (c := ck) (i := (↑i : Int)) (ki := .i64) rfl (by kernel_rfl) (by kernel_rfl) rfl (by omega) Try.underlying27 (by kernel_rfl) _) ?_)
      refine g_pv 1 [(56, .int .i64 (K.getD i 0))] (by kernel_rfl) ?_
      refine g_op (by kernel_rfl) (op_call (lb := #[]) 39 #[.slice ak i ck, .int .i64 (K.getD i 0)] rfl (by kernel_rfl) (fun _ _ => by kernel_rfl) (by kernel_rfl) ((node_key ak i ck (K.take i) (K.getD i 0) _ (by rw [List.length_take, N.hK]; omega) (by rw [List.map_take]; exact (hKs.below hB).head (by simpa using N.hK) i (by omega)) (N.hk0 i (by omega)).1 (N.hk0 i (by omega)).2 (fun j e => by subst e; rw [take_getD (by omega)]; exact N.hk1 j (by omega)) (by omega)).mono ?_))
      rintro e W19 ⟨rfl, hb19⟩
      refine ⟨_, rfl, ?_⟩
      replace hB := Bl.next hB hb19
      replace k17_b1 := k17_b1.below hb19
      refine g_pv 3 [(58, .bool false), (59, .bool false), (60, .pointer (some ⟨b1, 3, none⟩))] (by kernel_rfl) ?_
      refine g_op (by kernel_rfl) (op_load ⟨b1, 3, none⟩ (.slice av n cv) rfl (by kernel_rfl) (by kernel_rfl) (k17_b1.cell (i := 3) rfl) ?_)
      refine g_pv 1 [(62, .int .i64 (↑i : Int))] (by kernel_rfl) ?_
      refine g_op (by kernel_rfl) (op_val (run_indexA (size := 1) (k := i) (b := av) (n := n) (c := cv) (i := (↑i : Int)) (ki := .i64) rfl (by kernel_rfl) (by kernel_rfl) rfl (by omega) (Strs.elem hVs N.hV (k := i) (by omega)).1 Try.underlying34 (by kernel_rfl) W19) ?_)
      refine g_op (by kernel_rfl) (op_load (elemAddr av (i * 1)) (.string ⟨(Vs.getD i []).toArray⟩) rfl (by kernel_rfl) (by kernel_rfl) (Strs.elem (hVs.below hB) N.hV (k := i) (by omega)).2 ?_)
      refine g_pv 4 [(65, .int .i64 (↑(Vs.getD i []).length : Int)), (66, .int .i64 (↑v : Int)), (67, .bool ((↑(Vs.getD i []).length : Int) != (↑v : Int))), (68, .bool ((↑(Vs.getD i []).length : Int) != (↑v : Int)))] (by kernel_rfl) ?_
      refine wpList_nil ?_
      refine wp_cond_split (t := ((↑(Vs.getD i []).length : Int) != (↑v : Int))) (by kernel_rfl) (fun hh => absurd (hh.symm.trans (show (((↑(Vs.getD i []).length : Int) != (↑v : Int)) : Bool) = false from by rw [N.hw i (by omega)]; simp)) (by decide)) (fun _ => ?_)
      refine wp_skip ?_
      refine wp_region_lit ?_
      refine g_op (by kernel_rfl) (op_wrap .i64 ((↑i : Int) + 1) ((↑i : Int) + 1) (by kernel_rfl) (by first | exact IntWalk.i64_in _ (by omega) | (simp only [IntKind.wrap]; omega)) ?_)
      refine g_pv 1 [(47, .int .i64 ((↑i : Int) + 1))] (by kernel_rfl) ?_
      refine wpList_nil ?_
      refine g_nfr ⟨#[.agg #[.int .i64 t, .bool leaf, .slice ak n ck, .slice av n cv], .pointer (some ⟨b1, 0, none⟩), (x17 0), .int .i64 (↑v : Int), .int .i64 (↑i : Int), .int .i64 (K.getD i 0), .pointer (some ⟨b1, 0, none⟩), .int .i64 t, .pointer (some ⟨b1, 1, none⟩), .bool leaf, .int .i64 (↑v : Int), .int .i64 (↑v : Int), .bool false, .bool false, .pointer (some ⟨b1, 2, none⟩), .slice ak n ck, .int .i64 (↑n : Int), .pointer (some ⟨b1, 0, none⟩), .int .i64 t, .pointer (some ⟨b1, 1, none⟩), .bool leaf, .int .i64 (↑m : Int), .bool false, .bool false, .bool false, .pointer (some ⟨b1, 3, none⟩), .slice av n cv, .int .i64 (↑n : Int), .pointer (some ⟨b1, 2, none⟩), .slice ak n ck, .int .i64 (↑n : Int), .bool false, .bool false, .bool false, .pointer (some ⟨b1, 1, none⟩), .bool leaf, .bool false, .bool false, undef, undef, undef, undef, .bool false, .bool false, .pointer (some ⟨b1, 2, none⟩), .slice ak n ck, .int .i64 (↑n : Int), .int .i64 ((↑i : Int) + 1), .bool (decide ((↑i : Int) < (↑n : Int))), .int .i64 (↑i : Int), .pointer (some (elemAddr ak (i * 1))), .int .i64 (K.getD i 0), .pointer (some ⟨b1, 2, none⟩), .slice ak n ck, .int .i64 (↑i : Int), .slice ak i ck, .int .i64 (K.getD i 0), .int .i64 0, .bool false, .bool false, .pointer (some ⟨b1, 3, none⟩), .slice av n cv, .int .i64 (↑i : Int), .pointer (some (elemAddr av (i * 1))), .string ⟨(Vs.getD i []).toArray⟩, .int .i64 (↑(Vs.getD i []).length : Int), .int .i64 (↑v : Int), .bool ((↑(Vs.getD i []).length : Int) != (↑v : Int)), .bool ((↑(Vs.getD i []).length : Int) != (↑v : Int)), .int .i64 ((↑i : Int) + 1)], []⟩ (by kernel_rfl) ?_
      refine ⟨⟨i + 1, (pk [(x17 0), .int .i64 (↑i : Int), .int .i64 (K.getD i 0), .bool (decide ((↑i : Int) < (↑n : Int))), .int .i64 (↑i : Int), .pointer (some (elemAddr ak (i * 1))), .int .i64 (K.getD i 0), .pointer (some ⟨b1, 2, none⟩), .slice ak n ck, .int .i64 (↑i : Int), .slice ak i ck, .int .i64 (K.getD i 0), .int .i64 0, .bool false, .bool false, .pointer (some ⟨b1, 3, none⟩), .slice av n cv, .int .i64 (↑i : Int), .pointer (some (elemAddr av (i * 1))), .string ⟨(Vs.getD i []).toArray⟩, .int .i64 (↑(Vs.getD i []).length : Int), .int .i64 (↑v : Int), .bool ((↑(Vs.getD i []).length : Int) != (↑v : Int)), .bool ((↑(Vs.getD i []).length : Int) != (↑v : Int)), .int .i64 ((↑i : Int) + 1)]), rfl, hB, k17_b1, by omega⟩, ?_⟩
      show n - (((↑i : Int) + 1)).toNat < n - ((↑i : Int)).toNat
      omega
    · have hc18 := of_decide_eq_false hc18
      refine wp_exit ?_
      refine then_exit ?_
      refine then_exit ?_
      refine inBlock_hit ?_
      refine wp_seq ?_
      refine wp_region_lit ?_
      refine g_pv 1 [(2, .bool true)] (by kernel_rfl) ?_
      refine wpList_nil ?_
      refine wp_ret ?_
      exact g_ret (.bool true) (by kernel_rfl) (by kernel_rfl) ⟨rfl, hB⟩
end Go.Proofs.Ytoiblgeheblddaa

