/- The document's answer for layer 16: From and New. -/
import Derived.Test.YtbopakjiahojdaaGreatDoorRef16
namespace Go.Proofs.YtbopakjiahojdaaGreatDoor
open Go.RowKit Go.Extern.Stop Go.Stop Go.Extern
set_option linter.unusedVariables false
attribute [local irreducible] wpList wpAnyH Code.wp Oper.wp

def RFromP (bm K : Nat) (L : List Int) (w : World) (e : Ending) (w' : World) : Prop :=
  (fromE K L ≠ 0 ∧ e = .returned (.tuple #[.pointer none, .agg #[.slice none 0 0, .int .i64 (fromE K L)]]) ∧ Below w.heap.size w w') ∨
  (fromE K L = 0 ∧ ∃ bc pg cg, e = .returned (.tuple #[.pointer (some ⟨bc, 0, none⟩), .agg #[.slice none 0 0, .int .i64 0]]) ∧ Below w.heap.size w w' ∧ RAl w.heap.size bc bm pg L.length cg pg L.length cg 0 L w')
set_option maxRecDepth 100000 in
set_option maxHeartbeats 4000000 in
theorem ref_From (bm : Nat) (p : Option Addr) (K c : Nat) (aL : Option Addr) (cL : Nat) (L : List Int) (w : World) (hk : Blk w bm [.slice p K c] 77) (hK : K ≤ 14400) (h : Sl w (.slice aL L.length cL) L.length (L.map (Value.int .i64))) (hLn : L.length ≤ 1000000) :
    Calls Tryz.prog 24 #[.pointer (some ⟨bm, 0, none⟩), .slice aL L.length cL] w (RFromP bm K L w) := by
  refine calls_of_wp Tryz.func24 rfl ?_
  refine g_fr ⟨#[.pointer (some ⟨bm, 0, none⟩), .slice aL L.length cL, undef, undef, undef, undef, undef, undef, undef, undef, undef, undef, undef, undef, undef, undef, undef, undef, undef, undef, undef, undef, undef, undef, undef, undef, undef, undef, undef, undef, undef, undef, undef, undef, undef, undef, undef, undef, undef, undef, undef, undef, undef, undef, undef, undef, undef, undef, undef, undef, undef, undef, undef, undef, undef, undef], []⟩ (by kernel_rfl) ?_
  refine wp_seq ?_
  refine wp_region_lit ?_
  refine g_pv 1 [(4, .pointer none)] (by kernel_rfl) ?_
  refine g_op (by kernel_rfl) (op_alloc [.slice none 0 0, .int .i64 0] rfl (by kernel_rfl) ?_)
  intro b1 W1 n1
  have d1_bm := n1.ne hk
  have g1 := n1.ge (Below.refl w.heap.size _)
  have hB := n1.below
  replace hk := hk.below n1.below
  have k1 := n1.blk
  refine wpList_nil ?_
  refine wp_seq ?_
  refine wp_seq ?_
  refine wp_region_lit ?_
  refine g_pv 1 [(6, .int .i64 0)] (by kernel_rfl) ?_
  refine wpList_nil ?_
  refine wp_block ?_
  refine g_fr ⟨#[.pointer (some ⟨bm, 0, none⟩), .slice aL L.length cL, undef, undef, .pointer none, .pointer (some ⟨b1, 0, none⟩), .int .i64 0, undef, undef, undef, undef, undef, undef, undef, undef, undef, undef, undef, undef, undef, undef, undef, undef, undef, undef, undef, undef, undef, undef, undef, undef, undef, undef, undef, undef, undef, undef, undef, undef, undef, undef, undef, undef, undef, undef, undef, undef, undef, undef, undef, undef, undef, undef, undef, undef, undef], []⟩ (by kernel_rfl) ?_
  refine wp_loop (fun act V => ∃ (i : Nat) (x2 : Nat → Value), act = ⟨#[.pointer (some ⟨bm, 0, none⟩), .slice aL L.length cL, undef, undef, (x2 0), .pointer (some ⟨b1, 0, none⟩), .int .i64 (↑i : Int), undef, (x2 1), (x2 2), (x2 3), (x2 4), (x2 5), (x2 6), (x2 7), (x2 8), (x2 9), (x2 10), (x2 11), (x2 12), (x2 13), (x2 14), (x2 15), (x2 16), (x2 17), (x2 18), (x2 19), (x2 20), (x2 21), (x2 22), (x2 23), (x2 24), undef, undef, undef, undef, undef, undef, undef, undef, undef, undef, undef, undef, undef, undef, undef, undef, undef, undef, undef, undef, undef, undef, undef, undef], []⟩ ∧ Below w.heap.size w V ∧ Blk V bm ([.slice p K c]) 77 ∧ Blk V b1 ([.slice none 0 0, .int .i64 0]) 33 ∧ i ≤ L.length ∧ (∀ x, x < i → 1 ≤ L.getD x 0 ∧ L.getD x 0 < (K : Int))) (fun act V => L.length - ((intOf (act.tmps.getD 6 undef))).toNat) ⟨0, (pk [.pointer none, undef, undef, undef, undef, undef, undef, undef, undef, undef, undef, undef, undef, undef, undef, undef, undef, undef, undef, undef, undef, undef, undef, undef, undef]), rfl, hB, hk, k1, Nat.zero_le _, ?_⟩ ?_
  · exact fun x hx => absurd hx (by omega)
  rintro _ W2 ⟨i, x2, rfl, hB, k2_bm, k2_b1, hi, hz⟩
  refine wp_seq ?_
  refine wp_seq ?_
  refine wp_region_lit ?_
  refine g_pv 4 [(8, .int .i64 (↑i : Int)), (9, .slice aL L.length cL), (10, .int .i64 (↑L.length : Int)), (11, .bool (decide ((↑i : Int) < (↑L.length : Int))))] (by kernel_rfl) ?_
  refine wpList_nil ?_
  refine wp_cond_split (t := decide ((↑i : Int) < (↑L.length : Int))) (by kernel_rfl) (fun hc3 => ?_) (fun hc3 => ?_)
  · have hc3 := of_decide_eq_true hc3
    refine wp_skip ?_
    refine wp_seq ?_
    refine wp_block ?_
    refine wp_seq ?_
    replace hB := Bl.next hB (below_drew W2)
    replace k2_bm := k2_bm.below (below_drew W2)
    replace k2_b1 := k2_b1.below (below_drew W2)
    refine h_reg (Below (W2.drew).heap.size (W2.drew)) 17 rfl #[false, false, false, false, false, false, false, false, false, false, false, false, false, false, false, false, false] rfl (by kernel_rfl) (Below.refl _ _) ?_
    intro hS4
    have hBd6 := hB
    have kd6_bm := k2_bm
    have kd6_b1 := k2_b1
    refine h_pv [0, 1] 15 rfl #[true, true, false, false, false, false, false, false, false, false, false, false, false, false, false, false, false] [(14, .slice aL L.length cL), (15, .int .i64 (↑i : Int))] (by kernel_rfl) (fun _ _ _ _ _ h => h) (by kernel_rfl) hS4 ?_
    refine h_val 2 14 rfl (.pointer (some (elemAddr aL (i * 1)))) rfl (by kernel_rfl) (by kernel_rfl) (by kernel_rfl) (fun _ _ _ _ _ h => h) (by kernel_rfl) (fun V hV => run_indexA (size := 1) (k := i) (b := aL) (n := L.length) (c := cL) (i := (↑i : Int)) (ki := .i64) rfl (by kernel_rfl) (by kernel_rfl) rfl (by omega) (Ints.elem h (k := i) (by omega)).1 Tryz.underlying31 (by kernel_rfl) V) hS4 ?_
    refine h_load 3 13 rfl (elemAddr aL (i * 1)) (.int .i64 (L.getD i 0)) rfl (by kernel_rfl) (by kernel_rfl) (by kernel_rfl) (fun _ _ _ _ _ h => h) (by kernel_rfl) rfl (by kernel_rfl) (by kernel_rfl) (fun V hV => (Ints.elem ((h.below hBd6).below hV) (k := i) (by omega)).2) hS4 ?_
    refine h_pv [4, 5] 11 rfl #[true, true, true, true, true, true, false, false, false, false, false, false, false, false, false, false, false] [(18, .bool (decide ((L.getD i 0) < (1 : Int)))), (19, .bool (decide ((L.getD i 0) < (1 : Int))))] (by kernel_rfl) (fun _ _ _ _ _ h => h) (by kernel_rfl) hS4 ?_
    rcases Bool.eq_false_or_eq_true (decide ((L.getD i 0) < (1 : Int))) with hc7 | hc7
    · refine h_b [18, 19] _ _ hc7 (by kernel_rfl) ?_
      have hc7 := of_decide_eq_true hc7
      refine h_pv [6, 7, 8, 9, 10, 11, 12, 13, 14, 15, 16] 0 rfl #[true, true, true, true, true, true, true, true, true, true, true, true, true, true, true, true, true] [(20, undef), (21, undef), (22, undef), (23, undef), (24, undef), (25, undef), (26, undef), (27, undef), (28, undef), (29, undef), (30, .bool true)] (by kernel_rfl) (fun _ _ _ _ _ h => h) (by kernel_rfl) hS4 ?_
      refine h_done _ (by kernel_rfl) ?_
      refine wp_cond_true (by kernel_rfl) ?_
      refine wp_seq ?_
      refine wp_region_lit ?_
      refine g_pv 2 [(31, .agg #[.slice none 0 0, .int .i64 1]), (4, .pointer none)] (by kernel_rfl) ?_
      refine g_op (by kernel_rfl) (op_storev (b := b1) (off := 0) [.slice none 0 0, .int .i64 1] rfl (by kernel_rfl) (by kernel_rfl) (by kernel_rfl) (by first | decide | simp [Value.oneCell']) k2_b1 (by first | decide | simp) ?_)
      intro W8 u8 k8
      change Blk _ _ [.slice none 0 0, .int .i64 1] _ at k8
      replace hB := u8.below hB g1
      replace k2_bm := u8.blk k2_bm (Ne.symm (Ne.symm d1_bm))
      refine wpList_nil ?_
      refine wp_ret (inBlock_ret (then_ret (then_ret (inBlock_ret (then_ret ?_)))))
      refine g_ret (.tuple #[.pointer none, .agg #[.slice none 0 0, .int .i64 1]]) (by kernel_rfl) (res_tc (d := _) (cs := [.slice none 0 0, .int .i64 1]) rfl (by kernel_rfl) (by kernel_rfl) k8.whole Tryz.underlying33 rfl (by kernel_rfl)) ?_
      have he : fromE K L = 1 := by unfold fromE; rw [goodB_false (j := i) (by omega) (by omega)]; rfl
      exact .inl ⟨by rw [he]; decide, by rw [he], hB⟩
    · refine h_b [18, 19] _ _ hc7 (by kernel_rfl) ?_
      have hc7 := of_decide_eq_false hc7
      refine h_pv [6, 7] 9 rfl #[true, true, true, true, true, true, true, true, false, false, false, false, false, false, false, false, false] [(20, .slice aL L.length cL), (21, .int .i64 (↑i : Int))] (by kernel_rfl) (fun _ _ _ _ _ h => h) (by kernel_rfl) hS4 ?_
      refine h_val 8 8 rfl (.pointer (some (elemAddr aL (i * 1)))) rfl (by kernel_rfl) (by kernel_rfl) (by kernel_rfl) (fun _ _ _ _ _ h => h) (by kernel_rfl) (fun V hV => run_indexA (size := 1) (k := i) (b := aL) (n := L.length) (c := cL) (i := (↑i : Int)) (ki := .i64) rfl (by kernel_rfl) (by kernel_rfl) rfl (by omega) (Ints.elem h (k := i) (by omega)).1 Tryz.underlying31 (by kernel_rfl) V) hS4 ?_
      refine h_load 9 7 rfl (elemAddr aL (i * 1)) (.int .i64 (L.getD i 0)) rfl (by kernel_rfl) (by kernel_rfl) (by kernel_rfl) (fun _ _ _ _ _ h => h) (by kernel_rfl) rfl (by kernel_rfl) (by kernel_rfl) (fun V hV => (Ints.elem ((h.below hBd6).below hV) (k := i) (by omega)).2) hS4 ?_
      refine h_pv [10, 11, 12] 4 rfl #[true, true, true, true, true, true, true, true, true, true, true, true, true, false, false, false, false] [(24, .pointer (some ⟨bm, 0, none⟩)), (25, .pointer (some ⟨bm, 0, none⟩)), (26, .pointer (some ⟨bm, 0, none⟩))] (by kernel_rfl) (fun _ _ _ _ _ h => h) (by kernel_rfl) hS4 ?_
      refine h_load 13 3 rfl ⟨bm, 0, none⟩ (.slice p K c) rfl (by kernel_rfl) (by kernel_rfl) (by kernel_rfl) (fun _ _ _ _ _ h => h) (by kernel_rfl) rfl (by kernel_rfl) (by kernel_rfl) (fun V hV => ((k2_bm.below hV).cell (i := 0) rfl)) hS4 ?_
      refine h_pv [14, 15, 16] 0 rfl #[true, true, true, true, true, true, true, true, true, true, true, true, true, true, true, true, true] [(28, .int .i64 (↑K : Int)), (29, .bool (decide ((L.getD i 0) ≥ (↑K : Int)))), (30, .bool (decide ((L.getD i 0) ≥ (↑K : Int))))] (by kernel_rfl) (fun _ _ _ _ _ h => h) (by kernel_rfl) hS4 ?_
      refine h_done _ (by kernel_rfl) ?_
      refine wp_cond_split (t := decide ((L.getD i 0) ≥ (↑K : Int))) (by kernel_rfl) (fun hc9 => ?_) (fun hc9 => ?_)
      · have hc9 := of_decide_eq_true hc9
        refine wp_seq ?_
        refine wp_region_lit ?_
        refine g_pv 2 [(31, .agg #[.slice none 0 0, .int .i64 1]), (4, .pointer none)] (by kernel_rfl) ?_
        refine g_op (by kernel_rfl) (op_storev (b := b1) (off := 0) [.slice none 0 0, .int .i64 1] rfl (by kernel_rfl) (by kernel_rfl) (by kernel_rfl) (by first | decide | simp [Value.oneCell']) k2_b1 (by first | decide | simp) ?_)
        intro W10 u10 k10
        change Blk _ _ [.slice none 0 0, .int .i64 1] _ at k10
        replace hB := u10.below hB g1
        replace k2_bm := u10.blk k2_bm (Ne.symm (Ne.symm d1_bm))
        refine wpList_nil ?_
        refine wp_ret (inBlock_ret (then_ret (then_ret (inBlock_ret (then_ret ?_)))))
        refine g_ret (.tuple #[.pointer none, .agg #[.slice none 0 0, .int .i64 1]]) (by kernel_rfl) (res_tc (d := _) (cs := [.slice none 0 0, .int .i64 1]) rfl (by kernel_rfl) (by kernel_rfl) k10.whole Tryz.underlying33 rfl (by kernel_rfl)) ?_
        have he : fromE K L = 1 := by unfold fromE; rw [goodB_false (j := i) (by omega) (by omega)]; rfl
        exact .inl ⟨by rw [he]; decide, by rw [he], hB⟩
      · have hc9 := of_decide_eq_false hc9
        refine wp_skip ?_
        refine wp_region_lit ?_
        refine g_pv 1 [(12, .int .i64 (↑i : Int))] (by kernel_rfl) ?_
        refine g_op (by kernel_rfl) (op_wrap .i64 ((↑i : Int) + 1) (↑(i + 1) : Int) (by kernel_rfl) ((show IntKind.i64.wrap ((↑i : Int) + 1) = ((↑i : Int) + 1) from by first | exact IntWalk.i64_in _ (by omega) | (simp only [IntKind.wrap]; omega)).trans (by omega)) ?_)
        refine g_pv 1 [(6, .int .i64 (↑(i + 1) : Int))] (by kernel_rfl) ?_
        refine wpList_nil ?_
        refine g_nfr ⟨#[.pointer (some ⟨bm, 0, none⟩), .slice aL L.length cL, undef, undef, (x2 0), .pointer (some ⟨b1, 0, none⟩), .int .i64 (↑(i + 1) : Int), undef, .int .i64 (↑i : Int), .slice aL L.length cL, .int .i64 (↑L.length : Int), .bool (decide ((↑i : Int) < (↑L.length : Int))), .int .i64 (↑i : Int), .int .i64 (↑(i + 1) : Int), .slice aL L.length cL, .int .i64 (↑i : Int), .pointer (some (elemAddr aL (i * 1))), .int .i64 (L.getD i 0), .bool false, .bool false, .slice aL L.length cL, .int .i64 (↑i : Int), .pointer (some (elemAddr aL (i * 1))), .int .i64 (L.getD i 0), .pointer (some ⟨bm, 0, none⟩), .pointer (some ⟨bm, 0, none⟩), .pointer (some ⟨bm, 0, none⟩), .slice p K c, .int .i64 (↑K : Int), .bool (decide ((L.getD i 0) ≥ (↑K : Int))), .bool (decide ((L.getD i 0) ≥ (↑K : Int))), (x2 24), undef, undef, undef, undef, undef, undef, undef, undef, undef, undef, undef, undef, undef, undef, undef, undef, undef, undef, undef, undef, undef, undef, undef, undef], []⟩ (by kernel_rfl) ?_
        refine ⟨⟨i + 1, (pk [(x2 0), .int .i64 (↑i : Int), .slice aL L.length cL, .int .i64 (↑L.length : Int), .bool (decide ((↑i : Int) < (↑L.length : Int))), .int .i64 (↑i : Int), .int .i64 (↑(i + 1) : Int), .slice aL L.length cL, .int .i64 (↑i : Int), .pointer (some (elemAddr aL (i * 1))), .int .i64 (L.getD i 0), .bool false, .bool false, .slice aL L.length cL, .int .i64 (↑i : Int), .pointer (some (elemAddr aL (i * 1))), .int .i64 (L.getD i 0), .pointer (some ⟨bm, 0, none⟩), .pointer (some ⟨bm, 0, none⟩), .pointer (some ⟨bm, 0, none⟩), .slice p K c, .int .i64 (↑K : Int), .bool (decide ((L.getD i 0) ≥ (↑K : Int))), .bool (decide ((L.getD i 0) ≥ (↑K : Int))), (x2 24)]), rfl, hB, k2_bm, k2_b1, by omega, fun x hx => (Nat.lt_or_ge x i).elim (hz x) (fun q => by obtain rfl : x = i := (by omega); omega)⟩, ?_⟩
        show L.length - ((↑(i + 1) : Int)).toNat < L.length - ((↑i : Int)).toNat
        omega
  · have hc3 := of_decide_eq_false hc3
    refine wp_exit ?_
    refine then_exit ?_
    refine then_exit ?_
    refine inBlock_hit ?_
    refine wp_seq ?_
    refine wp_seq ?_
    refine wp_region_lit ?_
    refine g_pv 1 [(7, .int .i64 1)] (by kernel_rfl) ?_
    refine wpList_nil ?_
    refine wp_block ?_
    refine g_fr ⟨#[.pointer (some ⟨bm, 0, none⟩), .slice aL L.length cL, undef, undef, (x2 0), .pointer (some ⟨b1, 0, none⟩), .int .i64 (↑i : Int), .int .i64 1, .int .i64 (↑i : Int), .slice aL L.length cL, .int .i64 (↑L.length : Int), .bool (decide ((↑i : Int) < (↑L.length : Int))), (x2 5), (x2 6), (x2 7), (x2 8), (x2 9), (x2 10), (x2 11), (x2 12), (x2 13), (x2 14), (x2 15), (x2 16), (x2 17), (x2 18), (x2 19), (x2 20), (x2 21), (x2 22), (x2 23), (x2 24), undef, undef, undef, undef, undef, undef, undef, undef, undef, undef, undef, undef, undef, undef, undef, undef, undef, undef, undef, undef, undef, undef, undef, undef], []⟩ (by kernel_rfl) ?_
    refine wp_loop (fun act V => ∃ (j : Nat) (x11 : Nat → Value), act = ⟨#[.pointer (some ⟨bm, 0, none⟩), .slice aL L.length cL, undef, undef, (x11 0), .pointer (some ⟨b1, 0, none⟩), .int .i64 (↑i : Int), .int .i64 (↑j : Int), .int .i64 (↑i : Int), .slice aL L.length cL, .int .i64 (↑L.length : Int), .bool (decide ((↑i : Int) < (↑L.length : Int))), (x2 5), (x2 6), (x2 7), (x2 8), (x2 9), (x2 10), (x2 11), (x2 12), (x2 13), (x2 14), (x2 15), (x2 16), (x2 17), (x2 18), (x2 19), (x2 20), (x2 21), (x2 22), (x2 23), (x2 24), (x11 1), (x11 2), (x11 3), (x11 4), (x11 5), (x11 6), (x11 7), (x11 8), (x11 9), (x11 10), (x11 11), (x11 12), (x11 13), (x11 14), (x11 15), (x11 16), (x11 17), undef, undef, undef, undef, undef, undef, undef], []⟩ ∧ Below w.heap.size w V ∧ Blk V bm ([.slice p K c]) 77 ∧ Blk V b1 ([.slice none 0 0, .int .i64 0]) 33 ∧ 1 ≤ j ∧ j ≤ max 1 L.length ∧ (∀ x, x + 1 < j → L.getD x 0 < L.getD (x + 1) 0)) (fun act V => L.length - ((intOf (act.tmps.getD 7 undef))).toNat) ⟨1, (pk [(x2 0), undef, undef, undef, undef, undef, undef, undef, undef, undef, undef, undef, undef, undef, undef, undef, undef, undef]), rfl, hB, k2_bm, k2_b1, Nat.le_refl _, by omega, ?_⟩ ?_
    · exact fun x hx => absurd hx (by omega)
    rintro _ W11 ⟨j, x11, rfl, hB, k11_bm, k11_b1, hj0, hj, hz2⟩
    refine wp_seq ?_
    refine wp_seq ?_
    refine wp_region_lit ?_
    refine g_pv 4 [(32, .int .i64 (↑j : Int)), (33, .slice aL L.length cL), (34, .int .i64 (↑L.length : Int)), (35, .bool (decide ((↑j : Int) < (↑L.length : Int))))] (by kernel_rfl) ?_
    refine wpList_nil ?_
    refine wp_cond_split (t := decide ((↑j : Int) < (↑L.length : Int))) (by kernel_rfl) (fun hc12 => ?_) (fun hc12 => ?_)
    · have hc12 := of_decide_eq_true hc12
      refine wp_skip ?_
      refine wp_seq ?_
      refine wp_block ?_
      refine wp_seq ?_
      replace hB := Bl.next hB (below_drew W11)
      replace k11_bm := k11_bm.below (below_drew W11)
      replace k11_b1 := k11_b1.below (below_drew W11)
      refine h_reg (Below (W11.drew).heap.size (W11.drew)) 10 rfl #[false, false, false, false, false, false, false, false, false, false] rfl (by kernel_rfl) (Below.refl _ _) ?_
      intro hS13
      have hBd15 := hB
      have kd15_bm := k11_bm
      have kd15_b1 := k11_b1
      refine h_pv [0, 1] 8 rfl #[true, true, false, false, false, false, false, false, false, false] [(38, .slice aL L.length cL), (39, .int .i64 (↑j : Int))] (by kernel_rfl) (fun _ _ _ _ _ h => h) (by kernel_rfl) hS13 ?_
      refine h_val 2 7 rfl (.pointer (some (elemAddr aL (j * 1)))) rfl (by kernel_rfl) (by kernel_rfl) (by kernel_rfl) (fun _ _ _ _ _ h => h) (by kernel_rfl) (fun V hV => run_indexA (size := 1) (k := j) (b := aL) (n := L.length) (c := cL) (i := (↑j : Int)) (ki := .i64) rfl (by kernel_rfl) (by kernel_rfl) rfl (by omega) (Ints.elem h (k := j) (by omega)).1 Tryz.underlying31 (by kernel_rfl) V) hS13 ?_
      refine h_load 3 6 rfl (elemAddr aL (j * 1)) (.int .i64 (L.getD j 0)) rfl (by kernel_rfl) (by kernel_rfl) (by kernel_rfl) (fun _ _ _ _ _ h => h) (by kernel_rfl) rfl (by kernel_rfl) (by kernel_rfl) (fun V hV => (Ints.elem ((h.below hBd15).below hV) (k := j) (by omega)).2) hS13 ?_
      refine h_pv [4, 5] 4 rfl #[true, true, true, true, true, true, false, false, false, false] [(42, .slice aL L.length cL), (43, .int .i64 (↑j : Int))] (by kernel_rfl) (fun _ _ _ _ _ h => h) (by kernel_rfl) hS13 ?_
      refine h_val 6 3 rfl (.int .i64 (↑(j - 1) : Int)) rfl (by kernel_rfl) (by kernel_rfl) (by kernel_rfl) (fun _ _ _ _ _ h => h) (by kernel_rfl) (fun V hV => run_wrap .i64 ((↑j : Int) - 1) (↑(j - 1) : Int) (by kernel_rfl) ((show IntKind.i64.wrap ((↑j : Int) - 1) = ((↑j : Int) - 1) from by first | exact IntWalk.i64_in _ (by omega) | (simp only [IntKind.wrap]; omega)).trans (by omega)) V) hS13 ?_
      refine h_val 7 2 rfl (.pointer (some (elemAddr aL ((j - 1) * 1)))) rfl (by kernel_rfl) (by kernel_rfl) (by kernel_rfl) (fun _ _ _ _ _ h => h) (by kernel_rfl) (fun V hV => run_indexA (size := 1) (k := (j - 1)) (b := aL) (n := L.length) (c := cL) (i := (↑(j - 1) : Int)) (ki := .i64) rfl (by kernel_rfl) (by kernel_rfl) rfl (by omega) (Ints.elem h (k := (j - 1)) (by omega)).1 Tryz.underlying31 (by kernel_rfl) V) hS13 ?_
      refine h_load 8 1 rfl (elemAddr aL ((j - 1) * 1)) (.int .i64 (L.getD (j - 1) 0)) rfl (by kernel_rfl) (by kernel_rfl) (by kernel_rfl) (fun _ _ _ _ _ h => h) (by kernel_rfl) rfl (by kernel_rfl) (by kernel_rfl) (fun V hV => (Ints.elem ((h.below hBd15).below hV) (k := (j - 1)) (by omega)).2) hS13 ?_
      refine h_pv [9] 0 rfl #[true, true, true, true, true, true, true, true, true, true] [(47, .bool (decide ((L.getD j 0) ≤ (L.getD (j - 1) 0))))] (by kernel_rfl) (fun _ _ _ _ _ h => h) (by kernel_rfl) hS13 ?_
      refine h_done _ (by kernel_rfl) ?_
      refine wp_cond_split (t := decide ((L.getD j 0) ≤ (L.getD (j - 1) 0))) (by kernel_rfl) (fun hc16 => ?_) (fun hc16 => ?_)
      · have hc16 := of_decide_eq_true hc16
        refine wp_seq ?_
        refine wp_region_lit ?_
        refine g_pv 2 [(48, .agg #[.slice none 0 0, .int .i64 8]), (4, .pointer none)] (by kernel_rfl) ?_
        refine g_op (by kernel_rfl) (op_storev (b := b1) (off := 0) [.slice none 0 0, .int .i64 8] rfl (by kernel_rfl) (by kernel_rfl) (by kernel_rfl) (by first | decide | simp [Value.oneCell']) k11_b1 (by first | decide | simp) ?_)
        intro W17 u17 k17
        change Blk _ _ [.slice none 0 0, .int .i64 8] _ at k17
        replace hB := u17.below hB g1
        replace k11_bm := u17.blk k11_bm (Ne.symm (Ne.symm d1_bm))
        refine wpList_nil ?_
        refine wp_ret (inBlock_ret (then_ret (then_ret (inBlock_ret (then_ret ?_)))))
        refine g_ret (.tuple #[.pointer none, .agg #[.slice none 0 0, .int .i64 8]]) (by kernel_rfl) (res_tc (d := _) (cs := [.slice none 0 0, .int .i64 8]) rfl (by kernel_rfl) (by kernel_rfl) k17.whole Tryz.underlying33 rfl (by kernel_rfl)) ?_
        have hgd : goodB K L = true := goodB_true fun x hx => hz x (by omega)
        have he : fromE K L = 8 := by unfold fromE; rw [if_pos hgd, riseB_false (j := j - 1) (by omega) (by rw [show j - 1 + 1 = j by omega]; omega)]; rfl
        exact .inl ⟨by rw [he]; decide, by rw [he], hB⟩
      · have hc16 := of_decide_eq_false hc16
        refine wp_skip ?_
        refine wp_region_lit ?_
        refine g_pv 1 [(36, .int .i64 (↑j : Int))] (by kernel_rfl) ?_
        refine g_op (by kernel_rfl) (op_wrap .i64 ((↑j : Int) + 1) (↑(j + 1) : Int) (by kernel_rfl) ((show IntKind.i64.wrap ((↑j : Int) + 1) = ((↑j : Int) + 1) from by first | exact IntWalk.i64_in _ (by omega) | (simp only [IntKind.wrap]; omega)).trans (by omega)) ?_)
        refine g_pv 1 [(7, .int .i64 (↑(j + 1) : Int))] (by kernel_rfl) ?_
        refine wpList_nil ?_
        refine g_nfr ⟨#[.pointer (some ⟨bm, 0, none⟩), .slice aL L.length cL, undef, undef, (x11 0), .pointer (some ⟨b1, 0, none⟩), .int .i64 (↑i : Int), .int .i64 (↑(j + 1) : Int), .int .i64 (↑i : Int), .slice aL L.length cL, .int .i64 (↑L.length : Int), .bool (decide ((↑i : Int) < (↑L.length : Int))), (x2 5), (x2 6), (x2 7), (x2 8), (x2 9), (x2 10), (x2 11), (x2 12), (x2 13), (x2 14), (x2 15), (x2 16), (x2 17), (x2 18), (x2 19), (x2 20), (x2 21), (x2 22), (x2 23), (x2 24), .int .i64 (↑j : Int), .slice aL L.length cL, .int .i64 (↑L.length : Int), .bool (decide ((↑j : Int) < (↑L.length : Int))), .int .i64 (↑j : Int), .int .i64 (↑(j + 1) : Int), .slice aL L.length cL, .int .i64 (↑j : Int), .pointer (some (elemAddr aL (j * 1))), .int .i64 (L.getD j 0), .slice aL L.length cL, .int .i64 (↑j : Int), .int .i64 (↑(j - 1) : Int), .pointer (some (elemAddr aL ((j - 1) * 1))), .int .i64 (L.getD (j - 1) 0), .bool (decide ((L.getD j 0) ≤ (L.getD (j - 1) 0))), (x11 17), undef, undef, undef, undef, undef, undef, undef], []⟩ (by kernel_rfl) ?_
        refine ⟨⟨j + 1, (pk [(x11 0), .int .i64 (↑j : Int), .slice aL L.length cL, .int .i64 (↑L.length : Int), .bool (decide ((↑j : Int) < (↑L.length : Int))), .int .i64 (↑j : Int), .int .i64 (↑(j + 1) : Int), .slice aL L.length cL, .int .i64 (↑j : Int), .pointer (some (elemAddr aL (j * 1))), .int .i64 (L.getD j 0), .slice aL L.length cL, .int .i64 (↑j : Int), .int .i64 (↑(j - 1) : Int), .pointer (some (elemAddr aL ((j - 1) * 1))), .int .i64 (L.getD (j - 1) 0), .bool (decide ((L.getD j 0) ≤ (L.getD (j - 1) 0))), (x11 17)]), rfl, hB, k11_bm, k11_b1, by omega, by omega, fun x hx => (Nat.lt_or_ge (x + 1) j).elim (hz2 x) (fun q => by obtain rfl : j = x + 1 := (by omega); rw [Nat.add_sub_cancel] at *; omega)⟩, ?_⟩
        show L.length - ((↑(j + 1) : Int)).toNat < L.length - ((↑j : Int)).toNat
        omega
    · have hc12 := of_decide_eq_false hc12
      refine wp_exit ?_
      refine then_exit ?_
      refine then_exit ?_
      refine inBlock_hit ?_
      refine wp_seq ?_
      refine wp_region_lit ?_
      refine g_pv 1 [(49, .pointer (some ⟨bm, 0, none⟩))] (by kernel_rfl) ?_
      refine g_op (by kernel_rfl) (op_buildSlice0 rfl Tryz.underlying31 (by kernel_rfl) ?_)
      intro b18 W18 n18
      have d18_bm := n18.ne k11_bm
      have d18_b1 := n18.ne k11_b1
      have g18 := n18.ge hB
      replace hB := Bl.next hB n18.below
      replace k11_bm := k11_bm.below n18.below
      replace k11_b1 := k11_b1.below n18.below
      have k18 := n18.blk
      have o19 := own_of_blk (size := 1) (n := 0) k18 g18 rfl (by decide)
      refine g_pv 1 [(51, .slice aL L.length cL)] (by kernel_rfl) ?_
      refine g_op (by kernel_rfl) (op_app (e := 3) (n := 0) (xs := []) (m := L.length) (news := L.map (Value.int .i64)) (.int .i64 0) 1 8 (L.length) (L.map (Value.int .i64)) rfl Tryz.underlying31 (by kernel_rfl) rfl (by decide) (by kernel_rfl) o19 (by kernel_rfl) (h.below hB) (by simp) (ints_one L) (by unfold maxLen; omega) (by omega) hB.size (by omega) (by rfl) ?_)
      intro p20 c20 W20 o20 hg20 hb20
      replace k11_bm := k11_bm.grown hg20 o19 (by decide)
      replace k11_b1 := k11_b1.grown hg20 o19 (by decide)
      replace hB := hB.trans hb20
      refine g_pv 1 [(53, .agg #[.pointer (some ⟨bm, 0, none⟩), .slice p20 L.length c20, .int .i64 0])] (by kernel_rfl) ?_
      refine g_op (by kernel_rfl) (op_box [.pointer (some ⟨bm, 0, none⟩), .slice p20 L.length c20, .int .i64 0] rfl (by kernel_rfl) ?_)
      intro b21 W21 n21
      have d21_bm := n21.ne k11_bm
      have d21_b1 := n21.ne k11_b1
      have g21 := n21.ge hB
      replace hB := Bl.next hB n21.below
      replace k11_bm := k11_bm.below n21.below
      replace k11_b1 := k11_b1.below n21.below
      replace o20 := own_below o20 n21.below
      have k21 := n21.blk
      refine g_pv 2 [(55, .agg #[.slice none 0 0, .int .i64 0]), (4, .pointer (some ⟨b21, 0, none⟩))] (by kernel_rfl) ?_
      refine g_op (by kernel_rfl) (op_storev (b := b1) (off := 0) [.slice none 0 0, .int .i64 0] rfl (by kernel_rfl) (by kernel_rfl) (by kernel_rfl) (by first | decide | simp [Value.oneCell']) k11_b1 (by first | decide | simp) ?_)
      intro W22 u22 k22
      change Blk _ _ [.slice none 0 0, .int .i64 0] _ at k22
      replace hB := u22.below hB g1
      replace k11_bm := u22.blk k11_bm (Ne.symm (Ne.symm d1_bm))
      replace k21 := u22.blk k21 (Ne.symm d21_b1)
      replace o20 := u22.own2 o20 k11_b1 (by decide)
      refine wpList_nil ?_
      refine wp_ret ?_
      refine g_ret (.tuple #[.pointer (some ⟨b21, 0, none⟩), .agg #[.slice none 0 0, .int .i64 0]]) (by kernel_rfl) (res_tc (d := _) (cs := [.slice none 0 0, .int .i64 0]) rfl (by kernel_rfl) (by kernel_rfl) k22.whole Tryz.underlying33 rfl (by kernel_rfl)) ?_
      have hgd : goodB K L = true := goodB_true fun x hx => hz x (by omega)
      exact .inr ⟨by unfold fromE; rw [if_pos hgd, if_pos (riseB_true fun x hx => hz2 x (by omega))], _, _, _, rfl, hB, k21, o20, fun hp => by obtain ⟨g, rfl, _⟩ := own_someN o20 hp; exact ⟨(cutA_zero g _).symm, rfl⟩, rfl, rfl, g21, hLn⟩
set_option maxRecDepth 100000 in
set_option maxHeartbeats 1000000 in
theorem ref_New_bad (bm : Nat) (p : Option Addr) (K c : Nat) (f : Int) (w : World) (hk : Blk w bm [.slice p K c] 77) (hf : ¬ (1 ≤ f ∧ f ≤ (K : Int))) :
    Calls Tryz.prog 10 #[.pointer (some ⟨bm, 0, none⟩), .int .i64 f] w (Ret (.tuple #[.pointer none, .agg #[.slice none 0 0, .int .i64 1]]) w) := by
  refine calls_of_wp Tryz.func10 rfl ?_
  refine g_fr ⟨#[.pointer (some ⟨bm, 0, none⟩), .int .i64 f, undef, undef, undef, undef, undef, undef, undef, undef, undef, undef, undef, undef, undef, undef, undef, undef, undef, undef, undef, undef, undef, undef, undef, undef, undef, undef, undef, undef, undef, undef, undef, undef, undef, undef, undef, undef, undef], []⟩ (by kernel_rfl) ?_
  refine wp_seq ?_
  refine wp_region_lit ?_
  refine g_pv 1 [(4, .pointer none)] (by kernel_rfl) ?_
  refine g_op (by kernel_rfl) (op_alloc [.slice none 0 0, .int .i64 0] rfl (by kernel_rfl) ?_)
  intro b1 W1 n1
  have d1_bm := n1.ne hk
  have g1 := n1.ge (Below.refl w.heap.size _)
  have hB := n1.below
  replace hk := hk.below n1.below
  have k1 := n1.blk
  refine wpList_nil ?_
  refine wp_seq ?_
  refine wp_seq ?_
  refine wp_region_lit ?_
  refine g_pv 3 [(8, .int .i64 f), (9, .bool (decide (f < (1 : Int)))), (10, .bool (decide (f < (1 : Int))))] (by kernel_rfl) ?_
  rcases Bool.eq_false_or_eq_true (decide (f < (1 : Int))) with hc2 | hc2
  · refine g_b [9, 10] _ _ hc2 (by kernel_rfl) ?_
    have hc2 := of_decide_eq_true hc2
    refine g_pv 8 [(11, undef), (12, undef), (13, undef), (14, undef), (15, undef), (16, undef), (17, undef), (18, .bool true)] (by kernel_rfl) ?_
    refine wpList_nil ?_
    refine wp_cond_true (by kernel_rfl) ?_
    refine wp_seq ?_
    refine wp_region_lit ?_
    refine g_pv 2 [(19, .agg #[.slice none 0 0, .int .i64 1]), (4, .pointer none)] (by kernel_rfl) ?_
    refine g_op (by kernel_rfl) (op_storev (b := b1) (off := 0) [.slice none 0 0, .int .i64 1] rfl (by kernel_rfl) (by kernel_rfl) (by kernel_rfl) (by first | decide | simp [Value.oneCell']) k1 (by first | decide | simp) ?_)
    intro W3 u3 k3
    change Blk _ _ [.slice none 0 0, .int .i64 1] _ at k3
    replace hB := u3.below hB g1
    replace hk := u3.blk hk (Ne.symm (Ne.symm d1_bm))
    refine wpList_nil ?_
    refine wp_ret (then_ret ?_)
    exact g_ret (.tuple #[.pointer none, .agg #[.slice none 0 0, .int .i64 1]]) (by kernel_rfl) (res_tc (d := _) (cs := [.slice none 0 0, .int .i64 1]) rfl (by kernel_rfl) (by kernel_rfl) k3.whole Tryz.underlying33 rfl (by kernel_rfl)) ⟨rfl, hB⟩
  · refine g_b [9, 10] _ _ hc2 (by kernel_rfl) ?_
    have hc2 := of_decide_eq_false hc2
    refine g_pv 4 [(11, .int .i64 f), (12, .pointer (some ⟨bm, 0, none⟩)), (13, .pointer (some ⟨bm, 0, none⟩)), (14, .pointer (some ⟨bm, 0, none⟩))] (by kernel_rfl) ?_
    refine g_op (by kernel_rfl) (op_load ⟨bm, 0, none⟩ (.slice p K c) rfl (by kernel_rfl) (by kernel_rfl) (hk.cell (i := 0) rfl) ?_)
    refine g_pv 3 [(16, .int .i64 (↑K : Int)), (17, .bool (decide (f > (↑K : Int)))), (18, .bool (decide (f > (↑K : Int))))] (by kernel_rfl) ?_
    refine wpList_nil ?_
    refine wp_cond_split (t := decide (f > (↑K : Int))) (by kernel_rfl) (fun _ => ?_) (fun hh => absurd (hh.symm.trans (show (decide (f > (↑K : Int)) : Bool) = true from decide_eq_true (by omega))) (by decide))
    refine wp_seq ?_
    refine wp_region_lit ?_
    refine g_pv 2 [(19, .agg #[.slice none 0 0, .int .i64 1]), (4, .pointer none)] (by kernel_rfl) ?_
    refine g_op (by kernel_rfl) (op_storev (b := b1) (off := 0) [.slice none 0 0, .int .i64 1] rfl (by kernel_rfl) (by kernel_rfl) (by kernel_rfl) (by first | decide | simp [Value.oneCell']) k1 (by first | decide | simp) ?_)
    intro W5 u5 k5
    change Blk _ _ [.slice none 0 0, .int .i64 1] _ at k5
    replace hB := u5.below hB g1
    replace hk := u5.blk hk (Ne.symm (Ne.symm d1_bm))
    refine wpList_nil ?_
    refine wp_ret (then_ret ?_)
    exact g_ret (.tuple #[.pointer none, .agg #[.slice none 0 0, .int .i64 1]]) (by kernel_rfl) (res_tc (d := _) (cs := [.slice none 0 0, .int .i64 1]) rfl (by kernel_rfl) (by kernel_rfl) k5.whole Tryz.underlying33 rfl (by kernel_rfl)) ⟨rfl, hB⟩
theorem rng_good {f K : Nat} (h1 : 1 ≤ f) (h2 : f ≤ K) : goodB K (rngJ f (K - f)) = true := goodB_true fun j hj => by rw [rngJ_len] at hj; rw [rngJ_get hj]; omega
theorem rng_rise (f N : Nat) : riseB (rngJ f N) = true := riseB_true fun j hj => by rw [rngJ_len] at hj; rw [rngJ_get (by omega), rngJ_get hj]; omega
theorem rng_from {f K : Nat} (h1 : 1 ≤ f) (h2 : f ≤ K) : fromE K (rngJ f (K - f)) = 0 := by unfold fromE; rw [if_pos (rng_good h1 h2), if_pos (rng_rise f _)]
def RNewP (bm f K : Nat) (w : World) (e : Ending) (w' : World) : Prop :=
  ∃ bc pg cg, e = .returned (.tuple #[.pointer (some ⟨bc, 0, none⟩), .agg #[.slice none 0 0, .int .i64 0]]) ∧ Below w.heap.size w w' ∧ RAl w.heap.size bc bm pg (K - f) cg pg (K - f) cg 0 (rngJ f (K - f)) w'
theorem ref_From_rng (bm : Nat) (p : Option Addr) (f K c N : Nat) (aL : Option Addr) (cL : Nat) (w : World) (hk : Blk w bm [.slice p K c] 77) (hK : K ≤ 14400) (h1 : 1 ≤ f) (h2 : f ≤ K) (hN : K - f = N) (h : Sl w (.slice aL N cL) N ((rngJ f N).map (Value.int .i64))) :
    Calls Tryz.prog 24 #[.pointer (some ⟨bm, 0, none⟩), .slice aL N cL] w (RNewP bm f K w) := by
  subst hN
  have e := rngJ_len f (K - f)
  have h' : Sl w (.slice aL (rngJ f (K - f)).length cL) (rngJ f (K - f)).length ((rngJ f (K - f)).map (Value.int .i64)) := by rw [e]; exact h
  have hc := ref_From bm p K c aL cL (rngJ f (K - f)) w hk hK h' (by rw [e]; omega)
  rw [e] at hc
  refine hc.mono ?_
  rintro q W (⟨h0, _⟩ | ⟨_, bc, pg, cg, rfl, hb, hA⟩)
  · exact absurd (rng_from h1 h2) h0
  · rw [e] at hA
    exact ⟨bc, pg, cg, rfl, hb, hA⟩
set_option maxRecDepth 100000 in
set_option maxHeartbeats 2000000 in
theorem ref_New (bm : Nat) (p : Option Addr) (f K c : Nat) (w : World) (hk : Blk w bm [.slice p K c] 77) (hK : K ≤ 14400) (h1 : 1 ≤ f) (h2 : f ≤ K) :
    Calls Tryz.prog 10 #[.pointer (some ⟨bm, 0, none⟩), .int .i64 (↑f : Int)] w (RNewP bm f K w) := by
  refine calls_of_wp Tryz.func10 rfl ?_
  refine g_fr ⟨#[.pointer (some ⟨bm, 0, none⟩), .int .i64 (↑f : Int), undef, undef, undef, undef, undef, undef, undef, undef, undef, undef, undef, undef, undef, undef, undef, undef, undef, undef, undef, undef, undef, undef, undef, undef, undef, undef, undef, undef, undef, undef, undef, undef, undef, undef, undef, undef, undef], []⟩ (by kernel_rfl) ?_
  refine wp_seq ?_
  refine wp_region_lit ?_
  refine g_pv 1 [(4, .pointer none)] (by kernel_rfl) ?_
  refine g_op (by kernel_rfl) (op_alloc [.slice none 0 0, .int .i64 0] rfl (by kernel_rfl) ?_)
  intro b1 W1 n1
  have d1_bm := n1.ne hk
  have g1 := n1.ge (Below.refl w.heap.size _)
  have hB := n1.below
  replace hk := hk.below n1.below
  have k1 := n1.blk
  refine wpList_nil ?_
  refine wp_seq ?_
  refine wp_seq ?_
  refine wp_region_lit ?_
  refine g_pv 3 [(8, .int .i64 (↑f : Int)), (9, .bool (decide ((↑f : Int) < (1 : Int)))), (10, .bool (decide ((↑f : Int) < (1 : Int))))] (by kernel_rfl) ?_
  have hc2 : (decide ((↑f : Int) < (1 : Int)) : Bool) = false := decide_eq_false (by omega)
  refine g_b [9, 10] _ _ hc2 (by kernel_rfl) ?_
  refine g_pv 4 [(11, .int .i64 (↑f : Int)), (12, .pointer (some ⟨bm, 0, none⟩)), (13, .pointer (some ⟨bm, 0, none⟩)), (14, .pointer (some ⟨bm, 0, none⟩))] (by kernel_rfl) ?_
  refine g_op (by kernel_rfl) (op_load ⟨bm, 0, none⟩ (.slice p K c) rfl (by kernel_rfl) (by kernel_rfl) (hk.cell (i := 0) rfl) ?_)
  refine g_pv 3 [(16, .int .i64 (↑K : Int)), (17, .bool (decide ((↑f : Int) > (↑K : Int)))), (18, .bool (decide ((↑f : Int) > (↑K : Int))))] (by kernel_rfl) ?_
  refine wpList_nil ?_
  refine wp_cond_split (t := decide ((↑f : Int) > (↑K : Int))) (by kernel_rfl) (fun hh => absurd (hh.symm.trans (show (decide ((↑f : Int) > (↑K : Int)) : Bool) = false from decide_eq_false (by omega))) (by decide)) (fun _ => ?_)
  refine wp_skip ?_
  refine wp_seq ?_
  refine wp_region_lit ?_
  refine g_pv 1 [(6, .slice none 0 0)] (by kernel_rfl) ?_
  refine wpList_nil ?_
  refine wp_seq ?_
  refine wp_seq ?_
  refine wp_region_lit ?_
  refine g_pv 2 [(20, .int .i64 (↑f : Int)), (7, .int .i64 (↑f : Int))] (by kernel_rfl) ?_
  refine wpList_nil ?_
  refine wp_block ?_
  refine g_fr ⟨#[.pointer (some ⟨bm, 0, none⟩), .int .i64 (↑f : Int), undef, undef, .pointer none, .pointer (some ⟨b1, 0, none⟩), .slice none 0 0, .int .i64 (↑f : Int), .int .i64 (↑f : Int), .bool false, .bool false, .int .i64 (↑f : Int), .pointer (some ⟨bm, 0, none⟩), .pointer (some ⟨bm, 0, none⟩), .pointer (some ⟨bm, 0, none⟩), .slice p K c, .int .i64 (↑K : Int), .bool (decide ((↑f : Int) > (↑K : Int))), .bool (decide ((↑f : Int) > (↑K : Int))), undef, .int .i64 (↑f : Int), undef, undef, undef, undef, undef, undef, undef, undef, undef, undef, undef, undef, undef, undef, undef, undef, undef, undef], []⟩ (by kernel_rfl) ?_
  refine wp_loop (fun act V => ∃ (j : Nat) (pl : Option Addr) (cl : Nat) (x4 : Nat → Value), act = ⟨#[.pointer (some ⟨bm, 0, none⟩), .int .i64 (↑f : Int), undef, undef, .pointer none, .pointer (some ⟨b1, 0, none⟩), .slice pl j cl, .int .i64 (↑(f + j) : Int), .int .i64 (↑f : Int), .bool false, .bool false, .int .i64 (↑f : Int), .pointer (some ⟨bm, 0, none⟩), .pointer (some ⟨bm, 0, none⟩), .pointer (some ⟨bm, 0, none⟩), .slice p K c, .int .i64 (↑K : Int), .bool (decide ((↑f : Int) > (↑K : Int))), .bool (decide ((↑f : Int) > (↑K : Int))), undef, .int .i64 (↑f : Int), (x4 0), (x4 1), (x4 2), (x4 3), (x4 4), (x4 5), (x4 6), (x4 7), (x4 8), (x4 9), (x4 10), (x4 11), (x4 12), undef, undef, undef, undef, undef], []⟩ ∧ Below w.heap.size w V ∧ Blk V bm ([.slice p K c]) 77 ∧ Blk V b1 ([.slice none 0 0, .int .i64 0]) 33 ∧ V.ownsRow w.heap.size 3 1 (.slice pl j cl) j ((rngJ f j).map (Value.int .i64)) ∧ f + j ≤ K) (fun act V => K - ((intOf (act.tmps.getD 7 undef))).toNat) ⟨0, _, _, (pk [undef, undef, undef, undef, undef, undef, undef, undef, undef, undef, undef, undef, undef]), rfl, hB, hk, k1, World.ownsRow_nil _ _ _ _, by omega⟩ ?_
  rintro _ W4 ⟨j, pl, cl, x4, rfl, hB, k4_bm, k4_b1, ho, hj⟩
  refine wp_seq ?_
  refine wp_seq ?_
  refine wp_region_lit ?_
  refine g_pv 4 [(21, .int .i64 (↑(f + j) : Int)), (22, .pointer (some ⟨bm, 0, none⟩)), (23, .pointer (some ⟨bm, 0, none⟩)), (24, .pointer (some ⟨bm, 0, none⟩))] (by kernel_rfl) ?_
  refine g_op (by kernel_rfl) (op_load ⟨bm, 0, none⟩ (.slice p K c) rfl (by kernel_rfl) (by kernel_rfl) (k4_bm.cell (i := 0) rfl) ?_)
  refine g_pv 2 [(26, .int .i64 (↑K : Int)), (27, .bool (decide ((↑(f + j) : Int) < (↑K : Int))))] (by kernel_rfl) ?_
  refine wpList_nil ?_
  refine wp_cond_split (t := decide ((↑(f + j) : Int) < (↑K : Int))) (by kernel_rfl) (fun hc5 => ?_) (fun hc5 => ?_)
  · have hc5 := of_decide_eq_true hc5
    refine wp_skip ?_
    refine wp_seq ?_
    refine wp_block ?_
    refine wp_region_lit ?_
    refine g_pv 2 [(30, .slice pl j cl), (31, .int .i64 (↑(f + j) : Int))] (by kernel_rfl) ?_
    refine g_op (by kernel_rfl) (op_buildSlice 3 [.int .i64 (↑(f + j) : Int)] rfl (by kernel_rfl) ?_)
    intro b6 W6 n6
    have d6_bm := n6.ne k4_bm
    have d6_b1 := n6.ne k4_b1
    have g6 := n6.ge hB
    have r6_ho := own_ne ho n6
    replace hB := Bl.next hB n6.below
    replace k4_bm := k4_bm.below n6.below
    replace k4_b1 := k4_b1.below n6.below
    replace ho := own_below ho n6.below
    have k6 := n6.blk
    refine g_op (by kernel_rfl) (op_app (e := 3) (n := j) (xs := (rngJ f j).map (Value.int .i64)) (m := 1) (news := [.int .i64 (↑(f + j) : Int)]) (.int .i64 0) 1 8 (j + 1) ((rngJ f (j + 1)).map (Value.int .i64)) rfl Tryz.underlying31 (by kernel_rfl) rfl (by decide) (by kernel_rfl) ho (by kernel_rfl) (k6.sl 1 1 (by decide) (by decide)) rfl (by simp [Value.oneCell']) (by unfold maxLen; omega) (by omega) hB.size (by rfl) (by rw [rngJ_succ]; simp) ?_)
    intro p7 c7 W7 o7 hg7 hb7
    replace k4_bm := k4_bm.grown hg7 ho (by decide)
    replace k4_b1 := k4_b1.grown hg7 ho (by decide)
    replace hB := hB.trans hb7
    refine g_pv 1 [(6, .slice p7 (j + 1) c7)] (by kernel_rfl) ?_
    refine wpList_nil ?_
    refine wp_region_lit ?_
    refine g_pv 1 [(28, .int .i64 (↑(f + j) : Int))] (by kernel_rfl) ?_
    refine g_op (by kernel_rfl) (op_wrap .i64 ((↑(f + j) : Int) + 1) (↑((f + j) + 1) : Int) (by kernel_rfl) ((show IntKind.i64.wrap ((↑(f + j) : Int) + 1) = ((↑(f + j) : Int) + 1) from by first | exact IntWalk.i64_in _ (by omega) | (simp only [IntKind.wrap]; omega)).trans (by omega)) ?_)
    refine g_pv 1 [(7, .int .i64 (↑((f + j) + 1) : Int))] (by kernel_rfl) ?_
    refine wpList_nil ?_
    refine g_nfr ⟨#[.pointer (some ⟨bm, 0, none⟩), .int .i64 (↑f : Int), undef, undef, .pointer none, .pointer (some ⟨b1, 0, none⟩), .slice p7 (j + 1) c7, .int .i64 (↑((f + j) + 1) : Int), .int .i64 (↑f : Int), .bool false, .bool false, .int .i64 (↑f : Int), .pointer (some ⟨bm, 0, none⟩), .pointer (some ⟨bm, 0, none⟩), .pointer (some ⟨bm, 0, none⟩), .slice p K c, .int .i64 (↑K : Int), .bool (decide ((↑f : Int) > (↑K : Int))), .bool (decide ((↑f : Int) > (↑K : Int))), undef, .int .i64 (↑f : Int), .int .i64 (↑(f + j) : Int), .pointer (some ⟨bm, 0, none⟩), .pointer (some ⟨bm, 0, none⟩), .pointer (some ⟨bm, 0, none⟩), .slice p K c, .int .i64 (↑K : Int), .bool (decide ((↑(f + j) : Int) < (↑K : Int))), .int .i64 (↑(f + j) : Int), .int .i64 (↑((f + j) + 1) : Int), .slice pl j cl, .int .i64 (↑(f + j) : Int), .slice (some ⟨b6, 0, none⟩) 1 1, .slice p7 (j + 1) c7, undef, undef, undef, undef, undef], []⟩ (by kernel_rfl) ?_
    refine ⟨⟨j + 1, _, _, (pk [.int .i64 (↑(f + j) : Int), .pointer (some ⟨bm, 0, none⟩), .pointer (some ⟨bm, 0, none⟩), .pointer (some ⟨bm, 0, none⟩), .slice p K c, .int .i64 (↑K : Int), .bool (decide ((↑(f + j) : Int) < (↑K : Int))), .int .i64 (↑(f + j) : Int), .int .i64 (↑((f + j) + 1) : Int), .slice pl j cl, .int .i64 (↑(f + j) : Int), .slice (some ⟨b6, 0, none⟩) 1 1, .slice p7 (j + 1) c7]), rfl, hB, k4_bm, k4_b1, o7, by omega⟩, ?_⟩
    show K - ((↑((f + j) + 1) : Int)).toNat < K - ((↑(f + j) : Int)).toNat
    omega
  · have hc5 := of_decide_eq_false hc5
    refine wp_exit ?_
    refine then_exit ?_
    refine then_exit ?_
    refine inBlock_hit ?_
    refine wp_seq ?_
    refine wp_region_lit ?_
    refine g_pv 2 [(34, .pointer (some ⟨bm, 0, none⟩)), (35, .slice pl j cl)] (by kernel_rfl) ?_
    have hjN : K - f = j := by omega
    have hz9 : w.heap.size ≤ (W4).heap.size := hB.size
    refine g_op (by kernel_rfl) (op_call (lb := #[]) 24 #[.pointer (some ⟨bm, 0, none⟩), .slice pl j cl] rfl (by kernel_rfl) (fun _ _ => by kernel_rfl) (by kernel_rfl) ((ref_From_rng bm p f K c j pl cl _ k4_bm hK h1 h2 hjN (own_sl ho)).mono ?_))
    rintro e W8 ⟨bc, pg, cg, rfl, hb8, hA⟩
    refine ⟨_, rfl, ?_⟩
    replace hB := Bl.next hB hb8
    replace k4_bm := k4_bm.below hb8
    replace k4_b1 := k4_b1.below hb8
    replace ho := own_below ho hb8
    replace hA := hA.mono hz9
    refine g_pv 3 [(37, .pointer (some ⟨bc, 0, none⟩)), (38, .agg #[.slice none 0 0, .int .i64 0]), (4, .pointer (some ⟨bc, 0, none⟩))] (by kernel_rfl) ?_
    refine g_op (by kernel_rfl) (op_storev (b := b1) (off := 0) [.slice none 0 0, .int .i64 0] rfl (by kernel_rfl) (by kernel_rfl) (by kernel_rfl) (by first | decide | simp [Value.oneCell']) k4_b1 (by first | decide | simp) ?_)
    intro W9 u9 k9
    change Blk _ _ [.slice none 0 0, .int .i64 0] _ at k9
    replace hB := u9.below hB g1
    replace k4_bm := u9.blk k4_bm (Ne.symm (Ne.symm d1_bm))
    replace ho := u9.own2 ho k4_b1 (by decide)
    replace hA := hA.only (Only.of_upd (T := [33]) u9 k4_b1 (by decide)) (by decide)
    refine wpList_nil ?_
    refine wp_ret ?_
    exact g_ret (.tuple #[.pointer (some ⟨bc, 0, none⟩), .agg #[.slice none 0 0, .int .i64 0]]) (by kernel_rfl) (res_tc (d := _) (cs := [.slice none 0 0, .int .i64 0]) rfl (by kernel_rfl) (by kernel_rfl) k9.whole Tryz.underlying33 rfl (by kernel_rfl)) ⟨_, _, _, rfl, hB, hA⟩
end Go.Proofs.YtbopakjiahojdaaGreatDoor

