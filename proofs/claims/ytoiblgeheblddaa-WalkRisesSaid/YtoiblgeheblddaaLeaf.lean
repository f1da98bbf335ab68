/- (*walker).leaf. -/
import Derived.Test.YtoiblgeheblddaaLook2
namespace Go.Proofs.Ytoiblgeheblddaa
open Go.RowKit Go.Extern.Stop Go.Stop Go.Extern
set_option linter.unusedVariables false
attribute [local irreducible] wpList wpAnyH Code.wp Oper.wp

/-- a leaf's first k entries -/
def leafL (K : List Int) (Vs : List (List UInt8)) (no : Int) (k : Nat) : List Ent := (List.range k).map fun j => (K.getD j 0, Vs.getD j [], no)
theorem leafL_len (K : List Int) (Vs : List (List UInt8)) (no : Int) (k : Nat) : (leafL K Vs no k).length = k := by simp [leafL]
theorem leafL_snoc (K : List Int) (Vs : List (List UInt8)) (no : Int) (k : Nat) : leafL K Vs no (k + 1) = leafL K Vs no k ++ [(K.getD k 0, Vs.getD k [], no)] := by simp [leafL, List.range_succ]
theorem leaf_row (es : List Ent) (K : List Int) (Vs : List (List UInt8)) (no : Int) (k : Nat) : (es ++ leafL K Vs no k).flatMap entC ++ [.int .i64 (K.getD k 0), .string ⟨(Vs.getD k []).toArray⟩, .int .i64 no] = (es ++ leafL K Vs no (k + 1)).flatMap entC := by
  rw [leafL_snoc, ← List.append_assoc, List.flatMap_append (xs := es ++ leafL K Vs no k)]
  rfl
def LeafP (B bw : Nat) (c1 c3 c4 c5 c6 c7 : Value) (pw : Option Addr) (cw : Nat) (way : List Int) (c9 : Value) (es : List Ent) (K : List Int) (Vs : List (List UInt8)) (no : Int) (n : Nat) (w : World) (e : Ending) (w' : World) : Prop :=
  ∃ u pe ce, e = .returned u ∧ Below B w w' ∧ Only [53, 33] w w' ∧ Blk w' bw [.slice pe (es.length + n) ce, c1, .int .i64 (↑(way.length + 1) : Int), c3, c4, c5, c6, c7, .slice pw way.length cw, c9] 53 ∧ w'.ownsRow B 33 3 (.slice pe (es.length + n) ce) (es.length + n) ((es ++ leafL K Vs no n).flatMap entC)
set_option maxRecDepth 100000 in
set_option maxHeartbeats 4000000 in
theorem walker_leaf (B bw : Nat) (c1 c2 c3 c4 c5 c6 c7 c9 : Value) (pe : Option Addr) (ce : Nat) (es : List Ent) (pw : Option Addr) (cw : Nat) (way : List Int) (no : Int) (nt : Int) (nl : Bool) (kp vp : Option Addr) (n kc vc : Nat) (K : List Int) (Vs : List (List UInt8)) (w : World) (hBb : B ≤ bw) (hBw : B ≤ w.heap.size) (kW : Blk w bw [.slice pe es.length ce, c1, c2, c3, c4, c5, c6, c7, .slice pw way.length cw, c9] 53) (hE : w.ownsRow B 33 3 (.slice pe es.length ce) es.length (es.flatMap entC)) (hKs : ∀ W, Below B w W → Only [53, 33] w W → Sl W (.slice kp n kc) n (K.map (Value.int .i64))) (hVs : ∀ W, Below B w W → Only [53, 33] w W → Sl W (.slice vp n vc) n (Vs.map sv)) (hKl : K.length = n) (hVl : Vs.length = n) (hwl : way.length ≤ 1000000) (hn : es.length + n ≤ 1000000) :
    Calls Try.prog 31 #[.pointer (some ⟨bw, 0, none⟩), .int .i64 no, .agg #[.int .i64 nt, .bool nl, .slice kp n kc, .slice vp n vc]] w (LeafP B bw c1 c3 c4 c5 c6 c7 pw cw way c9 es K Vs no n w) := by
  refine calls_of_wp Try.func31 rfl ?_
  refine g_fr ⟨#[.pointer (some ⟨bw, 0, none⟩), .int .i64 no, .agg #[.int .i64 nt, .bool nl, .slice kp n kc, .slice vp n vc], undef, undef, undef, undef, undef, undef, undef, undef, undef, undef, undef, undef, undef, undef, undef, undef, undef, undef, undef, undef, undef, undef, undef, undef, undef, undef, undef, undef, undef, undef, undef, undef, undef, undef, undef, undef, undef, undef, undef, undef, undef, undef, undef], []⟩ (by kernel_rfl) ?_
  refine wp_seq ?_
  refine wp_region_lit ?_
  refine g_op (by kernel_rfl) (op_box [.int .i64 nt, .bool nl, .slice kp n kc, .slice vp n vc] rfl (by kernel_rfl) ?_)
  intro b1 W1 n1
  have d1_bw := n1.ne kW
  have g1 := n1.ge0 (Below.refl B _)
  have hO : Only [53, 33] w _ := (Only.of_below n1.below)
  have hB := Bl.nextB (Below.refl B w) hBw n1.below
  replace kW := kW.below n1.below
  replace hE := own_below hE n1.below
  have k1 := n1.blk
  refine wpList_nil ?_
  refine wp_seq ?_
  refine wp_region_lit ?_
  refine g_pv 4 [(8, .pointer (some ⟨bw, 0, none⟩)), (9, .pointer (some ⟨bw, 0, none⟩)), (10, .pointer (some ⟨bw, 0, none⟩)), (11, .pointer (some ⟨bw, 8, none⟩))] (by kernel_rfl) ?_
  refine g_op (by kernel_rfl) (op_load ⟨bw, 8, none⟩ (.slice pw way.length cw) rfl (by kernel_rfl) (by kernel_rfl) (kW.cell (i := 8) rfl) ?_)
  refine g_pv 1 [(13, .int .i64 (↑way.length : Int))] (by kernel_rfl) ?_
  refine g_op (by kernel_rfl) (op_wrap .i64 ((↑way.length : Int) + 1) (↑(way.length + 1) : Int) (by kernel_rfl) ((show IntKind.i64.wrap ((↑way.length : Int) + 1) = ((↑way.length : Int) + 1) from by first | exact IntWalk.i64_in _ (by omega) | (simp only [IntKind.wrap]; omega)).trans (by omega)) ?_)
  refine g_pv 3 [(15, .pointer (some ⟨bw, 0, none⟩)), (16, .pointer (some ⟨bw, 0, none⟩)), (17, .pointer (some ⟨bw, 2, none⟩))] (by kernel_rfl) ?_
  refine g_op (by kernel_rfl) (op_store (v := .int .i64 (↑(way.length + 1) : Int)) (b := bw) (off := 2) rfl (by kernel_rfl) (by kernel_rfl) (by kernel_rfl) rfl kW (by first | decide | simp) ?_)
  intro W2 u2 k2
  change Blk _ _ [.slice pe es.length ce, c1, .int .i64 (↑(way.length + 1) : Int), c3, c4, c5, c6, c7, .slice pw way.length cw, c9] _ at k2
  replace hO := hO.trans (Only.of_upd u2 kW (by decide))
  replace hB := u2.below hB hBb
  replace k1 := u2.blk k1 (Ne.symm d1_bw)
  replace hE := u2.own2 hE kW (by decide)
  refine wpList_nil ?_
  refine wp_seq ?_
  refine wp_region_lit ?_
  refine g_pv 1 [(18, .pointer (some ⟨b1, 2, none⟩))] (by kernel_rfl) ?_
  refine g_op (by kernel_rfl) (op_load ⟨b1, 2, none⟩ (.slice kp n kc) rfl (by kernel_rfl) (by kernel_rfl) (k1.cell (i := 2) rfl) ?_)
  refine g_pv 2 [(20, .int .i64 (↑n : Int)), (21, .int .i64 0)] (by kernel_rfl) ?_
  refine wpList_nil ?_
  refine wp_block ?_
  refine g_fr ⟨#[.pointer (some ⟨bw, 0, none⟩), .int .i64 no, .agg #[.int .i64 nt, .bool nl, .slice kp n kc, .slice vp n vc], undef, undef, .pointer (some ⟨b1, 0, none⟩), undef, undef, .pointer (some ⟨bw, 0, none⟩), .pointer (some ⟨bw, 0, none⟩), .pointer (some ⟨bw, 0, none⟩), .pointer (some ⟨bw, 8, none⟩), .slice pw way.length cw, .int .i64 (↑way.length : Int), .int .i64 (↑(way.length + 1) : Int), .pointer (some ⟨bw, 0, none⟩), .pointer (some ⟨bw, 0, none⟩), .pointer (some ⟨bw, 2, none⟩), .pointer (some ⟨b1, 2, none⟩), .slice kp n kc, .int .i64 (↑n : Int), .int .i64 0, undef, undef, undef, undef, undef, undef, undef, undef, undef, undef, undef, undef, undef, undef, undef, undef, undef, undef, undef, undef, undef, undef, undef, undef], []⟩ (by kernel_rfl) ?_
  refine wp_loop (fun act V => ∃ (i : Nat) (pe : Option Addr) (ce : Nat) (x3 : Nat → Value), act = ⟨#[.pointer (some ⟨bw, 0, none⟩), .int .i64 no, .agg #[.int .i64 nt, .bool nl, .slice kp n kc, .slice vp n vc], undef, undef, .pointer (some ⟨b1, 0, none⟩), (x3 0), (x3 1), .pointer (some ⟨bw, 0, none⟩), .pointer (some ⟨bw, 0, none⟩), .pointer (some ⟨bw, 0, none⟩), .pointer (some ⟨bw, 8, none⟩), .slice pw way.length cw, .int .i64 (↑way.length : Int), .int .i64 (↑(way.length + 1) : Int), .pointer (some ⟨bw, 0, none⟩), .pointer (some ⟨bw, 0, none⟩), .pointer (some ⟨bw, 2, none⟩), .pointer (some ⟨b1, 2, none⟩), .slice kp n kc, .int .i64 (↑n : Int), .int .i64 (↑i : Int), (x3 2), (x3 3), (x3 4), (x3 5), (x3 6), (x3 7), (x3 8), (x3 9), (x3 10), (x3 11), (x3 12), (x3 13), (x3 14), (x3 15), (x3 16), (x3 17), (x3 18), (x3 19), (x3 20), (x3 21), (x3 22), (x3 23), (x3 24), (x3 25)], []⟩ ∧ Below B w V ∧ Only [53, 33] w V ∧ Blk V bw ([.slice pe (es.length + i) ce, c1, .int .i64 (↑(way.length + 1) : Int), c3, c4, c5, c6, c7, .slice pw way.length cw, c9]) 53 ∧ Blk V b1 ([.int .i64 nt, .bool nl, .slice kp n kc, .slice vp n vc]) 36 ∧ V.ownsRow B 33 3 (.slice pe (es.length + i) ce) (es.length + i) ((es ++ leafL K Vs no i).flatMap entC) ∧ i ≤ n) (fun act V => n - ((intOf (act.tmps.getD 21 undef))).toNat) ⟨0, _, _, (pk [undef, undef, undef, undef, undef, undef, undef, undef, undef, undef, undef, undef, undef, undef, undef, undef, undef, undef, undef, undef, undef, undef, undef, undef, undef, undef]), rfl, hB, hO, k2, k1, (by simpa [leafL] using hE), Nat.zero_le _⟩ ?_
  rintro _ W3 ⟨i, pe, ce, x3, rfl, hB, hO, k3_bw, k3_b1, hE, hi⟩
  refine wp_seq ?_
  refine wp_region_lit ?_
  refine g_pv 1 [(22, .bool (decide ((↑i : Int) < (↑n : Int))))] (by kernel_rfl) ?_
  refine wpList_nil ?_
  refine wp_seq ?_
  refine wp_cond_split (t := decide ((↑i : Int) < (↑n : Int))) (by kernel_rfl) (fun hc4 => ?_) (fun hc4 => ?_)
  · have hc4 := of_decide_eq_true hc4
    refine wp_skip ?_
    refine wp_seq ?_
    refine wp_block ?_
    refine wp_seq ?_
    refine wp_region_lit ?_
    refine g_pv 1 [(23, .int .i64 (↑i : Int))] (by kernel_rfl) ?_
    refine g_op (by kernel_rfl) (op_val (run_indexA (size := 1) (k := i) (b := kp) (n := n) (c := kc) (i := (↑i : Int)) (ki := .i64) rfl (by kernel_rfl) (by kernel_rfl) rfl (by omega) (IntsN.elem (hKs _ hB hO) hKl (k := i) (by omega)).1 Try.underlying27 (by kernel_rfl) W3) ?_)
    refine g_op (by kernel_rfl) (op_load (elemAddr kp (i * 1)) (.int .i64 (K.getD i 0)) rfl (by kernel_rfl) (by kernel_rfl) (IntsN.elem (hKs _ hB hO) hKl (k := i) (by omega)).2 ?_)
    refine g_pv 2 [(6, .int .i64 (↑i : Int)), (7, .int .i64 (K.getD i 0))] (by kernel_rfl) ?_
    refine wpList_nil ?_
    replace hO := hO.trans (Only.of_below (below_drew W3))
    replace hB := Bl.nextB hB hBw (below_drew W3)
    replace k3_bw := k3_bw.below (below_drew W3)
    replace k3_b1 := k3_b1.below (below_drew W3)
    replace hE := own_below hE (below_drew W3)
    refine h_reg (fun V => Below B (W3.drew) V ∧ Only [53, 33] (W3.drew) V) 20 rfl #[false, false, false, false, false, false, false, false, false, false, false, false, false, false, false, false, false, false, false, false] rfl (by kernel_rfl) ⟨Below.refl _ _, Only.refl _ _⟩ ?_
    intro hS5
    have hBd7 := hB
    have kd7_bw := k3_bw
    have kd7_b1 := k3_b1
    have fd_hE := hE
    have hOd7 := hO
    refine h_pv [0, 1, 2, 3, 4, 6, 7] 13 rfl #[true, true, true, true, true, false, true, true, false, false, false, false, false, false, false, false, false, false, false, false] [(26, .pointer (some ⟨bw, 0, none⟩)), (27, .pointer (some ⟨bw, 0, none⟩)), (28, .pointer (some ⟨bw, 0, none⟩)), (29, .pointer (some ⟨bw, 0, none⟩)), (30, .pointer (some ⟨bw, 0, none⟩)), (32, .int .i64 (K.getD i 0)), (33, .pointer (some ⟨b1, 3, none⟩))] (by kernel_rfl) (fun _ _ _ _ _ h => h) (by kernel_rfl) hS5 ?_
    refine h_load 8 12 rfl ⟨b1, 3, none⟩ (.slice vp n vc) rfl (by kernel_rfl) (by kernel_rfl) (by kernel_rfl) (fun _ _ _ _ _ h => h) (by kernel_rfl) rfl (by kernel_rfl) (by kernel_rfl) (fun V hV => ((kd7_b1.only hV.2 (by decide)).cell (i := 3) rfl)) hS5 ?_
    refine h_pv [9] 11 rfl #[true, true, true, true, true, false, true, true, true, true, false, false, false, false, false, false, false, false, false, false] [(35, .int .i64 (↑i : Int))] (by kernel_rfl) (fun _ _ _ _ _ h => h) (by kernel_rfl) hS5 ?_
    refine h_val 10 10 rfl (.pointer (some (elemAddr vp (i * 1)))) rfl (by kernel_rfl) (by kernel_rfl) (by kernel_rfl) (fun _ _ _ _ _ h => h) (by kernel_rfl) (fun V hV => run_indexA (size := 1) (k := i) (b := vp) (n := n) (c := vc) (i := (↑i : Int)) (ki := .i64) rfl (by kernel_rfl) (by kernel_rfl) rfl (by omega) (Strs.elem (hVs _ hB hO) hVl (k := i) (by omega)).1 Try.underlying34 (by kernel_rfl) V) hS5 ?_
    refine h_load 11 9 rfl (elemAddr vp (i * 1)) (.string ⟨(Vs.getD i []).toArray⟩) rfl (by kernel_rfl) (by kernel_rfl) (by kernel_rfl) (fun _ _ _ _ _ h => h) (by kernel_rfl) rfl (by kernel_rfl) (by kernel_rfl) (fun V hV => (Strs.elem (hVs _ (hBd7.trans hV.1) (hOd7.trans hV.2)) hVl (k := i) (by omega)).2) hS5 ?_
    refine h_pv [12, 13] 7 rfl #[true, true, true, true, true, false, true, true, true, true, true, true, true, true, false, false, false, false, false, false] [(38, .int .i64 no), (39, .agg #[.int .i64 (K.getD i 0), .string ⟨(Vs.getD i []).toArray⟩, .int .i64 no])] (by kernel_rfl) (fun _ _ _ _ _ h => h) (by kernel_rfl) hS5 ?_
    refine h_two 5 14 6 rfl (by kernel_rfl) rfl rfl (by kernel_rfl) (by kernel_rfl) ?_ ?_
    · refine op_load ⟨bw, 0, none⟩ (.slice pe (es.length + i) ce) rfl (by kernel_rfl) (by kernel_rfl) (k3_bw.cell (i := 0) rfl) ?_
      have hS8 : Below B (W3.drew) (W3.drew) ∧ Only [53, 33] (W3.drew) (W3.drew) := hS5
      refine ⟨hS8, ?_⟩
      refine h_one 14 5 rfl (by kernel_rfl) rfl (by kernel_rfl) (op_buildSlice 33 [.int .i64 (K.getD i 0), .string ⟨(Vs.getD i []).toArray⟩, .int .i64 no] rfl (by kernel_rfl) ?_)
      intro b9 W9 n9
      have d9_bw := n9.ne k3_bw
      have d9_b1 := n9.ne k3_b1
      have g9 := n9.ge0 hB
      have r9_hE := own_ne hE n9
      have gd_b9 : (W3.drew).heap.size ≤ b9 := by have := hS8.1.size; have := n9.at_; omega
      replace hO := hO.trans (Only.of_below n9.below)
      replace hB := Bl.nextB hB hBw n9.below
      replace k3_bw := k3_bw.below n9.below
      replace k3_b1 := k3_b1.below n9.below
      replace hE := own_below hE n9.below
      have k9 := n9.blk
      have hS10 : Below B (W3.drew) (W9) ∧ Only [53, 33] (W3.drew) (W9) := ⟨Bl.nextB hS8.1 (Nat.le_trans hBw hBd7.size) n9.below, hS8.2.trans (Only.of_below n9.below)⟩
      refine ⟨hS10, ?_⟩
      refine h_one 15 4 rfl (by kernel_rfl) rfl (by kernel_rfl) (op_app (e := 33) (n := (es.length + i)) (xs := ((es ++ leafL K Vs no i).flatMap entC)) (m := 1) (news := [.int .i64 (K.getD i 0), .string ⟨(Vs.getD i []).toArray⟩, .int .i64 no]) (.agg #[.int .i64 0, .string ⟨#[]⟩, .int .i64 0]) 3 32 ((es.length + (i + 1))) (((es ++ leafL K Vs no (i + 1)).flatMap entC)) rfl Try.underlying26 (by kernel_rfl) rfl (by decide) (by kernel_rfl) hE (by kernel_rfl) (k9.sl 1 1 (by decide) (by decide)) rfl (by simp [Value.oneCell']) (by unfold maxLen; omega) (by omega) (Nat.le_trans hBw hB.size) (by omega) (leaf_row _ _ _ _ _) ?_)
      intro p11 c11 W11 o11 hg11 hb11
      replace hO := hO.trans (Only.of_grown hg11 hE (by decide))
      replace k3_bw := k3_bw.grown hg11 hE (by decide)
      replace k3_b1 := k3_b1.grown hg11 hE (by decide)
      replace hB := hB.trans hb11
      have hS12 : Below B (W3.drew) (W11) ∧ Only [53, 33] (W3.drew) (W11) := ⟨hS10.1.trans hb11, hS10.2.trans (Only.of_grown hg11 hE (by decide))⟩
      refine ⟨hS12, ?_⟩
      refine h_pv [16, 17, 18] 1 rfl #[true, true, true, true, true, true, true, true, true, true, true, true, true, true, true, true, true, true, true, false] [(42, .pointer (some ⟨bw, 0, none⟩)), (43, .pointer (some ⟨bw, 0, none⟩)), (44, .pointer (some ⟨bw, 0, none⟩))] (by kernel_rfl) (fun _ _ _ _ _ h => h) (by kernel_rfl) hS12 ?_
      refine h_one 19 0 rfl (by kernel_rfl) rfl (by kernel_rfl) (op_store (v := .slice p11 (es.length + (i + 1)) c11) (b := bw) (off := 0) rfl (by kernel_rfl) (by kernel_rfl) (by kernel_rfl) rfl k3_bw (by first | decide | simp) ?_)
      intro W13 u13 k13
      change Blk _ _ [.slice p11 (es.length + (i + 1)) c11, c1, .int .i64 (↑(way.length + 1) : Int), c3, c4, c5, c6, c7, .slice pw way.length cw, c9] _ at k13
      replace hO := hO.trans (Only.of_upd u13 k3_bw (by decide))
      replace hB := u13.below hB hBb
      replace k3_b1 := u13.blk k3_b1 (Ne.symm d1_bw)
      replace o11 := u13.own2 o11 k3_bw (by decide)
      have hS14 : Below B (W3.drew) (W13) ∧ Only [53, 33] (W3.drew) (W13) := ⟨u13.below hS12.1 hBb, hS12.2.trans (Only.of_upd u13 k3_bw (by decide))⟩
      refine ⟨hS14, ?_⟩
      refine h_done _ (by kernel_rfl) ?_
      refine wp_region_lit ?_
      refine g_op (by kernel_rfl) (op_wrap .i64 ((↑i : Int) + 1) (↑(i + 1) : Int) (by kernel_rfl) ((show IntKind.i64.wrap ((↑i : Int) + 1) = ((↑i : Int) + 1) from by first | exact IntWalk.i64_in _ (by omega) | (simp only [IntKind.wrap]; omega)).trans (by omega)) ?_)
      refine g_pv 1 [(21, .int .i64 (↑(i + 1) : Int))] (by kernel_rfl) ?_
      refine wpList_nil ?_
      refine g_nfr ⟨#[.pointer (some ⟨bw, 0, none⟩), .int .i64 no, .agg #[.int .i64 nt, .bool nl, .slice kp n kc, .slice vp n vc], undef, undef, .pointer (some ⟨b1, 0, none⟩), .int .i64 (↑i : Int), .int .i64 (K.getD i 0), .pointer (some ⟨bw, 0, none⟩), .pointer (some ⟨bw, 0, none⟩), .pointer (some ⟨bw, 0, none⟩), .pointer (some ⟨bw, 8, none⟩), .slice pw way.length cw, .int .i64 (↑way.length : Int), .int .i64 (↑(way.length + 1) : Int), .pointer (some ⟨bw, 0, none⟩), .pointer (some ⟨bw, 0, none⟩), .pointer (some ⟨bw, 2, none⟩), .pointer (some ⟨b1, 2, none⟩), .slice kp n kc, .int .i64 (↑n : Int), .int .i64 (↑(i + 1) : Int), .bool (decide ((↑i : Int) < (↑n : Int))), .int .i64 (↑i : Int), .pointer (some (elemAddr kp (i * 1))), .int .i64 (K.getD i 0), .pointer (some ⟨bw, 0, none⟩), .pointer (some ⟨bw, 0, none⟩), .pointer (some ⟨bw, 0, none⟩), .pointer (some ⟨bw, 0, none⟩), .pointer (some ⟨bw, 0, none⟩), .slice pe (es.length + i) ce, .int .i64 (K.getD i 0), .pointer (some ⟨b1, 3, none⟩), .slice vp n vc, .int .i64 (↑i : Int), .pointer (some (elemAddr vp (i * 1))), .string ⟨(Vs.getD i []).toArray⟩, .int .i64 no, .agg #[.int .i64 (K.getD i 0), .string ⟨(Vs.getD i []).toArray⟩, .int .i64 no], .slice (some ⟨b9, 0, none⟩) 1 1, .slice p11 (es.length + (i + 1)) c11, .pointer (some ⟨bw, 0, none⟩), .pointer (some ⟨bw, 0, none⟩), .pointer (some ⟨bw, 0, none⟩), .int .i64 (↑(i + 1) : Int)], []⟩ (by kernel_rfl) ?_
      refine ⟨⟨i + 1, _, _, (pk [.int .i64 (↑i : Int), .int .i64 (K.getD i 0), .bool (decide ((↑i : Int) < (↑n : Int))), .int .i64 (↑i : Int), .pointer (some (elemAddr kp (i * 1))), .int .i64 (K.getD i 0), .pointer (some ⟨bw, 0, none⟩), .pointer (some ⟨bw, 0, none⟩), .pointer (some ⟨bw, 0, none⟩), .pointer (some ⟨bw, 0, none⟩), .pointer (some ⟨bw, 0, none⟩), .slice pe (es.length + i) ce, .int .i64 (K.getD i 0), .pointer (some ⟨b1, 3, none⟩), .slice vp n vc, .int .i64 (↑i : Int), .pointer (some (elemAddr vp (i * 1))), .string ⟨(Vs.getD i []).toArray⟩, .int .i64 no, .agg #[.int .i64 (K.getD i 0), .string ⟨(Vs.getD i []).toArray⟩, .int .i64 no], .slice (some ⟨b9, 0, none⟩) 1 1, .slice p11 (es.length + (i + 1)) c11, .pointer (some ⟨bw, 0, none⟩), .pointer (some ⟨bw, 0, none⟩), .pointer (some ⟨bw, 0, none⟩), .int .i64 (↑(i + 1) : Int)]), rfl, hB, hO, k13, k3_b1, o11, by omega⟩, ?_⟩
      show n - ((↑(i + 1) : Int)).toNat < n - ((↑i : Int)).toNat
      omega
    · refine op_buildSlice 33 [.int .i64 (K.getD i 0), .string ⟨(Vs.getD i []).toArray⟩, .int .i64 no] rfl (by kernel_rfl) ?_
      intro b15 W15 n15
      have d15_bw := n15.ne k3_bw
      have d15_b1 := n15.ne k3_b1
      have g15 := n15.ge0 hB
      have r15_hE := own_ne hE n15
      have gd_b15 : (W3.drew).heap.size ≤ b15 := by have := hS5.1.size; have := n15.at_; omega
      replace hO := hO.trans (Only.of_below n15.below)
      replace hB := Bl.nextB hB hBw n15.below
      replace k3_bw := k3_bw.below n15.below
      replace k3_b1 := k3_b1.below n15.below
      replace hE := own_below hE n15.below
      have k15 := n15.blk
      have hS16 : Below B (W3.drew) (W15) ∧ Only [53, 33] (W3.drew) (W15) := ⟨Bl.nextB hS5.1 (Nat.le_trans hBw hBd7.size) n15.below, hS5.2.trans (Only.of_below n15.below)⟩
      refine ⟨hS16, ?_⟩
      refine h_one 5 5 rfl (by kernel_rfl) rfl (by kernel_rfl) (op_load ⟨bw, 0, none⟩ (.slice pe (es.length + i) ce) rfl (by kernel_rfl) (by kernel_rfl) (k3_bw.cell (i := 0) rfl) ?_)
      have hS17 : Below B (W3.drew) (W15) ∧ Only [53, 33] (W3.drew) (W15) := hS16
      refine ⟨hS17, ?_⟩
      refine h_one 15 4 rfl (by kernel_rfl) rfl (by kernel_rfl) (op_app (e := 33) (n := (es.length + i)) (xs := ((es ++ leafL K Vs no i).flatMap entC)) (m := 1) (news := [.int .i64 (K.getD i 0), .string ⟨(Vs.getD i []).toArray⟩, .int .i64 no]) (.agg #[.int .i64 0, .string ⟨#[]⟩, .int .i64 0]) 3 32 ((es.length + (i + 1))) (((es ++ leafL K Vs no (i + 1)).flatMap entC)) rfl Try.underlying26 (by kernel_rfl) rfl (by decide) (by kernel_rfl) hE (by kernel_rfl) (k15.sl 1 1 (by decide) (by decide)) rfl (by simp [Value.oneCell']) (by unfold maxLen; omega) (by omega) (Nat.le_trans hBw hB.size) (by omega) (leaf_row _ _ _ _ _) ?_)
      intro p18 c18 W18 o18 hg18 hb18
      replace hO := hO.trans (Only.of_grown hg18 hE (by decide))
      replace k3_bw := k3_bw.grown hg18 hE (by decide)
      replace k3_b1 := k3_b1.grown hg18 hE (by decide)
      replace hB := hB.trans hb18
      have hS19 : Below B (W3.drew) (W18) ∧ Only [53, 33] (W3.drew) (W18) := ⟨hS17.1.trans hb18, hS17.2.trans (Only.of_grown hg18 hE (by decide))⟩
      refine ⟨hS19, ?_⟩
      refine h_pv [16, 17, 18] 1 rfl #[true, true, true, true, true, true, true, true, true, true, true, true, true, true, true, true, true, true, true, false] [(42, .pointer (some ⟨bw, 0, none⟩)), (43, .pointer (some ⟨bw, 0, none⟩)), (44, .pointer (some ⟨bw, 0, none⟩))] (by kernel_rfl) (fun _ _ _ _ _ h => h) (by kernel_rfl) hS19 ?_
      refine h_one 19 0 rfl (by kernel_rfl) rfl (by kernel_rfl) (op_store (v := .slice p18 (es.length + (i + 1)) c18) (b := bw) (off := 0) rfl (by kernel_rfl) (by kernel_rfl) (by kernel_rfl) rfl k3_bw (by first | decide | simp) ?_)
      intro W20 u20 k20
      change Blk _ _ [.slice p18 (es.length + (i + 1)) c18, c1, .int .i64 (↑(way.length + 1) : Int), c3, c4, c5, c6, c7, .slice pw way.length cw, c9] _ at k20
      replace hO := hO.trans (Only.of_upd u20 k3_bw (by decide))
      replace hB := u20.below hB hBb
      replace k3_b1 := u20.blk k3_b1 (Ne.symm d1_bw)
      replace o18 := u20.own2 o18 k3_bw (by decide)
      have hS21 : Below B (W3.drew) (W20) ∧ Only [53, 33] (W3.drew) (W20) := ⟨u20.below hS19.1 hBb, hS19.2.trans (Only.of_upd u20 k3_bw (by decide))⟩
      refine ⟨hS21, ?_⟩
      refine h_done _ (by kernel_rfl) ?_
      refine wp_region_lit ?_
      refine g_op (by kernel_rfl) (op_wrap .i64 ((↑i : Int) + 1) (↑(i + 1) : Int) (by kernel_rfl) ((show IntKind.i64.wrap ((↑i : Int) + 1) = ((↑i : Int) + 1) from by first | exact IntWalk.i64_in _ (by omega) | (simp only [IntKind.wrap]; omega)).trans (by omega)) ?_)
      refine g_pv 1 [(21, .int .i64 (↑(i + 1) : Int))] (by kernel_rfl) ?_
      refine wpList_nil ?_
      refine g_nfr ⟨#[.pointer (some ⟨bw, 0, none⟩), .int .i64 no, .agg #[.int .i64 nt, .bool nl, .slice kp n kc, .slice vp n vc], undef, undef, .pointer (some ⟨b1, 0, none⟩), .int .i64 (↑i : Int), .int .i64 (K.getD i 0), .pointer (some ⟨bw, 0, none⟩), .pointer (some ⟨bw, 0, none⟩), .pointer (some ⟨bw, 0, none⟩), .pointer (some ⟨bw, 8, none⟩), .slice pw way.length cw, .int .i64 (↑way.length : Int), .int .i64 (↑(way.length + 1) : Int), .pointer (some ⟨bw, 0, none⟩), .pointer (some ⟨bw, 0, none⟩), .pointer (some ⟨bw, 2, none⟩), .pointer (some ⟨b1, 2, none⟩), .slice kp n kc, .int .i64 (↑n : Int), .int .i64 (↑(i + 1) : Int), .bool (decide ((↑i : Int) < (↑n : Int))), .int .i64 (↑i : Int), .pointer (some (elemAddr kp (i * 1))), .int .i64 (K.getD i 0), .pointer (some ⟨bw, 0, none⟩), .pointer (some ⟨bw, 0, none⟩), .pointer (some ⟨bw, 0, none⟩), .pointer (some ⟨bw, 0, none⟩), .pointer (some ⟨bw, 0, none⟩), .slice pe (es.length + i) ce, .int .i64 (K.getD i 0), .pointer (some ⟨b1, 3, none⟩), .slice vp n vc, .int .i64 (↑i : Int), .pointer (some (elemAddr vp (i * 1))), .string ⟨(Vs.getD i []).toArray⟩, .int .i64 no, .agg #[.int .i64 (K.getD i 0), .string ⟨(Vs.getD i []).toArray⟩, .int .i64 no], .slice (some ⟨b15, 0, none⟩) 1 1, .slice p18 (es.length + (i + 1)) c18, .pointer (some ⟨bw, 0, none⟩), .pointer (some ⟨bw, 0, none⟩), .pointer (some ⟨bw, 0, none⟩), .int .i64 (↑(i + 1) : Int)], []⟩ (by kernel_rfl) ?_
      refine ⟨⟨i + 1, _, _, (pk [.int .i64 (↑i : Int), .int .i64 (K.getD i 0), .bool (decide ((↑i : Int) < (↑n : Int))), .int .i64 (↑i : Int), .pointer (some (elemAddr kp (i * 1))), .int .i64 (K.getD i 0), .pointer (some ⟨bw, 0, none⟩), .pointer (some ⟨bw, 0, none⟩), .pointer (some ⟨bw, 0, none⟩), .pointer (some ⟨bw, 0, none⟩), .pointer (some ⟨bw, 0, none⟩), .slice pe (es.length + i) ce, .int .i64 (K.getD i 0), .pointer (some ⟨b1, 3, none⟩), .slice vp n vc, .int .i64 (↑i : Int), .pointer (some (elemAddr vp (i * 1))), .string ⟨(Vs.getD i []).toArray⟩, .int .i64 no, .agg #[.int .i64 (K.getD i 0), .string ⟨(Vs.getD i []).toArray⟩, .int .i64 no], .slice (some ⟨b15, 0, none⟩) 1 1, .slice p18 (es.length + (i + 1)) c18, .pointer (some ⟨bw, 0, none⟩), .pointer (some ⟨bw, 0, none⟩), .pointer (some ⟨bw, 0, none⟩), .int .i64 (↑(i + 1) : Int)]), rfl, hB, hO, k20, k3_b1, o18, by omega⟩, ?_⟩
      show n - ((↑(i + 1) : Int)).toNat < n - ((↑i : Int)).toNat
      omega
  · have hc4 := of_decide_eq_false hc4
    refine wp_exit ?_
    refine then_exit ?_
    refine then_exit ?_
    refine inBlock_hit ?_
    refine g_end (.tuple #[]) (by kernel_rfl) (by kernel_rfl) ?_
    obtain rfl : i = n := by omega
    exact ⟨_, _, _, rfl, hB, hO, k3_bw, hE⟩
end Go.Proofs.Ytoiblgeheblddaa

