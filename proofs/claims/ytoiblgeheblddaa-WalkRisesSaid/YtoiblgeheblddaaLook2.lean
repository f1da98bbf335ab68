/- (*walker).look. -/
import Derived.Test.YtoiblgeheblddaaLook
import Derived.Test.YtoiblgeheblddaaSpanParts
namespace Go.Proofs.Ytoiblgeheblddaa
open Go.RowKit Go.Extern.Stop Go.Stop Go.Extern
set_option linter.unusedVariables false
attribute [local irreducible] wpList wpAnyH Code.wp Oper.wp

/-- the number of the error of a node that is looked at, as the one below way, for the span lo hi -/
def lookE (l : List UInt8) (way : List Int) (no tree lo hi deep : Int) : Int :=
  if hasI way no = true then 11 else if 16 ≤ way.length then 10 else if nodeErr l no tree ≠ 0 then nodeErr l no tree else if fitsI lo hi (keysI (inB l no) (nodC (inB l no))) ≠ 0 then 9 else
    if nodL (inB l no) = true ∧ deep ≠ 0 ∧ deep ≠ ((way.length + 1 : Nat) : Int) then 10 else 0
def LookP (B bw : Nat) (cs : List Value) (l : List UInt8) (way : List Int) (no tree lo hi deep : Int) (w : World) (e : Ending) (w' : World) : Prop :=
  Below B w w' ∧ Only [53] w w' ∧ Blk w' bw cs 53 ∧
  ((lookE l way no tree lo hi deep ≠ 0 ∧ ∃ a4 b4 k4 n4 c4 v4 m4 d4 ty x, e = .returned (.tuple #[.agg #[.int .i64 a4, .bool b4, .slice k4 n4 c4, .slice v4 m4 d4], .iface ty x]) ∧ ErrV w' [some no] (some (lookE l way no tree lo hi deep)) (.iface ty x)) ∨
   (lookE l way no tree lo hi deep = 0 ∧ nodeErr l no tree = 0 ∧ ∃ kp kc vp vc, e = .returned (.tuple #[.agg #[.int .i64 (nodT (inB l no)), .bool (nodL (inB l no)), .slice kp (nodC (inB l no)) kc, .slice vp (nodC (inB l no)) vc], .nilIface]) ∧
    w'.ownsRow w.heap.size 3 1 (.slice kp (nodC (inB l no)) kc) (nodC (inB l no)) ((keysI (inB l no) (nodC (inB l no))).map (Value.int .i64)) ∧ w'.ownsRow w.heap.size 9 1 (.slice vp (nodC (inB l no)) vc) (nodC (inB l no)) ((valsL (inB l no) (nodC (inB l no))).map sv)))
theorem intsN_of {w : World} {v : Value} {n : Nat} {l : List Int} (h : Sl w v n (l.map (Value.int .i64))) (hl : l.length = n) : Ints w v l := by subst hl; exact h
set_option maxRecDepth 100000 in
set_option maxHeartbeats 4000000 in
theorem walker_look (B Bi b bw : Nat) (p : Option Addr) (n c : Nat) (l : List UInt8) (c0 c1 c4 c7 c9 : Value) (pw : Option Addr) (cw : Nat) (way : List Int) (no tree lo hi deep looked : Int) (w : World) (hBb : B ≤ bw) (hBw : B ≤ w.heap.size) (kW : Blk w bw [c0, c1, .int .i64 deep, .int .i64 looked, c4, .pointer (some ⟨b, 0, none⟩), .int .i64 tree, c7, .slice pw way.length cw, c9] 53) (hway : w.ownsRow B 3 1 (.slice pw way.length cw) way.length (way.map (Value.int .i64))) (hI : ImgR Bi b p n c l w) (hwl : way.length ≤ 1000000) (hl0 : 0 ≤ looked) (hl1 : looked < 9223372036854775807) :
    Calls Try.prog 30 #[.pointer (some ⟨bw, 0, none⟩), .int .i64 no, .agg #[.int .i64 lo, .int .i64 hi]] w (LookP B bw [c0, c1, .int .i64 deep, .int .i64 (looked + 1), c4, .pointer (some ⟨b, 0, none⟩), .int .i64 tree, c7, .slice pw way.length cw, c9] l way no tree lo hi deep w) := by
  refine calls_of_wp Try.func30 rfl ?_
  refine g_fr ⟨#[.pointer (some ⟨bw, 0, none⟩), .int .i64 no, .agg #[.int .i64 lo, .int .i64 hi], undef, undef, undef, undef, undef, undef, undef, undef, undef, undef, undef, undef, undef, undef, undef, undef, undef, undef, undef, undef, undef, undef, undef, undef, undef, undef, undef, undef, undef, undef, undef, undef, undef, undef, undef, undef, undef, undef, undef, undef, undef, undef, undef, undef, undef, undef, undef, undef, undef, undef, undef, undef, undef, undef, undef, undef, undef, undef, undef, undef, undef, undef, undef, undef, undef, undef, undef, undef, undef, undef, undef, undef, undef, undef, undef, undef, undef, undef, undef, undef, undef, undef, undef, undef, undef, undef, undef, undef, undef, undef, undef, undef, undef, undef], []⟩ (by kernel_rfl) ?_
  refine wp_seq ?_
  refine wp_region_lit ?_
  refine g_op (by kernel_rfl) (op_box [.int .i64 lo, .int .i64 hi] rfl (by kernel_rfl) ?_)
  intro b1 W1 n1
  have d1_bw := n1.ne kW
  have g1 := n1.ge0 (Below.refl B _)
  have hO : Only [53] w _ := (Only.of_below n1.below)
  have hB := Bl.nextB (Below.refl B w) hBw n1.below
  replace kW := kW.below n1.below
  replace hway := own_below hway n1.below
  replace hI := hI.below n1.below
  have k1 := n1.blk
  refine g_op (by kernel_rfl) (op_alloc [.int .i64 0, .bool false, .slice none 0 0, .slice none 0 0] rfl (by kernel_rfl) ?_)
  intro b2 W2 n2
  have d2_bw := n2.ne kW
  have d2_b1 := n2.ne k1
  have g2 := n2.ge0 hB
  replace hO := hO.trans (Only.of_below n2.below)
  replace hB := Bl.nextB hB hBw n2.below
  replace kW := kW.below n2.below
  replace k1 := k1.below n2.below
  replace hway := own_below hway n2.below
  replace hI := hI.below n2.below
  have k2 := n2.blk
  refine g_pv 1 [(7, .nilIface)] (by kernel_rfl) ?_
  refine wpList_nil ?_
  refine wp_seq ?_
  refine wp_region_lit ?_
  refine g_pv 4 [(10, .pointer (some ⟨bw, 0, none⟩)), (11, .pointer (some ⟨bw, 0, none⟩)), (12, .pointer (some ⟨bw, 0, none⟩)), (13, .pointer (some ⟨bw, 3, none⟩))] (by kernel_rfl) ?_
  refine g_op (by kernel_rfl) (op_load ⟨bw, 3, none⟩ (.int .i64 looked) rfl (by kernel_rfl) (by kernel_rfl) (kW.cell (i := 3) rfl) ?_)
  refine g_op (by kernel_rfl) (op_wrap .i64 (looked + 1) (looked + 1) (by kernel_rfl) (by first | exact IntWalk.i64_in _ (by omega) | (simp only [IntKind.wrap]; omega)) ?_)
  refine g_pv 3 [(16, .pointer (some ⟨bw, 0, none⟩)), (17, .pointer (some ⟨bw, 0, none⟩)), (18, .pointer (some ⟨bw, 3, none⟩))] (by kernel_rfl) ?_
  refine g_op (by kernel_rfl) (op_store (v := .int .i64 (looked + 1)) (b := bw) (off := 3) rfl (by kernel_rfl) (by kernel_rfl) (by kernel_rfl) rfl kW (by first | decide | simp) ?_)
  intro W3 u3 k3
  change Blk _ _ [c0, c1, .int .i64 deep, .int .i64 (looked + 1), c4, .pointer (some ⟨b, 0, none⟩), .int .i64 tree, c7, .slice pw way.length cw, c9] _ at k3
  replace hO := hO.trans (Only.of_upd u3 kW (by decide))
  replace hB := u3.below hB hBb
  replace k1 := u3.blk k1 (Ne.symm d1_bw)
  replace k2 := u3.blk k2 (Ne.symm d2_bw)
  replace hway := u3.own2 hway kW (by decide)
  replace hI := hI.only (Only.of_upd (T := [53]) u3 kW (by decide)) (by decide)
  refine wpList_nil ?_
  refine wp_seq ?_
  refine wp_seq ?_
  refine wp_region_lit ?_
  refine g_pv 3 [(19, .pointer (some ⟨bw, 0, none⟩)), (20, .pointer (some ⟨bw, 0, none⟩)), (21, .pointer (some ⟨bw, 8, none⟩))] (by kernel_rfl) ?_
  refine g_op (by kernel_rfl) (op_load ⟨bw, 8, none⟩ (.slice pw way.length cw) rfl (by kernel_rfl) (by kernel_rfl) (k3.cell (i := 8) rfl) ?_)
  refine g_pv 1 [(23, .int .i64 no)] (by kernel_rfl) ?_
  refine g_op (by kernel_rfl) (op_call (lb := #[]) 50 #[.slice pw way.length cw, .int .i64 no] rfl (by kernel_rfl) (fun _ _ => by kernel_rfl) (by kernel_rfl) ((containsI pw cw way no _ (own_sl hway) hwl).mono ?_))
  rintro e W4 ⟨rfl, hb4⟩
  refine ⟨_, rfl, ?_⟩
  replace hO := hO.trans (Only.of_below hb4)
  replace hB := Bl.nextB hB hBw hb4
  replace k3 := k3.below hb4
  replace k1 := k1.below hb4
  replace k2 := k2.below hb4
  replace hway := own_below hway hb4
  replace hI := hI.below hb4
  refine wpList_nil ?_
  refine wp_cond_split (t := (hasI way no)) (by kernel_rfl) (fun hc5 => ?_) (fun hc5 => ?_)
  · refine wp_seq ?_
    refine wp_region_lit ?_
    refine g_pv 3 [(25, .agg #[.int .i64 0, .bool false, .slice none 0 0, .slice none 0 0]), (26, .int .i64 no), (27, .iface 43 (.int .i64 11))] (by kernel_rfl) ?_
    refine g_op (by kernel_rfl) (op_call (lb := #[]) 29 #[.int .i64 no, .iface 43 (.int .i64 11)] rfl (by kernel_rfl) (fun _ _ => by kernel_rfl) (by kernel_rfl) ((fault_At no (some 11) [] _ _ rfl).mono ?_))
    rintro e W6 ⟨r6, rfl, hb6, hv6⟩
    refine ⟨_, rfl, ?_⟩
    replace hO := hO.trans (Only.of_below hb6)
    replace hB := Bl.nextB hB hBw hb6
    replace k3 := k3.below hb6
    replace k1 := k1.below hb6
    replace k2 := k2.below hb6
    replace hway := own_below hway hb6
    replace hI := hI.below hb6
    rw [atL_some] at hv6
    obtain ⟨t6, x6, rfl⟩ := hv6.iface
    refine g_op (by kernel_rfl) (op_storev (b := b2) (off := 0) [.int .i64 0, .bool false, .slice none 0 0, .slice none 0 0] rfl (by kernel_rfl) (by kernel_rfl) (by kernel_rfl) (by first | decide | simp [Value.oneCell']) k2 (by first | decide | simp) ?_)
    intro W7 u7 k7
    change Blk _ _ [.int .i64 0, .bool false, .slice none 0 0, .slice none 0 0] _ at k7
    replace hO := (Only.upd_new hO u7 g2)
    replace hB := u7.below hB (Nat.le_trans hBw g2)
    replace k3 := u7.blk k3 (Ne.symm (Ne.symm d2_bw))
    replace k1 := u7.blk k1 (Ne.symm (Ne.symm d2_b1))
    replace hway := u7.own2 hway k2 (by decide)
    replace hI := hI.only (Only.of_upd (T := [36]) u7 k2 (by decide)) (by decide)
    replace hv6 := hv6.upd u7 k2 (by decide)
    refine g_pv 1 [(7, .iface t6 (x6))] (by kernel_rfl) ?_
    refine wpList_nil ?_
    refine wp_ret (then_ret ?_)
    exact g_ret (.tuple #[.agg #[.int .i64 0, .bool false, .slice none 0 0, .slice none 0 0], .iface t6 (x6)]) (by kernel_rfl) (res_ct (d := _) (cs := [.int .i64 0, .bool false, .slice none 0 0, .slice none 0 0]) rfl (by kernel_rfl) (by kernel_rfl) k7.whole Try.underlying36 rfl (by kernel_rfl)) ⟨hB, hO, k3, .inl ⟨by (unfold lookE; (repeat' split) <;> first | rfl | assumption | decide | omega | exact absurd (Eq.trans (Eq.symm ‹hasI _ _ = true›) ‹hasI _ _ = false›) (by decide) | (rename_i q; exact absurd ⟨by assumption, by assumption, by assumption⟩ q) | (rename_i q; obtain ⟨q1, q2, q3⟩ := q; exact absurd (Eq.trans (Eq.symm q1) ‹nodL _ = false›) (by decide)) | (rename_i q; obtain ⟨q1, q2, q3⟩ := q; omega)), _, _, _, _, _, _, _, _, _, _, rfl, by (unfold lookE; (repeat' split) <;> first | exact hv6 | (exfalso; omega) | contradiction | exact absurd (Eq.trans (Eq.symm ‹hasI _ _ = true›) ‹hasI _ _ = false›) (by decide) | (rename_i q; exact absurd ⟨by assumption, by assumption, by assumption⟩ q) | (rename_i q; obtain ⟨q1, q2, q3⟩ := q; exact absurd (Eq.trans (Eq.symm q1) ‹nodL _ = false›) (by decide)) | (rename_i q; obtain ⟨q1, q2, q3⟩ := q; omega))⟩⟩
  · refine wp_skip ?_
    refine wp_seq ?_
    refine wp_seq ?_
    refine wp_region_lit ?_
    refine g_pv 3 [(29, .pointer (some ⟨bw, 0, none⟩)), (30, .pointer (some ⟨bw, 0, none⟩)), (31, .pointer (some ⟨bw, 8, none⟩))] (by kernel_rfl) ?_
    refine g_op (by kernel_rfl) (op_load ⟨bw, 8, none⟩ (.slice pw way.length cw) rfl (by kernel_rfl) (by kernel_rfl) (k3.cell (i := 8) rfl) ?_)
    refine g_pv 2 [(33, .int .i64 (↑way.length : Int)), (34, .bool (decide ((↑way.length : Int) ≥ (16 : Int))))] (by kernel_rfl) ?_
    refine wpList_nil ?_
    refine wp_cond_split (t := decide ((↑way.length : Int) ≥ (16 : Int))) (by kernel_rfl) (fun hc8 => ?_) (fun hc8 => ?_)
    · have hc8 := of_decide_eq_true hc8
      refine wp_seq ?_
      refine wp_region_lit ?_
      refine g_pv 3 [(35, .agg #[.int .i64 0, .bool false, .slice none 0 0, .slice none 0 0]), (36, .int .i64 no), (37, .iface 43 (.int .i64 10))] (by kernel_rfl) ?_
      refine g_op (by kernel_rfl) (op_call (lb := #[]) 29 #[.int .i64 no, .iface 43 (.int .i64 10)] rfl (by kernel_rfl) (fun _ _ => by kernel_rfl) (by kernel_rfl) ((fault_At no (some 10) [] _ _ rfl).mono ?_))
      rintro e W9 ⟨r9, rfl, hb9, hv9⟩
      refine ⟨_, rfl, ?_⟩
      replace hO := hO.trans (Only.of_below hb9)
      replace hB := Bl.nextB hB hBw hb9
      replace k3 := k3.below hb9
      replace k1 := k1.below hb9
      replace k2 := k2.below hb9
      replace hway := own_below hway hb9
      replace hI := hI.below hb9
      rw [atL_some] at hv9
      obtain ⟨t9, x9, rfl⟩ := hv9.iface
      refine g_op (by kernel_rfl) (op_storev (b := b2) (off := 0) [.int .i64 0, .bool false, .slice none 0 0, .slice none 0 0] rfl (by kernel_rfl) (by kernel_rfl) (by kernel_rfl) (by first | decide | simp [Value.oneCell']) k2 (by first | decide | simp) ?_)
      intro W10 u10 k10
      change Blk _ _ [.int .i64 0, .bool false, .slice none 0 0, .slice none 0 0] _ at k10
      replace hO := (Only.upd_new hO u10 g2)
      replace hB := u10.below hB (Nat.le_trans hBw g2)
      replace k3 := u10.blk k3 (Ne.symm (Ne.symm d2_bw))
      replace k1 := u10.blk k1 (Ne.symm (Ne.symm d2_b1))
      replace hway := u10.own2 hway k2 (by decide)
      replace hI := hI.only (Only.of_upd (T := [36]) u10 k2 (by decide)) (by decide)
      replace hv9 := hv9.upd u10 k2 (by decide)
      refine g_pv 1 [(7, .iface t9 (x9))] (by kernel_rfl) ?_
      refine wpList_nil ?_
      refine wp_ret (then_ret ?_)
      exact g_ret (.tuple #[.agg #[.int .i64 0, .bool false, .slice none 0 0, .slice none 0 0], .iface t9 (x9)]) (by kernel_rfl) (res_ct (d := _) (cs := [.int .i64 0, .bool false, .slice none 0 0, .slice none 0 0]) rfl (by kernel_rfl) (by kernel_rfl) k10.whole Try.underlying36 rfl (by kernel_rfl)) ⟨hB, hO, k3, .inl ⟨by (unfold lookE; (repeat' split) <;> first | rfl | assumption | decide | omega | exact absurd (Eq.trans (Eq.symm ‹hasI _ _ = true›) ‹hasI _ _ = false›) (by decide) | (rename_i q; exact absurd ⟨by assumption, by assumption, by assumption⟩ q) | (rename_i q; obtain ⟨q1, q2, q3⟩ := q; exact absurd (Eq.trans (Eq.symm q1) ‹nodL _ = false›) (by decide)) | (rename_i q; obtain ⟨q1, q2, q3⟩ := q; omega)), _, _, _, _, _, _, _, _, _, _, rfl, by (unfold lookE; (repeat' split) <;> first | exact hv9 | (exfalso; omega) | contradiction | exact absurd (Eq.trans (Eq.symm ‹hasI _ _ = true›) ‹hasI _ _ = false›) (by decide) | (rename_i q; exact absurd ⟨by assumption, by assumption, by assumption⟩ q) | (rename_i q; obtain ⟨q1, q2, q3⟩ := q; exact absurd (Eq.trans (Eq.symm q1) ‹nodL _ = false›) (by decide)) | (rename_i q; obtain ⟨q1, q2, q3⟩ := q; omega))⟩⟩
    · have hc8 := of_decide_eq_false hc8
      refine wp_skip ?_
      refine wp_seq ?_
      replace hO := hO.trans (Only.of_below (below_drew W4))
      replace hB := Bl.nextB hB hBw (below_drew W4)
      replace k3 := k3.below (below_drew W4)
      replace k1 := k1.below (below_drew W4)
      replace k2 := k2.below (below_drew W4)
      replace hway := own_below hway (below_drew W4)
      replace hI := hI.below (below_drew W4)
      refine h_reg (Below (W4.drew).heap.size (W4.drew)) 16 rfl #[false, false, false, false, false, false, false, false, false, false, false, false, false, false, false, false] rfl (by kernel_rfl) (Below.refl _ _) ?_
      intro hS11
      have hBd13 := hB
      have kd13_bw := k3
      have kd13_b1 := k1
      have kd13_b2 := k2
      have hOd13 := hO
      refine h_pv [0, 1, 2] 13 rfl #[true, true, true, false, false, false, false, false, false, false, false, false, false, false, false, false] [(40, .pointer (some ⟨bw, 0, none⟩)), (41, .pointer (some ⟨bw, 0, none⟩)), (42, .pointer (some ⟨bw, 5, none⟩))] (by kernel_rfl) (fun _ _ _ _ _ h => h) (by kernel_rfl) hS11 ?_
      refine h_load 3 12 rfl ⟨bw, 5, none⟩ (.pointer (some ⟨b, 0, none⟩)) rfl (by kernel_rfl) (by kernel_rfl) (by kernel_rfl) (fun _ _ _ _ _ h => h) (by kernel_rfl) rfl (by kernel_rfl) (by kernel_rfl) (fun V hV => ((kd13_bw.below hV).cell (i := 5) rfl)) hS11 ?_
      refine h_pv [4, 5, 6, 7] 8 rfl #[true, true, true, true, true, true, true, true, false, false, false, false, false, false, false, false] [(44, .int .i64 no), (45, .pointer (some ⟨bw, 0, none⟩)), (46, .pointer (some ⟨bw, 0, none⟩)), (47, .pointer (some ⟨bw, 6, none⟩))] (by kernel_rfl) (fun _ _ _ _ _ h => h) (by kernel_rfl) hS11 ?_
      refine h_load 8 7 rfl ⟨bw, 6, none⟩ (.int .i64 tree) rfl (by kernel_rfl) (by kernel_rfl) (by kernel_rfl) (fun _ _ _ _ _ h => h) (by kernel_rfl) rfl (by kernel_rfl) (by kernel_rfl) (fun V hV => ((kd13_bw.below hV).cell (i := 6) rfl)) hS11 ?_
      refine h_two 9 13 6 rfl (by kernel_rfl) rfl rfl (by kernel_rfl) (by kernel_rfl) ?_ ?_
      · have hs14 : w.heap.size ≤ (W4.drew).heap.size := hB.size
        refine op_call (lb := #[]) 7 #[.pointer (some ⟨b, 0, none⟩), .int .i64 no, .int .i64 tree] rfl (by kernel_rfl) (fun _ _ => by kernel_rfl) (by kernel_rfl) ((block_Node Bi b p n c l no tree _ hI).mono ?_)
        rintro e W14 hq14
        rcases hq14 with ⟨he, bf, rfl, hb14, hv⟩ | ⟨he, kp, kc, vp, vc, rfl, hb14, hk, hv_⟩
        · refine ⟨_, rfl, ?_⟩
          replace hO := hO.trans (Only.of_below hb14)
          replace hB := Bl.nextB hB hBw hb14
          replace k3 := k3.below hb14
          replace k1 := k1.below hb14
          replace k2 := k2.below hb14
          replace hway := own_below hway hb14
          replace hI := hI.below hb14
          have hS15 : Below (W4.drew).heap.size (W4.drew) (W14) := Bl.next hS11 hb14
          refine ⟨hS15, ?_⟩
          refine h_pv [10, 11, 12] 3 rfl #[true, true, true, true, true, true, true, true, true, true, true, true, true, false, false, false] [(39, .tuple #[.agg #[.int .i64 0, .bool false, .slice none 0 0, .slice none 0 0], .iface 61 (.pointer (some ⟨bf, 0, none⟩))]), (50, .agg #[.int .i64 0, .bool false, .slice none 0 0, .slice none 0 0]), (51, .iface 61 (.pointer (some ⟨bf, 0, none⟩)))] (by kernel_rfl) (fun _ _ _ _ _ h => h) (by kernel_rfl) hS15 ?_
          refine h_one 13 2 rfl (by kernel_rfl) rfl (by kernel_rfl) (op_alloc [.int .i64 0, .bool false, .slice none 0 0, .slice none 0 0] rfl (by kernel_rfl) ?_)
          intro b16 W16 n16
          have d16_bw := n16.ne k3
          have d16_b1 := n16.ne k1
          have d16_b2 := n16.ne k2
          have g16 := n16.ge0 hB
          have gd_b16 : (W4.drew).heap.size ≤ b16 := by have := hS15.size; have := n16.at_; omega
          replace hO := hO.trans (Only.of_below n16.below)
          replace hB := Bl.nextB hB hBw n16.below
          replace k3 := k3.below n16.below
          replace k1 := k1.below n16.below
          replace k2 := k2.below n16.below
          replace hway := own_below hway n16.below
          replace hI := hI.below n16.below
          replace hv := hv.below n16.below
          have k16 := n16.blk
          have hS17 : Below (W4.drew).heap.size (W4.drew) (W16) := Bl.next hS15 n16.below
          refine ⟨hS17, ?_⟩
          refine h_one 14 1 rfl (by kernel_rfl) rfl (by kernel_rfl) (op_storev (b := b16) (off := 0) [.int .i64 0, .bool false, .slice none 0 0, .slice none 0 0] rfl (by kernel_rfl) (by kernel_rfl) (by kernel_rfl) (by first | decide | simp [Value.oneCell']) k16 (by first | decide | simp) ?_)
          intro W18 u18 k18
          change Blk _ _ [.int .i64 0, .bool false, .slice none 0 0, .slice none 0 0] _ at k18
          replace hO := (Only.upd_new hO u18 g16)
          replace hB := u18.below hB (Nat.le_trans hBw g16)
          replace k3 := u18.blk k3 (Ne.symm (Ne.symm d16_bw))
          replace k1 := u18.blk k1 (Ne.symm (Ne.symm d16_b1))
          replace k2 := u18.blk k2 (Ne.symm (Ne.symm d16_b2))
          replace hway := u18.own2 hway k16 (by decide)
          replace hI := hI.only (Only.of_upd (T := [36]) u18 k16 (by decide)) (by decide)
          replace hv := hv.upd u18 k16 (by decide)
          have hS19 : Below (W4.drew).heap.size (W4.drew) (W18) := u18.below hS17 gd_b16
          refine ⟨hS19, ?_⟩
          refine h_pv [15] 0 rfl #[true, true, true, true, true, true, true, true, true, true, true, true, true, true, true, true] [(9, .iface 61 (.pointer (some ⟨bf, 0, none⟩)))] (by kernel_rfl) (fun _ _ _ _ _ h => h) (by kernel_rfl) hS19 ?_
          refine h_done _ (by kernel_rfl) ?_
          refine wp_seq ?_
          refine wp_block ?_
          refine wp_seq ?_
          refine wp_region_lit ?_
          refine g_pv 3 [(53, .iface 61 (.pointer (some ⟨bf, 0, none⟩))), (54, .bool true), (52, .bool true)] (by kernel_rfl) ?_
          refine wpList_nil ?_
          refine wp_cond_true (by kernel_rfl) ?_
          refine wp_seq ?_
          refine wp_region_lit ?_
          refine g_op (by kernel_rfl) (op_loadv (b := b16) (off := 0) [.int .i64 0, .bool false, .slice none 0 0, .slice none 0 0] _ rfl (by kernel_rfl) Try.underlying36 rfl (by kernel_rfl) k18.whole ?_)
          refine g_pv 1 [(56, .iface 61 (.pointer (some ⟨bf, 0, none⟩)))] (by kernel_rfl) ?_
          refine g_op (by kernel_rfl) (op_storev (b := b2) (off := 0) [.int .i64 0, .bool false, .slice none 0 0, .slice none 0 0] rfl (by kernel_rfl) (by kernel_rfl) (by kernel_rfl) (by first | decide | simp [Value.oneCell']) k2 (by first | decide | simp) ?_)
          intro W20 u20 k20
          change Blk _ _ [.int .i64 0, .bool false, .slice none 0 0, .slice none 0 0] _ at k20
          replace hO := (Only.upd_new hO u20 g2)
          replace hB := u20.below hB (Nat.le_trans hBw g2)
          replace k3 := u20.blk k3 (Ne.symm (Ne.symm d2_bw))
          replace k1 := u20.blk k1 (Ne.symm (Ne.symm d2_b1))
          replace k18 := u20.blk k18 (Ne.symm d16_b2)
          replace hway := u20.own2 hway k2 (by decide)
          replace hI := hI.only (Only.of_upd (T := [36]) u20 k2 (by decide)) (by decide)
          replace hv := hv.upd u20 k2 (by decide)
          refine g_pv 1 [(7, .iface 61 (.pointer (some ⟨bf, 0, none⟩)))] (by kernel_rfl) ?_
          refine wpList_nil ?_
          refine wp_ret (inBlock_ret (then_ret ?_))
          exact g_ret (.tuple #[.agg #[.int .i64 0, .bool false, .slice none 0 0, .slice none 0 0], .iface 61 (.pointer (some ⟨bf, 0, none⟩))]) (by kernel_rfl) (res_ct (d := _) (cs := [.int .i64 0, .bool false, .slice none 0 0, .slice none 0 0]) rfl (by kernel_rfl) (by kernel_rfl) k20.whole Try.underlying36 rfl (by kernel_rfl)) ⟨hB, hO, k3, .inl ⟨by (unfold lookE; (repeat' split) <;> first | rfl | assumption | decide | omega | exact absurd (Eq.trans (Eq.symm ‹hasI _ _ = true›) ‹hasI _ _ = false›) (by decide) | (rename_i q; exact absurd ⟨by assumption, by assumption, by assumption⟩ q) | (rename_i q; obtain ⟨q1, q2, q3⟩ := q; exact absurd (Eq.trans (Eq.symm q1) ‹nodL _ = false›) (by decide)) | (rename_i q; obtain ⟨q1, q2, q3⟩ := q; omega)), _, _, _, _, _, _, _, _, _, _, rfl, by (unfold lookE; (repeat' split) <;> first | exact hv | (exfalso; omega) | contradiction | exact absurd (Eq.trans (Eq.symm ‹hasI _ _ = true›) ‹hasI _ _ = false›) (by decide) | (rename_i q; exact absurd ⟨by assumption, by assumption, by assumption⟩ q) | (rename_i q; obtain ⟨q1, q2, q3⟩ := q; exact absurd (Eq.trans (Eq.symm q1) ‹nodL _ = false›) (by decide)) | (rename_i q; obtain ⟨q1, q2, q3⟩ := q; omega))⟩⟩
        · refine ⟨_, rfl, ?_⟩
          replace hO := hO.trans (Only.of_below hb14)
          replace hB := Bl.nextB hB hBw hb14
          replace k3 := k3.below hb14
          replace k1 := k1.below hb14
          replace k2 := k2.below hb14
          replace hway := own_below hway hb14
          replace hI := hI.below hb14
          replace hk := own_mono hk hs14
          replace hv_ := own_mono hv_ hs14
          have hS21 : Below (W4.drew).heap.size (W4.drew) (W14) := Bl.next hS11 hb14
          refine ⟨hS21, ?_⟩
          refine h_pv [10, 11, 12] 3 rfl #[true, true, true, true, true, true, true, true, true, true, true, true, true, false, false, false] [(39, .tuple #[.agg #[.int .i64 (nodT (inB l no)), .bool (nodL (inB l no)), .slice kp (nodC (inB l no)) kc, .slice vp (nodC (inB l no)) vc], .nilIface]), (50, .agg #[.int .i64 (nodT (inB l no)), .bool (nodL (inB l no)), .slice kp (nodC (inB l no)) kc, .slice vp (nodC (inB l no)) vc]), (51, .nilIface)] (by kernel_rfl) (fun _ _ _ _ _ h => h) (by kernel_rfl) hS21 ?_
          refine h_one 13 2 rfl (by kernel_rfl) rfl (by kernel_rfl) (op_alloc [.int .i64 0, .bool false, .slice none 0 0, .slice none 0 0] rfl (by kernel_rfl) ?_)
          intro b22 W22 n22
          have d22_bw := n22.ne k3
          have d22_b1 := n22.ne k1
          have d22_b2 := n22.ne k2
          have g22 := n22.ge0 hB
          have gd_b22 : (W4.drew).heap.size ≤ b22 := by have := hS21.size; have := n22.at_; omega
          replace hO := hO.trans (Only.of_below n22.below)
          replace hB := Bl.nextB hB hBw n22.below
          replace k3 := k3.below n22.below
          replace k1 := k1.below n22.below
          replace k2 := k2.below n22.below
          replace hway := own_below hway n22.below
          replace hI := hI.below n22.below
          replace hk := own_below hk n22.below
          replace hv_ := own_below hv_ n22.below
          have k22 := n22.blk
          have hS23 : Below (W4.drew).heap.size (W4.drew) (W22) := Bl.next hS21 n22.below
          refine ⟨hS23, ?_⟩
          refine h_one 14 1 rfl (by kernel_rfl) rfl (by kernel_rfl) (op_storev (b := b22) (off := 0) [.int .i64 (nodT (inB l no)), .bool (nodL (inB l no)), .slice kp (nodC (inB l no)) kc, .slice vp (nodC (inB l no)) vc] rfl (by kernel_rfl) (by kernel_rfl) (by kernel_rfl) (by first | decide | simp [Value.oneCell']) k22 (by first | decide | simp) ?_)
          intro W24 u24 k24
          change Blk _ _ [.int .i64 (nodT (inB l no)), .bool (nodL (inB l no)), .slice kp (nodC (inB l no)) kc, .slice vp (nodC (inB l no)) vc] _ at k24
          replace hO := (Only.upd_new hO u24 g22)
          replace hB := u24.below hB (Nat.le_trans hBw g22)
          replace k3 := u24.blk k3 (Ne.symm (Ne.symm d22_bw))
          replace k1 := u24.blk k1 (Ne.symm (Ne.symm d22_b1))
          replace k2 := u24.blk k2 (Ne.symm (Ne.symm d22_b2))
          replace hway := u24.own2 hway k22 (by decide)
          replace hI := hI.only (Only.of_upd (T := [36]) u24 k22 (by decide)) (by decide)
          replace hk := u24.own2 hk k22 (by decide)
          replace hv_ := u24.own2 hv_ k22 (by decide)
          have hS25 : Below (W4.drew).heap.size (W4.drew) (W24) := u24.below hS23 gd_b22
          refine ⟨hS25, ?_⟩
          refine h_pv [15] 0 rfl #[true, true, true, true, true, true, true, true, true, true, true, true, true, true, true, true] [(9, .nilIface)] (by kernel_rfl) (fun _ _ _ _ _ h => h) (by kernel_rfl) hS25 ?_
          refine h_done _ (by kernel_rfl) ?_
          refine wp_seq ?_
          refine wp_block ?_
          refine wp_seq ?_
          refine wp_region_lit ?_
          refine g_pv 3 [(53, .nilIface), (54, .bool false), (52, .bool false)] (by kernel_rfl) ?_
          refine wpList_nil ?_
          refine wp_cond_false (by kernel_rfl) ?_
          refine wp_seq ?_
          refine wp_region_lit ?_
          refine g_op (by kernel_rfl) (op_loadv (b := b1) (off := 0) [.int .i64 lo, .int .i64 hi] _ rfl (by kernel_rfl) Try.underlying56 rfl (by kernel_rfl) k1.whole ?_)
          refine g_pv 1 [(59, .pointer (some ⟨b22, 2, none⟩))] (by kernel_rfl) ?_
          refine g_op (by kernel_rfl) (op_load ⟨b22, 2, none⟩ (.slice kp (nodC (inB l no)) kc) rfl (by kernel_rfl) (by kernel_rfl) (k24.cell (i := 2) rfl) ?_)
          refine g_op (by kernel_rfl) (op_call (lb := #[]) 51 #[.agg #[.int .i64 lo, .int .i64 hi], .slice kp (nodC (inB l no)) kc] rfl (by kernel_rfl) (fun _ _ => by kernel_rfl) (by kernel_rfl) ((span_fits lo hi _ (keysI (inB l no) (nodC (inB l no))) _ (intsN_of (own_sl hk) (keysI_len _ _))).mono ?_))
          rintro e W26 ⟨rfl, hb26⟩
          refine ⟨_, rfl, ?_⟩
          replace hO := hO.trans (Only.of_below hb26)
          replace hB := Bl.nextB hB hBw hb26
          replace k3 := k3.below hb26
          replace k1 := k1.below hb26
          replace k2 := k2.below hb26
          replace k24 := k24.below hb26
          replace hway := own_below hway hb26
          replace hI := hI.below hb26
          replace hk := own_below hk hb26
          replace hv_ := own_below hv_ hb26
          refine g_pv 2 [(62, .bool ((fitsI lo hi (keysI (inB l no) (nodC (inB l no)))) != (0 : Int))), (57, .bool ((fitsI lo hi (keysI (inB l no) (nodC (inB l no)))) != (0 : Int)))] (by kernel_rfl) ?_
          refine wpList_nil ?_
          refine wp_cond_split (t := ((fitsI lo hi (keysI (inB l no) (nodC (inB l no)))) != (0 : Int))) (by kernel_rfl) (fun hc27 => ?_) (fun hc27 => ?_)
          · have hc27 := ne_of_bne hc27
            refine wp_seq ?_
            replace hO := hO.trans (Only.of_below (below_drew W26))
            replace hB := Bl.nextB hB hBw (below_drew W26)
            replace k3 := k3.below (below_drew W26)
            replace k1 := k1.below (below_drew W26)
            replace k2 := k2.below (below_drew W26)
            replace k24 := k24.below (below_drew W26)
            replace hway := own_below hway (below_drew W26)
            replace hI := hI.below (below_drew W26)
            replace hk := own_below hk (below_drew W26)
            replace hv_ := own_below hv_ (below_drew W26)
            refine h_reg (BelowBut (W26.drew) b2) 6 rfl #[false, false, false, false, false, false] rfl (by kernel_rfl) ((Below.refl _ _).but _) ?_
            intro hS28
            have hBd30 := hB
            have kd30_bw := k3
            have kd30_b1 := k1
            have kd30_b2 := k2
            have kd30_b22 := k24
            have hOd30 := hO
            refine h_loadv (b := b22) (off := 0) 0 5 rfl [.int .i64 (nodT (inB l no)), .bool (nodL (inB l no)), .slice kp (nodC (inB l no)) kc, .slice vp (nodC (inB l no)) vc] _ rfl (by kernel_rfl) (by kernel_rfl) (by kernel_rfl) (fun _ _ _ _ _ h => h) (by kernel_rfl) rfl (by kernel_rfl) Try.underlying36 rfl (by kernel_rfl) (fun V hV => (hV.blk kd30_b22 (Ne.symm d22_b2)).whole) hS28 ?_
            refine h_pv [1, 2] 3 rfl #[true, true, true, false, false, false] [(64, .int .i64 no), (65, .iface 43 (.int .i64 9))] (by kernel_rfl) (fun _ _ _ _ _ h => h) (by kernel_rfl) hS28 ?_
            refine h_one 3 2 rfl (by kernel_rfl) rfl (by kernel_rfl) (op_call (lb := #[]) 29 #[.int .i64 no, .iface 43 (.int .i64 9)] rfl (by kernel_rfl) (fun _ _ => by kernel_rfl) (by kernel_rfl) ((fault_At no (some 9) [] _ _ rfl).mono ?_))
            rintro e W31 ⟨r31, rfl, hb31, hv31⟩
            refine ⟨_, rfl, ?_⟩
            replace hO := hO.trans (Only.of_below hb31)
            replace hB := Bl.nextB hB hBw hb31
            replace k3 := k3.below hb31
            replace k1 := k1.below hb31
            replace k2 := k2.below hb31
            replace k24 := k24.below hb31
            replace hway := own_below hway hb31
            replace hI := hI.below hb31
            replace hk := own_below hk hb31
            replace hv_ := own_below hv_ hb31
            rw [atL_some] at hv31
            obtain ⟨t31, x31, rfl⟩ := hv31.iface
            have hS32 : BelowBut (W26.drew) b2 (W31) := hS28.next hb31
            refine ⟨hS32, ?_⟩
            refine h_one 4 1 rfl (by kernel_rfl) rfl (by kernel_rfl) (op_storev (b := b2) (off := 0) [.int .i64 (nodT (inB l no)), .bool (nodL (inB l no)), .slice kp (nodC (inB l no)) kc, .slice vp (nodC (inB l no)) vc] rfl (by kernel_rfl) (by kernel_rfl) (by kernel_rfl) (by first | decide | simp [Value.oneCell']) k2 (by first | decide | simp) ?_)
            intro W33 u33 k33
            change Blk _ _ [.int .i64 (nodT (inB l no)), .bool (nodL (inB l no)), .slice kp (nodC (inB l no)) kc, .slice vp (nodC (inB l no)) vc] _ at k33
            replace hO := (Only.upd_new hO u33 g2)
            replace hB := u33.below hB (Nat.le_trans hBw g2)
            replace k3 := u33.blk k3 (Ne.symm (Ne.symm d2_bw))
            replace k1 := u33.blk k1 (Ne.symm (Ne.symm d2_b1))
            replace k24 := u33.blk k24 (Ne.symm d22_b2)
            replace hway := u33.own2 hway k2 (by decide)
            replace hI := hI.only (Only.of_upd (T := [36]) u33 k2 (by decide)) (by decide)
            replace hk := u33.own2 hk k2 (by decide)
            replace hv_ := u33.own2 hv_ k2 (by decide)
            replace hv31 := hv31.upd u33 k2 (by decide)
            have hS34 : BelowBut (W26.drew) b2 (W33) := hS32.upd u33
            refine ⟨hS34, ?_⟩
            refine h_pv [5] 0 rfl #[true, true, true, true, true, true] [(7, .iface t31 (x31))] (by kernel_rfl) (fun _ _ _ _ _ h => h) (by kernel_rfl) hS34 ?_
            refine h_done _ (by kernel_rfl) ?_
            refine wp_ret (inBlock_ret (then_ret ?_))
            exact g_ret (.tuple #[.agg #[.int .i64 (nodT (inB l no)), .bool (nodL (inB l no)), .slice kp (nodC (inB l no)) kc, .slice vp (nodC (inB l no)) vc], .iface t31 (x31)]) (by kernel_rfl) (res_ct (d := _) (cs := [.int .i64 (nodT (inB l no)), .bool (nodL (inB l no)), .slice kp (nodC (inB l no)) kc, .slice vp (nodC (inB l no)) vc]) rfl (by kernel_rfl) (by kernel_rfl) k33.whole Try.underlying36 rfl (by kernel_rfl)) ⟨hB, hO, k3, .inl ⟨by (unfold lookE; (repeat' split) <;> first | rfl | assumption | decide | omega | exact absurd (Eq.trans (Eq.symm ‹hasI _ _ = true›) ‹hasI _ _ = false›) (by decide) | (rename_i q; exact absurd ⟨by assumption, by assumption, by assumption⟩ q) | (rename_i q; obtain ⟨q1, q2, q3⟩ := q; exact absurd (Eq.trans (Eq.symm q1) ‹nodL _ = false›) (by decide)) | (rename_i q; obtain ⟨q1, q2, q3⟩ := q; omega)), _, _, _, _, _, _, _, _, _, _, rfl, by (unfold lookE; (repeat' split) <;> first | exact hv31 | (exfalso; omega) | contradiction | exact absurd (Eq.trans (Eq.symm ‹hasI _ _ = true›) ‹hasI _ _ = false›) (by decide) | (rename_i q; exact absurd ⟨by assumption, by assumption, by assumption⟩ q) | (rename_i q; obtain ⟨q1, q2, q3⟩ := q; exact absurd (Eq.trans (Eq.symm q1) ‹nodL _ = false›) (by decide)) | (rename_i q; obtain ⟨q1, q2, q3⟩ := q; omega))⟩⟩
          · have hc27 := eq_of_bne_false hc27
            refine wp_seq ?_
            replace hO := hO.trans (Only.of_below (below_drew W26))
            replace hB := Bl.nextB hB hBw (below_drew W26)
            replace k3 := k3.below (below_drew W26)
            replace k1 := k1.below (below_drew W26)
            replace k2 := k2.below (below_drew W26)
            replace k24 := k24.below (below_drew W26)
            replace hway := own_below hway (below_drew W26)
            replace hI := hI.below (below_drew W26)
            replace hk := own_below hk (below_drew W26)
            replace hv_ := own_below hv_ (below_drew W26)
            refine h_reg (Below (W26.drew).heap.size (W26.drew)) 25 rfl #[false, false, false, false, false, false, false, false, false, false, false, false, false, false, false, false, false, false, false, false, false, false, false, false, false] rfl (by kernel_rfl) (Below.refl _ _) ?_
            intro hS35
            have hBd37 := hB
            have kd37_bw := k3
            have kd37_b1 := k1
            have kd37_b2 := k2
            have kd37_b22 := k24
            have hOd37 := hO
            refine h_pv [0] 24 rfl #[true, false, false, false, false, false, false, false, false, false, false, false, false, false, false, false, false, false, false, false, false, false, false, false, false] [(68, .pointer (some ⟨b22, 1, none⟩))] (by kernel_rfl) (fun _ _ _ _ _ h => h) (by kernel_rfl) hS35 ?_
            refine h_load 1 23 rfl ⟨b22, 1, none⟩ (.bool (nodL (inB l no))) rfl (by kernel_rfl) (by kernel_rfl) (by kernel_rfl) (fun _ _ _ _ _ h => h) (by kernel_rfl) rfl (by kernel_rfl) (by kernel_rfl) (fun V hV => ((k24.below hV).cell (i := 1) rfl)) hS35 ?_
            refine h_pv [2] 22 rfl #[true, true, true, false, false, false, false, false, false, false, false, false, false, false, false, false, false, false, false, false, false, false, false, false, false] [(70, .bool (nodL (inB l no)))] (by kernel_rfl) (fun _ _ _ _ _ h => h) (by kernel_rfl) hS35 ?_
            rcases Bool.eq_false_or_eq_true (nodL (inB l no)) with hc38 | hc38
            · refine h_b [69, 70] _ _ hc38 (by kernel_rfl) ?_
              refine h_pv [3, 4, 5, 6] 18 rfl #[true, true, true, true, true, true, true, false, false, false, false, false, false, false, false, false, false, false, false, false, false, false, false, false, false] [(71, .pointer (some ⟨bw, 0, none⟩)), (72, .pointer (some ⟨bw, 0, none⟩)), (73, .pointer (some ⟨bw, 0, none⟩)), (74, .pointer (some ⟨bw, 2, none⟩))] (by kernel_rfl) (fun _ _ _ _ _ h => h) (by kernel_rfl) hS35 ?_
              refine h_load 7 17 rfl ⟨bw, 2, none⟩ (.int .i64 deep) rfl (by kernel_rfl) (by kernel_rfl) (by kernel_rfl) (fun _ _ _ _ _ h => h) (by kernel_rfl) rfl (by kernel_rfl) (by kernel_rfl) (fun V hV => ((k3.below hV).cell (i := 2) rfl)) hS35 ?_
              refine h_pv [8, 9, 10] 14 rfl #[true, true, true, true, true, true, true, true, true, true, true, false, false, false, false, false, false, false, false, false, false, false, false, false, false] [(76, .bool (deep != (0 : Int))), (77, .bool (deep != (0 : Int))), (78, .bool (deep != (0 : Int)))] (by kernel_rfl) (fun _ _ _ _ _ h => h) (by kernel_rfl) hS35 ?_
              rcases Bool.eq_false_or_eq_true (deep != (0 : Int)) with hc39 | hc39
              · refine h_b [76, 77, 78] _ _ hc39 (by kernel_rfl) ?_
                have hc39 := ne_of_bne hc39
                refine h_pv [11, 12, 13, 14] 10 rfl #[true, true, true, true, true, true, true, true, true, true, true, true, true, true, true, false, false, false, false, false, false, false, false, false, false] [(79, .pointer (some ⟨bw, 0, none⟩)), (80, .pointer (some ⟨bw, 0, none⟩)), (81, .pointer (some ⟨bw, 0, none⟩)), (82, .pointer (some ⟨bw, 2, none⟩))] (by kernel_rfl) (fun _ _ _ _ _ h => h) (by kernel_rfl) hS35 ?_
                refine h_load 15 9 rfl ⟨bw, 2, none⟩ (.int .i64 deep) rfl (by kernel_rfl) (by kernel_rfl) (by kernel_rfl) (fun _ _ _ _ _ h => h) (by kernel_rfl) rfl (by kernel_rfl) (by kernel_rfl) (fun V hV => ((k3.below hV).cell (i := 2) rfl)) hS35 ?_
                refine h_pv [16, 17, 18] 6 rfl #[true, true, true, true, true, true, true, true, true, true, true, true, true, true, true, true, true, true, true, false, false, false, false, false, false] [(84, .pointer (some ⟨bw, 0, none⟩)), (85, .pointer (some ⟨bw, 0, none⟩)), (86, .pointer (some ⟨bw, 8, none⟩))] (by kernel_rfl) (fun _ _ _ _ _ h => h) (by kernel_rfl) hS35 ?_
                refine h_load 19 5 rfl ⟨bw, 8, none⟩ (.slice pw way.length cw) rfl (by kernel_rfl) (by kernel_rfl) (by kernel_rfl) (fun _ _ _ _ _ h => h) (by kernel_rfl) rfl (by kernel_rfl) (by kernel_rfl) (fun V hV => ((k3.below hV).cell (i := 8) rfl)) hS35 ?_
                refine h_pv [20] 4 rfl #[true, true, true, true, true, true, true, true, true, true, true, true, true, true, true, true, true, true, true, true, true, false, false, false, false] [(88, .int .i64 (↑way.length : Int))] (by kernel_rfl) (fun _ _ _ _ _ h => h) (by kernel_rfl) hS35 ?_
                refine h_val 21 3 rfl (.int .i64 (↑(way.length + 1) : Int)) rfl (by kernel_rfl) (by kernel_rfl) (by kernel_rfl) (fun _ _ _ _ _ h => h) (by kernel_rfl) (fun V hV => run_wrap .i64 ((↑way.length : Int) + 1) (↑(way.length + 1) : Int) (by kernel_rfl) ((show IntKind.i64.wrap ((↑way.length : Int) + 1) = ((↑way.length : Int) + 1) from by first | exact IntWalk.i64_in _ (by omega) | (simp only [IntKind.wrap]; omega)).trans (by omega)) V) hS35 ?_
                refine h_pv [22, 23, 24] 0 rfl #[true, true, true, true, true, true, true, true, true, true, true, true, true, true, true, true, true, true, true, true, true, true, true, true, true] [(90, .bool (deep != (↑(way.length + 1) : Int))), (91, .bool (deep != (↑(way.length + 1) : Int))), (67, .bool (deep != (↑(way.length + 1) : Int)))] (by kernel_rfl) (fun _ _ _ _ _ h => h) (by kernel_rfl) hS35 ?_
                refine h_done _ (by kernel_rfl) ?_
                refine wp_cond_split (t := (deep != (↑(way.length + 1) : Int))) (by kernel_rfl) (fun hc40 => ?_) (fun hc40 => ?_)
                · have hc40 := ne_of_bne hc40
                  refine wp_seq ?_
                  replace hO := hO.trans (Only.of_below (below_drew W26.drew))
                  replace hB := Bl.nextB hB hBw (below_drew W26.drew)
                  replace k3 := k3.below (below_drew W26.drew)
                  replace k1 := k1.below (below_drew W26.drew)
                  replace k2 := k2.below (below_drew W26.drew)
                  replace k24 := k24.below (below_drew W26.drew)
                  replace hway := own_below hway (below_drew W26.drew)
                  replace hI := hI.below (below_drew W26.drew)
                  replace hk := own_below hk (below_drew W26.drew)
                  replace hv_ := own_below hv_ (below_drew W26.drew)
                  refine h_reg (BelowBut (W26.drew.drew) b2) 6 rfl #[false, false, false, false, false, false] rfl (by kernel_rfl) ((Below.refl _ _).but _) ?_
                  intro hS41
                  have hBd43 := hB
                  have kd43_bw := k3
                  have kd43_b1 := k1
                  have kd43_b2 := k2
                  have kd43_b22 := k24
                  have hOd43 := hO
                  refine h_loadv (b := b22) (off := 0) 0 5 rfl [.int .i64 (nodT (inB l no)), .bool (nodL (inB l no)), .slice kp (nodC (inB l no)) kc, .slice vp (nodC (inB l no)) vc] _ rfl (by kernel_rfl) (by kernel_rfl) (by kernel_rfl) (fun _ _ _ _ _ h => h) (by kernel_rfl) rfl (by kernel_rfl) Try.underlying36 rfl (by kernel_rfl) (fun V hV => (hV.blk kd43_b22 (Ne.symm d22_b2)).whole) hS41 ?_
                  refine h_pv [1, 2] 3 rfl #[true, true, true, false, false, false] [(93, .int .i64 no), (94, .iface 43 (.int .i64 10))] (by kernel_rfl) (fun _ _ _ _ _ h => h) (by kernel_rfl) hS41 ?_
                  refine h_one 3 2 rfl (by kernel_rfl) rfl (by kernel_rfl) (op_call (lb := #[]) 29 #[.int .i64 no, .iface 43 (.int .i64 10)] rfl (by kernel_rfl) (fun _ _ => by kernel_rfl) (by kernel_rfl) ((fault_At no (some 10) [] _ _ rfl).mono ?_))
                  rintro e W44 ⟨r44, rfl, hb44, hv44⟩
                  refine ⟨_, rfl, ?_⟩
                  replace hO := hO.trans (Only.of_below hb44)
                  replace hB := Bl.nextB hB hBw hb44
                  replace k3 := k3.below hb44
                  replace k1 := k1.below hb44
                  replace k2 := k2.below hb44
                  replace k24 := k24.below hb44
                  replace hway := own_below hway hb44
                  replace hI := hI.below hb44
                  replace hk := own_below hk hb44
                  replace hv_ := own_below hv_ hb44
                  rw [atL_some] at hv44
                  obtain ⟨t44, x44, rfl⟩ := hv44.iface
                  have hS45 : BelowBut (W26.drew.drew) b2 (W44) := hS41.next hb44
                  refine ⟨hS45, ?_⟩
                  refine h_one 4 1 rfl (by kernel_rfl) rfl (by kernel_rfl) (op_storev (b := b2) (off := 0) [.int .i64 (nodT (inB l no)), .bool (nodL (inB l no)), .slice kp (nodC (inB l no)) kc, .slice vp (nodC (inB l no)) vc] rfl (by kernel_rfl) (by kernel_rfl) (by kernel_rfl) (by first | decide | simp [Value.oneCell']) k2 (by first | decide | simp) ?_)
                  intro W46 u46 k46
                  change Blk _ _ [.int .i64 (nodT (inB l no)), .bool (nodL (inB l no)), .slice kp (nodC (inB l no)) kc, .slice vp (nodC (inB l no)) vc] _ at k46
                  replace hO := (Only.upd_new hO u46 g2)
                  replace hB := u46.below hB (Nat.le_trans hBw g2)
                  replace k3 := u46.blk k3 (Ne.symm (Ne.symm d2_bw))
                  replace k1 := u46.blk k1 (Ne.symm (Ne.symm d2_b1))
                  replace k24 := u46.blk k24 (Ne.symm d22_b2)
                  replace hway := u46.own2 hway k2 (by decide)
                  replace hI := hI.only (Only.of_upd (T := [36]) u46 k2 (by decide)) (by decide)
                  replace hk := u46.own2 hk k2 (by decide)
                  replace hv_ := u46.own2 hv_ k2 (by decide)
                  replace hv44 := hv44.upd u46 k2 (by decide)
                  have hS47 : BelowBut (W26.drew.drew) b2 (W46) := hS45.upd u46
                  refine ⟨hS47, ?_⟩
                  refine h_pv [5] 0 rfl #[true, true, true, true, true, true] [(7, .iface t44 (x44))] (by kernel_rfl) (fun _ _ _ _ _ h => h) (by kernel_rfl) hS47 ?_
                  refine h_done _ (by kernel_rfl) ?_
                  refine wp_ret (inBlock_ret (then_ret ?_))
                  exact g_ret (.tuple #[.agg #[.int .i64 (nodT (inB l no)), .bool (nodL (inB l no)), .slice kp (nodC (inB l no)) kc, .slice vp (nodC (inB l no)) vc], .iface t44 (x44)]) (by kernel_rfl) (res_ct (d := _) (cs := [.int .i64 (nodT (inB l no)), .bool (nodL (inB l no)), .slice kp (nodC (inB l no)) kc, .slice vp (nodC (inB l no)) vc]) rfl (by kernel_rfl) (by kernel_rfl) k46.whole Try.underlying36 rfl (by kernel_rfl)) ⟨hB, hO, k3, .inl ⟨by (unfold lookE; (repeat' split) <;> first | rfl | assumption | decide | omega | exact absurd (Eq.trans (Eq.symm ‹hasI _ _ = true›) ‹hasI _ _ = false›) (by decide) | (rename_i q; exact absurd ⟨by assumption, by assumption, by assumption⟩ q) | (rename_i q; obtain ⟨q1, q2, q3⟩ := q; exact absurd (Eq.trans (Eq.symm q1) ‹nodL _ = false›) (by decide)) | (rename_i q; obtain ⟨q1, q2, q3⟩ := q; omega)), _, _, _, _, _, _, _, _, _, _, rfl, by (unfold lookE; (repeat' split) <;> first | exact hv44 | (exfalso; omega) | contradiction | exact absurd (Eq.trans (Eq.symm ‹hasI _ _ = true›) ‹hasI _ _ = false›) (by decide) | (rename_i q; exact absurd ⟨by assumption, by assumption, by assumption⟩ q) | (rename_i q; obtain ⟨q1, q2, q3⟩ := q; exact absurd (Eq.trans (Eq.symm q1) ‹nodL _ = false›) (by decide)) | (rename_i q; obtain ⟨q1, q2, q3⟩ := q; omega))⟩⟩
                · have hc40 := eq_of_bne_false hc40
                  refine wp_skip ?_
                  refine wp_seq ?_
                  refine wp_region_lit ?_
                  refine g_op (by kernel_rfl) (op_loadv (b := b22) (off := 0) [.int .i64 (nodT (inB l no)), .bool (nodL (inB l no)), .slice kp (nodC (inB l no)) kc, .slice vp (nodC (inB l no)) vc] _ rfl (by kernel_rfl) Try.underlying36 rfl (by kernel_rfl) k24.whole ?_)
                  refine g_op (by kernel_rfl) (op_storev (b := b2) (off := 0) [.int .i64 (nodT (inB l no)), .bool (nodL (inB l no)), .slice kp (nodC (inB l no)) kc, .slice vp (nodC (inB l no)) vc] rfl (by kernel_rfl) (by kernel_rfl) (by kernel_rfl) (by first | decide | simp [Value.oneCell']) k2 (by first | decide | simp) ?_)
                  intro W48 u48 k48
                  change Blk _ _ [.int .i64 (nodT (inB l no)), .bool (nodL (inB l no)), .slice kp (nodC (inB l no)) kc, .slice vp (nodC (inB l no)) vc] _ at k48
                  replace hO := (Only.upd_new hO u48 g2)
                  replace hB := u48.below hB (Nat.le_trans hBw g2)
                  replace k3 := u48.blk k3 (Ne.symm (Ne.symm d2_bw))
                  replace k1 := u48.blk k1 (Ne.symm (Ne.symm d2_b1))
                  replace k24 := u48.blk k24 (Ne.symm d22_b2)
                  replace hway := u48.own2 hway k2 (by decide)
                  replace hI := hI.only (Only.of_upd (T := [36]) u48 k2 (by decide)) (by decide)
                  replace hk := u48.own2 hk k2 (by decide)
                  replace hv_ := u48.own2 hv_ k2 (by decide)
                  refine g_pv 1 [(7, .nilIface)] (by kernel_rfl) ?_
                  refine wpList_nil ?_
                  refine wp_ret ?_
                  exact g_ret (.tuple #[.agg #[.int .i64 (nodT (inB l no)), .bool (nodL (inB l no)), .slice kp (nodC (inB l no)) kc, .slice vp (nodC (inB l no)) vc], .nilIface]) (by kernel_rfl) (res_ct (d := _) (cs := [.int .i64 (nodT (inB l no)), .bool (nodL (inB l no)), .slice kp (nodC (inB l no)) kc, .slice vp (nodC (inB l no)) vc]) rfl (by kernel_rfl) (by kernel_rfl) k48.whole Try.underlying36 rfl (by kernel_rfl)) ⟨hB, hO, k3, .inr ⟨by (unfold lookE; (repeat' split) <;> first | rfl | assumption | decide | omega | exact absurd (Eq.trans (Eq.symm ‹hasI _ _ = true›) ‹hasI _ _ = false›) (by decide) | (rename_i q; exact absurd ⟨by assumption, by assumption, by assumption⟩ q) | (rename_i q; obtain ⟨q1, q2, q3⟩ := q; exact absurd (Eq.trans (Eq.symm q1) ‹nodL _ = false›) (by decide)) | (rename_i q; obtain ⟨q1, q2, q3⟩ := q; omega)), by assumption, _, _, _, _, rfl, hk, hv_⟩⟩
              · refine h_b [76, 77, 78] _ _ hc39 (by kernel_rfl) ?_
                have hc39 := eq_of_bne_false hc39
                refine h_pv [11, 12, 13, 14, 15, 16, 17, 18, 19, 20, 21, 22, 23, 24] 0 rfl #[true, true, true, true, true, true, true, true, true, true, true, true, true, true, true, true, true, true, true, true, true, true, true, true, true] [(79, undef), (80, undef), (81, undef), (82, undef), (83, undef), (84, undef), (85, undef), (86, undef), (87, undef), (88, undef), (89, undef), (90, undef), (91, .bool false), (67, .bool false)] (by kernel_rfl) (fun _ _ _ _ _ h => h) (by kernel_rfl) hS35 ?_
                refine h_done _ (by kernel_rfl) ?_
                refine wp_cond_false (by kernel_rfl) ?_
                refine wp_skip ?_
                refine wp_seq ?_
                refine wp_region_lit ?_
                refine g_op (by kernel_rfl) (op_loadv (b := b22) (off := 0) [.int .i64 (nodT (inB l no)), .bool (nodL (inB l no)), .slice kp (nodC (inB l no)) kc, .slice vp (nodC (inB l no)) vc] _ rfl (by kernel_rfl) Try.underlying36 rfl (by kernel_rfl) k24.whole ?_)
                refine g_op (by kernel_rfl) (op_storev (b := b2) (off := 0) [.int .i64 (nodT (inB l no)), .bool (nodL (inB l no)), .slice kp (nodC (inB l no)) kc, .slice vp (nodC (inB l no)) vc] rfl (by kernel_rfl) (by kernel_rfl) (by kernel_rfl) (by first | decide | simp [Value.oneCell']) k2 (by first | decide | simp) ?_)
                intro W49 u49 k49
                change Blk _ _ [.int .i64 (nodT (inB l no)), .bool (nodL (inB l no)), .slice kp (nodC (inB l no)) kc, .slice vp (nodC (inB l no)) vc] _ at k49
                replace hO := (Only.upd_new hO u49 g2)
                replace hB := u49.below hB (Nat.le_trans hBw g2)
                replace k3 := u49.blk k3 (Ne.symm (Ne.symm d2_bw))
                replace k1 := u49.blk k1 (Ne.symm (Ne.symm d2_b1))
                replace k24 := u49.blk k24 (Ne.symm d22_b2)
                replace hway := u49.own2 hway k2 (by decide)
                replace hI := hI.only (Only.of_upd (T := [36]) u49 k2 (by decide)) (by decide)
                replace hk := u49.own2 hk k2 (by decide)
                replace hv_ := u49.own2 hv_ k2 (by decide)
                refine g_pv 1 [(7, .nilIface)] (by kernel_rfl) ?_
                refine wpList_nil ?_
                refine wp_ret ?_
                exact g_ret (.tuple #[.agg #[.int .i64 (nodT (inB l no)), .bool (nodL (inB l no)), .slice kp (nodC (inB l no)) kc, .slice vp (nodC (inB l no)) vc], .nilIface]) (by kernel_rfl) (res_ct (d := _) (cs := [.int .i64 (nodT (inB l no)), .bool (nodL (inB l no)), .slice kp (nodC (inB l no)) kc, .slice vp (nodC (inB l no)) vc]) rfl (by kernel_rfl) (by kernel_rfl) k49.whole Try.underlying36 rfl (by kernel_rfl)) ⟨hB, hO, k3, .inr ⟨by (unfold lookE; (repeat' split) <;> first | rfl | assumption | decide | omega | exact absurd (Eq.trans (Eq.symm ‹hasI _ _ = true›) ‹hasI _ _ = false›) (by decide) | (rename_i q; exact absurd ⟨by assumption, by assumption, by assumption⟩ q) | (rename_i q; obtain ⟨q1, q2, q3⟩ := q; exact absurd (Eq.trans (Eq.symm q1) ‹nodL _ = false›) (by decide)) | (rename_i q; obtain ⟨q1, q2, q3⟩ := q; omega)), by assumption, _, _, _, _, rfl, hk, hv_⟩⟩
            · refine h_b [69, 70] _ _ hc38 (by kernel_rfl) ?_
              refine h_pv [3, 4, 5, 6, 7, 8, 9, 10, 11, 12, 13, 14, 15, 16, 17, 18, 19, 20, 21, 22, 23, 24] 0 rfl #[true, true, true, true, true, true, true, true, true, true, true, true, true, true, true, true, true, true, true, true, true, true, true, true, true] [(71, undef), (72, undef), (73, undef), (74, undef), (75, undef), (76, undef), (77, .bool false), (78, .bool false), (79, undef), (80, undef), (81, undef), (82, undef), (83, undef), (84, undef), (85, undef), (86, undef), (87, undef), (88, undef), (89, undef), (90, undef), (91, .bool false), (67, .bool false)] (by kernel_rfl) (fun _ _ _ _ _ h => h) (by kernel_rfl) hS35 ?_
              refine h_done _ (by kernel_rfl) ?_
              refine wp_cond_false (by kernel_rfl) ?_
              refine wp_skip ?_
              refine wp_seq ?_
              refine wp_region_lit ?_
              refine g_op (by kernel_rfl) (op_loadv (b := b22) (off := 0) [.int .i64 (nodT (inB l no)), .bool (nodL (inB l no)), .slice kp (nodC (inB l no)) kc, .slice vp (nodC (inB l no)) vc] _ rfl (by kernel_rfl) Try.underlying36 rfl (by kernel_rfl) k24.whole ?_)
              refine g_op (by kernel_rfl) (op_storev (b := b2) (off := 0) [.int .i64 (nodT (inB l no)), .bool (nodL (inB l no)), .slice kp (nodC (inB l no)) kc, .slice vp (nodC (inB l no)) vc] rfl (by kernel_rfl) (by kernel_rfl) (by kernel_rfl) (by first | decide | simp [Value.oneCell']) k2 (by first | decide | simp) ?_)
              intro W50 u50 k50
              change Blk _ _ [.int .i64 (nodT (inB l no)), .bool (nodL (inB l no)), .slice kp (nodC (inB l no)) kc, .slice vp (nodC (inB l no)) vc] _ at k50
              replace hO := (Only.upd_new hO u50 g2)
              replace hB := u50.below hB (Nat.le_trans hBw g2)
              replace k3 := u50.blk k3 (Ne.symm (Ne.symm d2_bw))
              replace k1 := u50.blk k1 (Ne.symm (Ne.symm d2_b1))
              replace k24 := u50.blk k24 (Ne.symm d22_b2)
              replace hway := u50.own2 hway k2 (by decide)
              replace hI := hI.only (Only.of_upd (T := [36]) u50 k2 (by decide)) (by decide)
              replace hk := u50.own2 hk k2 (by decide)
              replace hv_ := u50.own2 hv_ k2 (by decide)
              refine g_pv 1 [(7, .nilIface)] (by kernel_rfl) ?_
              refine wpList_nil ?_
              refine wp_ret ?_
              exact g_ret (.tuple #[.agg #[.int .i64 (nodT (inB l no)), .bool (nodL (inB l no)), .slice kp (nodC (inB l no)) kc, .slice vp (nodC (inB l no)) vc], .nilIface]) (by kernel_rfl) (res_ct (d := _) (cs := [.int .i64 (nodT (inB l no)), .bool (nodL (inB l no)), .slice kp (nodC (inB l no)) kc, .slice vp (nodC (inB l no)) vc]) rfl (by kernel_rfl) (by kernel_rfl) k50.whole Try.underlying36 rfl (by kernel_rfl)) ⟨hB, hO, k3, .inr ⟨by (unfold lookE; (repeat' split) <;> first | rfl | assumption | decide | omega | exact absurd (Eq.trans (Eq.symm ‹hasI _ _ = true›) ‹hasI _ _ = false›) (by decide) | (rename_i q; exact absurd ⟨by assumption, by assumption, by assumption⟩ q) | (rename_i q; obtain ⟨q1, q2, q3⟩ := q; exact absurd (Eq.trans (Eq.symm q1) ‹nodL _ = false›) (by decide)) | (rename_i q; obtain ⟨q1, q2, q3⟩ := q; omega)), by assumption, _, _, _, _, rfl, hk, hv_⟩⟩
      · refine op_alloc [.int .i64 0, .bool false, .slice none 0 0, .slice none 0 0] rfl (by kernel_rfl) ?_
        intro b51 W51 n51
        have d51_bw := n51.ne k3
        have d51_b1 := n51.ne k1
        have d51_b2 := n51.ne k2
        have g51 := n51.ge0 hB
        have gd_b51 : (W4.drew).heap.size ≤ b51 := by have := hS11.size; have := n51.at_; omega
        replace hO := hO.trans (Only.of_below n51.below)
        replace hB := Bl.nextB hB hBw n51.below
        replace k3 := k3.below n51.below
        replace k1 := k1.below n51.below
        replace k2 := k2.below n51.below
        replace hway := own_below hway n51.below
        replace hI := hI.below n51.below
        have k51 := n51.blk
        have hS52 : Below (W4.drew).heap.size (W4.drew) (W51) := Bl.next hS11 n51.below
        refine ⟨hS52, ?_⟩
        have hs53 : w.heap.size ≤ (W51).heap.size := hB.size
        refine h_one 9 5 rfl (by kernel_rfl) rfl (by kernel_rfl) (op_call (lb := #[]) 7 #[.pointer (some ⟨b, 0, none⟩), .int .i64 no, .int .i64 tree] rfl (by kernel_rfl) (fun _ _ => by kernel_rfl) (by kernel_rfl) ((block_Node Bi b p n c l no tree _ hI).mono ?_))
        rintro e W53 hq53
        rcases hq53 with ⟨he, bf, rfl, hb53, hv⟩ | ⟨he, kp, kc, vp, vc, rfl, hb53, hk, hv_⟩
        · refine ⟨_, rfl, ?_⟩
          replace hO := hO.trans (Only.of_below hb53)
          replace hB := Bl.nextB hB hBw hb53
          replace k3 := k3.below hb53
          replace k1 := k1.below hb53
          replace k2 := k2.below hb53
          replace k51 := k51.below hb53
          replace hway := own_below hway hb53
          replace hI := hI.below hb53
          have hS54 : Below (W4.drew).heap.size (W4.drew) (W53) := Bl.next hS52 hb53
          refine ⟨hS54, ?_⟩
          refine h_pv [10, 11, 12] 2 rfl #[true, true, true, true, true, true, true, true, true, true, true, true, true, true, false, false] [(39, .tuple #[.agg #[.int .i64 0, .bool false, .slice none 0 0, .slice none 0 0], .iface 61 (.pointer (some ⟨bf, 0, none⟩))]), (50, .agg #[.int .i64 0, .bool false, .slice none 0 0, .slice none 0 0]), (51, .iface 61 (.pointer (some ⟨bf, 0, none⟩)))] (by kernel_rfl) (fun _ _ _ _ _ h => h) (by kernel_rfl) hS54 ?_
          refine h_one 14 1 rfl (by kernel_rfl) rfl (by kernel_rfl) (op_storev (b := b51) (off := 0) [.int .i64 0, .bool false, .slice none 0 0, .slice none 0 0] rfl (by kernel_rfl) (by kernel_rfl) (by kernel_rfl) (by first | decide | simp [Value.oneCell']) k51 (by first | decide | simp) ?_)
          intro W55 u55 k55
          change Blk _ _ [.int .i64 0, .bool false, .slice none 0 0, .slice none 0 0] _ at k55
          replace hO := (Only.upd_new hO u55 g51)
          replace hB := u55.below hB (Nat.le_trans hBw g51)
          replace k3 := u55.blk k3 (Ne.symm (Ne.symm d51_bw))
          replace k1 := u55.blk k1 (Ne.symm (Ne.symm d51_b1))
          replace k2 := u55.blk k2 (Ne.symm (Ne.symm d51_b2))
          replace hway := u55.own2 hway k51 (by decide)
          replace hI := hI.only (Only.of_upd (T := [36]) u55 k51 (by decide)) (by decide)
          replace hv := hv.upd u55 k51 (by decide)
          have hS56 : Below (W4.drew).heap.size (W4.drew) (W55) := u55.below hS54 gd_b51
          refine ⟨hS56, ?_⟩
          refine h_pv [15] 0 rfl #[true, true, true, true, true, true, true, true, true, true, true, true, true, true, true, true] [(9, .iface 61 (.pointer (some ⟨bf, 0, none⟩)))] (by kernel_rfl) (fun _ _ _ _ _ h => h) (by kernel_rfl) hS56 ?_
          refine h_done _ (by kernel_rfl) ?_
          refine wp_seq ?_
          refine wp_block ?_
          refine wp_seq ?_
          refine wp_region_lit ?_
          refine g_pv 3 [(53, .iface 61 (.pointer (some ⟨bf, 0, none⟩))), (54, .bool true), (52, .bool true)] (by kernel_rfl) ?_
          refine wpList_nil ?_
          refine wp_cond_true (by kernel_rfl) ?_
          refine wp_seq ?_
          refine wp_region_lit ?_
          refine g_op (by kernel_rfl) (op_loadv (b := b51) (off := 0) [.int .i64 0, .bool false, .slice none 0 0, .slice none 0 0] _ rfl (by kernel_rfl) Try.underlying36 rfl (by kernel_rfl) k55.whole ?_)
          refine g_pv 1 [(56, .iface 61 (.pointer (some ⟨bf, 0, none⟩)))] (by kernel_rfl) ?_
          refine g_op (by kernel_rfl) (op_storev (b := b2) (off := 0) [.int .i64 0, .bool false, .slice none 0 0, .slice none 0 0] rfl (by kernel_rfl) (by kernel_rfl) (by kernel_rfl) (by first | decide | simp [Value.oneCell']) k2 (by first | decide | simp) ?_)
          intro W57 u57 k57
          change Blk _ _ [.int .i64 0, .bool false, .slice none 0 0, .slice none 0 0] _ at k57
          replace hO := (Only.upd_new hO u57 g2)
          replace hB := u57.below hB (Nat.le_trans hBw g2)
          replace k3 := u57.blk k3 (Ne.symm (Ne.symm d2_bw))
          replace k1 := u57.blk k1 (Ne.symm (Ne.symm d2_b1))
          replace k55 := u57.blk k55 (Ne.symm d51_b2)
          replace hway := u57.own2 hway k2 (by decide)
          replace hI := hI.only (Only.of_upd (T := [36]) u57 k2 (by decide)) (by decide)
          replace hv := hv.upd u57 k2 (by decide)
          refine g_pv 1 [(7, .iface 61 (.pointer (some ⟨bf, 0, none⟩)))] (by kernel_rfl) ?_
          refine wpList_nil ?_
          refine wp_ret (inBlock_ret (then_ret ?_))
          exact g_ret (.tuple #[.agg #[.int .i64 0, .bool false, .slice none 0 0, .slice none 0 0], .iface 61 (.pointer (some ⟨bf, 0, none⟩))]) (by kernel_rfl) (res_ct (d := _) (cs := [.int .i64 0, .bool false, .slice none 0 0, .slice none 0 0]) rfl (by kernel_rfl) (by kernel_rfl) k57.whole Try.underlying36 rfl (by kernel_rfl)) ⟨hB, hO, k3, .inl ⟨by (unfold lookE; (repeat' split) <;> first | rfl | assumption | decide | omega | exact absurd (Eq.trans (Eq.symm ‹hasI _ _ = true›) ‹hasI _ _ = false›) (by decide) | (rename_i q; exact absurd ⟨by assumption, by assumption, by assumption⟩ q) | (rename_i q; obtain ⟨q1, q2, q3⟩ := q; exact absurd (Eq.trans (Eq.symm q1) ‹nodL _ = false›) (by decide)) | (rename_i q; obtain ⟨q1, q2, q3⟩ := q; omega)), _, _, _, _, _, _, _, _, _, _, rfl, by (unfold lookE; (repeat' split) <;> first | exact hv | (exfalso; omega) | contradiction | exact absurd (Eq.trans (Eq.symm ‹hasI _ _ = true›) ‹hasI _ _ = false›) (by decide) | (rename_i q; exact absurd ⟨by assumption, by assumption, by assumption⟩ q) | (rename_i q; obtain ⟨q1, q2, q3⟩ := q; exact absurd (Eq.trans (Eq.symm q1) ‹nodL _ = false›) (by decide)) | (rename_i q; obtain ⟨q1, q2, q3⟩ := q; omega))⟩⟩
        · refine ⟨_, rfl, ?_⟩
          replace hO := hO.trans (Only.of_below hb53)
          replace hB := Bl.nextB hB hBw hb53
          replace k3 := k3.below hb53
          replace k1 := k1.below hb53
          replace k2 := k2.below hb53
          replace k51 := k51.below hb53
          replace hway := own_below hway hb53
          replace hI := hI.below hb53
          replace hk := own_mono hk hs53
          replace hv_ := own_mono hv_ hs53
          have hS58 : Below (W4.drew).heap.size (W4.drew) (W53) := Bl.next hS52 hb53
          refine ⟨hS58, ?_⟩
          refine h_pv [10, 11, 12] 2 rfl #[true, true, true, true, true, true, true, true, true, true, true, true, true, true, false, false] [(39, .tuple #[.agg #[.int .i64 (nodT (inB l no)), .bool (nodL (inB l no)), .slice kp (nodC (inB l no)) kc, .slice vp (nodC (inB l no)) vc], .nilIface]), (50, .agg #[.int .i64 (nodT (inB l no)), .bool (nodL (inB l no)), .slice kp (nodC (inB l no)) kc, .slice vp (nodC (inB l no)) vc]), (51, .nilIface)] (by kernel_rfl) (fun _ _ _ _ _ h => h) (by kernel_rfl) hS58 ?_
          refine h_one 14 1 rfl (by kernel_rfl) rfl (by kernel_rfl) (op_storev (b := b51) (off := 0) [.int .i64 (nodT (inB l no)), .bool (nodL (inB l no)), .slice kp (nodC (inB l no)) kc, .slice vp (nodC (inB l no)) vc] rfl (by kernel_rfl) (by kernel_rfl) (by kernel_rfl) (by first | decide | simp [Value.oneCell']) k51 (by first | decide | simp) ?_)
          intro W59 u59 k59
          change Blk _ _ [.int .i64 (nodT (inB l no)), .bool (nodL (inB l no)), .slice kp (nodC (inB l no)) kc, .slice vp (nodC (inB l no)) vc] _ at k59
          replace hO := (Only.upd_new hO u59 g51)
          replace hB := u59.below hB (Nat.le_trans hBw g51)
          replace k3 := u59.blk k3 (Ne.symm (Ne.symm d51_bw))
          replace k1 := u59.blk k1 (Ne.symm (Ne.symm d51_b1))
          replace k2 := u59.blk k2 (Ne.symm (Ne.symm d51_b2))
          replace hway := u59.own2 hway k51 (by decide)
          replace hI := hI.only (Only.of_upd (T := [36]) u59 k51 (by decide)) (by decide)
          replace hk := u59.own2 hk k51 (by decide)
          replace hv_ := u59.own2 hv_ k51 (by decide)
          have hS60 : Below (W4.drew).heap.size (W4.drew) (W59) := u59.below hS58 gd_b51
          refine ⟨hS60, ?_⟩
          refine h_pv [15] 0 rfl #[true, true, true, true, true, true, true, true, true, true, true, true, true, true, true, true] [(9, .nilIface)] (by kernel_rfl) (fun _ _ _ _ _ h => h) (by kernel_rfl) hS60 ?_
          refine h_done _ (by kernel_rfl) ?_
          refine wp_seq ?_
          refine wp_block ?_
          refine wp_seq ?_
          refine wp_region_lit ?_
          refine g_pv 3 [(53, .nilIface), (54, .bool false), (52, .bool false)] (by kernel_rfl) ?_
          refine wpList_nil ?_
          refine wp_cond_false (by kernel_rfl) ?_
          refine wp_seq ?_
          refine wp_region_lit ?_
          refine g_op (by kernel_rfl) (op_loadv (b := b1) (off := 0) [.int .i64 lo, .int .i64 hi] _ rfl (by kernel_rfl) Try.underlying56 rfl (by kernel_rfl) k1.whole ?_)
          refine g_pv 1 [(59, .pointer (some ⟨b51, 2, none⟩))] (by kernel_rfl) ?_
          refine g_op (by kernel_rfl) (op_load ⟨b51, 2, none⟩ (.slice kp (nodC (inB l no)) kc) rfl (by kernel_rfl) (by kernel_rfl) (k59.cell (i := 2) rfl) ?_)
          refine g_op (by kernel_rfl) (op_call (lb := #[]) 51 #[.agg #[.int .i64 lo, .int .i64 hi], .slice kp (nodC (inB l no)) kc] rfl (by kernel_rfl) (fun _ _ => by kernel_rfl) (by kernel_rfl) ((span_fits lo hi _ (keysI (inB l no) (nodC (inB l no))) _ (intsN_of (own_sl hk) (keysI_len _ _))).mono ?_))
          rintro e W61 ⟨rfl, hb61⟩
          refine ⟨_, rfl, ?_⟩
          replace hO := hO.trans (Only.of_below hb61)
          replace hB := Bl.nextB hB hBw hb61
          replace k3 := k3.below hb61
          replace k1 := k1.below hb61
          replace k2 := k2.below hb61
          replace k59 := k59.below hb61
          replace hway := own_below hway hb61
          replace hI := hI.below hb61
          replace hk := own_below hk hb61
          replace hv_ := own_below hv_ hb61
          refine g_pv 2 [(62, .bool ((fitsI lo hi (keysI (inB l no) (nodC (inB l no)))) != (0 : Int))), (57, .bool ((fitsI lo hi (keysI (inB l no) (nodC (inB l no)))) != (0 : Int)))] (by kernel_rfl) ?_
          refine wpList_nil ?_
          refine wp_cond_split (t := ((fitsI lo hi (keysI (inB l no) (nodC (inB l no)))) != (0 : Int))) (by kernel_rfl) (fun hc62 => ?_) (fun hc62 => ?_)
          · have hc62 := ne_of_bne hc62
            refine wp_seq ?_
            replace hO := hO.trans (Only.of_below (below_drew W61))
            replace hB := Bl.nextB hB hBw (below_drew W61)
            replace k3 := k3.below (below_drew W61)
            replace k1 := k1.below (below_drew W61)
            replace k2 := k2.below (below_drew W61)
            replace k59 := k59.below (below_drew W61)
            replace hway := own_below hway (below_drew W61)
            replace hI := hI.below (below_drew W61)
            replace hk := own_below hk (below_drew W61)
            replace hv_ := own_below hv_ (below_drew W61)
            refine h_reg (BelowBut (W61.drew) b2) 6 rfl #[false, false, false, false, false, false] rfl (by kernel_rfl) ((Below.refl _ _).but _) ?_
            intro hS63
            have hBd65 := hB
            have kd65_bw := k3
            have kd65_b1 := k1
            have kd65_b2 := k2
            have kd65_b51 := k59
            have hOd65 := hO
            refine h_loadv (b := b51) (off := 0) 0 5 rfl [.int .i64 (nodT (inB l no)), .bool (nodL (inB l no)), .slice kp (nodC (inB l no)) kc, .slice vp (nodC (inB l no)) vc] _ rfl (by kernel_rfl) (by kernel_rfl) (by kernel_rfl) (fun _ _ _ _ _ h => h) (by kernel_rfl) rfl (by kernel_rfl) Try.underlying36 rfl (by kernel_rfl) (fun V hV => (hV.blk kd65_b51 (Ne.symm d51_b2)).whole) hS63 ?_
            refine h_pv [1, 2] 3 rfl #[true, true, true, false, false, false] [(64, .int .i64 no), (65, .iface 43 (.int .i64 9))] (by kernel_rfl) (fun _ _ _ _ _ h => h) (by kernel_rfl) hS63 ?_
            refine h_one 3 2 rfl (by kernel_rfl) rfl (by kernel_rfl) (op_call (lb := #[]) 29 #[.int .i64 no, .iface 43 (.int .i64 9)] rfl (by kernel_rfl) (fun _ _ => by kernel_rfl) (by kernel_rfl) ((fault_At no (some 9) [] _ _ rfl).mono ?_))
            rintro e W66 ⟨r66, rfl, hb66, hv66⟩
            refine ⟨_, rfl, ?_⟩
            replace hO := hO.trans (Only.of_below hb66)
            replace hB := Bl.nextB hB hBw hb66
            replace k3 := k3.below hb66
            replace k1 := k1.below hb66
            replace k2 := k2.below hb66
            replace k59 := k59.below hb66
            replace hway := own_below hway hb66
            replace hI := hI.below hb66
            replace hk := own_below hk hb66
            replace hv_ := own_below hv_ hb66
            rw [atL_some] at hv66
            obtain ⟨t66, x66, rfl⟩ := hv66.iface
            have hS67 : BelowBut (W61.drew) b2 (W66) := hS63.next hb66
            refine ⟨hS67, ?_⟩
            refine h_one 4 1 rfl (by kernel_rfl) rfl (by kernel_rfl) (op_storev (b := b2) (off := 0) [.int .i64 (nodT (inB l no)), .bool (nodL (inB l no)), .slice kp (nodC (inB l no)) kc, .slice vp (nodC (inB l no)) vc] rfl (by kernel_rfl) (by kernel_rfl) (by kernel_rfl) (by first | decide | simp [Value.oneCell']) k2 (by first | decide | simp) ?_)
            intro W68 u68 k68
            change Blk _ _ [.int .i64 (nodT (inB l no)), .bool (nodL (inB l no)), .slice kp (nodC (inB l no)) kc, .slice vp (nodC (inB l no)) vc] _ at k68
            replace hO := (Only.upd_new hO u68 g2)
            replace hB := u68.below hB (Nat.le_trans hBw g2)
            replace k3 := u68.blk k3 (Ne.symm (Ne.symm d2_bw))
            replace k1 := u68.blk k1 (Ne.symm (Ne.symm d2_b1))
            replace k59 := u68.blk k59 (Ne.symm d51_b2)
            replace hway := u68.own2 hway k2 (by decide)
            replace hI := hI.only (Only.of_upd (T := [36]) u68 k2 (by decide)) (by decide)
            replace hk := u68.own2 hk k2 (by decide)
            replace hv_ := u68.own2 hv_ k2 (by decide)
            replace hv66 := hv66.upd u68 k2 (by decide)
            have hS69 : BelowBut (W61.drew) b2 (W68) := hS67.upd u68
            refine ⟨hS69, ?_⟩
            refine h_pv [5] 0 rfl #[true, true, true, true, true, true] [(7, .iface t66 (x66))] (by kernel_rfl) (fun _ _ _ _ _ h => h) (by kernel_rfl) hS69 ?_
            refine h_done _ (by kernel_rfl) ?_
            refine wp_ret (inBlock_ret (then_ret ?_))
            exact g_ret (.tuple #[.agg #[.int .i64 (nodT (inB l no)), .bool (nodL (inB l no)), .slice kp (nodC (inB l no)) kc, .slice vp (nodC (inB l no)) vc], .iface t66 (x66)]) (by kernel_rfl) (res_ct (d := _) (cs := [.int .i64 (nodT (inB l no)), .bool (nodL (inB l no)), .slice kp (nodC (inB l no)) kc, .slice vp (nodC (inB l no)) vc]) rfl (by kernel_rfl) (by kernel_rfl) k68.whole Try.underlying36 rfl (by kernel_rfl)) ⟨hB, hO, k3, .inl ⟨by (unfold lookE; (repeat' split) <;> first | rfl | assumption | decide | omega | exact absurd (Eq.trans (Eq.symm ‹hasI _ _ = true›) ‹hasI _ _ = false›) (by decide) | (rename_i q; exact absurd ⟨by assumption, by assumption, by assumption⟩ q) | (rename_i q; obtain ⟨q1, q2, q3⟩ := q; exact absurd (Eq.trans (Eq.symm q1) ‹nodL _ = false›) (by decide)) | (rename_i q; obtain ⟨q1, q2, q3⟩ := q; omega)), _, _, _, _, _, _, _, _, _, _, rfl, by (unfold lookE; (repeat' split) <;> first | exact hv66 | (exfalso; omega) | contradiction | exact absurd (Eq.trans (Eq.symm ‹hasI _ _ = true›) ‹hasI _ _ = false›) (by decide) | (rename_i q; exact absurd ⟨by assumption, by assumption, by assumption⟩ q) | (rename_i q; obtain ⟨q1, q2, q3⟩ := q; exact absurd (Eq.trans (Eq.symm q1) ‹nodL _ = false›) (by decide)) | (rename_i q; obtain ⟨q1, q2, q3⟩ := q; omega))⟩⟩
          · have hc62 := eq_of_bne_false hc62
            refine wp_seq ?_
            replace hO := hO.trans (Only.of_below (below_drew W61))
            replace hB := Bl.nextB hB hBw (below_drew W61)
            replace k3 := k3.below (below_drew W61)
            replace k1 := k1.below (below_drew W61)
            replace k2 := k2.below (below_drew W61)
            replace k59 := k59.below (below_drew W61)
            replace hway := own_below hway (below_drew W61)
            replace hI := hI.below (below_drew W61)
            replace hk := own_below hk (below_drew W61)
            replace hv_ := own_below hv_ (below_drew W61)
            refine h_reg (Below (W61.drew).heap.size (W61.drew)) 25 rfl #[false, false, false, false, false, false, false, false, false, false, false, false, false, false, false, false, false, false, false, false, false, false, false, false, false] rfl (by kernel_rfl) (Below.refl _ _) ?_
            intro hS70
            have hBd72 := hB
            have kd72_bw := k3
            have kd72_b1 := k1
            have kd72_b2 := k2
            have kd72_b51 := k59
            have hOd72 := hO
            refine h_pv [0] 24 rfl #[true, false, false, false, false, false, false, false, false, false, false, false, false, false, false, false, false, false, false, false, false, false, false, false, false] [(68, .pointer (some ⟨b51, 1, none⟩))] (by kernel_rfl) (fun _ _ _ _ _ h => h) (by kernel_rfl) hS70 ?_
            refine h_load 1 23 rfl ⟨b51, 1, none⟩ (.bool (nodL (inB l no))) rfl (by kernel_rfl) (by kernel_rfl) (by kernel_rfl) (fun _ _ _ _ _ h => h) (by kernel_rfl) rfl (by kernel_rfl) (by kernel_rfl) (fun V hV => ((k59.below hV).cell (i := 1) rfl)) hS70 ?_
            refine h_pv [2] 22 rfl #[true, true, true, false, false, false, false, false, false, false, false, false, false, false, false, false, false, false, false, false, false, false, false, false, false] [(70, .bool (nodL (inB l no)))] (by kernel_rfl) (fun _ _ _ _ _ h => h) (by kernel_rfl) hS70 ?_
            rcases Bool.eq_false_or_eq_true (nodL (inB l no)) with hc73 | hc73
            · refine h_b [69, 70] _ _ hc73 (by kernel_rfl) ?_
              refine h_pv [3, 4, 5, 6] 18 rfl #[true, true, true, true, true, true, true, false, false, false, false, false, false, false, false, false, false, false, false, false, false, false, false, false, false] [(71, .pointer (some ⟨bw, 0, none⟩)), (72, .pointer (some ⟨bw, 0, none⟩)), (73, .pointer (some ⟨bw, 0, none⟩)), (74, .pointer (some ⟨bw, 2, none⟩))] (by kernel_rfl) (fun _ _ _ _ _ h => h) (by kernel_rfl) hS70 ?_
              refine h_load 7 17 rfl ⟨bw, 2, none⟩ (.int .i64 deep) rfl (by kernel_rfl) (by kernel_rfl) (by kernel_rfl) (fun _ _ _ _ _ h => h) (by kernel_rfl) rfl (by kernel_rfl) (by kernel_rfl) (fun V hV => ((k3.below hV).cell (i := 2) rfl)) hS70 ?_
              refine h_pv [8, 9, 10] 14 rfl #[true, true, true, true, true, true, true, true, true, true, true, false, false, false, false, false, false, false, false, false, false, false, false, false, false] [(76, .bool (deep != (0 : Int))), (77, .bool (deep != (0 : Int))), (78, .bool (deep != (0 : Int)))] (by kernel_rfl) (fun _ _ _ _ _ h => h) (by kernel_rfl) hS70 ?_
              rcases Bool.eq_false_or_eq_true (deep != (0 : Int)) with hc74 | hc74
              · refine h_b [76, 77, 78] _ _ hc74 (by kernel_rfl) ?_
                have hc74 := ne_of_bne hc74
                refine h_pv [11, 12, 13, 14] 10 rfl #[true, true, true, true, true, true, true, true, true, true, true, true, true, true, true, false, false, false, false, false, false, false, false, false, false] [(79, .pointer (some ⟨bw, 0, none⟩)), (80, .pointer (some ⟨bw, 0, none⟩)), (81, .pointer (some ⟨bw, 0, none⟩)), (82, .pointer (some ⟨bw, 2, none⟩))] (by kernel_rfl) (fun _ _ _ _ _ h => h) (by kernel_rfl) hS70 ?_
                refine h_load 15 9 rfl ⟨bw, 2, none⟩ (.int .i64 deep) rfl (by kernel_rfl) (by kernel_rfl) (by kernel_rfl) (fun _ _ _ _ _ h => h) (by kernel_rfl) rfl (by kernel_rfl) (by kernel_rfl) (fun V hV => ((k3.below hV).cell (i := 2) rfl)) hS70 ?_
                refine h_pv [16, 17, 18] 6 rfl #[true, true, true, true, true, true, true, true, true, true, true, true, true, true, true, true, true, true, true, false, false, false, false, false, false] [(84, .pointer (some ⟨bw, 0, none⟩)), (85, .pointer (some ⟨bw, 0, none⟩)), (86, .pointer (some ⟨bw, 8, none⟩))] (by kernel_rfl) (fun _ _ _ _ _ h => h) (by kernel_rfl) hS70 ?_
                refine h_load 19 5 rfl ⟨bw, 8, none⟩ (.slice pw way.length cw) rfl (by kernel_rfl) (by kernel_rfl) (by kernel_rfl) (fun _ _ _ _ _ h => h) (by kernel_rfl) rfl (by kernel_rfl) (by kernel_rfl) (fun V hV => ((k3.below hV).cell (i := 8) rfl)) hS70 ?_
                refine h_pv [20] 4 rfl #[true, true, true, true, true, true, true, true, true, true, true, true, true, true, true, true, true, true, true, true, true, false, false, false, false] [(88, .int .i64 (↑way.length : Int))] (by kernel_rfl) (fun _ _ _ _ _ h => h) (by kernel_rfl) hS70 ?_
                refine h_val 21 3 rfl (.int .i64 (↑(way.length + 1) : Int)) rfl (by kernel_rfl) (by kernel_rfl) (by kernel_rfl) (fun _ _ _ _ _ h => h) (by kernel_rfl) (fun V hV => run_wrap .i64 ((↑way.length : Int) + 1) (↑(way.length + 1) : Int) (by kernel_rfl) ((show IntKind.i64.wrap ((↑way.length : Int) + 1) = ((↑way.length : Int) + 1) from by first | exact IntWalk.i64_in _ (by omega) | (simp only [IntKind.wrap]; omega)).trans (by omega)) V) hS70 ?_
                refine h_pv [22, 23, 24] 0 rfl #[true, true, true, true, true, true, true, true, true, true, true, true, true, true, true, true, true, true, true, true, true, true, true, true, true] [(90, .bool (deep != (↑(way.length + 1) : Int))), (91, .bool (deep != (↑(way.length + 1) : Int))), (67, .bool (deep != (↑(way.length + 1) : Int)))] (by kernel_rfl) (fun _ _ _ _ _ h => h) (by kernel_rfl) hS70 ?_
                refine h_done _ (by kernel_rfl) ?_
                refine wp_cond_split (t := (deep != (↑(way.length + 1) : Int))) (by kernel_rfl) (fun hc75 => ?_) (fun hc75 => ?_)
                · have hc75 := ne_of_bne hc75
                  refine wp_seq ?_
                  replace hO := hO.trans (Only.of_below (below_drew W61.drew))
                  replace hB := Bl.nextB hB hBw (below_drew W61.drew)
                  replace k3 := k3.below (below_drew W61.drew)
                  replace k1 := k1.below (below_drew W61.drew)
                  replace k2 := k2.below (below_drew W61.drew)
                  replace k59 := k59.below (below_drew W61.drew)
                  replace hway := own_below hway (below_drew W61.drew)
                  replace hI := hI.below (below_drew W61.drew)
                  replace hk := own_below hk (below_drew W61.drew)
                  replace hv_ := own_below hv_ (below_drew W61.drew)
                  refine h_reg (BelowBut (W61.drew.drew) b2) 6 rfl #[false, false, false, false, false, false] rfl (by kernel_rfl) ((Below.refl _ _).but _) ?_
                  intro hS76
                  have hBd78 := hB
                  have kd78_bw := k3
                  have kd78_b1 := k1
                  have kd78_b2 := k2
                  have kd78_b51 := k59
                  have hOd78 := hO
                  refine h_loadv (b := b51) (off := 0) 0 5 rfl [.int .i64 (nodT (inB l no)), .bool (nodL (inB l no)), .slice kp (nodC (inB l no)) kc, .slice vp (nodC (inB l no)) vc] _ rfl (by kernel_rfl) (by kernel_rfl) (by kernel_rfl) (fun _ _ _ _ _ h => h) (by kernel_rfl) rfl (by kernel_rfl) Try.underlying36 rfl (by kernel_rfl) (fun V hV => (hV.blk kd78_b51 (Ne.symm d51_b2)).whole) hS76 ?_
                  refine h_pv [1, 2] 3 rfl #[true, true, true, false, false, false] [(93, .int .i64 no), (94, .iface 43 (.int .i64 10))] (by kernel_rfl) (fun _ _ _ _ _ h => h) (by kernel_rfl) hS76 ?_
                  refine h_one 3 2 rfl (by kernel_rfl) rfl (by kernel_rfl) (op_call (lb := #[]) 29 #[.int .i64 no, .iface 43 (.int .i64 10)] rfl (by kernel_rfl) (fun _ _ => by kernel_rfl) (by kernel_rfl) ((fault_At no (some 10) [] _ _ rfl).mono ?_))
                  rintro e W79 ⟨r79, rfl, hb79, hv79⟩
                  refine ⟨_, rfl, ?_⟩
                  replace hO := hO.trans (Only.of_below hb79)
                  replace hB := Bl.nextB hB hBw hb79
                  replace k3 := k3.below hb79
                  replace k1 := k1.below hb79
                  replace k2 := k2.below hb79
                  replace k59 := k59.below hb79
                  replace hway := own_below hway hb79
                  replace hI := hI.below hb79
                  replace hk := own_below hk hb79
                  replace hv_ := own_below hv_ hb79
                  rw [atL_some] at hv79
                  obtain ⟨t79, x79, rfl⟩ := hv79.iface
                  have hS80 : BelowBut (W61.drew.drew) b2 (W79) := hS76.next hb79
                  refine ⟨hS80, ?_⟩
                  refine h_one 4 1 rfl (by kernel_rfl) rfl (by kernel_rfl) (op_storev (b := b2) (off := 0) [.int .i64 (nodT (inB l no)), .bool (nodL (inB l no)), .slice kp (nodC (inB l no)) kc, .slice vp (nodC (inB l no)) vc] rfl (by kernel_rfl) (by kernel_rfl) (by kernel_rfl) (by first | decide | simp [Value.oneCell']) k2 (by first | decide | simp) ?_)
                  intro W81 u81 k81
                  change Blk _ _ [.int .i64 (nodT (inB l no)), .bool (nodL (inB l no)), .slice kp (nodC (inB l no)) kc, .slice vp (nodC (inB l no)) vc] _ at k81
                  replace hO := (Only.upd_new hO u81 g2)
                  replace hB := u81.below hB (Nat.le_trans hBw g2)
                  replace k3 := u81.blk k3 (Ne.symm (Ne.symm d2_bw))
                  replace k1 := u81.blk k1 (Ne.symm (Ne.symm d2_b1))
                  replace k59 := u81.blk k59 (Ne.symm d51_b2)
                  replace hway := u81.own2 hway k2 (by decide)
                  replace hI := hI.only (Only.of_upd (T := [36]) u81 k2 (by decide)) (by decide)
                  replace hk := u81.own2 hk k2 (by decide)
                  replace hv_ := u81.own2 hv_ k2 (by decide)
                  replace hv79 := hv79.upd u81 k2 (by decide)
                  have hS82 : BelowBut (W61.drew.drew) b2 (W81) := hS80.upd u81
                  refine ⟨hS82, ?_⟩
                  refine h_pv [5] 0 rfl #[true, true, true, true, true, true] [(7, .iface t79 (x79))] (by kernel_rfl) (fun _ _ _ _ _ h => h) (by kernel_rfl) hS82 ?_
                  refine h_done _ (by kernel_rfl) ?_
                  refine wp_ret (inBlock_ret (then_ret ?_))
                  exact g_ret (.tuple #[.agg #[.int .i64 (nodT (inB l no)), .bool (nodL (inB l no)), .slice kp (nodC (inB l no)) kc, .slice vp (nodC (inB l no)) vc], .iface t79 (x79)]) (by kernel_rfl) (res_ct (d := _) (cs := [.int .i64 (nodT (inB l no)), .bool (nodL (inB l no)), .slice kp (nodC (inB l no)) kc, .slice vp (nodC (inB l no)) vc]) rfl (by kernel_rfl) (by kernel_rfl) k81.whole Try.underlying36 rfl (by kernel_rfl)) ⟨hB, hO, k3, .inl ⟨by (unfold lookE; (repeat' split) <;> first | rfl | assumption | decide | omega | exact absurd (Eq.trans (Eq.symm ‹hasI _ _ = true›) ‹hasI _ _ = false›) (by decide) | (rename_i q; exact absurd ⟨by assumption, by assumption, by assumption⟩ q) | (rename_i q; obtain ⟨q1, q2, q3⟩ := q; exact absurd (Eq.trans (Eq.symm q1) ‹nodL _ = false›) (by decide)) | (rename_i q; obtain ⟨q1, q2, q3⟩ := q; omega)), _, _, _, _, _, _, _, _, _, _, rfl, by (unfold lookE; (repeat' split) <;> first | exact hv79 | (exfalso; omega) | contradiction | exact absurd (Eq.trans (Eq.symm ‹hasI _ _ = true›) ‹hasI _ _ = false›) (by decide) | (rename_i q; exact absurd ⟨by assumption, by assumption, by assumption⟩ q) | (rename_i q; obtain ⟨q1, q2, q3⟩ := q; exact absurd (Eq.trans (Eq.symm q1) ‹nodL _ = false›) (by decide)) | (rename_i q; obtain ⟨q1, q2, q3⟩ := q; omega))⟩⟩
                · have hc75 := eq_of_bne_false hc75
                  refine wp_skip ?_
                  refine wp_seq ?_
                  refine wp_region_lit ?_
                  refine g_op (by kernel_rfl) (op_loadv (b := b51) (off := 0) [.int .i64 (nodT (inB l no)), .bool (nodL (inB l no)), .slice kp (nodC (inB l no)) kc, .slice vp (nodC (inB l no)) vc] _ rfl (by kernel_rfl) Try.underlying36 rfl (by kernel_rfl) k59.whole ?_)
                  refine g_op (by kernel_rfl) (op_storev (b := b2) (off := 0) [.int .i64 (nodT (inB l no)), .bool (nodL (inB l no)), .slice kp (nodC (inB l no)) kc, .slice vp (nodC (inB l no)) vc] rfl (by kernel_rfl) (by kernel_rfl) (by kernel_rfl) (by first | decide | simp [Value.oneCell']) k2 (by first | decide | simp) ?_)
                  intro W83 u83 k83
                  change Blk _ _ [.int .i64 (nodT (inB l no)), .bool (nodL (inB l no)), .slice kp (nodC (inB l no)) kc, .slice vp (nodC (inB l no)) vc] _ at k83
                  replace hO := (Only.upd_new hO u83 g2)
                  replace hB := u83.below hB (Nat.le_trans hBw g2)
                  replace k3 := u83.blk k3 (Ne.symm (Ne.symm d2_bw))
                  replace k1 := u83.blk k1 (Ne.symm (Ne.symm d2_b1))
                  replace k59 := u83.blk k59 (Ne.symm d51_b2)
                  replace hway := u83.own2 hway k2 (by decide)
                  replace hI := hI.only (Only.of_upd (T := [36]) u83 k2 (by decide)) (by decide)
                  replace hk := u83.own2 hk k2 (by decide)
                  replace hv_ := u83.own2 hv_ k2 (by decide)
                  refine g_pv 1 [(7, .nilIface)] (by kernel_rfl) ?_
                  refine wpList_nil ?_
                  refine wp_ret ?_
                  exact g_ret (.tuple #[.agg #[.int .i64 (nodT (inB l no)), .bool (nodL (inB l no)), .slice kp (nodC (inB l no)) kc, .slice vp (nodC (inB l no)) vc], .nilIface]) (by kernel_rfl) (res_ct (d := _) (cs := [.int .i64 (nodT (inB l no)), .bool (nodL (inB l no)), .slice kp (nodC (inB l no)) kc, .slice vp (nodC (inB l no)) vc]) rfl (by kernel_rfl) (by kernel_rfl) k83.whole Try.underlying36 rfl (by kernel_rfl)) ⟨hB, hO, k3, .inr ⟨by (unfold lookE; (repeat' split) <;> first | rfl | assumption | decide | omega | exact absurd (Eq.trans (Eq.symm ‹hasI _ _ = true›) ‹hasI _ _ = false›) (by decide) | (rename_i q; exact absurd ⟨by assumption, by assumption, by assumption⟩ q) | (rename_i q; obtain ⟨q1, q2, q3⟩ := q; exact absurd (Eq.trans (Eq.symm q1) ‹nodL _ = false›) (by decide)) | (rename_i q; obtain ⟨q1, q2, q3⟩ := q; omega)), by assumption, _, _, _, _, rfl, hk, hv_⟩⟩
              · refine h_b [76, 77, 78] _ _ hc74 (by kernel_rfl) ?_
                have hc74 := eq_of_bne_false hc74
                refine h_pv [11, 12, 13, 14, 15, 16, 17, 18, 19, 20, 21, 22, 23, 24] 0 rfl #[true, true, true, true, true, true, true, true, true, true, true, true, true, true, true, true, true, true, true, true, true, true, true, true, true] [(79, undef), (80, undef), (81, undef), (82, undef), (83, undef), (84, undef), (85, undef), (86, undef), (87, undef), (88, undef), (89, undef), (90, undef), (91, .bool false), (67, .bool false)] (by kernel_rfl) (fun _ _ _ _ _ h => h) (by kernel_rfl) hS70 ?_
                refine h_done _ (by kernel_rfl) ?_
                refine wp_cond_false (by kernel_rfl) ?_
                refine wp_skip ?_
                refine wp_seq ?_
                refine wp_region_lit ?_
                refine g_op (by kernel_rfl) (op_loadv (b := b51) (off := 0) [.int .i64 (nodT (inB l no)), .bool (nodL (inB l no)), .slice kp (nodC (inB l no)) kc, .slice vp (nodC (inB l no)) vc] _ rfl (by kernel_rfl) Try.underlying36 rfl (by kernel_rfl) k59.whole ?_)
                refine g_op (by kernel_rfl) (op_storev (b := b2) (off := 0) [.int .i64 (nodT (inB l no)), .bool (nodL (inB l no)), .slice kp (nodC (inB l no)) kc, .slice vp (nodC (inB l no)) vc] rfl (by kernel_rfl) (by kernel_rfl) (by kernel_rfl) (by first | decide | simp [Value.oneCell']) k2 (by first | decide | simp) ?_)
                intro W84 u84 k84
                change Blk _ _ [.int .i64 (nodT (inB l no)), .bool (nodL (inB l no)), .slice kp (nodC (inB l no)) kc, .slice vp (nodC (inB l no)) vc] _ at k84
                replace hO := (Only.upd_new hO u84 g2)
                replace hB := u84.below hB (Nat.le_trans hBw g2)
                replace k3 := u84.blk k3 (Ne.symm (Ne.symm d2_bw))
                replace k1 := u84.blk k1 (Ne.symm (Ne.symm d2_b1))
                replace k59 := u84.blk k59 (Ne.symm d51_b2)
                replace hway := u84.own2 hway k2 (by decide)
                replace hI := hI.only (Only.of_upd (T := [36]) u84 k2 (by decide)) (by decide)
                replace hk := u84.own2 hk k2 (by decide)
                replace hv_ := u84.own2 hv_ k2 (by decide)
                refine g_pv 1 [(7, .nilIface)] (by kernel_rfl) ?_
                refine wpList_nil ?_
                refine wp_ret ?_
                exact g_ret (.tuple #[.agg #[.int .i64 (nodT (inB l no)), .bool (nodL (inB l no)), .slice kp (nodC (inB l no)) kc, .slice vp (nodC (inB l no)) vc], .nilIface]) (by kernel_rfl) (res_ct (d := _) (cs := [.int .i64 (nodT (inB l no)), .bool (nodL (inB l no)), .slice kp (nodC (inB l no)) kc, .slice vp (nodC (inB l no)) vc]) rfl (by kernel_rfl) (by kernel_rfl) k84.whole Try.underlying36 rfl (by kernel_rfl)) ⟨hB, hO, k3, .inr ⟨by (unfold lookE; (repeat' split) <;> first | rfl | assumption | decide | omega | exact absurd (Eq.trans (Eq.symm ‹hasI _ _ = true›) ‹hasI _ _ = false›) (by decide) | (rename_i q; exact absurd ⟨by assumption, by assumption, by assumption⟩ q) | (rename_i q; obtain ⟨q1, q2, q3⟩ := q; exact absurd (Eq.trans (Eq.symm q1) ‹nodL _ = false›) (by decide)) | (rename_i q; obtain ⟨q1, q2, q3⟩ := q; omega)), by assumption, _, _, _, _, rfl, hk, hv_⟩⟩
            · refine h_b [69, 70] _ _ hc73 (by kernel_rfl) ?_
              refine h_pv [3, 4, 5, 6, 7, 8, 9, 10, 11, 12, 13, 14, 15, 16, 17, 18, 19, 20, 21, 22, 23, 24] 0 rfl #[true, true, true, true, true, true, true, true, true, true, true, true, true, true, true, true, true, true, true, true, true, true, true, true, true] [(71, undef), (72, undef), (73, undef), (74, undef), (75, undef), (76, undef), (77, .bool false), (78, .bool false), (79, undef), (80, undef), (81, undef), (82, undef), (83, undef), (84, undef), (85, undef), (86, undef), (87, undef), (88, undef), (89, undef), (90, undef), (91, .bool false), (67, .bool false)] (by kernel_rfl) (fun _ _ _ _ _ h => h) (by kernel_rfl) hS70 ?_
              refine h_done _ (by kernel_rfl) ?_
              refine wp_cond_false (by kernel_rfl) ?_
              refine wp_skip ?_
              refine wp_seq ?_
              refine wp_region_lit ?_
              refine g_op (by kernel_rfl) (op_loadv (b := b51) (off := 0) [.int .i64 (nodT (inB l no)), .bool (nodL (inB l no)), .slice kp (nodC (inB l no)) kc, .slice vp (nodC (inB l no)) vc] _ rfl (by kernel_rfl) Try.underlying36 rfl (by kernel_rfl) k59.whole ?_)
              refine g_op (by kernel_rfl) (op_storev (b := b2) (off := 0) [.int .i64 (nodT (inB l no)), .bool (nodL (inB l no)), .slice kp (nodC (inB l no)) kc, .slice vp (nodC (inB l no)) vc] rfl (by kernel_rfl) (by kernel_rfl) (by kernel_rfl) (by first | decide | simp [Value.oneCell']) k2 (by first | decide | simp) ?_)
              intro W85 u85 k85
              change Blk _ _ [.int .i64 (nodT (inB l no)), .bool (nodL (inB l no)), .slice kp (nodC (inB l no)) kc, .slice vp (nodC (inB l no)) vc] _ at k85
              replace hO := (Only.upd_new hO u85 g2)
              replace hB := u85.below hB (Nat.le_trans hBw g2)
              replace k3 := u85.blk k3 (Ne.symm (Ne.symm d2_bw))
              replace k1 := u85.blk k1 (Ne.symm (Ne.symm d2_b1))
              replace k59 := u85.blk k59 (Ne.symm d51_b2)
              replace hway := u85.own2 hway k2 (by decide)
              replace hI := hI.only (Only.of_upd (T := [36]) u85 k2 (by decide)) (by decide)
              replace hk := u85.own2 hk k2 (by decide)
              replace hv_ := u85.own2 hv_ k2 (by decide)
              refine g_pv 1 [(7, .nilIface)] (by kernel_rfl) ?_
              refine wpList_nil ?_
              refine wp_ret ?_
              exact g_ret (.tuple #[.agg #[.int .i64 (nodT (inB l no)), .bool (nodL (inB l no)), .slice kp (nodC (inB l no)) kc, .slice vp (nodC (inB l no)) vc], .nilIface]) (by kernel_rfl) (res_ct (d := _) (cs := [.int .i64 (nodT (inB l no)), .bool (nodL (inB l no)), .slice kp (nodC (inB l no)) kc, .slice vp (nodC (inB l no)) vc]) rfl (by kernel_rfl) (by kernel_rfl) k85.whole Try.underlying36 rfl (by kernel_rfl)) ⟨hB, hO, k3, .inr ⟨by (unfold lookE; (repeat' split) <;> first | rfl | assumption | decide | omega | exact absurd (Eq.trans (Eq.symm ‹hasI _ _ = true›) ‹hasI _ _ = false›) (by decide) | (rename_i q; exact absurd ⟨by assumption, by assumption, by assumption⟩ q) | (rename_i q; obtain ⟨q1, q2, q3⟩ := q; exact absurd (Eq.trans (Eq.symm q1) ‹nodL _ = false›) (by decide)) | (rename_i q; obtain ⟨q1, q2, q3⟩ := q; omega)), by assumption, _, _, _, _, rfl, hk, hv_⟩⟩
end Go.Proofs.Ytoiblgeheblddaa

