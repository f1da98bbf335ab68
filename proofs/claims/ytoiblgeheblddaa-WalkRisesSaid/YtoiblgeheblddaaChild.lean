/- (*walker).child, given what a visit one deeper does. -/
import Derived.Test.YtoiblgeheblddaaWalkF
namespace Go.Proofs.Ytoiblgeheblddaa
open Go.RowKit Go.Extern.Stop Go.Stop Go.Extern
set_option linter.unusedVariables false
attribute [local irreducible] wpList wpAnyH Code.wp Oper.wp

theorem own_some {w : World} {base e n c : Nat} {p : Option Addr} {xs : List Value} (k : w.ownsRow base e 1 (.slice p n c) n xs) (hn : 0 < n) : p.isSome = true ∧ n ≤ c := by
  rcases k.2 with ⟨h, _⟩ | ⟨g, cap, cur, hv, _, _, hc, _⟩
  · simp only [Value.slice.injEq] at h; omega
  · simp only [Value.slice.injEq] at hv
    obtain ⟨rfl, _, rfl⟩ := hv
    exact ⟨rfl, hc⟩
theorem way_cut {w : World} {base e c : Nat} {p : Option Addr} {way : List Int} {no : Int} (k : w.ownsRow base e 1 (.slice p (way ++ [no]).length c) (way ++ [no]).length ((way ++ [no]).map (Value.int .i64))) : w.ownsRow base e 1 (.slice p way.length c) way.length (way.map (Value.int .i64)) := by
  have h := own_cut (m := way.length) k (by simp) (own_some k (by simp)).1
  rwa [List.map_append, List.take_left' (by simp)] at h
theorem only_we {w w' : World} (h : Only [53, 38] w w') : Only [53, 33, 3, 38] w w' := h.mono fun t ht => by
  simp only [List.contains_cons, List.contains_nil, Bool.or_eq_false_iff] at ht ⊢
  exact ⟨ht.1, ht.2.2.2⟩
/-- what is asked of a visit d deep at most -/
def VisitC (B bw Bi b : Nat) (pi : Option Addr) (ni ci : Nat) (l : List UInt8) (tree fuel : Int) (d : Nat) : Prop :=
  ∀ (way : List Int) (no lo hi : Int) (s : WS) (pe pb pf pw : Option Addr) (ce cb cf cw : Nat) (fv : List Value) (w : World), way.length + d = 17 → B ≤ w.heap.size → s.dry = false → WalkR B bw Bi b pi ni ci l tree fuel way s pe pb pf pw ce cb cf cw fv w →
    (visitF l tree fuel d way no lo hi s).es.length ≤ 1000000 → (visitF l tree fuel d way no lo hi s).bs.length ≤ 1000000 → (visitF l tree fuel d way no lo hi s).fs.length ≤ 1000000 →
    Calls Try.prog 13 #[.pointer (some ⟨bw, 0, none⟩), .int .i64 no, .agg #[.int .i64 lo, .int .i64 hi]] w (VisitP B bw Bi b pi ni ci l tree fuel way (visitF l tree fuel d way no lo hi s) w)
set_option maxRecDepth 100000 in
set_option maxHeartbeats 4000000 in
theorem walker_child (B bw Bi b : Nat) (pi : Option Addr) (ni ci : Nat) (l : List UInt8) (tree fuel : Int) (d : Nat) (hV : VisitC B bw Bi b pi ni ci l tree fuel d) (way : List Int) (no lo hi : Int) (val : List UInt8) (s : WS) (pe pb pf pw : Option Addr) (ce cb cf cw : Nat) (fv : List Value) (w : World) (hBb : B ≤ bw) (hBw : B ≤ w.heap.size) (hwd : way.length + 1 + d = 17) (hdry : s.dry = false) (hvl : val.length ≤ 1000) (hR : WalkR B bw Bi b pi ni ci l tree fuel (way ++ [no]) s pe pb pf pw ce cb cf cw fv w) (he : (childW (visitF l tree fuel d) way no val (lo, hi) s).es.length ≤ 1000000) (hb_ : (childW (visitF l tree fuel d) way no val (lo, hi) s).bs.length ≤ 1000000) (hf : (childW (visitF l tree fuel d) way no val (lo, hi) s).fs.length ≤ 1000000) :
    Calls Try.prog 33 #[.pointer (some ⟨bw, 0, none⟩), .int .i64 no, .string ⟨val.toArray⟩, .agg #[.int .i64 lo, .int .i64 hi]] w (VisitP B bw Bi b pi ni ci l tree fuel (way ++ [no]) (childW (visitF l tree fuel d) way no val (lo, hi) s) w) := by
  obtain ⟨kW, hEn, hBl, hFl, hFv, hWy, hAp, hI⟩ := hR
  have hwc := (own_some hWy (by simp)).2
  have hwl : (way ++ [no]).length = way.length + 1 := by simp
  refine calls_of_wp Try.func33 rfl ?_
  refine g_fr ⟨#[.pointer (some ⟨bw, 0, none⟩), .int .i64 no, .string ⟨val.toArray⟩, .agg #[.int .i64 lo, .int .i64 hi], undef, undef, undef, undef, undef, undef, undef, undef, undef, undef, undef, undef, undef, undef, undef, undef, undef, undef, undef, undef, undef, undef, undef, undef, undef, undef, undef, undef, undef, undef, undef, undef, undef, undef, undef, undef, undef, undef, undef, undef], []⟩ (by kernel_rfl) ?_
  refine wp_seq ?_
  refine wp_region_lit ?_
  refine g_op (by kernel_rfl) (op_box [.int .i64 lo, .int .i64 hi] rfl (by kernel_rfl) ?_)
  intro b1 W1 n1
  have d1_bw := n1.ne kW
  have g1 := n1.ge0 (Below.refl B _)
  have hO : Only [53, 33, 3, 38] w _ := (Only.of_below n1.below)
  have hB := Bl.nextB (Below.refl B w) hBw n1.below
  replace kW := kW.below n1.below
  replace hEn := own_below hEn n1.below
  replace hBl := own_below hBl n1.below
  replace hFl := own_below hFl n1.below
  replace hWy := own_below hWy n1.below
  replace hFv := hFv.below n1.below
  replace hI := hI.below n1.below
  have k1 := n1.blk
  refine wpList_nil ?_
  refine wp_seq ?_
  refine wp_region_lit ?_
  refine g_pv 1 [(12, .string ⟨val.toArray⟩)] (by kernel_rfl) ?_
  refine g_op (by kernel_rfl) (op_call (lb := #[]) 53 #[.string ⟨val.toArray⟩] rfl (by kernel_rfl) (fun _ _ => by kernel_rfl) (by kernel_rfl) ((value_ReadRoot val _ hvl).mono ?_))
  rintro e W2 ⟨rfl, hb2⟩
  refine ⟨_, rfl, ?_⟩
  replace hO := hO.trans (Only.of_below hb2)
  replace hB := Bl.nextB hB hBw hb2
  replace kW := kW.below hb2
  replace k1 := k1.below hb2
  replace hEn := own_below hEn hb2
  replace hBl := own_below hBl hb2
  replace hFl := own_below hFl hb2
  replace hWy := own_below hWy hb2
  replace hFv := hFv.below hb2
  replace hI := hI.below hb2
  refine g_pv 5 [(11, .tuple #[.int .i64 (↑(rootN val) : Int), .int .i64 (rootE val)]), (14, .int .i64 (↑(rootN val) : Int)), (15, .int .i64 (rootE val)), (8, .int .i64 (↑(rootN val) : Int)), (9, .int .i64 (rootE val))] (by kernel_rfl) ?_
  refine wpList_nil ?_
  refine wp_seq ?_
  refine wp_seq ?_
  refine wp_region_lit ?_
  refine g_pv 2 [(16, .int .i64 (rootE val)), (17, .bool ((rootE val) == (0 : Int)))] (by kernel_rfl) ?_
  refine wpList_nil ?_
  refine wp_cond_split (t := ((rootE val) == (0 : Int))) (by kernel_rfl) (fun hc3 => ?_) (fun hc3 => ?_)
  · have hc3 := eq_of_beq hc3
    refine wp_seq ?_
    refine wp_region_lit ?_
    refine g_pv 2 [(18, .pointer (some ⟨bw, 0, none⟩)), (19, .int .i64 (↑(rootN val) : Int))] (by kernel_rfl) ?_
    refine g_op (by kernel_rfl) (op_loadv (b := b1) (off := 0) [.int .i64 lo, .int .i64 hi] _ rfl (by kernel_rfl) Try.underlying56 rfl (by kernel_rfl) k1.whole ?_)
    have hch : childW (visitF l tree fuel d) way no val (lo, hi) s = visitF l tree fuel d (way ++ [no]) (rootN val : Int) lo hi s := by unfold childW; rw [if_pos (by assumption)]
    refine g_op (by kernel_rfl) (op_call (lb := #[]) 13 #[.pointer (some ⟨bw, 0, none⟩), .int .i64 (↑(rootN val) : Int), .agg #[.int .i64 lo, .int .i64 hi]] rfl (by kernel_rfl) (fun _ _ => by kernel_rfl) (by kernel_rfl) ((hV (way ++ [no]) (rootN val : Int) lo hi s pe pb pf pw ce cb cf cw fv _ (by simp; omega) (Nat.le_trans hBw hB.size) hdry ⟨kW, hEn, hBl, hFl, hFv, hWy, hAp, hI⟩ (by have q := he; rw [hch] at q; exact q) (by have q := hb_; rw [hch] at q; exact q) (by have q := hf; rw [hch] at q; exact q)).mono ?_))
    rintro e W4 ⟨u4, pe2, pb2, pf2, pw2, ce2, cb2, cf2, cw2, fv2, rfl, hb4, hO4, hR2⟩
    refine ⟨_, rfl, ?_⟩
    replace hO := hO.trans hO4
    replace hB := hB.trans hb4
    replace k1 := k1.only hO4 (by decide)
    refine wpList_nil ?_
    refine wp_ret (then_ret ?_)
    refine g_ret (.tuple #[]) (by kernel_rfl) (by kernel_rfl) ?_
    rw [hch]
    exact ⟨_, _, _, _, _, _, _, _, _, _, rfl, hB, hO, hR2⟩
  · have hc3 := ne_of_beq_false hc3
    refine wp_skip ?_
    refine wp_seq ?_
    refine wp_region_lit ?_
    refine g_pv 3 [(22, .pointer (some ⟨bw, 0, none⟩)), (23, .pointer (some ⟨bw, 0, none⟩)), (24, .pointer (some ⟨bw, 8, none⟩))] (by kernel_rfl) ?_
    refine g_op (by kernel_rfl) (op_load ⟨bw, 8, none⟩ (.slice pw ((way ++ [no]).length) cw) rfl (by kernel_rfl) (by kernel_rfl) (kW.cell (i := 8) rfl) ?_)
    refine g_pv 1 [(10, .slice pw ((way ++ [no]).length) cw)] (by kernel_rfl) ?_
    refine wpList_nil ?_
    refine wp_seq ?_
    refine wp_region_lit ?_
    refine g_pv 4 [(26, .pointer (some ⟨bw, 0, none⟩)), (27, .slice pw ((way ++ [no]).length) cw), (28, .slice pw ((way ++ [no]).length) cw), (29, .int .i64 (↑((way ++ [no]).length) : Int))] (by kernel_rfl) ?_
    refine g_op (by kernel_rfl) (op_wrap .i64 ((↑((way ++ [no]).length) : Int) - 1) (↑(((way ++ [no]).length) - 1) : Int) (by kernel_rfl) ((show IntKind.i64.wrap ((↑((way ++ [no]).length) : Int) - 1) = ((↑((way ++ [no]).length) : Int) - 1) from by first | exact IntWalk.i64_in _ (by omega) | (simp only [IntKind.wrap]; omega)).trans (by omega)) ?_)
    refine g_op (by kernel_rfl) (op_val (run_sliceH (k := (((way ++ [no]).length) - 1)) (b := pw) (n := (way ++ [no]).length) (c := cw) (i := (↑(((way ++ [no]).length) - 1) : Int)) (ki := .i64) rfl (by kernel_rfl) (by kernel_rfl) rfl (by omega) Try.underlying27 (by kernel_rfl) _) ?_)
    refine g_pv 2 [(32, .pointer (some ⟨bw, 0, none⟩)), (33, .pointer (some ⟨bw, 8, none⟩))] (by kernel_rfl) ?_
    refine g_op (by kernel_rfl) (op_store (v := .slice pw (((way ++ [no]).length) - 1) cw) (b := bw) (off := 8) rfl (by kernel_rfl) (by kernel_rfl) (by kernel_rfl) rfl kW (by first | decide | simp) ?_)
    intro W5 u5 k5
    change Blk _ _ [.slice pe s.es.length ce, .slice pb s.bs.length cb, .int .i64 s.deep, .int .i64 (s.looked : Int), .slice pf s.fs.length cf, .pointer (some ⟨b, 0, none⟩), .int .i64 tree, .int .i64 fuel, .slice pw (((way ++ [no]).length) - 1) cw, .bool s.dry] _ at k5
    replace hO := hO.trans (Only.of_upd u5 kW (by decide))
    replace hB := u5.below hB hBb
    replace k1 := u5.blk k1 (Ne.symm d1_bw)
    replace hEn := u5.own2 hEn kW (by decide)
    replace hBl := u5.own2 hBl kW (by decide)
    replace hFl := u5.own2 hFl kW (by decide)
    replace hWy := u5.own2 hWy kW (by decide)
    replace hFv := hFv.only (Only.of_upd (T := [53]) u5 kW (by decide)) (by decide)
    replace hI := hI.only (Only.of_upd (T := [53]) u5 kW (by decide)) (by decide)
    refine wpList_nil ?_
    refine wp_seq ?_
    refine wp_region_lit ?_
    refine g_pv 4 [(34, .pointer (some ⟨bw, 0, none⟩)), (35, .int .i64 no), (36, .int .i64 (rootE val)), (37, .iface 43 (.int .i64 (rootE val)))] (by kernel_rfl) ?_
    refine g_op (by kernel_rfl) (op_call (lb := #[]) 29 #[.int .i64 no, .iface 43 (.int .i64 (rootE val))] rfl (by kernel_rfl) (fun _ _ => by kernel_rfl) (by kernel_rfl) ((fault_At no (some (rootE val)) [] _ _ rfl).mono ?_))
    rintro e W6 ⟨r6, rfl, hb6, hv6⟩
    refine ⟨_, rfl, ?_⟩
    replace hO := hO.trans (Only.of_below hb6)
    replace hB := Bl.nextB hB hBw hb6
    replace k5 := k5.below hb6
    replace k1 := k1.below hb6
    replace hEn := own_below hEn hb6
    replace hBl := own_below hBl hb6
    replace hFl := own_below hFl hb6
    replace hWy := own_below hWy hb6
    replace hFv := hFv.below hb6
    replace hI := hI.below hb6
    rw [atL_some] at hv6
    obtain ⟨t6, x6, rfl⟩ := hv6.iface
    have hch : childW (visitF l tree fuel d) way no val (lo, hi) s = noteW way [no] (rootE val) s := by unfold childW; rw [if_neg (by assumption)]
    rw [show (way ++ [no]).length - 1 = way.length by omega] at k5
    refine g_op (by kernel_rfl) (op_call (lb := #[]) 28 #[.pointer (some ⟨bw, 0, none⟩), .iface t6 (x6)] rfl (by kernel_rfl) (fun _ _ => by kernel_rfl) (by kernel_rfl) ((walker_note B bw _ _ _ _ _ _ _ _ pf _ cf fv pw cw way [no] (rootE val) _ _ _ hBb (Nat.le_trans hBw hB.size) k5 hFl (way_cut hWy) hv6 (by omega) (by have := hf; rw [hch] at this; simp [noteW] at this; omega)).mono ?_))
    rintro e W7 ⟨u7, pf2, cf2, t2, x2, rfl, hb7, hO7, kN, hFl2, hv2⟩
    refine ⟨_, rfl, ?_⟩
    replace hO := hO.trans (only_we hO7)
    replace hB := hB.trans hb7
    replace k1 := k1.only hO7 (by decide)
    replace hEn := own_only hEn hO7 (by decide)
    replace hBl := own_only hBl hO7 (by decide)
    replace hWy := own_only hWy hO7 (by decide)
    replace hFv := hFv.only hO7 (by decide)
    replace hI := hI.only hO7 (by decide)
    refine wpList_nil ?_
    refine wp_region_lit ?_
    refine g_pv 4 [(40, .pointer (some ⟨bw, 0, none⟩)), (41, .slice pw ((way ++ [no]).length) cw), (42, .pointer (some ⟨bw, 0, none⟩)), (43, .pointer (some ⟨bw, 8, none⟩))] (by kernel_rfl) ?_
    refine g_op (by kernel_rfl) (op_store (v := .slice pw ((way ++ [no]).length) cw) (b := bw) (off := 8) rfl (by kernel_rfl) (by kernel_rfl) (by kernel_rfl) rfl kN (by first | decide | simp) ?_)
    intro W8 u8 k8
    change Blk _ _ [.slice pe s.es.length ce, .slice pb s.bs.length cb, .int .i64 s.deep, .int .i64 (s.looked : Int), .slice pf2 (s.fs.length + 1) cf2, .pointer (some ⟨b, 0, none⟩), .int .i64 tree, .int .i64 fuel, .slice pw ((way ++ [no]).length) cw, .bool s.dry] _ at k8
    replace hO := hO.trans (Only.of_upd u8 kN (by decide))
    replace hB := u8.below hB hBb
    replace k1 := u8.blk k1 (Ne.symm d1_bw)
    replace hEn := u8.own2 hEn kN (by decide)
    replace hBl := u8.own2 hBl kN (by decide)
    replace hWy := u8.own2 hWy kN (by decide)
    replace hFv := hFv.only (Only.of_upd (T := [53]) u8 kN (by decide)) (by decide)
    replace hI := hI.only (Only.of_upd (T := [53]) u8 kN (by decide)) (by decide)
    replace hFl2 := u8.own2 hFl2 kN (by decide)
    replace hv2 := hv2.upd u8 kN (by decide)
    refine wpList_nil ?_
    refine g_end (.tuple #[]) (by kernel_rfl) (by kernel_rfl) ?_
    rw [hch]
    exact ⟨_, pe, pb, pf2, pw, ce, cb, cf2, cw, _, rfl, hB, hO, by simpa [noteW] using k8, hEn, hBl, by simpa [noteW] using hFl2, FltsW.snoc hv2 hFv, hWy, hAp, hI⟩
end Go.Proofs.Ytoiblgeheblddaa

