/- (*walker).visit, given what a visit one deeper does. -/
import Derived.Test.YtoiblgeheblddaaWalkG
namespace Go.Proofs.Ytoiblgeheblddaa
open Go.RowKit Go.Extern.Stop Go.Stop Go.Extern
set_option linter.unusedVariables false
attribute [local irreducible] wpList wpAnyH Code.wp Oper.wp

theorem LookP.or {B bw : Nat} {cs : List Value} {l : List UInt8} {way : List Int} {no tree lo hi deep : Int} {w : World} {e : Ending} {w' : World} (h : LookP B bw cs l way no tree lo hi deep w e w') :
    (lookE l way no tree lo hi deep ≠ 0 ∧ ∃ a4 b4 k4 n4 c4 v4 m4 d4 ty x, e = .returned (.tuple #[.agg #[.int .i64 a4, .bool b4, .slice k4 n4 c4, .slice v4 m4 d4], .iface ty x]) ∧ Below B w w' ∧ Only [53] w w' ∧ Blk w' bw cs 53 ∧ ErrV w' [some no] (some (lookE l way no tree lo hi deep)) (.iface ty x)) ∨
    (lookE l way no tree lo hi deep = 0 ∧ ∃ kp kc vp vc, e = .returned (.tuple #[.agg #[.int .i64 (nodT (inB l no)), .bool (nodL (inB l no)), .slice kp (nodC (inB l no)) kc, .slice vp (nodC (inB l no)) vc], .nilIface]) ∧ Below B w w' ∧ Only [53] w w' ∧ Blk w' bw cs 53 ∧
      w'.ownsRow w.heap.size 3 1 (.slice kp (nodC (inB l no)) kc) (nodC (inB l no)) ((nodK l no).map (Value.int .i64)) ∧ w'.ownsRow w.heap.size 9 1 (.slice vp (nodC (inB l no)) vc) (nodC (inB l no)) ((nodV l no).map sv)) := by
  obtain ⟨h1, h2, h3, ⟨h4, a4, b4, k4, n4, c4, v4, m4, d4, ty, x, h5, h6⟩ | ⟨h4, _, kp, kc, vp, vc, h5, h6, h7⟩⟩ := h
  · exact .inl ⟨h4, a4, b4, k4, n4, c4, v4, m4, d4, ty, x, h5, h1, h2, h3, h6⟩
  · exact .inr ⟨h4, kp, kc, vp, vc, h5, h1, h2, h3, h6, h7⟩
theorem widG_24 (t : Int) (b : Bool) : widG t b ≤ 24 := by
  unfold widG widN
  repeat' split
  all_goals omega
theorem valsL_short (l : List UInt8) (n i : Nat) : ((valsL l n).getD i []).length ≤ 1000 := by
  by_cases h : i < n
  · rw [valsL_get l h]
    unfold valN
    rw [List.length_take]
    have := widG_24 (nodT l) (nodL l)
    unfold nodW
    omega
  · simp [List.getD, List.getElem?_eq_none (show (valsL l n).length ≤ i by rw [valsL_len]; omega)]
theorem ownBlock_len (p : Option Addr) (n c n2 c2 : Nat) : (Value.slice p n c).ownBlock = (Value.slice p n2 c2).ownBlock := by
  cases p <;> rfl
theorem Apart.len {p q : Option Addr} {n c m d : Nat} (h : Apart (.slice p n c) (.slice q m d)) (n2 c2 m2 d2 : Nat) : Apart (.slice p n2 c2) (.slice q m2 d2) := fun j h1 h2 =>
  h j ((ownBlock_len _ _ _ _ _).trans h1) ((ownBlock_len _ _ _ _ _).trans h2)
def prC (p : Int × Int) : List Value := [.int .i64 p.1, .int .i64 p.2]
theorem prC_len (p : Int × Int) : (prC p).length = 2 := rfl
theorem flat2_prC (l : List (Int × Int)) : flat2 l = l.flatMap prC := by
  induction l with
  | nil => rfl
  | cons x l ih => simp only [flat2, List.flatMap_cons, prC]; rfl
theorem look_fits {l : List UInt8} {way : List Int} {no tree lo hi deep : Int} (h : lookE l way no tree lo hi deep = 0) : fitsI lo hi (nodK l no) = 0 ∧ way.length < 16 := by
  unfold lookE at h
  by_cases h1 : hasI way no = true
  · rw [if_pos h1] at h; cases h
  rw [if_neg h1] at h
  by_cases h2 : 16 ≤ way.length
  · rw [if_pos h2] at h; cases h
  rw [if_neg h2] at h
  by_cases h3 : nodeErr l no tree ≠ 0
  · rw [if_pos h3] at h; exact absurd h h3
  rw [if_neg h3] at h
  by_cases h4 : fitsI lo hi (keysI (inB l no) (nodC (inB l no))) ≠ 0
  · rw [if_pos h4] at h; cases h
  exact ⟨Decidable.not_not.1 h4, by omega⟩
theorem splitL_get (hi : Int) (l : List Int) {i : Nat} (h : i < l.length) : (splitL hi l).getD i (0, 0) = partAt hi l i := by simp [splitL, h]
theorem sts_sp {w : World} {p : Option Addr} {n c : Nat} {L : List (Int × Int)} (h : Sl w (.slice p n c) n (flat2 L)) (hL : L.length = n) : Sts prC w (.slice p L.length c) L := by
  subst hL; rw [flat2_prC] at h; exact h
theorem splitL_len (hi : Int) (l : List Int) : (splitL hi l).length = l.length := by simp [splitL]
theorem only_le {w w' : World} (h : Only [53, 33] w w') : Only [53, 33, 3, 38] w w' := h.mono fun t ht => by
  simp only [List.contains_cons, List.contains_nil, Bool.or_eq_false_iff] at ht ⊢
  exact ⟨ht.1, ht.2.1, trivial⟩
theorem only_w {w w' : World} (h : Only [53] w w') : Only [53, 33, 3, 38] w w' := h.mono fun t ht => by
  simp only [List.contains_cons, List.contains_nil, Bool.or_eq_false_iff] at ht ⊢
  exact ⟨ht.1, trivial⟩
set_option maxRecDepth 100000 in
set_option maxHeartbeats 4000000 in
theorem walker_visit (B bw Bi b : Nat) (pi : Option Addr) (ni ci : Nat) (l : List UInt8) (tree fuel : Int) (d : Nat) (hV : d ≠ 0 → VisitC B bw Bi b pi ni ci l tree fuel d) (way : List Int) (no lo hi : Int) (s : WS) (pe pb pf pw : Option Addr) (ce cb cf cw : Nat) (fv : List Value) (w : World) (hBb : B ≤ bw) (hBw : B ≤ w.heap.size) (hwd : way.length + (d + 1) = 17) (hdry : s.dry = false) (hfu : fuel ≤ 1000000) (hR : WalkR B bw Bi b pi ni ci l tree fuel way s pe pb pf pw ce cb cf cw fv w) (he : (visitF l tree fuel (d + 1) way no lo hi s).es.length ≤ 1000000) (hb_ : (visitF l tree fuel (d + 1) way no lo hi s).bs.length ≤ 1000000) (hf : (visitF l tree fuel (d + 1) way no lo hi s).fs.length ≤ 1000000) :
    Calls Try.prog 13 #[.pointer (some ⟨bw, 0, none⟩), .int .i64 no, .agg #[.int .i64 lo, .int .i64 hi]] w (VisitP B bw Bi b pi ni ci l tree fuel way (visitF l tree fuel (d + 1) way no lo hi s) w) := by
  obtain ⟨kW, hEn, hBl, hFl, hFv, hWy, hAp, hI⟩ := hR
  have hBl0 := hBl
  have hWy0 := hWy
  have hgr := visitF_grow l tree fuel (d + 1) way no lo hi s
  have hbs := Nat.le_trans hgr.2.1 hb_
  refine calls_of_wp Try.func13 rfl ?_
  refine g_fr ⟨#[.pointer (some ⟨bw, 0, none⟩), .int .i64 no, .agg #[.int .i64 lo, .int .i64 hi], undef, undef, undef, undef, undef, undef, undef, undef, undef, undef, undef, undef, undef, undef, undef, undef, undef, undef, undef, undef, undef, undef, undef, undef, undef, undef, undef, undef, undef, undef, undef, undef, undef, undef, undef, undef, undef, undef, undef, undef, undef, undef, undef, undef, undef, undef, undef, undef, undef, undef, undef, undef, undef, undef, undef, undef, undef, undef, undef, undef, undef, undef, undef, undef, undef, undef, undef, undef, undef, undef, undef, undef, undef, undef, undef, undef, undef, undef, undef, undef, undef, undef, undef, undef, undef, undef, undef, undef, undef, undef, undef, undef, undef, undef, undef, undef, undef, undef, undef, undef, undef, undef, undef], []⟩ (by kernel_rfl) ?_
  refine wp_seq ?_
  refine wp_region_lit ?_
  refine g_op (by kernel_rfl) (op_box [.int .i64 lo, .int .i64 hi] rfl (by kernel_rfl) ?_)
  intro b1 W1 n1
  have d1_bw := n1.ne kW
  have g1 := n1.ge0 (Below.refl B _)
  have hO : Only [53, 33, 3, 38] w _ := (Only.of_below n1.below)
  have hB := Bl.nextB (Below.refl B w) hBw n1.below
  replace kW := kW.below n1.below
  replace hEn := own_below hEn n1.below
  replace hBl := own_below hBl n1.below
  replace hFl := own_below hFl n1.below
  replace hWy := own_below hWy n1.below
  replace hFv := hFv.below n1.below
  replace hI := hI.below n1.below
  have k1 := n1.blk
  refine wpList_nil ?_
  refine wp_seq ?_
  refine wp_seq ?_
  replace hO := hO.trans (Only.of_below (below_drew W1))
  replace hB := Bl.nextB hB hBw (below_drew W1)
  replace kW := kW.below (below_drew W1)
  replace k1 := k1.below (below_drew W1)
  replace hEn := own_below hEn (below_drew W1)
  replace hBl := own_below hBl (below_drew W1)
  replace hFl := own_below hFl (below_drew W1)
  replace hWy := own_below hWy (below_drew W1)
  replace hFv := hFv.below (below_drew W1)
  replace hI := hI.below (below_drew W1)
  refine h_reg (Below (W1.drew).heap.size (W1.drew)) 10 rfl #[false, false, false, false, false, false, false, false, false, false] rfl (by kernel_rfl) (Below.refl _ _) ?_
  intro hS2
  have hBd4 := hB
  have kd4_bw := kW
  have kd4_b1 := k1
  have hOd4 := hO
  refine h_pv [0, 1, 2, 3] 6 rfl #[true, true, true, true, false, false, false, false, false, false] [(10, .pointer (some ⟨bw, 0, none⟩)), (11, .pointer (some ⟨bw, 0, none⟩)), (12, .pointer (some ⟨bw, 0, none⟩)), (13, .pointer (some ⟨bw, 3, none⟩))] (by kernel_rfl) (fun _ _ _ _ _ h => h) (by kernel_rfl) hS2 ?_
  refine h_load 4 5 rfl ⟨bw, 3, none⟩ (.int .i64 (↑s.looked : Int)) rfl (by kernel_rfl) (by kernel_rfl) (by kernel_rfl) (fun _ _ _ _ _ h => h) (by kernel_rfl) rfl (by kernel_rfl) (by kernel_rfl) (fun V hV => ((kW.below hV).cell (i := 3) rfl)) hS2 ?_
  refine h_pv [5, 6, 7] 2 rfl #[true, true, true, true, true, true, true, true, false, false] [(15, .pointer (some ⟨bw, 0, none⟩)), (16, .pointer (some ⟨bw, 0, none⟩)), (17, .pointer (some ⟨bw, 7, none⟩))] (by kernel_rfl) (fun _ _ _ _ _ h => h) (by kernel_rfl) hS2 ?_
  refine h_load 8 1 rfl ⟨bw, 7, none⟩ (.int .i64 fuel) rfl (by kernel_rfl) (by kernel_rfl) (by kernel_rfl) (fun _ _ _ _ _ h => h) (by kernel_rfl) rfl (by kernel_rfl) (by kernel_rfl) (fun V hV => ((kW.below hV).cell (i := 7) rfl)) hS2 ?_
  refine h_pv [9] 0 rfl #[true, true, true, true, true, true, true, true, true, true] [(19, .bool (decide ((↑s.looked : Int) ≥ fuel)))] (by kernel_rfl) (fun _ _ _ _ _ h => h) (by kernel_rfl) hS2 ?_
  refine h_done _ (by kernel_rfl) ?_
  refine wp_cond_split (t := decide ((↑s.looked : Int) ≥ fuel)) (by kernel_rfl) (fun hc5 => ?_) (fun hc5 => ?_)
  · have hc5 := of_decide_eq_true hc5
    refine wp_seq ?_
    refine wp_region_lit ?_
    refine g_pv 3 [(20, .pointer (some ⟨bw, 0, none⟩)), (21, .int .i64 no), (22, .iface 43 (.int .i64 12))] (by kernel_rfl) ?_
    refine g_op (by kernel_rfl) (op_call (lb := #[]) 29 #[.int .i64 no, .iface 43 (.int .i64 12)] rfl (by kernel_rfl) (fun _ _ => by kernel_rfl) (by kernel_rfl) ((fault_At no (some 12) [] _ _ rfl).mono ?_))
    rintro e W6 ⟨r6, rfl, hb6, hv6⟩
    refine ⟨_, rfl, ?_⟩
    replace hO := hO.trans (Only.of_below hb6)
    replace hB := Bl.nextB hB hBw hb6
    replace kW := kW.below hb6
    replace k1 := k1.below hb6
    replace hEn := own_below hEn hb6
    replace hBl := own_below hBl hb6
    replace hFl := own_below hFl hb6
    replace hWy := own_below hWy hb6
    replace hFv := hFv.below hb6
    replace hI := hI.below hb6
    rw [atL_some] at hv6
    obtain ⟨t6, x6, rfl⟩ := hv6.iface
    have hch : (visitF l tree fuel (d + 1) way no lo hi s) = { noteW way [no] 12 s with dry := true } := by unfold visitF; rw [if_pos (by omega)]
    refine g_op (by kernel_rfl) (op_call (lb := #[]) 28 #[.pointer (some ⟨bw, 0, none⟩), .iface t6 (x6)] rfl (by kernel_rfl) (fun _ _ => by kernel_rfl) (by kernel_rfl) ((walker_note B bw _ _ _ _ _ _ _ _ pf _ cf fv pw cw way [no] 12 _ _ _ hBb (Nat.le_trans hBw hB.size) kW hFl hWy hv6 (by omega) (by have := hf; rw [hch] at this; simp [noteW] at this; omega)).mono ?_))
    rintro e W7 ⟨u7, pf2, cf2, t2, x2, rfl, hb7, hO7, kN, hFl2, hv2⟩
    refine ⟨_, rfl, ?_⟩
    replace hO := hO.trans (only_we hO7)
    replace hB := hB.trans hb7
    replace k1 := k1.only hO7 (by decide)
    replace hEn := own_only hEn hO7 (by decide)
    replace hBl := own_only hBl hO7 (by decide)
    replace hWy := own_only hWy hO7 (by decide)
    replace hFv := hFv.only hO7 (by decide)
    replace hI := hI.only hO7 (by decide)
    refine wpList_nil ?_
    refine wp_seq ?_
    refine wp_region_lit ?_
    refine g_pv 3 [(25, .pointer (some ⟨bw, 0, none⟩)), (26, .pointer (some ⟨bw, 0, none⟩)), (27, .pointer (some ⟨bw, 9, none⟩))] (by kernel_rfl) ?_
    refine g_op (by kernel_rfl) (op_store (v := .bool true) (b := bw) (off := 9) rfl (by kernel_rfl) (by kernel_rfl) (by kernel_rfl) rfl kN (by first | decide | simp) ?_)
    intro W8 u8 k8
    change Blk _ _ [.slice pe s.es.length ce, .slice pb s.bs.length cb, .int .i64 s.deep, .int .i64 (↑s.looked : Int), .slice pf2 (s.fs.length + 1) cf2, .pointer (some ⟨b, 0, none⟩), .int .i64 tree, .int .i64 fuel, .slice pw way.length cw, .bool true] _ at k8
    replace hO := hO.trans (Only.of_upd u8 kN (by decide))
    replace hB := u8.below hB hBb
    replace k1 := u8.blk k1 (Ne.symm d1_bw)
    replace hEn := u8.own2 hEn kN (by decide)
    replace hBl := u8.own2 hBl kN (by decide)
    replace hWy := u8.own2 hWy kN (by decide)
    replace hFv := hFv.only (Only.of_upd (T := [53]) u8 kN (by decide)) (by decide)
    replace hI := hI.only (Only.of_upd (T := [53]) u8 kN (by decide)) (by decide)
    replace hFl2 := u8.own2 hFl2 kN (by decide)
    replace hv2 := hv2.upd u8 kN (by decide)
    refine wpList_nil ?_
    refine wp_ret (then_ret ?_)
    refine g_ret (.tuple #[]) (by kernel_rfl) (by kernel_rfl) ?_
    rw [hch]
    exact ⟨_, pe, pb, pf2, pw, ce, cb, cf2, cw, _, rfl, hB, hO, by simpa [noteW] using k8, hEn, hBl, by simpa [noteW] using hFl2, FltsW.snoc hv2 hFv, hWy, hAp, hI⟩
  · have hc5 := of_decide_eq_false hc5
    refine wp_skip ?_
    refine wp_seq ?_
    refine wp_region_lit ?_
    refine g_pv 2 [(29, .pointer (some ⟨bw, 0, none⟩)), (30, .int .i64 no)] (by kernel_rfl) ?_
    refine g_op (by kernel_rfl) (op_loadv (b := b1) (off := 0) [.int .i64 lo, .int .i64 hi] _ rfl (by kernel_rfl) Try.underlying56 rfl (by kernel_rfl) k1.whole ?_)
    have hs9 : w.heap.size ≤ (W1.drew).heap.size := hB.size
    refine g_op (by kernel_rfl) (op_call (lb := #[]) 30 #[.pointer (some ⟨bw, 0, none⟩), .int .i64 no, .agg #[.int .i64 lo, .int .i64 hi]] rfl (by kernel_rfl) (fun _ _ => by kernel_rfl) (by kernel_rfl) (((walker_look B Bi b bw pi ni ci l _ _ _ _ _ pw cw way no tree lo hi s.deep (s.looked : Int) _ hBb (Nat.le_trans hBw hB.size) kW hWy hI (by omega) (by omega) (by omega)).mono (fun _ _ h => LookP.or h)).mono ?_))
    rintro e W9 hq9
    rcases hq9 with ⟨hz, a4, b4, k4, n4, c4, v4, m4, d4, ty, x, rfl, hb9, hO9, kL9, hv9⟩ | ⟨hz, kp, kc, vp, vc, rfl, hb9, hO9, kL9, hk, hv_⟩
    · refine ⟨_, rfl, ?_⟩
      replace hO := hO.trans (only_w hO9)
      replace hB := hB.trans hb9
      replace k1 := k1.only hO9 (by decide)
      replace hEn := own_only hEn hO9 (by decide)
      replace hBl := own_only hBl hO9 (by decide)
      replace hFl := own_only hFl hO9 (by decide)
      replace hWy := own_only hWy hO9 (by decide)
      replace hFv := hFv.only hO9 (by decide)
      replace hI := hI.only hO9 (by decide)
      refine g_pv 3 [(28, .tuple #[.agg #[.int .i64 a4, .bool b4, .slice k4 n4 c4, .slice v4 m4 d4], .iface ty (x)]), (33, .agg #[.int .i64 a4, .bool b4, .slice k4 n4 c4, .slice v4 m4 d4]), (34, .iface ty (x))] (by kernel_rfl) ?_
      refine g_op (by kernel_rfl) (op_alloc [.int .i64 0, .bool false, .slice none 0 0, .slice none 0 0] rfl (by kernel_rfl) ?_)
      intro b10 W10 n10
      have d10_bw := n10.ne kL9
      have d10_b1 := n10.ne k1
      have g10 := n10.ge0 hB
      replace hO := hO.trans (Only.of_below n10.below)
      replace hB := Bl.nextB hB hBw n10.below
      replace kL9 := kL9.below n10.below
      replace k1 := k1.below n10.below
      replace hEn := own_below hEn n10.below
      replace hBl := own_below hBl n10.below
      replace hFl := own_below hFl n10.below
      replace hWy := own_below hWy n10.below
      replace hFv := hFv.below n10.below
      replace hI := hI.below n10.below
      replace hv9 := hv9.below n10.below
      have k10 := n10.blk
      refine g_op (by kernel_rfl) (op_storev (b := b10) (off := 0) [.int .i64 a4, .bool b4, .slice k4 n4 c4, .slice v4 m4 d4] rfl (by kernel_rfl) (by kernel_rfl) (by kernel_rfl) (by first | decide | simp [Value.oneCell']) k10 (by first | decide | simp) ?_)
      intro W11 u11 k11
      change Blk _ _ [.int .i64 a4, .bool b4, .slice k4 n4 c4, .slice v4 m4 d4] _ at k11
      replace hO := (Only.upd_new hO u11 g10)
      replace hB := u11.below hB (Nat.le_trans hBw g10)
      replace kL9 := u11.blk kL9 (Ne.symm (Ne.symm d10_bw))
      replace k1 := u11.blk k1 (Ne.symm (Ne.symm d10_b1))
      replace hEn := u11.own2 hEn k10 (by decide)
      replace hBl := u11.own2 hBl k10 (by decide)
      replace hFl := u11.own2 hFl k10 (by decide)
      replace hWy := u11.own2 hWy k10 (by decide)
      replace hFv := hFv.only (Only.of_upd (T := [36]) u11 k10 (by decide)) (by decide)
      replace hI := hI.only (Only.of_upd (T := [36]) u11 k10 (by decide)) (by decide)
      replace hv9 := hv9.upd u11 k10 (by decide)
      refine g_pv 1 [(7, .iface ty (x))] (by kernel_rfl) ?_
      refine wpList_nil ?_
      refine wp_seq ?_
      refine wp_seq ?_
      refine wp_region_lit ?_
      refine g_pv 2 [(35, .iface ty (x)), (36, .bool true)] (by kernel_rfl) ?_
      refine wpList_nil ?_
      refine wp_cond_true (by kernel_rfl) ?_
      refine wp_seq ?_
      refine wp_region_lit ?_
      refine g_pv 2 [(37, .pointer (some ⟨bw, 0, none⟩)), (38, .iface ty (x))] (by kernel_rfl) ?_
      have hch : (visitF l tree fuel (d + 1) way no lo hi s) = noteW way [no] (lookE l way no tree lo hi s.deep) { s with looked := s.looked + 1 } := by unfold visitF; rw [if_neg (by omega), if_pos hz]
      refine g_op (by kernel_rfl) (op_call (lb := #[]) 28 #[.pointer (some ⟨bw, 0, none⟩), .iface ty (x)] rfl (by kernel_rfl) (fun _ _ => by kernel_rfl) (by kernel_rfl) ((walker_note B bw _ _ _ _ _ _ _ _ pf _ cf fv pw cw way [no] (lookE l way no tree lo hi s.deep) _ _ _ hBb (Nat.le_trans hBw hB.size) kL9 hFl hWy hv9 (by omega) (by have := hf; rw [hch] at this; simp [noteW] at this; omega)).mono ?_))
      rintro e W12 ⟨u12, pf2, cf2, t2, x2, rfl, hb12, hO12, kN, hFl2, hv2⟩
      refine ⟨_, rfl, ?_⟩
      replace hO := hO.trans (only_we hO12)
      replace hB := hB.trans hb12
      replace k1 := k1.only hO12 (by decide)
      replace k11 := k11.only hO12 (by decide)
      replace hEn := own_only hEn hO12 (by decide)
      replace hBl := own_only hBl hO12 (by decide)
      replace hWy := own_only hWy hO12 (by decide)
      replace hFv := hFv.only hO12 (by decide)
      replace hI := hI.only hO12 (by decide)
      refine wpList_nil ?_
      refine wp_ret (then_ret ?_)
      refine g_ret (.tuple #[]) (by kernel_rfl) (by kernel_rfl) ?_
      rw [hch]
      exact ⟨_, pe, pb, pf2, pw, ce, cb, cf2, cw, _, rfl, hB, hO, by simpa [noteW] using kN, hEn, hBl, by simpa [noteW] using hFl2, FltsW.snoc hv2 hFv, hWy, hAp, hI⟩
    · refine ⟨_, rfl, ?_⟩
      replace hO := hO.trans (only_w hO9)
      replace hB := hB.trans hb9
      replace k1 := k1.only hO9 (by decide)
      replace hEn := own_only hEn hO9 (by decide)
      replace hBl := own_only hBl hO9 (by decide)
      replace hFl := own_only hFl hO9 (by decide)
      replace hWy := own_only hWy hO9 (by decide)
      replace hFv := hFv.only hO9 (by decide)
      replace hI := hI.only hO9 (by decide)
      replace hk := own_mono hk hs9
      replace hv_ := own_mono hv_ hs9
      have hApk := Apart.of_lt hBl0 hk (Nat.le_refl _)
      have hApw := Apart.of_lt hWy0 hk (Nat.le_refl _)
      refine g_pv 3 [(28, .tuple #[.agg #[.int .i64 (nodT (inB l no)), .bool (nodL (inB l no)), .slice kp (nodC (inB l no)) kc, .slice vp (nodC (inB l no)) vc], .nilIface]), (33, .agg #[.int .i64 (nodT (inB l no)), .bool (nodL (inB l no)), .slice kp (nodC (inB l no)) kc, .slice vp (nodC (inB l no)) vc]), (34, .nilIface)] (by kernel_rfl) ?_
      refine g_op (by kernel_rfl) (op_alloc [.int .i64 0, .bool false, .slice none 0 0, .slice none 0 0] rfl (by kernel_rfl) ?_)
      intro b13 W13 n13
      have d13_bw := n13.ne kL9
      have d13_b1 := n13.ne k1
      have g13 := n13.ge0 hB
      replace hO := hO.trans (Only.of_below n13.below)
      replace hB := Bl.nextB hB hBw n13.below
      replace kL9 := kL9.below n13.below
      replace k1 := k1.below n13.below
      replace hEn := own_below hEn n13.below
      replace hBl := own_below hBl n13.below
      replace hFl := own_below hFl n13.below
      replace hWy := own_below hWy n13.below
      replace hFv := hFv.below n13.below
      replace hI := hI.below n13.below
      replace hk := own_below hk n13.below
      replace hv_ := own_below hv_ n13.below
      have k13 := n13.blk
      refine g_op (by kernel_rfl) (op_storev (b := b13) (off := 0) [.int .i64 (nodT (inB l no)), .bool (nodL (inB l no)), .slice kp (nodC (inB l no)) kc, .slice vp (nodC (inB l no)) vc] rfl (by kernel_rfl) (by kernel_rfl) (by kernel_rfl) (by first | decide | simp [Value.oneCell']) k13 (by first | decide | simp) ?_)
      intro W14 u14 k14
      change Blk _ _ [.int .i64 (nodT (inB l no)), .bool (nodL (inB l no)), .slice kp (nodC (inB l no)) kc, .slice vp (nodC (inB l no)) vc] _ at k14
      replace hO := (Only.upd_new hO u14 g13)
      replace hB := u14.below hB (Nat.le_trans hBw g13)
      replace kL9 := u14.blk kL9 (Ne.symm (Ne.symm d13_bw))
      replace k1 := u14.blk k1 (Ne.symm (Ne.symm d13_b1))
      replace hEn := u14.own2 hEn k13 (by decide)
      replace hBl := u14.own2 hBl k13 (by decide)
      replace hFl := u14.own2 hFl k13 (by decide)
      replace hWy := u14.own2 hWy k13 (by decide)
      replace hFv := hFv.only (Only.of_upd (T := [36]) u14 k13 (by decide)) (by decide)
      replace hI := hI.only (Only.of_upd (T := [36]) u14 k13 (by decide)) (by decide)
      replace hk := u14.own2 hk k13 (by decide)
      replace hv_ := u14.own2 hv_ k13 (by decide)
      refine g_pv 1 [(7, .nilIface)] (by kernel_rfl) ?_
      refine wpList_nil ?_
      refine wp_seq ?_
      refine wp_seq ?_
      refine wp_region_lit ?_
      refine g_pv 2 [(35, .nilIface), (36, .bool false)] (by kernel_rfl) ?_
      refine wpList_nil ?_
      refine wp_cond_false (by kernel_rfl) ?_
      refine wp_skip ?_
      refine wp_seq ?_
      refine wp_region_lit ?_
      refine g_pv 5 [(40, .pointer (some ⟨bw, 0, none⟩)), (41, .pointer (some ⟨bw, 0, none⟩)), (42, .pointer (some ⟨bw, 0, none⟩)), (43, .pointer (some ⟨bw, 0, none⟩)), (44, .pointer (some ⟨bw, 1, none⟩))] (by kernel_rfl) ?_
      refine g_op (by kernel_rfl) (op_load ⟨bw, 1, none⟩ (.slice pb s.bs.length cb) rfl (by kernel_rfl) (by kernel_rfl) (kL9.cell (i := 1) rfl) ?_)
      refine g_pv 1 [(46, .int .i64 no)] (by kernel_rfl) ?_
      refine g_op (by kernel_rfl) (op_buildSlice 3 [.int .i64 no] rfl (by kernel_rfl) ?_)
      intro b15 W15 n15
      have d15_bw := n15.ne kL9
      have d15_b1 := n15.ne k1
      have d15_b13 := n15.ne k14
      have g15 := n15.ge0 hB
      have r15_hBl := own_ne hBl n15
      have r15_hWy := own_ne hWy n15
      have r15_hk := own_ne hk n15
      replace hO := hO.trans (Only.of_below n15.below)
      replace hB := Bl.nextB hB hBw n15.below
      replace kL9 := kL9.below n15.below
      replace k1 := k1.below n15.below
      replace k14 := k14.below n15.below
      replace hEn := own_below hEn n15.below
      replace hBl := own_below hBl n15.below
      replace hFl := own_below hFl n15.below
      replace hWy := own_below hWy n15.below
      replace hFv := hFv.below n15.below
      replace hI := hI.below n15.below
      replace hk := own_below hk n15.below
      replace hv_ := own_below hv_ n15.below
      have k15 := n15.blk
      refine g_op (by kernel_rfl) (op_app_at (b := b15) (c := 1) (e := 3) (n := s.bs.length) (xs := (s.bs.map (Value.int .i64))) (m := 1) (news := [.int .i64 no]) (.int .i64 0) 1 8 ((s.bs ++ [no]).length) (((s.bs ++ [no]).map (Value.int .i64))) rfl Try.underlying27 (by kernel_rfl) rfl (by decide) (by kernel_rfl) hBl (by kernel_rfl) k15 rfl (by simp [Value.oneCell']) (by unfold maxLen; omega) (by omega) (Nat.le_trans hBw hB.size) (by simp) (by simp) ?_)
      intro p16 c16 W16 o16 hg16 hb16 ha16
      have q16_hWy := hAp.row hWy hg16
      replace hAp := (hAp.grow hWy ha16)
      have q16_hk := hApk.row hk hg16
      replace hApk := (hApk.grow hk ha16)
      replace hO := hO.trans (Only.of_grown hg16 hBl (by decide))
      replace kL9 := kL9.grown hg16 hBl (by decide)
      replace k1 := k1.grown hg16 hBl (by decide)
      replace k14 := k14.grown hg16 hBl (by decide)
      replace hEn := own_grown hEn hg16 hBl (by decide)
      replace hFl := own_grown hFl hg16 hBl (by decide)
      replace hFv := hFv.only (Only.of_grown (T := [3]) hg16 hBl (by decide)) (by decide)
      replace hI := hI.only (Only.of_grown (T := [3]) hg16 hBl (by decide)) (by decide)
      replace hv_ := own_grown hv_ hg16 hBl (by decide)
      replace hB := hB.trans hb16
      replace hWy := q16_hWy
      replace hk := q16_hk
      refine g_pv 3 [(49, .pointer (some ⟨bw, 0, none⟩)), (50, .pointer (some ⟨bw, 0, none⟩)), (51, .pointer (some ⟨bw, 1, none⟩))] (by kernel_rfl) ?_
      refine g_op (by kernel_rfl) (op_store (v := .slice p16 ((s.bs ++ [no]).length) c16) (b := bw) (off := 1) rfl (by kernel_rfl) (by kernel_rfl) (by kernel_rfl) rfl kL9 (by first | decide | simp) ?_)
      intro W17 u17 k17
      change Blk _ _ [.slice pe s.es.length ce, .slice p16 ((s.bs ++ [no]).length) c16, .int .i64 s.deep, .int .i64 ((s.looked : Int) + 1), .slice pf s.fs.length cf, .pointer (some ⟨b, 0, none⟩), .int .i64 tree, .int .i64 fuel, .slice pw way.length cw, .bool s.dry] _ at k17
      replace hO := hO.trans (Only.of_upd u17 kL9 (by decide))
      replace hB := u17.below hB hBb
      replace k1 := u17.blk k1 (Ne.symm d1_bw)
      replace k14 := u17.blk k14 (Ne.symm d13_bw)
      replace hEn := u17.own2 hEn kL9 (by decide)
      replace hFl := u17.own2 hFl kL9 (by decide)
      replace hFv := hFv.only (Only.of_upd (T := [53]) u17 kL9 (by decide)) (by decide)
      replace hI := hI.only (Only.of_upd (T := [53]) u17 kL9 (by decide)) (by decide)
      replace hv_ := u17.own2 hv_ kL9 (by decide)
      replace hWy := u17.own2 hWy kL9 (by decide)
      replace hk := u17.own2 hk kL9 (by decide)
      replace o16 := u17.own2 o16 kL9 (by decide)
      refine wpList_nil ?_
      refine wp_seq ?_
      refine wp_seq ?_
      refine wp_region_lit ?_
      refine g_pv 1 [(52, .pointer (some ⟨b13, 1, none⟩))] (by kernel_rfl) ?_
      refine g_op (by kernel_rfl) (op_load ⟨b13, 1, none⟩ (.bool (nodL (inB l no))) rfl (by kernel_rfl) (by kernel_rfl) (k14.cell (i := 1) rfl) ?_)
      refine wpList_nil ?_
      refine wp_cond_split (t := (nodL (inB l no))) (by kernel_rfl) (fun hc18 => ?_) (fun hc18 => ?_)
      · refine wp_seq ?_
        refine wp_region_lit ?_
        refine g_pv 2 [(54, .pointer (some ⟨bw, 0, none⟩)), (55, .int .i64 no)] (by kernel_rfl) ?_
        refine g_op (by kernel_rfl) (op_loadv (b := b13) (off := 0) [.int .i64 (nodT (inB l no)), .bool (nodL (inB l no)), .slice kp (nodC (inB l no)) kc, .slice vp (nodC (inB l no)) vc] _ rfl (by kernel_rfl) Try.underlying36 rfl (by kernel_rfl) k14.whole ?_)
        have hch : (visitF l tree fuel (d + 1) way no lo hi s) = { s with looked := s.looked + 1, bs := s.bs ++ [no], deep := ((way.length + 1 : Nat) : Int), es := s.es ++ leafL (nodK l no) (nodV l no) no (nodC (inB l no)) } := by unfold visitF; rw [if_neg (by omega), if_neg (by omega), if_pos (by assumption)]
        refine g_op (by kernel_rfl) (op_call (lb := #[]) 31 #[.pointer (some ⟨bw, 0, none⟩), .int .i64 no, .agg #[.int .i64 (nodT (inB l no)), .bool (nodL (inB l no)), .slice kp (nodC (inB l no)) kc, .slice vp (nodC (inB l no)) vc]] rfl (by kernel_rfl) (fun _ _ => by kernel_rfl) (by kernel_rfl) ((walker_leaf B bw _ _ _ _ _ _ _ _ pe ce s.es pw cw way no _ _ kp vp _ kc vc (nodK l no) (nodV l no) _ hBb (Nat.le_trans hBw hB.size) k17 hEn (fun W _ q => own_sl (own_only hk q (by decide))) (fun W _ q => own_sl (own_only hv_ q (by decide))) (by simp [nodK, keysI]) (by simp [nodV, valsL]) (by omega) (by have := he; rw [hch] at this; simp [leafL_len] at this; omega)).mono ?_))
        rintro e W19 ⟨u19, pe2, ce2, rfl, hb19, hO19, kE, hE2⟩
        refine ⟨_, rfl, ?_⟩
        replace hO := hO.trans (only_le hO19)
        replace hB := hB.trans hb19
        replace k1 := k1.only hO19 (by decide)
        replace k14 := k14.only hO19 (by decide)
        replace hFl := own_only hFl hO19 (by decide)
        replace hFv := hFv.only hO19 (by decide)
        replace hI := hI.only hO19 (by decide)
        replace hv_ := own_only hv_ hO19 (by decide)
        replace hWy := own_only hWy hO19 (by decide)
        replace hk := own_only hk hO19 (by decide)
        replace o16 := own_only o16 hO19 (by decide)
        refine wpList_nil ?_
        refine wp_ret (then_ret ?_)
        refine g_ret (.tuple #[]) (by kernel_rfl) (by kernel_rfl) ?_
        rw [hch]
        exact ⟨_, pe2, _, pf, pw, ce2, _, cf, cw, fv, rfl, hB, hO, by simpa [leafL_len] using kE, by simpa [leafL_len] using hE2, by simpa using o16, hFl, hFv, hWy, by simpa using hAp, hI⟩
      · refine wp_skip ?_
        refine wp_seq ?_
        refine wp_region_lit ?_
        refine g_pv 4 [(58, .pointer (some ⟨bw, 0, none⟩)), (59, .pointer (some ⟨bw, 0, none⟩)), (60, .pointer (some ⟨bw, 0, none⟩)), (61, .pointer (some ⟨bw, 8, none⟩))] (by kernel_rfl) ?_
        refine g_op (by kernel_rfl) (op_load ⟨bw, 8, none⟩ (.slice pw way.length cw) rfl (by kernel_rfl) (by kernel_rfl) (k17.cell (i := 8) rfl) ?_)
        refine g_pv 1 [(63, .int .i64 no)] (by kernel_rfl) ?_
        refine g_op (by kernel_rfl) (op_buildSlice 3 [.int .i64 no] rfl (by kernel_rfl) ?_)
        intro b20 W20 n20
        have d20_bw := n20.ne k17
        have d20_b1 := n20.ne k1
        have d20_b13 := n20.ne k14
        have g20 := n20.ge0 hB
        have r20_hWy := own_ne hWy n20
        have r20_hk := own_ne hk n20
        have r20_o16 := own_ne o16 n20
        replace hO := hO.trans (Only.of_below n20.below)
        replace hB := Bl.nextB hB hBw n20.below
        replace k17 := k17.below n20.below
        replace k1 := k1.below n20.below
        replace k14 := k14.below n20.below
        replace hEn := own_below hEn n20.below
        replace hFl := own_below hFl n20.below
        replace hFv := hFv.below n20.below
        replace hI := hI.below n20.below
        replace hv_ := own_below hv_ n20.below
        replace hWy := own_below hWy n20.below
        replace hk := own_below hk n20.below
        replace o16 := own_below o16 n20.below
        have k20 := n20.blk
        refine g_op (by kernel_rfl) (op_app_at (b := b20) (c := 1) (e := 3) (n := way.length) (xs := (way.map (Value.int .i64))) (m := 1) (news := [.int .i64 no]) (.int .i64 0) 1 8 ((way ++ [no]).length) (((way ++ [no]).map (Value.int .i64))) rfl Try.underlying27 (by kernel_rfl) rfl (by decide) (by kernel_rfl) hWy (by kernel_rfl) k20 rfl (by simp [Value.oneCell']) (by unfold maxLen; omega) (by omega) (Nat.le_trans hBw hB.size) (by simp) (by simp) ?_)
        intro p21 c21 W21 o21 hg21 hb21 ha21
        have q21_o16 := hAp.symm.row o16 hg21
        replace hAp := (hAp.symm.grow o16 ha21).symm
        have q21_hk := hApw.row hk hg21
        replace hApw := (hApw.grow hk ha21)
        replace hO := hO.trans (Only.of_grown hg21 hWy (by decide))
        replace k17 := k17.grown hg21 hWy (by decide)
        replace k1 := k1.grown hg21 hWy (by decide)
        replace k14 := k14.grown hg21 hWy (by decide)
        replace hEn := own_grown hEn hg21 hWy (by decide)
        replace hFl := own_grown hFl hg21 hWy (by decide)
        replace hFv := hFv.only (Only.of_grown (T := [3]) hg21 hWy (by decide)) (by decide)
        replace hI := hI.only (Only.of_grown (T := [3]) hg21 hWy (by decide)) (by decide)
        replace hv_ := own_grown hv_ hg21 hWy (by decide)
        replace hB := hB.trans hb21
        replace o16 := q21_o16
        replace hk := q21_hk
        refine g_pv 2 [(66, .pointer (some ⟨bw, 0, none⟩)), (67, .pointer (some ⟨bw, 8, none⟩))] (by kernel_rfl) ?_
        refine g_op (by kernel_rfl) (op_store (v := .slice p21 ((way ++ [no]).length) c21) (b := bw) (off := 8) rfl (by kernel_rfl) (by kernel_rfl) (by kernel_rfl) rfl k17 (by first | decide | simp) ?_)
        intro W22 u22 k22
        change Blk _ _ [.slice pe s.es.length ce, .slice p16 ((s.bs ++ [no]).length) c16, .int .i64 s.deep, .int .i64 ((s.looked : Int) + 1), .slice pf s.fs.length cf, .pointer (some ⟨b, 0, none⟩), .int .i64 tree, .int .i64 fuel, .slice p21 ((way ++ [no]).length) c21, .bool s.dry] _ at k22
        replace hO := hO.trans (Only.of_upd u22 k17 (by decide))
        replace hB := u22.below hB hBb
        replace k1 := u22.blk k1 (Ne.symm d1_bw)
        replace k14 := u22.blk k14 (Ne.symm d13_bw)
        replace hEn := u22.own2 hEn k17 (by decide)
        replace hFl := u22.own2 hFl k17 (by decide)
        replace hFv := hFv.only (Only.of_upd (T := [53]) u22 k17 (by decide)) (by decide)
        replace hI := hI.only (Only.of_upd (T := [53]) u22 k17 (by decide)) (by decide)
        replace hv_ := u22.own2 hv_ k17 (by decide)
        replace o16 := u22.own2 o16 k17 (by decide)
        replace hk := u22.own2 hk k17 (by decide)
        replace o21 := u22.own2 o21 k17 (by decide)
        refine wpList_nil ?_
        refine wp_seq ?_
        refine wp_seq ?_
        refine wp_region_lit ?_
        refine g_op (by kernel_rfl) (op_loadv (b := b1) (off := 0) [.int .i64 lo, .int .i64 hi] _ rfl (by kernel_rfl) Try.underlying56 rfl (by kernel_rfl) k1.whole ?_)
        refine g_pv 1 [(69, .pointer (some ⟨b13, 2, none⟩))] (by kernel_rfl) ?_
        refine g_op (by kernel_rfl) (op_load ⟨b13, 2, none⟩ (.slice kp (nodC (inB l no)) kc) rfl (by kernel_rfl) (by kernel_rfl) (k14.cell (i := 2) rfl) ?_)
        have hsp0 := hB.size
        obtain ⟨hfit, hw16⟩ := look_fits hz
        have hkl : (nodK l no).length = nodC (inB l no) := by simp [nodK, keysI]
        have hnc : nodC (inB l no) < 65536 := rawN_lt _ 2 2
        refine g_op (by kernel_rfl) (op_call (lb := #[]) 32 #[.agg #[.int .i64 lo, .int .i64 hi], .slice kp (nodC (inB l no)) kc] rfl (by kernel_rfl) (fun _ _ => by kernel_rfl) (by kernel_rfl) ((span_split2 lo hi _ (nodK l no) _ (by rw [hkl]; omega) (intsN_of (own_sl hk) hkl)).mono ?_))
        rintro e W23 ⟨r23, rfl, hb23, _, hg23⟩
        refine ⟨_, rfl, ?_⟩
        replace hO := hO.trans (Only.of_below hb23)
        replace hB := Bl.nextB hB hBw hb23
        replace k22 := k22.below hb23
        replace k1 := k1.below hb23
        replace k14 := k14.below hb23
        replace hEn := own_below hEn hb23
        replace hFl := own_below hFl hb23
        replace hFv := hFv.below hb23
        replace hI := hI.below hb23
        replace hv_ := own_below hv_ hb23
        replace o16 := own_below o16 hb23
        replace hk := own_below hk hb23
        replace o21 := own_below o21 hb23
        obtain ⟨gs, rfl, hgs, kS⟩ := hg23 hfit
        rw [hkl]
        have hSp := own_of_blk (size := 2) (n := nodC (inB l no)) kS (Nat.le_trans hsp0 hgs) (by rw [flat2_length, splitL_len, hkl]) (by unfold maxLen; omega)
        refine g_pv 2 [(72, .int .i64 (↑(nodC (inB l no)) : Int)), (73, .int .i64 0)] (by kernel_rfl) ?_
        refine wpList_nil ?_
        refine wp_block ?_
        have hch : (visitF l tree fuel (d + 1) way no lo hi s) = (loopW (visitF l tree fuel d) l way no hi (nodC (inB l no)) { s with looked := s.looked + 1, bs := s.bs ++ [no] }) := by unfold visitF; rw [if_neg (by omega), if_neg (by omega), if_neg (by simp; assumption)]
        have hspl : (splitL hi (nodK l no)).length = (nodC (inB l no)) := by rw [splitL_len, hkl]
        have hvl : (nodV l no).length = (nodC (inB l no)) := by simp [nodV, valsL]
        have hR : WalkR B bw Bi b pi ni ci l tree fuel (way ++ [no]) (loopW (visitF l tree fuel d) l way no hi 0 { s with looked := s.looked + 1, bs := s.bs ++ [no] }) pe _ pf _ ce _ cf _ fv W23 := ⟨k22, hEn, o16, hFl, hFv, o21, hAp, hI⟩
        refine g_fr ⟨#[.pointer (some ⟨bw, 0, none⟩), .int .i64 no, .agg #[.int .i64 lo, .int .i64 hi], undef, undef, .pointer (some ⟨b1, 0, none⟩), .pointer (some ⟨b13, 0, none⟩), .nilIface, undef, undef, .pointer (some ⟨bw, 0, none⟩), .pointer (some ⟨bw, 0, none⟩), .pointer (some ⟨bw, 0, none⟩), .pointer (some ⟨bw, 3, none⟩), .int .i64 (↑s.looked : Int), .pointer (some ⟨bw, 0, none⟩), .pointer (some ⟨bw, 0, none⟩), .pointer (some ⟨bw, 7, none⟩), .int .i64 fuel, .bool (decide ((↑s.looked : Int) ≥ fuel)), undef, undef, undef, undef, undef, undef, undef, undef, .tuple #[.agg #[.int .i64 (nodT (inB l no)), .bool (nodL (inB l no)), .slice kp (nodC (inB l no)) kc, .slice vp (nodC (inB l no)) vc], .nilIface], .pointer (some ⟨bw, 0, none⟩), .int .i64 no, .agg #[.int .i64 lo, .int .i64 hi], .tuple #[.agg #[.int .i64 (nodT (inB l no)), .bool (nodL (inB l no)), .slice kp (nodC (inB l no)) kc, .slice vp (nodC (inB l no)) vc], .nilIface], .agg #[.int .i64 (nodT (inB l no)), .bool (nodL (inB l no)), .slice kp (nodC (inB l no)) kc, .slice vp (nodC (inB l no)) vc], .nilIface, .nilIface, .bool false, undef, undef, undef, .pointer (some ⟨bw, 0, none⟩), .pointer (some ⟨bw, 0, none⟩), .pointer (some ⟨bw, 0, none⟩), .pointer (some ⟨bw, 0, none⟩), .pointer (some ⟨bw, 1, none⟩), .slice pb s.bs.length cb, .int .i64 no, .slice (some ⟨b15, 0, none⟩) 1 1, .slice p16 ((s.bs ++ [no]).length) c16, .pointer (some ⟨bw, 0, none⟩), .pointer (some ⟨bw, 0, none⟩), .pointer (some ⟨bw, 1, none⟩), .pointer (some ⟨b13, 1, none⟩), .bool (nodL (inB l no)), undef, undef, undef, undef, .pointer (some ⟨bw, 0, none⟩), .pointer (some ⟨bw, 0, none⟩), .pointer (some ⟨bw, 0, none⟩), .pointer (some ⟨bw, 8, none⟩), .slice pw way.length cw, .int .i64 no, .slice (some ⟨b20, 0, none⟩) 1 1, .slice p21 ((way ++ [no]).length) c21, .pointer (some ⟨bw, 0, none⟩), .pointer (some ⟨bw, 8, none⟩), .agg #[.int .i64 lo, .int .i64 hi], .pointer (some ⟨b13, 2, none⟩), .slice kp (nodC (inB l no)) kc, .slice (some ⟨gs, 0, none⟩) (nodC (inB l no)) (nodC (inB l no)), .int .i64 (↑(nodC (inB l no)) : Int), .int .i64 0, undef, undef, undef, undef, undef, undef, undef, undef, undef, undef, undef, undef, undef, undef, undef, undef, undef, undef, undef, undef, undef, undef, undef, undef, undef, undef, undef, undef, undef, undef, undef, undef], []⟩ (by kernel_rfl) ?_
        refine wp_loop (fun act V => ∃ (i : Nat) (pe5 pb5 pf5 pw5 : Option Addr) (ce5 cb5 cf5 cw5 : Nat) (fv5 : List Value) (x24 : Nat → Value), act = ⟨#[.pointer (some ⟨bw, 0, none⟩), .int .i64 no, .agg #[.int .i64 lo, .int .i64 hi], undef, undef, .pointer (some ⟨b1, 0, none⟩), .pointer (some ⟨b13, 0, none⟩), .nilIface, (x24 0), (x24 1), .pointer (some ⟨bw, 0, none⟩), .pointer (some ⟨bw, 0, none⟩), .pointer (some ⟨bw, 0, none⟩), .pointer (some ⟨bw, 3, none⟩), .int .i64 (↑s.looked : Int), .pointer (some ⟨bw, 0, none⟩), .pointer (some ⟨bw, 0, none⟩), .pointer (some ⟨bw, 7, none⟩), .int .i64 fuel, .bool (decide ((↑s.looked : Int) ≥ fuel)), undef, undef, undef, undef, undef, undef, undef, undef, .tuple #[.agg #[.int .i64 (nodT (inB l no)), .bool (nodL (inB l no)), .slice kp (nodC (inB l no)) kc, .slice vp (nodC (inB l no)) vc], .nilIface], .pointer (some ⟨bw, 0, none⟩), .int .i64 no, .agg #[.int .i64 lo, .int .i64 hi], .tuple #[.agg #[.int .i64 (nodT (inB l no)), .bool (nodL (inB l no)), .slice kp (nodC (inB l no)) kc, .slice vp (nodC (inB l no)) vc], .nilIface], .agg #[.int .i64 (nodT (inB l no)), .bool (nodL (inB l no)), .slice kp (nodC (inB l no)) kc, .slice vp (nodC (inB l no)) vc], .nilIface, .nilIface, .bool false, undef, undef, undef, .pointer (some ⟨bw, 0, none⟩), .pointer (some ⟨bw, 0, none⟩), .pointer (some ⟨bw, 0, none⟩), .pointer (some ⟨bw, 0, none⟩), .pointer (some ⟨bw, 1, none⟩), .slice pb s.bs.length cb, .int .i64 no, .slice (some ⟨b15, 0, none⟩) 1 1, .slice p16 ((s.bs ++ [no]).length) c16, .pointer (some ⟨bw, 0, none⟩), .pointer (some ⟨bw, 0, none⟩), .pointer (some ⟨bw, 1, none⟩), .pointer (some ⟨b13, 1, none⟩), .bool (nodL (inB l no)), undef, undef, undef, undef, .pointer (some ⟨bw, 0, none⟩), .pointer (some ⟨bw, 0, none⟩), .pointer (some ⟨bw, 0, none⟩), .pointer (some ⟨bw, 8, none⟩), .slice pw way.length cw, .int .i64 no, .slice (some ⟨b20, 0, none⟩) 1 1, .slice p21 ((way ++ [no]).length) c21, .pointer (some ⟨bw, 0, none⟩), .pointer (some ⟨bw, 8, none⟩), .agg #[.int .i64 lo, .int .i64 hi], .pointer (some ⟨b13, 2, none⟩), .slice kp (nodC (inB l no)) kc, .slice (some ⟨gs, 0, none⟩) (nodC (inB l no)) (nodC (inB l no)), .int .i64 (↑(nodC (inB l no)) : Int), .int .i64 (↑i : Int), (x24 2), (x24 3), (x24 4), (x24 5), (x24 6), (x24 7), (x24 8), (x24 9), (x24 10), (x24 11), (x24 12), (x24 13), (x24 14), (x24 15), (x24 16), (x24 17), (x24 18), (x24 19), undef, undef, undef, undef, undef, undef, undef, undef, undef, undef, undef, undef, undef, undef], []⟩ ∧ Below B w V ∧ Only [53, 33, 3, 38] w V ∧ Blk V b1 ([.int .i64 lo, .int .i64 hi]) 56 ∧ Blk V b13 ([.int .i64 (nodT (inB l no)), .bool (nodL (inB l no)), .slice kp (nodC (inB l no)) kc, .slice vp (nodC (inB l no)) vc]) 36 ∧ WalkR B bw Bi b pi ni ci l tree fuel (way ++ [no]) (loopW (visitF l tree fuel d) l way no hi i { s with looked := s.looked + 1, bs := s.bs ++ [no] }) pe5 pb5 pf5 pw5 ce5 cb5 cf5 cw5 fv5 V ∧ V.ownsRow w.heap.size 9 1 (.slice vp (nodC (inB l no)) vc) (nodC (inB l no)) ((nodV l no).map sv) ∧ V.ownsRow w.heap.size 56 2 (.slice (some ⟨gs, 0, none⟩) (nodC (inB l no)) (nodC (inB l no))) (nodC (inB l no)) (flat2 (splitL hi (nodK l no))) ∧ i ≤ (nodC (inB l no)) ∧ (loopW (visitF l tree fuel d) l way no hi i { s with looked := s.looked + 1, bs := s.bs ++ [no] }).dry = false) (fun act V => (nodC (inB l no)) - ((intOf (act.tmps.getD 73 undef))).toNat) ⟨0, _, _, _, _, _, _, _, _, _, (pk [undef, undef, undef, undef, undef, undef, undef, undef, undef, undef, undef, undef, undef, undef, undef, undef, undef, undef, undef, undef]), rfl, hB, hO, k1, k14, hR, hv_, hSp, Nat.zero_le _, hdry⟩ ?_
        rintro _ W24 ⟨i, pe5, pb5, pf5, pw5, ce5, cb5, cf5, cw5, fv5, x24, rfl, hB, hO, k24_b1, k24_b13, hR, hv_, hSp, hi_, hdr⟩
        have kW3 := hR.blk
        refine wp_seq ?_
        refine wp_region_lit ?_
        refine g_pv 1 [(74, .bool (decide ((↑i : Int) < (↑(nodC (inB l no)) : Int))))] (by kernel_rfl) ?_
        refine wpList_nil ?_
        refine wp_seq ?_
        refine wp_cond_split (t := decide ((↑i : Int) < (↑(nodC (inB l no)) : Int))) (by kernel_rfl) (fun hc25 => ?_) (fun hc25 => ?_)
        · have hc25 := of_decide_eq_true hc25
          refine wp_skip ?_
          refine wp_seq ?_
          refine wp_block ?_
          refine wp_seq ?_
          refine wp_region_lit ?_
          refine g_pv 1 [(75, .int .i64 (↑i : Int))] (by kernel_rfl) ?_
          refine g_op (by kernel_rfl) (op_val (run_indexA (size := 2) (k := i) (b := (some ⟨gs, 0, none⟩)) (n := (nodC (inB l no))) (c := (nodC (inB l no))) (i := (↑i : Int)) (ki := .i64) rfl (by kernel_rfl) (by kernel_rfl) rfl (by omega) (Sts.cell (sts_sp (own_sl hSp) hspl) prC_len (0, 0) (k := i) (i := 0) (show i < (splitL hi (nodK l no)).length by omega) rfl).1 Try.underlying79 (by kernel_rfl) W24) ?_)
          refine g_op (by kernel_rfl) (op_val (run_loadSt (k := i) prC_len (0, 0) _ rfl (by kernel_rfl) (sts_sp (own_sl hSp) hspl) (by omega) (by decide) Try.underlying56 rfl (by kernel_rfl)) ?_)
          refine g_op (by kernel_rfl) (op_alloc [.int .i64 0, .int .i64 0] rfl (by kernel_rfl) ?_)
          intro b26 W26 n26
          have d26_b1 := n26.ne k24_b1
          have d26_b13 := n26.ne k24_b13
          have d26_bw := n26.ne kW3
          have g26 := n26.ge0 hB
          have r26_hSp := own_ne hSp n26
          replace hO := hO.trans (Only.of_below n26.below)
          replace hB := Bl.nextB hB hBw n26.below
          replace k24_b1 := k24_b1.below n26.below
          replace k24_b13 := k24_b13.below n26.below
          replace kW3 := kW3.below n26.below
          replace hv_ := own_below hv_ n26.below
          replace hSp := own_below hSp n26.below
          replace hR := hR.below n26.below
          have k26 := n26.blk
          refine g_pv 1 [(8, .int .i64 (↑i : Int))] (by kernel_rfl) ?_
          refine g_op (by kernel_rfl) (op_storev (b := b26) (off := 0) [.int .i64 (((splitL hi (nodK l no)).getD i (0, 0)).1), .int .i64 (((splitL hi (nodK l no)).getD i (0, 0)).2)] rfl (by kernel_rfl) (by kernel_rfl) (by kernel_rfl) (by first | decide | simp [Value.oneCell']) k26 (by first | decide | simp) ?_)
          intro W27 u27 k27
          change Blk _ _ [.int .i64 (((splitL hi (nodK l no)).getD i (0, 0)).1), .int .i64 (((splitL hi (nodK l no)).getD i (0, 0)).2)] _ at k27
          replace hO := (Only.upd_new hO u27 g26)
          replace hB := u27.below hB (Nat.le_trans hBw g26)
          replace k24_b1 := u27.blk k24_b1 (Ne.symm (Ne.symm d26_b1))
          replace k24_b13 := u27.blk k24_b13 (Ne.symm (Ne.symm d26_b13))
          replace kW3 := u27.blk kW3 (Ne.symm (Ne.symm d26_bw))
          replace hv_ := u27.own2 hv_ k26 (by decide)
          replace hSp := u27.own3 hSp r26_hSp
          replace hR := hR.only (Only.of_upd (T := [56]) u27 k26 (by decide)) (by decide)
          refine wpList_nil ?_
          refine wp_seq ?_
          replace hO := hO.trans (Only.of_below (below_drew W27))
          replace hB := Bl.nextB hB hBw (below_drew W27)
          replace k24_b1 := k24_b1.below (below_drew W27)
          replace k24_b13 := k24_b13.below (below_drew W27)
          replace kW3 := kW3.below (below_drew W27)
          replace k27 := k27.below (below_drew W27)
          replace hv_ := own_below hv_ (below_drew W27)
          replace hSp := own_below hSp (below_drew W27)
          replace hR := hR.below (below_drew W27)
          refine h_reg (fun V => Below B (W27.drew) V ∧ Only [53, 33, 3, 38] (W27.drew) V) 9 rfl #[false, false, false, false, false, false, false, false, false] rfl (by kernel_rfl) ⟨Below.refl _ _, Only.refl _ _⟩ ?_
          intro hS28
          have hBd30 := hB
          have kd30_b1 := k24_b1
          have kd30_b13 := k24_b13
          have kd30_bw := kW3
          have kd30_b26 := k27
          have fd_hv_ := hv_
          have fd_hSp := hSp
          have hOd30 := hO
          refine h_pv [0, 1, 2] 6 rfl #[true, true, true, false, false, false, false, false, false] [(78, .pointer (some ⟨bw, 0, none⟩)), (79, .int .i64 no), (80, .pointer (some ⟨b13, 3, none⟩))] (by kernel_rfl) (fun _ _ _ _ _ h => h) (by kernel_rfl) hS28 ?_
          refine h_load 3 5 rfl ⟨b13, 3, none⟩ (.slice vp (nodC (inB l no)) vc) rfl (by kernel_rfl) (by kernel_rfl) (by kernel_rfl) (fun _ _ _ _ _ h => h) (by kernel_rfl) rfl (by kernel_rfl) (by kernel_rfl) (fun V hV => ((kd30_b13.only hV.2 (by decide)).cell (i := 3) rfl)) hS28 ?_
          refine h_pv [4] 4 rfl #[true, true, true, true, true, false, false, false, false] [(82, .int .i64 (↑i : Int))] (by kernel_rfl) (fun _ _ _ _ _ h => h) (by kernel_rfl) hS28 ?_
          refine h_val 5 3 rfl (.pointer (some (elemAddr vp (i * 1)))) rfl (by kernel_rfl) (by kernel_rfl) (by kernel_rfl) (fun _ _ _ _ _ h => h) (by kernel_rfl) (fun V hV => run_indexA (size := 1) (k := i) (b := vp) (n := (nodC (inB l no))) (c := vc) (i := (↑i : Int)) (ki := .i64) rfl (by kernel_rfl) (by kernel_rfl) rfl (by omega) (Strs.elem (own_sl hv_) hvl (k := i) (by omega)).1 Try.underlying34 (by kernel_rfl) V) hS28 ?_
          refine h_load 6 2 rfl (elemAddr vp (i * 1)) (.string ⟨((nodV l no).getD i []).toArray⟩) rfl (by kernel_rfl) (by kernel_rfl) (by kernel_rfl) (fun _ _ _ _ _ h => h) (by kernel_rfl) rfl (by kernel_rfl) (by kernel_rfl) (fun V hV => (Strs.elem (own_sl (own_only fd_hv_ hV.2 (by decide))) hvl (k := i) (by omega)).2) hS28 ?_
          refine h_loadv (b := b26) (off := 0) 7 1 rfl [.int .i64 (((splitL hi (nodK l no)).getD i (0, 0)).1), .int .i64 (((splitL hi (nodK l no)).getD i (0, 0)).2)] _ rfl (by kernel_rfl) (by kernel_rfl) (by kernel_rfl) (fun _ _ _ _ _ h => h) (by kernel_rfl) rfl (by kernel_rfl) Try.underlying56 rfl (by kernel_rfl) (fun V hV => (kd30_b26.only hV.2 (by decide)).whole) hS28 ?_
          have hxi := splitL_get hi (nodK l no) (i := i) (by omega)
          have hch2 : childW (visitF l tree fuel d) way no ((nodV l no).getD i []) (((splitL hi (nodK l no)).getD i (0, 0)).1, ((splitL hi (nodK l no)).getD i (0, 0)).2) (loopW (visitF l tree fuel d) l way no hi i { s with looked := s.looked + 1, bs := s.bs ++ [no] }) = (loopW (visitF l tree fuel d) l way no hi (i + 1) { s with looked := s.looked + 1, bs := s.bs ++ [no] }) := by rw [loopW_succ]; unfold roundW; rw [if_neg (by rw [hdr]; decide), hxi]
          have hgi := loopW_grow (visitF_grow l tree fuel d) l way no hi { s with looked := s.looked + 1, bs := s.bs ++ [no] } (show i + 1 ≤ (nodC (inB l no)) by omega)
          rw [hch] at he hb_ hf
          refine h_one 8 0 rfl (by kernel_rfl) rfl (by kernel_rfl) (op_call (lb := #[]) 33 #[.pointer (some ⟨bw, 0, none⟩), .int .i64 no, .string ⟨((nodV l no).getD i []).toArray⟩, .agg #[.int .i64 (((splitL hi (nodK l no)).getD i (0, 0)).1), .int .i64 (((splitL hi (nodK l no)).getD i (0, 0)).2)]] rfl (by kernel_rfl) (fun _ _ => by kernel_rfl) (by kernel_rfl) ((walker_child B bw Bi b pi ni ci l tree fuel d (hV (by omega)) way no _ _ ((nodV l no).getD i []) _ pe5 pb5 pf5 pw5 ce5 cb5 cf5 cw5 fv5 _ hBb (Nat.le_trans hBw hB.size) (by omega) hdr (valsL_short _ _ _) hR (by rw [hch2]; exact Nat.le_trans hgi.1 he) (by rw [hch2]; exact Nat.le_trans hgi.2.1 hb_) (by rw [hch2]; exact Nat.le_trans hgi.2.2 hf)).mono ?_))
          rintro e W31 ⟨u31, pe3, pb3, pf3, pw3, ce3, cb3, cf3, cw3, fv3, rfl, hb31, hO31, hR3⟩
          refine ⟨_, rfl, ?_⟩
          replace hO := hO.trans hO31
          replace hB := hB.trans hb31
          replace k24_b1 := k24_b1.only hO31 (by decide)
          replace k24_b13 := k24_b13.only hO31 (by decide)
          replace k27 := k27.only hO31 (by decide)
          replace hv_ := own_only hv_ hO31 (by decide)
          replace hSp := own_only hSp hO31 (by decide)
          rw [hch2] at hR3
          have kW3 := hR3.blk
          have hS32 : Below B (W27.drew) (W31) ∧ Only [53, 33, 3, 38] (W27.drew) (W31) := ⟨hS28.1.trans hb31, hS28.2.trans hO31⟩
          refine ⟨hS32, ?_⟩
          refine h_done _ (by kernel_rfl) ?_
          refine wp_seq ?_
          refine wp_region_lit ?_
          refine g_pv 3 [(87, .pointer (some ⟨bw, 0, none⟩)), (88, .pointer (some ⟨bw, 0, none⟩)), (89, .pointer (some ⟨bw, 9, none⟩))] (by kernel_rfl) ?_
          refine g_op (by kernel_rfl) (op_load ⟨bw, 9, none⟩ (.bool ((loopW (visitF l tree fuel d) l way no hi (i + 1) { s with looked := s.looked + 1, bs := s.bs ++ [no] }).dry)) rfl (by kernel_rfl) (by kernel_rfl) (kW3.cell (i := 9) rfl) ?_)
          refine wpList_nil ?_
          refine wp_cond_split (t := (loopW (visitF l tree fuel d) l way no hi (i + 1) { s with looked := s.looked + 1, bs := s.bs ++ [no] }).dry) (by kernel_rfl) (fun hc33 => ?_) (fun hc33 => ?_)
          · obtain ⟨_, hEn, hBl, hFl, hFv, hWy, hAp, hI⟩ := hR3
            have hwc := (own_some hWy (by simp)).2
            have hwl : (way ++ [no]).length = way.length + 1 := by simp
            have hend : (loopW (visitF l tree fuel d) l way no hi (nodC (inB l no)) { s with looked := s.looked + 1, bs := s.bs ++ [no] }) = (loopW (visitF l tree fuel d) l way no hi (i + 1) { s with looked := s.looked + 1, bs := s.bs ++ [no] }) := loopW_dry _ _ _ _ _ _ (by omega) hc33
            refine wp_exit ?_
            refine inBlock_pass (by simp) ?_
            refine then_exit ?_
            refine then_exit ?_
            refine inBlock_hit ?_
            replace hO := hO.trans (Only.of_below (below_drew W31))
            replace hB := Bl.nextB hB hBw (below_drew W31)
            replace k24_b1 := k24_b1.below (below_drew W31)
            replace k24_b13 := k24_b13.below (below_drew W31)
            replace kW3 := kW3.below (below_drew W31)
            replace k27 := k27.below (below_drew W31)
            replace hv_ := own_below hv_ (below_drew W31)
            replace hSp := own_below hSp (below_drew W31)
            replace hEn := own_below hEn (below_drew W31)
            replace hBl := own_below hBl (below_drew W31)
            replace hFl := own_below hFl (below_drew W31)
            replace hWy := own_below hWy (below_drew W31)
            replace hFv := hFv.below (below_drew W31)
            replace hI := hI.below (below_drew W31)
            refine h_reg (BelowBut (W31.drew) bw) 15 rfl #[false, false, false, false, false, false, false, false, false, false, false, false, false, false, false] rfl (by kernel_rfl) ((Below.refl _ _).but _) ?_
            intro hS34
            have hBd36 := hB
            have kd36_b1 := k24_b1
            have kd36_b13 := k24_b13
            have kd36_bw := kW3
            have kd36_b26 := k27
            have fd_hv_ := hv_
            have fd_hSp := hSp
            have hOd36 := hO
            refine h_pv [0, 1, 2, 3, 5, 6, 7] 8 rfl #[true, true, true, true, false, true, true, true, false, false, false, false, false, false, false] [(92, .pointer (some ⟨bw, 0, none⟩)), (93, .pointer (some ⟨bw, 0, none⟩)), (94, .pointer (some ⟨bw, 0, none⟩)), (95, .pointer (some ⟨bw, 8, none⟩)), (97, .pointer (some ⟨bw, 0, none⟩)), (98, .pointer (some ⟨bw, 0, none⟩)), (99, .pointer (some ⟨bw, 8, none⟩))] (by kernel_rfl) (fun _ _ _ _ _ h => h) (by kernel_rfl) hS34 ?_
            refine h_two 4 8 7 rfl (by kernel_rfl) rfl rfl (by kernel_rfl) (by kernel_rfl) ?_ ?_
            · refine op_load ⟨bw, 8, none⟩ (.slice pw3 ((way ++ [no]).length) cw3) rfl (by kernel_rfl) (by kernel_rfl) (kW3.cell (i := 8) rfl) ?_
              have hS37 : BelowBut (W31.drew) bw (W31.drew) := hS34
              refine ⟨hS37, ?_⟩
              refine h_one 8 6 rfl (by kernel_rfl) rfl (by kernel_rfl) (op_load ⟨bw, 8, none⟩ (.slice pw3 ((way ++ [no]).length) cw3) rfl (by kernel_rfl) (by kernel_rfl) (kW3.cell (i := 8) rfl) ?_)
              have hS38 : BelowBut (W31.drew) bw (W31.drew) := hS37
              refine ⟨hS38, ?_⟩
              refine h_pv [9] 5 rfl #[true, true, true, true, true, true, true, true, true, true, false, false, false, false, false] [(101, .int .i64 (↑((way ++ [no]).length) : Int))] (by kernel_rfl) (fun _ _ _ _ _ h => h) (by kernel_rfl) hS38 ?_
              refine h_val 10 4 rfl (.int .i64 (↑(((way ++ [no]).length) - 1) : Int)) rfl (by kernel_rfl) (by kernel_rfl) (by kernel_rfl) (fun _ _ _ _ _ h => h) (by kernel_rfl) (fun V hV => run_wrap .i64 ((↑((way ++ [no]).length) : Int) - 1) (↑(((way ++ [no]).length) - 1) : Int) (by kernel_rfl) ((show IntKind.i64.wrap ((↑((way ++ [no]).length) : Int) - 1) = ((↑((way ++ [no]).length) : Int) - 1) from by first | exact IntWalk.i64_in _ (by omega) | (simp only [IntKind.wrap]; omega)).trans (by omega)) V) hS38 ?_
              refine h_val 11 3 rfl (.slice pw3 (((way ++ [no]).length) - 1) cw3) rfl (by kernel_rfl) (by kernel_rfl) (by kernel_rfl) (fun _ _ _ _ _ h => h) (by kernel_rfl) (fun V hV => run_sliceH (k := (((way ++ [no]).length) - 1)) (b := pw3) (n := (way ++ [no]).length) (c := cw3) (i := (↑(((way ++ [no]).length) - 1) : Int)) (ki := .i64) rfl (by kernel_rfl) (by kernel_rfl) rfl (by omega) Try.underlying27 (by kernel_rfl) V) hS38 ?_
              refine h_pv [12, 13] 1 rfl #[true, true, true, true, true, true, true, true, true, true, true, true, true, true, false] [(104, .pointer (some ⟨bw, 0, none⟩)), (105, .pointer (some ⟨bw, 8, none⟩))] (by kernel_rfl) (fun _ _ _ _ _ h => h) (by kernel_rfl) hS38 ?_
              refine h_one 14 0 rfl (by kernel_rfl) rfl (by kernel_rfl) (op_store (v := .slice pw3 (((way ++ [no]).length) - 1) cw3) (b := bw) (off := 8) rfl (by kernel_rfl) (by kernel_rfl) (by kernel_rfl) rfl kW3 (by first | decide | simp) ?_)
              intro W39 u39 k39
              change Blk _ _ [.slice pe3 ((loopW (visitF l tree fuel d) l way no hi (i + 1) { s with looked := s.looked + 1, bs := s.bs ++ [no] }).es.length) ce3, .slice pb3 ((loopW (visitF l tree fuel d) l way no hi (i + 1) { s with looked := s.looked + 1, bs := s.bs ++ [no] }).bs.length) cb3, .int .i64 (loopW (visitF l tree fuel d) l way no hi (i + 1) { s with looked := s.looked + 1, bs := s.bs ++ [no] }).deep, .int .i64 ((loopW (visitF l tree fuel d) l way no hi (i + 1) { s with looked := s.looked + 1, bs := s.bs ++ [no] }).looked : Int), .slice pf3 ((loopW (visitF l tree fuel d) l way no hi (i + 1) { s with looked := s.looked + 1, bs := s.bs ++ [no] }).fs.length) cf3, .pointer (some ⟨b, 0, none⟩), .int .i64 tree, .int .i64 fuel, .slice pw3 (((way ++ [no]).length) - 1) cw3, .bool ((loopW (visitF l tree fuel d) l way no hi (i + 1) { s with looked := s.looked + 1, bs := s.bs ++ [no] }).dry)] _ at k39
              replace hO := hO.trans (Only.of_upd u39 kW3 (by decide))
              replace hB := u39.below hB hBb
              replace k24_b1 := u39.blk k24_b1 (Ne.symm d1_bw)
              replace k24_b13 := u39.blk k24_b13 (Ne.symm d13_bw)
              replace k27 := u39.blk k27 (Ne.symm d26_bw)
              replace hv_ := u39.own2 hv_ kW3 (by decide)
              replace hSp := u39.own2 hSp kW3 (by decide)
              replace hEn := u39.own2 hEn kW3 (by decide)
              replace hBl := u39.own2 hBl kW3 (by decide)
              replace hFl := u39.own2 hFl kW3 (by decide)
              replace hWy := u39.own2 hWy kW3 (by decide)
              replace hFv := hFv.only (Only.of_upd (T := [53]) u39 kW3 (by decide)) (by decide)
              replace hI := hI.only (Only.of_upd (T := [53]) u39 kW3 (by decide)) (by decide)
              have hS40 : BelowBut (W31.drew) bw (W39) := hS38.upd u39
              refine ⟨hS40, ?_⟩
              refine h_done _ (by kernel_rfl) ?_
              refine g_end (.tuple #[]) (by kernel_rfl) (by kernel_rfl) ?_
              rw [hch, hend]
              rw [show (way ++ [no]).length - 1 = way.length by simp] at k39
              exact ⟨_, pe3, pb3, pf3, pw3, ce3, cb3, cf3, cw3, fv3, rfl, hB, hO, k39, hEn, hBl, hFl, hFv, way_cut hWy, hAp.len _ _ _ _, hI⟩
            · refine op_load ⟨bw, 8, none⟩ (.slice pw3 ((way ++ [no]).length) cw3) rfl (by kernel_rfl) (by kernel_rfl) (kW3.cell (i := 8) rfl) ?_
              have hS41 : BelowBut (W31.drew) bw (W31.drew) := hS34
              refine ⟨hS41, ?_⟩
              refine h_pv [9] 6 rfl #[true, true, true, true, false, true, true, true, true, true, false, false, false, false, false] [(101, .int .i64 (↑((way ++ [no]).length) : Int))] (by kernel_rfl) (fun _ _ _ _ _ h => h) (by kernel_rfl) hS41 ?_
              refine h_val 10 5 rfl (.int .i64 (↑(((way ++ [no]).length) - 1) : Int)) rfl (by kernel_rfl) (by kernel_rfl) (by kernel_rfl) (fun _ _ _ _ _ h => h) (by kernel_rfl) (fun V hV => run_wrap .i64 ((↑((way ++ [no]).length) : Int) - 1) (↑(((way ++ [no]).length) - 1) : Int) (by kernel_rfl) ((show IntKind.i64.wrap ((↑((way ++ [no]).length) : Int) - 1) = ((↑((way ++ [no]).length) : Int) - 1) from by first | exact IntWalk.i64_in _ (by omega) | (simp only [IntKind.wrap]; omega)).trans (by omega)) V) hS41 ?_
              refine h_one 4 4 rfl (by kernel_rfl) rfl (by kernel_rfl) (op_load ⟨bw, 8, none⟩ (.slice pw3 ((way ++ [no]).length) cw3) rfl (by kernel_rfl) (by kernel_rfl) (kW3.cell (i := 8) rfl) ?_)
              have hS42 : BelowBut (W31.drew) bw (W31.drew) := hS41
              refine ⟨hS42, ?_⟩
              refine h_val 11 3 rfl (.slice pw3 (((way ++ [no]).length) - 1) cw3) rfl (by kernel_rfl) (by kernel_rfl) (by kernel_rfl) (fun _ _ _ _ _ h => h) (by kernel_rfl) (fun V hV => run_sliceH (k := (((way ++ [no]).length) - 1)) (b := pw3) (n := (way ++ [no]).length) (c := cw3) (i := (↑(((way ++ [no]).length) - 1) : Int)) (ki := .i64) rfl (by kernel_rfl) (by kernel_rfl) rfl (by omega) Try.underlying27 (by kernel_rfl) V) hS42 ?_
              refine h_pv [12, 13] 1 rfl #[true, true, true, true, true, true, true, true, true, true, true, true, true, true, false] [(104, .pointer (some ⟨bw, 0, none⟩)), (105, .pointer (some ⟨bw, 8, none⟩))] (by kernel_rfl) (fun _ _ _ _ _ h => h) (by kernel_rfl) hS42 ?_
              refine h_one 14 0 rfl (by kernel_rfl) rfl (by kernel_rfl) (op_store (v := .slice pw3 (((way ++ [no]).length) - 1) cw3) (b := bw) (off := 8) rfl (by kernel_rfl) (by kernel_rfl) (by kernel_rfl) rfl kW3 (by first | decide | simp) ?_)
              intro W43 u43 k43
              change Blk _ _ [.slice pe3 ((loopW (visitF l tree fuel d) l way no hi (i + 1) { s with looked := s.looked + 1, bs := s.bs ++ [no] }).es.length) ce3, .slice pb3 ((loopW (visitF l tree fuel d) l way no hi (i + 1) { s with looked := s.looked + 1, bs := s.bs ++ [no] }).bs.length) cb3, .int .i64 (loopW (visitF l tree fuel d) l way no hi (i + 1) { s with looked := s.looked + 1, bs := s.bs ++ [no] }).deep, .int .i64 ((loopW (visitF l tree fuel d) l way no hi (i + 1) { s with looked := s.looked + 1, bs := s.bs ++ [no] }).looked : Int), .slice pf3 ((loopW (visitF l tree fuel d) l way no hi (i + 1) { s with looked := s.looked + 1, bs := s.bs ++ [no] }).fs.length) cf3, .pointer (some ⟨b, 0, none⟩), .int .i64 tree, .int .i64 fuel, .slice pw3 (((way ++ [no]).length) - 1) cw3, .bool ((loopW (visitF l tree fuel d) l way no hi (i + 1) { s with looked := s.looked + 1, bs := s.bs ++ [no] }).dry)] _ at k43
              replace hO := hO.trans (Only.of_upd u43 kW3 (by decide))
              replace hB := u43.below hB hBb
              replace k24_b1 := u43.blk k24_b1 (Ne.symm d1_bw)
              replace k24_b13 := u43.blk k24_b13 (Ne.symm d13_bw)
              replace k27 := u43.blk k27 (Ne.symm d26_bw)
              replace hv_ := u43.own2 hv_ kW3 (by decide)
              replace hSp := u43.own2 hSp kW3 (by decide)
              replace hEn := u43.own2 hEn kW3 (by decide)
              replace hBl := u43.own2 hBl kW3 (by decide)
              replace hFl := u43.own2 hFl kW3 (by decide)
              replace hWy := u43.own2 hWy kW3 (by decide)
              replace hFv := hFv.only (Only.of_upd (T := [53]) u43 kW3 (by decide)) (by decide)
              replace hI := hI.only (Only.of_upd (T := [53]) u43 kW3 (by decide)) (by decide)
              have hS44 : BelowBut (W31.drew) bw (W43) := hS42.upd u43
              refine ⟨hS44, ?_⟩
              refine h_done _ (by kernel_rfl) ?_
              refine g_end (.tuple #[]) (by kernel_rfl) (by kernel_rfl) ?_
              rw [hch, hend]
              rw [show (way ++ [no]).length - 1 = way.length by simp] at k43
              exact ⟨_, pe3, pb3, pf3, pw3, ce3, cb3, cf3, cw3, fv3, rfl, hB, hO, k43, hEn, hBl, hFl, hFv, way_cut hWy, hAp.len _ _ _ _, hI⟩
          · refine wp_skip ?_
            refine wp_region_lit ?_
            refine g_op (by kernel_rfl) (op_wrap .i64 ((↑i : Int) + 1) (↑(i + 1) : Int) (by kernel_rfl) ((show IntKind.i64.wrap ((↑i : Int) + 1) = ((↑i : Int) + 1) from by first | exact IntWalk.i64_in _ (by omega) | (simp only [IntKind.wrap]; omega)).trans (by omega)) ?_)
            refine g_pv 1 [(73, .int .i64 (↑(i + 1) : Int))] (by kernel_rfl) ?_
            refine wpList_nil ?_
            refine g_nfr ⟨#[.pointer (some ⟨bw, 0, none⟩), .int .i64 no, .agg #[.int .i64 lo, .int .i64 hi], undef, undef, .pointer (some ⟨b1, 0, none⟩), .pointer (some ⟨b13, 0, none⟩), .nilIface, .int .i64 (↑i : Int), .pointer (some ⟨b26, 0, none⟩), .pointer (some ⟨bw, 0, none⟩), .pointer (some ⟨bw, 0, none⟩), .pointer (some ⟨bw, 0, none⟩), .pointer (some ⟨bw, 3, none⟩), .int .i64 (↑s.looked : Int), .pointer (some ⟨bw, 0, none⟩), .pointer (some ⟨bw, 0, none⟩), .pointer (some ⟨bw, 7, none⟩), .int .i64 fuel, .bool (decide ((↑s.looked : Int) ≥ fuel)), undef, undef, undef, undef, undef, undef, undef, undef, .tuple #[.agg #[.int .i64 (nodT (inB l no)), .bool (nodL (inB l no)), .slice kp (nodC (inB l no)) kc, .slice vp (nodC (inB l no)) vc], .nilIface], .pointer (some ⟨bw, 0, none⟩), .int .i64 no, .agg #[.int .i64 lo, .int .i64 hi], .tuple #[.agg #[.int .i64 (nodT (inB l no)), .bool (nodL (inB l no)), .slice kp (nodC (inB l no)) kc, .slice vp (nodC (inB l no)) vc], .nilIface], .agg #[.int .i64 (nodT (inB l no)), .bool (nodL (inB l no)), .slice kp (nodC (inB l no)) kc, .slice vp (nodC (inB l no)) vc], .nilIface, .nilIface, .bool false, undef, undef, undef, .pointer (some ⟨bw, 0, none⟩), .pointer (some ⟨bw, 0, none⟩), .pointer (some ⟨bw, 0, none⟩), .pointer (some ⟨bw, 0, none⟩), .pointer (some ⟨bw, 1, none⟩), .slice pb s.bs.length cb, .int .i64 no, .slice (some ⟨b15, 0, none⟩) 1 1, .slice p16 ((s.bs ++ [no]).length) c16, .pointer (some ⟨bw, 0, none⟩), .pointer (some ⟨bw, 0, none⟩), .pointer (some ⟨bw, 1, none⟩), .pointer (some ⟨b13, 1, none⟩), .bool (nodL (inB l no)), undef, undef, undef, undef, .pointer (some ⟨bw, 0, none⟩), .pointer (some ⟨bw, 0, none⟩), .pointer (some ⟨bw, 0, none⟩), .pointer (some ⟨bw, 8, none⟩), .slice pw way.length cw, .int .i64 no, .slice (some ⟨b20, 0, none⟩) 1 1, .slice p21 ((way ++ [no]).length) c21, .pointer (some ⟨bw, 0, none⟩), .pointer (some ⟨bw, 8, none⟩), .agg #[.int .i64 lo, .int .i64 hi], .pointer (some ⟨b13, 2, none⟩), .slice kp (nodC (inB l no)) kc, .slice (some ⟨gs, 0, none⟩) (nodC (inB l no)) (nodC (inB l no)), .int .i64 (↑(nodC (inB l no)) : Int), .int .i64 (↑(i + 1) : Int), .bool (decide ((↑i : Int) < (↑(nodC (inB l no)) : Int))), .int .i64 (↑i : Int), .pointer (some (elemAddr (some ⟨gs, 0, none⟩) (i * 2))), .agg #[.int .i64 (((splitL hi (nodK l no)).getD i (0, 0)).1), .int .i64 (((splitL hi (nodK l no)).getD i (0, 0)).2)], .pointer (some ⟨bw, 0, none⟩), .int .i64 no, .pointer (some ⟨b13, 3, none⟩), .slice vp (nodC (inB l no)) vc, .int .i64 (↑i : Int), .pointer (some (elemAddr vp (i * 1))), .string ⟨((nodV l no).getD i []).toArray⟩, .agg #[.int .i64 (((splitL hi (nodK l no)).getD i (0, 0)).1), .int .i64 (((splitL hi (nodK l no)).getD i (0, 0)).2)], u31, .pointer (some ⟨bw, 0, none⟩), .pointer (some ⟨bw, 0, none⟩), .pointer (some ⟨bw, 9, none⟩), .bool ((loopW (visitF l tree fuel d) l way no hi (i + 1) { s with looked := s.looked + 1, bs := s.bs ++ [no] }).dry), .int .i64 (↑(i + 1) : Int), undef, undef, undef, undef, undef, undef, undef, undef, undef, undef, undef, undef, undef, undef], []⟩ (by kernel_rfl) ?_
            refine ⟨⟨i + 1, _, _, _, _, _, _, _, _, _, (pk [.int .i64 (↑i : Int), .pointer (some ⟨b26, 0, none⟩), .bool (decide ((↑i : Int) < (↑(nodC (inB l no)) : Int))), .int .i64 (↑i : Int), .pointer (some (elemAddr (some ⟨gs, 0, none⟩) (i * 2))), .agg #[.int .i64 (((splitL hi (nodK l no)).getD i (0, 0)).1), .int .i64 (((splitL hi (nodK l no)).getD i (0, 0)).2)], .pointer (some ⟨bw, 0, none⟩), .int .i64 no, .pointer (some ⟨b13, 3, none⟩), .slice vp (nodC (inB l no)) vc, .int .i64 (↑i : Int), .pointer (some (elemAddr vp (i * 1))), .string ⟨((nodV l no).getD i []).toArray⟩, .agg #[.int .i64 (((splitL hi (nodK l no)).getD i (0, 0)).1), .int .i64 (((splitL hi (nodK l no)).getD i (0, 0)).2)], u31, .pointer (some ⟨bw, 0, none⟩), .pointer (some ⟨bw, 0, none⟩), .pointer (some ⟨bw, 9, none⟩), .bool ((loopW (visitF l tree fuel d) l way no hi (i + 1) { s with looked := s.looked + 1, bs := s.bs ++ [no] }).dry), .int .i64 (↑(i + 1) : Int)]), rfl, hB, hO, k24_b1, k24_b13, hR3, hv_, hSp, by omega, by assumption⟩, ?_⟩
            show (nodC (inB l no)) - ((↑(i + 1) : Int)).toNat < (nodC (inB l no)) - ((↑i : Int)).toNat
            omega
        · have hc25 := of_decide_eq_false hc25
          obtain ⟨_, hEn, hBl, hFl, hFv, hWy, hAp, hI⟩ := hR
          have hwc := (own_some hWy (by simp)).2
          have hwl : (way ++ [no]).length = way.length + 1 := by simp
          have hend : (loopW (visitF l tree fuel d) l way no hi (nodC (inB l no)) { s with looked := s.looked + 1, bs := s.bs ++ [no] }) = (loopW (visitF l tree fuel d) l way no hi i { s with looked := s.looked + 1, bs := s.bs ++ [no] }) := by rw [show i = (nodC (inB l no)) by omega]
          refine wp_exit ?_
          refine then_exit ?_
          refine then_exit ?_
          refine inBlock_hit ?_
          replace hO := hO.trans (Only.of_below (below_drew W24))
          replace hB := Bl.nextB hB hBw (below_drew W24)
          replace k24_b1 := k24_b1.below (below_drew W24)
          replace k24_b13 := k24_b13.below (below_drew W24)
          replace kW3 := kW3.below (below_drew W24)
          replace hv_ := own_below hv_ (below_drew W24)
          replace hSp := own_below hSp (below_drew W24)
          replace hEn := own_below hEn (below_drew W24)
          replace hBl := own_below hBl (below_drew W24)
          replace hFl := own_below hFl (below_drew W24)
          replace hWy := own_below hWy (below_drew W24)
          replace hFv := hFv.below (below_drew W24)
          replace hI := hI.below (below_drew W24)
          refine h_reg (BelowBut (W24.drew) bw) 15 rfl #[false, false, false, false, false, false, false, false, false, false, false, false, false, false, false] rfl (by kernel_rfl) ((Below.refl _ _).but _) ?_
          intro hS45
          have hBd47 := hB
          have kd47_b1 := k24_b1
          have kd47_b13 := k24_b13
          have kd47_bw := kW3
          have fd_hv_ := hv_
          have fd_hSp := hSp
          have hOd47 := hO
          refine h_pv [0, 1, 2, 3, 5, 6, 7] 8 rfl #[true, true, true, true, false, true, true, true, false, false, false, false, false, false, false] [(92, .pointer (some ⟨bw, 0, none⟩)), (93, .pointer (some ⟨bw, 0, none⟩)), (94, .pointer (some ⟨bw, 0, none⟩)), (95, .pointer (some ⟨bw, 8, none⟩)), (97, .pointer (some ⟨bw, 0, none⟩)), (98, .pointer (some ⟨bw, 0, none⟩)), (99, .pointer (some ⟨bw, 8, none⟩))] (by kernel_rfl) (fun _ _ _ _ _ h => h) (by kernel_rfl) hS45 ?_
          refine h_two 4 8 7 rfl (by kernel_rfl) rfl rfl (by kernel_rfl) (by kernel_rfl) ?_ ?_
          · refine op_load ⟨bw, 8, none⟩ (.slice pw5 ((way ++ [no]).length) cw5) rfl (by kernel_rfl) (by kernel_rfl) (kW3.cell (i := 8) rfl) ?_
            have hS48 : BelowBut (W24.drew) bw (W24.drew) := hS45
            refine ⟨hS48, ?_⟩
            refine h_one 8 6 rfl (by kernel_rfl) rfl (by kernel_rfl) (op_load ⟨bw, 8, none⟩ (.slice pw5 ((way ++ [no]).length) cw5) rfl (by kernel_rfl) (by kernel_rfl) (kW3.cell (i := 8) rfl) ?_)
            have hS49 : BelowBut (W24.drew) bw (W24.drew) := hS48
            refine ⟨hS49, ?_⟩
            refine h_pv [9] 5 rfl #[true, true, true, true, true, true, true, true, true, true, false, false, false, false, false] [(101, .int .i64 (↑((way ++ [no]).length) : Int))] (by kernel_rfl) (fun _ _ _ _ _ h => h) (by kernel_rfl) hS49 ?_
            refine h_val 10 4 rfl (.int .i64 (↑(((way ++ [no]).length) - 1) : Int)) rfl (by kernel_rfl) (by kernel_rfl) (by kernel_rfl) (fun _ _ _ _ _ h => h) (by kernel_rfl) (fun V hV => run_wrap .i64 ((↑((way ++ [no]).length) : Int) - 1) (↑(((way ++ [no]).length) - 1) : Int) (by kernel_rfl) ((show IntKind.i64.wrap ((↑((way ++ [no]).length) : Int) - 1) = ((↑((way ++ [no]).length) : Int) - 1) from by first | exact IntWalk.i64_in _ (by omega) | (simp only [IntKind.wrap]; omega)).trans (by omega)) V) hS49 ?_
            refine h_val 11 3 rfl (.slice pw5 (((way ++ [no]).length) - 1) cw5) rfl (by kernel_rfl) (by kernel_rfl) (by kernel_rfl) (fun _ _ _ _ _ h => h) (by kernel_rfl) (fun V hV => run_sliceH (k := (((way ++ [no]).length) - 1)) (b := pw5) (n := (way ++ [no]).length) (c := cw5) (i := (↑(((way ++ [no]).length) - 1) : Int)) (ki := .i64) rfl (by kernel_rfl) (by kernel_rfl) rfl (by omega) Try.underlying27 (by kernel_rfl) V) hS49 ?_
            refine h_pv [12, 13] 1 rfl #[true, true, true, true, true, true, true, true, true, true, true, true, true, true, false] [(104, .pointer (some ⟨bw, 0, none⟩)), (105, .pointer (some ⟨bw, 8, none⟩))] (by kernel_rfl) (fun _ _ _ _ _ h => h) (by kernel_rfl) hS49 ?_
            refine h_one 14 0 rfl (by kernel_rfl) rfl (by kernel_rfl) (op_store (v := .slice pw5 (((way ++ [no]).length) - 1) cw5) (b := bw) (off := 8) rfl (by kernel_rfl) (by kernel_rfl) (by kernel_rfl) rfl kW3 (by first | decide | simp) ?_)
            intro W50 u50 k50
            change Blk _ _ [.slice pe5 ((loopW (visitF l tree fuel d) l way no hi i { s with looked := s.looked + 1, bs := s.bs ++ [no] }).es.length) ce5, .slice pb5 ((loopW (visitF l tree fuel d) l way no hi i { s with looked := s.looked + 1, bs := s.bs ++ [no] }).bs.length) cb5, .int .i64 (loopW (visitF l tree fuel d) l way no hi i { s with looked := s.looked + 1, bs := s.bs ++ [no] }).deep, .int .i64 ((loopW (visitF l tree fuel d) l way no hi i { s with looked := s.looked + 1, bs := s.bs ++ [no] }).looked : Int), .slice pf5 ((loopW (visitF l tree fuel d) l way no hi i { s with looked := s.looked + 1, bs := s.bs ++ [no] }).fs.length) cf5, .pointer (some ⟨b, 0, none⟩), .int .i64 tree, .int .i64 fuel, .slice pw5 (((way ++ [no]).length) - 1) cw5, .bool ((loopW (visitF l tree fuel d) l way no hi i { s with looked := s.looked + 1, bs := s.bs ++ [no] }).dry)] _ at k50
            replace hO := hO.trans (Only.of_upd u50 kW3 (by decide))
            replace hB := u50.below hB hBb
            replace k24_b1 := u50.blk k24_b1 (Ne.symm d1_bw)
            replace k24_b13 := u50.blk k24_b13 (Ne.symm d13_bw)
            replace hv_ := u50.own2 hv_ kW3 (by decide)
            replace hSp := u50.own2 hSp kW3 (by decide)
            replace hEn := u50.own2 hEn kW3 (by decide)
            replace hBl := u50.own2 hBl kW3 (by decide)
            replace hFl := u50.own2 hFl kW3 (by decide)
            replace hWy := u50.own2 hWy kW3 (by decide)
            replace hFv := hFv.only (Only.of_upd (T := [53]) u50 kW3 (by decide)) (by decide)
            replace hI := hI.only (Only.of_upd (T := [53]) u50 kW3 (by decide)) (by decide)
            have hS51 : BelowBut (W24.drew) bw (W50) := hS49.upd u50
            refine ⟨hS51, ?_⟩
            refine h_done _ (by kernel_rfl) ?_
            refine g_end (.tuple #[]) (by kernel_rfl) (by kernel_rfl) ?_
            rw [hch, hend]
            rw [show (way ++ [no]).length - 1 = way.length by simp] at k50
            exact ⟨_, pe5, pb5, pf5, pw5, ce5, cb5, cf5, cw5, fv5, rfl, hB, hO, k50, hEn, hBl, hFl, hFv, way_cut hWy, hAp.len _ _ _ _, hI⟩
          · refine op_load ⟨bw, 8, none⟩ (.slice pw5 ((way ++ [no]).length) cw5) rfl (by kernel_rfl) (by kernel_rfl) (kW3.cell (i := 8) rfl) ?_
            have hS52 : BelowBut (W24.drew) bw (W24.drew) := hS45
            refine ⟨hS52, ?_⟩
            refine h_pv [9] 6 rfl #[true, true, true, true, false, true, true, true, true, true, false, false, false, false, false] [(101, .int .i64 (↑((way ++ [no]).length) : Int))] (by kernel_rfl) (fun _ _ _ _ _ h => h) (by kernel_rfl) hS52 ?_
            refine h_val 10 5 rfl (.int .i64 (↑(((way ++ [no]).length) - 1) : Int)) rfl (by kernel_rfl) (by kernel_rfl) (by kernel_rfl) (fun _ _ _ _ _ h => h) (by kernel_rfl) (fun V hV => run_wrap .i64 ((↑((way ++ [no]).length) : Int) - 1) (↑(((way ++ [no]).length) - 1) : Int) (by kernel_rfl) ((show IntKind.i64.wrap ((↑((way ++ [no]).length) : Int) - 1) = ((↑((way ++ [no]).length) : Int) - 1) from by first | exact IntWalk.i64_in _ (by omega) | (simp only [IntKind.wrap]; omega)).trans (by omega)) V) hS52 ?_
            refine h_one 4 4 rfl (by kernel_rfl) rfl (by kernel_rfl) (op_load ⟨bw, 8, none⟩ (.slice pw5 ((way ++ [no]).length) cw5) rfl (by kernel_rfl) (by kernel_rfl) (kW3.cell (i := 8) rfl) ?_)
            have hS53 : BelowBut (W24.drew) bw (W24.drew) := hS52
            refine ⟨hS53, ?_⟩
            refine h_val 11 3 rfl (.slice pw5 (((way ++ [no]).length) - 1) cw5) rfl (by kernel_rfl) (by kernel_rfl) (by kernel_rfl) (fun _ _ _ _ _ h => h) (by kernel_rfl) (fun V hV => run_sliceH (k := (((way ++ [no]).length) - 1)) (b := pw5) (n := (way ++ [no]).length) (c := cw5) (i := (↑(((way ++ [no]).length) - 1) : Int)) (ki := .i64) rfl (by kernel_rfl) (by kernel_rfl) rfl (by omega) Try.underlying27 (by kernel_rfl) V) hS53 ?_
            refine h_pv [12, 13] 1 rfl #[true, true, true, true, true, true, true, true, true, true, true, true, true, true, false] [(104, .pointer (some ⟨bw, 0, none⟩)), (105, .pointer (some ⟨bw, 8, none⟩))] (by kernel_rfl) (fun _ _ _ _ _ h => h) (by kernel_rfl) hS53 ?_
            refine h_one 14 0 rfl (by kernel_rfl) rfl (by kernel_rfl) (op_store (v := .slice pw5 (((way ++ [no]).length) - 1) cw5) (b := bw) (off := 8) rfl (by kernel_rfl) (by kernel_rfl) (by kernel_rfl) rfl kW3 (by first | decide | simp) ?_)
            intro W54 u54 k54
            change Blk _ _ [.slice pe5 ((loopW (visitF l tree fuel d) l way no hi i { s with looked := s.looked + 1, bs := s.bs ++ [no] }).es.length) ce5, .slice pb5 ((loopW (visitF l tree fuel d) l way no hi i { s with looked := s.looked + 1, bs := s.bs ++ [no] }).bs.length) cb5, .int .i64 (loopW (visitF l tree fuel d) l way no hi i { s with looked := s.looked + 1, bs := s.bs ++ [no] }).deep, .int .i64 ((loopW (visitF l tree fuel d) l way no hi i { s with looked := s.looked + 1, bs := s.bs ++ [no] }).looked : Int), .slice pf5 ((loopW (visitF l tree fuel d) l way no hi i { s with looked := s.looked + 1, bs := s.bs ++ [no] }).fs.length) cf5, .pointer (some ⟨b, 0, none⟩), .int .i64 tree, .int .i64 fuel, .slice pw5 (((way ++ [no]).length) - 1) cw5, .bool ((loopW (visitF l tree fuel d) l way no hi i { s with looked := s.looked + 1, bs := s.bs ++ [no] }).dry)] _ at k54
            replace hO := hO.trans (Only.of_upd u54 kW3 (by decide))
            replace hB := u54.below hB hBb
            replace k24_b1 := u54.blk k24_b1 (Ne.symm d1_bw)
            replace k24_b13 := u54.blk k24_b13 (Ne.symm d13_bw)
            replace hv_ := u54.own2 hv_ kW3 (by decide)
            replace hSp := u54.own2 hSp kW3 (by decide)
            replace hEn := u54.own2 hEn kW3 (by decide)
            replace hBl := u54.own2 hBl kW3 (by decide)
            replace hFl := u54.own2 hFl kW3 (by decide)
            replace hWy := u54.own2 hWy kW3 (by decide)
            replace hFv := hFv.only (Only.of_upd (T := [53]) u54 kW3 (by decide)) (by decide)
            replace hI := hI.only (Only.of_upd (T := [53]) u54 kW3 (by decide)) (by decide)
            have hS55 : BelowBut (W24.drew) bw (W54) := hS53.upd u54
            refine ⟨hS55, ?_⟩
            refine h_done _ (by kernel_rfl) ?_
            refine g_end (.tuple #[]) (by kernel_rfl) (by kernel_rfl) ?_
            rw [hch, hend]
            rw [show (way ++ [no]).length - 1 = way.length by simp] at k54
            exact ⟨_, pe5, pb5, pf5, pw5, ce5, cb5, cf5, cw5, fv5, rfl, hB, hO, k54, hEn, hBl, hFl, hFv, way_cut hWy, hAp.len _ _ _ _, hI⟩
end Go.Proofs.Ytoiblgeheblddaa

