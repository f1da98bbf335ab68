/- (*walker).visit, given what a visit one deeper does. The plain law of a scan: what visitF finds, in plain Lean. walk.Scan. A node's bytes, part by part: a plain law. What was sealed opens: a plain law on lists of bytes. What was put as a node is read as that node: a plain law on lists of bytes. value.Root of a block number: its four bytes. What build.level lays and hands up: plain definitions and lemmas. A scan of a packed tree: a plain law. A scan of a packed tree finds its entries: a plain law. walk.Whole of a tree without faults. build.level at entries that are right, in an allocator with room. build.Tree at entries that are right: with room, and without. law17.made: an allocator of a new image. The example of law 17. A store into a field of a row of structs. The statement BuildBack, walked. How a slice of bytes that came in reads: as a list of bytes. -/
import Derived.Test.YtolblnjohaooaaaGreatMg3
namespace Go.Proofs.YtolblnjohaooaaaGreat
open Go.RowKit Go.Extern.Stop Go.Stop Go.Extern
set_option linter.unusedVariables false
attribute [local irreducible] wpList wpAnyH Code.wp Oper.wp Go

theorem LookP.or {B bw : Nat} {cs : List Value} {l : List UInt8} {way : List Int} {no tree lo hi deep : Int} {w : World} {e : Ending} {w' : World} (h : LookP B bw cs l way no tree lo hi deep w e w') :
    (lookE l way no tree lo hi deep ≠ 0 ∧ ∃ a4 b4 k4 n4 c4 v4 m4 d4 ty x, e = .returned (.tuple #[.agg #[.int .i64 a4, .bool b4, .slice k4 n4 c4, .slice v4 m4 d4], .iface ty x]) ∧ Below B w w' ∧ Only [74] w w' ∧ Blk w' bw cs 74 ∧ ErrV w' [some no] (some (lookE l way no tree lo hi deep)) (.iface ty x)) ∨
    (lookE l way no tree lo hi deep = 0 ∧ ∃ kp kc vp vc, e = .returned (.tuple #[.agg #[.int .i64 (nodT (inB l no)), .bool (nodL (inB l no)), .slice kp (nodC (inB l no)) kc, .slice vp (nodC (inB l no)) vc], .nilIface]) ∧ Below B w w' ∧ Only [74] w w' ∧ Blk w' bw cs 74 ∧
      w'.ownsRow w.heap.size 3 1 (.slice kp (nodC (inB l no)) kc) (nodC (inB l no)) ((nodK l no).map (Value.int .i64)) ∧ w'.ownsRow w.heap.size 9 1 (.slice vp (nodC (inB l no)) vc) (nodC (inB l no)) ((nodV l no).map sv)) := by
  obtain ⟨h1, h2, h3, ⟨h4, a4, b4, k4, n4, c4, v4, m4, d4, ty, x, h5, h6⟩ | ⟨h4, _, kp, kc, vp, vc, h5, h6, h7⟩⟩ := h
  · exact .inl ⟨h4, a4, b4, k4, n4, c4, v4, m4, d4, ty, x, h5, h1, h2, h3, h6⟩
  · exact .inr ⟨h4, kp, kc, vp, vc, h5, h1, h2, h3, h6, h7⟩
theorem widG_24 (t : Int) (b : Bool) : widG t b ≤ 24 := by
  unfold widG widN
  repeat' split
  all_goals omega
theorem valsL_short (l : List UInt8) (n i : Nat) : ((valsL l n).getD i []).length ≤ 1000 := by
  by_cases h : i < n
  · rw [valsL_get l h]
    unfold valN
    rw [List.length_take]
    have := widG_24 (nodT l) (nodL l)
    unfold nodW
    omega
  · simp [List.getD, List.getElem?_eq_none (show (valsL l n).length ≤ i by rw [valsL_len]; omega)]
theorem ownBlock_len (p : Option Addr) (n c n2 c2 : Nat) : (Value.slice p n c).ownBlock = (Value.slice p n2 c2).ownBlock := by
  cases p <;> rfl
theorem Apart.len {p q : Option Addr} {n c m d : Nat} (h : Apart (.slice p n c) (.slice q m d)) (n2 c2 m2 d2 : Nat) : Apart (.slice p n2 c2) (.slice q m2 d2) := fun j h1 h2 =>
  h j ((ownBlock_len _ _ _ _ _).trans h1) ((ownBlock_len _ _ _ _ _).trans h2)
def prC (p : Int × Int) : List Value := [.int .i64 p.1, .int .i64 p.2]
theorem prC_len (p : Int × Int) : (prC p).length = 2 := rfl
theorem flat2_prC (l : List (Int × Int)) : flat2 l = l.flatMap prC := by
  induction l with
  | nil => rfl
  | cons x l ih => simp only [flat2, List.flatMap_cons, prC]; rfl
theorem look_fits {l : List UInt8} {way : List Int} {no tree lo hi deep : Int} (h : lookE l way no tree lo hi deep = 0) : fitsI lo hi (nodK l no) = 0 ∧ way.length < 16 := by
  unfold lookE at h
  by_cases h1 : hasI way no = true
  · rw [if_pos h1] at h; cases h
  rw [if_neg h1] at h
  by_cases h2 : 16 ≤ way.length
  · rw [if_pos h2] at h; cases h
  rw [if_neg h2] at h
  by_cases h3 : nodeErr l no tree ≠ 0
  · rw [if_pos h3] at h; exact absurd h h3
  rw [if_neg h3] at h
  by_cases h4 : fitsI lo hi (keysI (inB l no) (nodC (inB l no))) ≠ 0
  · rw [if_pos h4] at h; cases h
  exact ⟨Decidable.not_not.1 h4, by omega⟩
theorem splitL_get (hi : Int) (l : List Int) {i : Nat} (h : i < l.length) : (splitL hi l).getD i (0, 0) = partAt hi l i := by simp [splitL, h]
theorem sts_sp {w : World} {p : Option Addr} {n c : Nat} {L : List (Int × Int)} (h : Sl w (.slice p n c) n (flat2 L)) (hL : L.length = n) : Sts prC w (.slice p L.length c) L := by
  subst hL; rw [flat2_prC] at h; exact h
theorem splitL_len (hi : Int) (l : List Int) : (splitL hi l).length = l.length := by simp [splitL]
theorem only_le {w w' : World} (h : Only [74, 26] w w') : Only [74, 26, 3, 30] w w' := h.mono fun t ht => by
  simp only [List.contains_cons, List.contains_nil, Bool.or_eq_false_iff] at ht ⊢
  exact ⟨ht.1, ht.2.1, trivial⟩
theorem only_w {w w' : World} (h : Only [74] w w') : Only [74, 26, 3, 30] w w' := h.mono fun t ht => by
  simp only [List.contains_cons, List.contains_nil, Bool.or_eq_false_iff] at ht ⊢
  exact ⟨ht.1, trivial⟩
set_option maxRecDepth 100000 in
set_option maxHeartbeats 4000000 in
theorem walker_visit (B bw Bi b : Nat) (pi : Option Addr) (ni ci : Nat) (l : List UInt8) (tree fuel : Int) (d : Nat) (hV : d ≠ 0 → VisitC B bw Bi b pi ni ci l tree fuel d) (way : List Int) (no lo hi : Int) (s : WS) (pe pb pf pw : Option Addr) (ce cb cf cw : Nat) (fv : List Value) (w : World) (hBb : B ≤ bw) (hBw : B ≤ w.heap.size) (hwd : way.length + (d + 1) = 17) (hdry : s.dry = false) (hfu : fuel ≤ 1000000) (hR : WalkR B bw Bi b pi ni ci l tree fuel way s pe pb pf pw ce cb cf cw fv w) (he : (visitF l tree fuel (d + 1) way no lo hi s).es.length ≤ 1000000) (hb_ : (visitF l tree fuel (d + 1) way no lo hi s).bs.length ≤ 1000000) (hf : (visitF l tree fuel (d + 1) way no lo hi s).fs.length ≤ 1000000) :
    Calls Tryz.prog 32 #[.pointer (some ⟨bw, 0, none⟩), .int .i64 no, .agg #[.int .i64 lo, .int .i64 hi]] w (VisitP B bw Bi b pi ni ci l tree fuel way (visitF l tree fuel (d + 1) way no lo hi s) w) := by
 obtain ⟨kW, hEn, hBl, hFl, hFv, hWy, hAp, hI⟩ := hR
 have hBl0 := hBl
 have hWy0 := hWy
 have hgr := visitF_grow l tree fuel (d + 1) way no lo hi s
 have hbs := Nat.le_trans hgr.2.1 hb_
 refine zin 106 Tryz.func32 ?_
 refine xa 2 [.int .i64 lo, .int .i64 hi] 77 fun b1 W1 n1 => ?_
 refine xd 4 .z ?_
 have kW'1 := (kW.below n1.below).below (below_drew W1)
 refine xb (.e [0, 1, 2, 3] 4) 3 kW'1 ?_
 refine xb (.e [5, 6, 7] 8) 7 kW'1 ?_
 refine xid (.r [9] 2) ((↑s.looked : Int) ≥ fuel) (fun hc2 => ?_) (fun hc2 => ?_)
 · refine xc 5 (args := #[.int .i64 no, .iface 49 (.int .i64 12)]) (fault_At no (some 12) [] _ _ rfl) ?_
   rintro _ W3 ⟨r3, rfl, hb3, hv3⟩
   rw [atL_some] at hv3
   obtain ⟨t3, x3, rfl⟩ := hv3.iface
   have hch : (visitF l tree fuel (d + 1) way no lo hi s) = { noteW way [no] 12 s with dry := true } := by unfold visitF; rw [if_pos (by omega)]
   have hB := Bl.nextB (Bl.nextB (Bl.nextB (Below.refl B w) hBw n1.below) hBw (below_drew W1)) hBw hb3
   have kW'2 := kW'1.below hb3
   have hFl'1 := own_below (own_below (own_below hFl n1.below) (below_drew W1)) hb3
   have hWy'1 := own_below (own_below (own_below hWy n1.below) (below_drew W1)) hb3
   refine xc 0 (args := #[.pointer (some ⟨bw, 0, none⟩), .iface t3 (x3)]) (walker_note B bw _ _ _ _ _ _ _ _ pf _ cf fv pw cw way [no] 12 _ _ _ hBb (Nat.le_trans hBw hB.size) kW'2 hFl'1 hWy'1 hv3 (by omega) (by have := hf; rw [hch] at this; simp [noteW] at this; omega)) ?_
   rintro _ W4 ⟨u4, pf2, cf2, t2, x2, rfl, hb4, hO4, kN, hFl2, hv2⟩
   refine xs 7 kN [.slice pe s.es.length ce, .slice pb s.bs.length cb, .int .i64 s.deep, .int .i64 (↑s.looked : Int), .slice pf2 (s.fs.length + 1) cf2, .pointer (some ⟨b, 0, none⟩), .int .i64 tree, .int .i64 fuel, .slice pw way.length cw, .bool true] fun W5 u5 k5 => ?_
   have hB'1 := u5.below (hB.trans hb4) hBb
   have hO := ((((show Only [74, 26, 3, 30] w _ from (Only.of_below n1.below)).trans (Only.of_below (below_drew W1))).trans (Only.of_below hb3)).trans (only_we hO4)).trans (Only.of_upd u5 kN (by decide))
   have hEn'1 := u5.own2 (own_only (own_below (own_below (own_below hEn n1.below) (below_drew W1)) hb3) hO4 (by decide)) kN (by decide)
   have hBl'1 := u5.own2 (own_only (own_below (own_below (own_below hBl n1.below) (below_drew W1)) hb3) hO4 (by decide)) kN (by decide)
   have hFl2'1 := u5.own2 hFl2 kN (by decide)
   have hv2'1 := hv2.upd u5 kN (by decide)
   have hFv'1 := ((((hFv.below n1.below).below (below_drew W1)).below hb3).only hO4 (by decide)).only (Only.of_upd (T := [74]) u5 kN (by decide)) (by decide)
   have hWy'2 := u5.own2 (own_only hWy'1 hO4 (by decide)) kN (by decide)
   have hI'1 := ((((hI.below n1.below).below (below_drew W1)).below hb3).only hO4 (by decide)).only (Only.of_upd (T := [74]) u5 kN (by decide)) (by decide)
   refine xe 4 (.tuple #[]) ?_
   rw [hch]
   exact ⟨_, pe, pb, pf2, pw, ce, cb, cf2, cw, _, rfl, hB'1, hO, by simpa [noteW] using k5, hEn'1, hBl'1, by simpa [noteW] using hFl2'1, FltsW.snoc hv2'1 hFv'1, hWy'2, hAp, hI'1⟩
 have k1 := n1.blk.below (below_drew W1)
 refine xlv 6 k1.rp ?_
 have hB := Bl.nextB (Bl.nextB (Below.refl B w) hBw n1.below) hBw (below_drew W1)
 have hWy'3 := own_below (own_below hWy n1.below) (below_drew W1)
 have hI'2 := (hI.below n1.below).below (below_drew W1)
 refine xc 0 (args := #[.pointer (some ⟨bw, 0, none⟩), .int .i64 no, .agg #[.int .i64 lo, .int .i64 hi]]) ((walker_look B Bi b bw pi ni ci l _ _ _ _ _ pw cw way no tree lo hi s.deep (s.looked : Int) _ hBb (Nat.le_trans hBw hB.size) kW'1 hWy'3 hI'2 (by omega) (by omega) (by omega)).mono (fun _ _ h => LookP.or h)) ?_
 rintro e W6 hq6
 rcases hq6 with ⟨hz, a4, b4, k4, n4, c4, v4, m4, d4, ty, x, rfl, hb6, hO6, kL6, hv6⟩ | ⟨hz, kp, kc, vp, vc, rfl, hb6, hO6, kL6, hk, hv_⟩
 · refine xa 3 [.int .i64 0, .bool false, .slice none 0 0, .slice none 0 0] 67 fun b7 W7 n7 => ?_
   have hB'2 := hB.trans hb6
   have g7 := n7.ge0 hB'2
   refine xsv 0 n7.blk [.int .i64 a4, .bool b4, .slice k4 n4 c4, .slice v4 m4 d4] fun W8 u8 k8 => ?_
   have hch : (visitF l tree fuel (d + 1) way no lo hi s) = noteW way [no] (lookE l way no tree lo hi s.deep) { s with looked := s.looked + 1 } := by unfold visitF; rw [if_neg (by omega), if_pos hz]
   have hB'3 := u8.below (Bl.nextB hB'2 hBw n7.below) (Nat.le_trans hBw g7)
   have kL6'1 := u8.blkT (kL6.below n7.below) n7.blk (by decide)
   have hFl'2 := u8.own2 (own_below (own_only (own_below (own_below hFl n1.below) (below_drew W1)) hO6 (by decide)) n7.below) n7.blk (by decide)
   have hWy'4 := u8.own2 (own_below (own_only hWy'3 hO6 (by decide)) n7.below) n7.blk (by decide)
   have hv6'1 := (hv6.below n7.below).upd u8 n7.blk (by decide)
   refine xc 15 (args := #[.pointer (some ⟨bw, 0, none⟩), .iface ty (x)]) (walker_note B bw _ _ _ _ _ _ _ _ pf _ cf fv pw cw way [no] (lookE l way no tree lo hi s.deep) _ _ _ hBb (Nat.le_trans hBw hB'3.size) kL6'1 hFl'2 hWy'4 hv6'1 (by omega) (by have := hf; rw [hch] at this; simp [noteW] at this; omega)) ?_
   rintro _ W9 ⟨u9, pf2, cf2, t2, x2, rfl, hb9, hO9, kN, hFl2, hv2⟩
   have hB'4 := hB'3.trans hb9
   have hO := (Only.upd_new ((((show Only [74, 26, 3, 30] w _ from (Only.of_below n1.below)).trans (Only.of_below (below_drew W1))).trans (only_w hO6)).trans (Only.of_below n7.below)) u8 g7).trans (only_we hO9)
   have hEn'2 := own_only (u8.own2 (own_below (own_only (own_below (own_below hEn n1.below) (below_drew W1)) hO6 (by decide)) n7.below) n7.blk (by decide)) hO9 (by decide)
   have hBl'2 := own_only (u8.own2 (own_below (own_only (own_below (own_below hBl n1.below) (below_drew W1)) hO6 (by decide)) n7.below) n7.blk (by decide)) hO9 (by decide)
   have hFv'2 := (((((hFv.below n1.below).below (below_drew W1)).only hO6 (by decide)).below n7.below).only (Only.of_upd (T := [67]) u8 n7.blk (by decide)) (by decide)).only hO9 (by decide)
   have hWy'5 := own_only hWy'4 hO9 (by decide)
   have hI'3 := (((hI'2.only hO6 (by decide)).below n7.below).only (Only.of_upd (T := [67]) u8 n7.blk (by decide)) (by decide)).only hO9 (by decide)
   refine xe 4 (.tuple #[]) ?_
   rw [hch]
   exact ⟨_, pe, pb, pf2, pw, ce, cb, cf2, cw, _, rfl, hB'4, hO, by simpa [noteW] using kN, hEn'2, hBl'2, by simpa [noteW] using hFl2, FltsW.snoc hv2 hFv'2, hWy'5, hAp, hI'3⟩
 have hs6 := (Bl.nextB (Bl.nextB (Below.refl B w) hBw n1.below) hBw (below_drew W1)).size
 have hk'1 := own_mono hk hs6
 have hApk := Apart.of_lt hBl0 hk'1 (Nat.le_refl _)
 have hApw := Apart.of_lt hWy0 hk'1 (Nat.le_refl _)
 refine xa 3 [.int .i64 0, .bool false, .slice none 0 0, .slice none 0 0] 67 fun b10 W10 n10 => ?_
 have hB'5 := hB.trans hb6
 have g10 := n10.ge0 hB'5
 refine xsv 0 n10.blk [.int .i64 (nodT (inB l no)), .bool (nodL (inB l no)), .slice kp (nodC (inB l no)) kc, .slice vp (nodC (inB l no)) vc] fun W11 u11 k11 => ?_
 have kL6'2 := u11.blkT (kL6.below n10.below) n10.blk (by decide)
 refine xb 20 1 kL6'2 ?_
 refine xbs 1 1 [.int .i64 no] 3 fun b12 W12 n12 => ?_
 have hB'6 := u11.below (Bl.nextB hB'5 hBw n10.below) (Nat.le_trans hBw g10)
 have g12 := n12.ge0 hB'6
 have hBl'3 := u11.own2 (own_below (own_only (own_below (own_below hBl n1.below) (below_drew W1)) hO6 (by decide)) n10.below) n10.blk (by decide)
 have r12_hBl := own_ne hBl'3 n12
 have hWy'6 := u11.own2 (own_below (own_only hWy'3 hO6 (by decide)) n10.below) n10.blk (by decide)
 have r12_hWy := own_ne hWy'6 n12
 have hk'2 := u11.own2 (own_below hk'1 n10.below) n10.blk (by decide)
 have r12_hk := own_ne hk'2 n12
 have hBl'4 := own_below hBl'3 n12.below
 have hB'7 := Bl.nextB hB'6 hBw n12.below
 refine xbi 0 fun _ _ _ _ zJ zQ zo zx zy zK => op_app_at (b := b12) (c := 1) (m := 1) (news := [.int .i64 no]) (.int .i64 0) 1 8 ((s.bs ++ [no]).length) (((s.bs ++ [no]).map (Value.int .i64))) zo Tryz.underlying33 (by kernel_rfl) rfl (by decide) zx hBl'4 zy n12.blk rfl (by simp [Value.oneCell']) (by unfold maxLen; omega) (by omega) (Nat.le_trans hBw hB'7.size) (by simp) (by simp) fun px13 cx13 W13 o13 hg13 hb13 ha13 => ?_
 have hWy'7 := own_below hWy'6 n12.below
 have q13_hWy := hAp.row hWy'7 hg13
 replace hAp := (hAp.grow hWy'7 ha13)
 have hk'3 := own_below hk'2 n12.below
 have q13_hk := hApk.row hk'3 hg13
 replace hApk := (hApk.grow hk'3 ha13)
 have hWyq13 := q13_hWy
 have hkq13 := q13_hk
 refine zK _ _ ?_
 have kL6'3 := (kL6'2.below n12.below).grown hg13 hBl'4 (by decide)
 refine xs 3 kL6'3 [.slice pe s.es.length ce, .slice px13 ((s.bs ++ [no]).length) cx13, .int .i64 s.deep, .int .i64 ((s.looked : Int) + 1), .slice pf s.fs.length cf, .pointer (some ⟨b, 0, none⟩), .int .i64 tree, .int .i64 fuel, .slice pw way.length cw, .bool s.dry] fun W14 u14 k14 => ?_
 have k11'1 := u14.blkT ((k11.below n12.below).grown hg13 hBl'4 (by decide)) kL6'3 (by decide)
 refine xb 6 1 k11'1 ?_
 refine xi 2 (nodL (inB l no)) (fun hc15 => ?_) (fun hc15 => ?_)
 · refine xlv 4 k11'1.rp ?_
   have hch : (visitF l tree fuel (d + 1) way no lo hi s) = { s with looked := s.looked + 1, bs := s.bs ++ [no], deep := ((way.length + 1 : Nat) : Int), es := s.es ++ leafL (nodK l no) (nodV l no) no (nodC (inB l no)) } := by unfold visitF; rw [if_neg (by omega), if_neg (by omega), if_pos (by assumption)]
   have hB'8 := u14.below (hB'7.trans hb13) hBb
   have hEn'3 := u14.own2 (own_grown (own_below (u11.own2 (own_below (own_only (own_below (own_below hEn n1.below) (below_drew W1)) hO6 (by decide)) n10.below) n10.blk (by decide)) n12.below) hg13 hBl'4 (by decide)) kL6'3 (by decide)
   have hk'4 := u14.own2 hkq13 kL6'3 (by decide)
   have hv_'1 := u14.own2 (own_grown (own_below (u11.own2 (own_below (own_mono hv_ hs6) n10.below) n10.blk (by decide)) n12.below) hg13 hBl'4 (by decide)) kL6'3 (by decide)
   refine xc 0 (args := #[.pointer (some ⟨bw, 0, none⟩), .int .i64 no, .agg #[.int .i64 (nodT (inB l no)), .bool (nodL (inB l no)), .slice kp (nodC (inB l no)) kc, .slice vp (nodC (inB l no)) vc]]) (walker_leaf B bw _ _ _ _ _ _ _ _ pe ce s.es pw cw way no _ _ kp vp _ kc vc (nodK l no) (nodV l no) _ hBb (Nat.le_trans hBw hB'8.size) k14 hEn'3 (fun W _ q => own_sl (own_only hk'4 q (by decide))) (fun W _ q => own_sl (own_only hv_'1 q (by decide))) (by simp [nodK, keysI]) (by simp [nodV, valsL]) (by omega) (by have := he; rw [hch] at this; simp [leafL_len] at this; omega)) ?_
   rintro _ W16 ⟨u16, pe2, ce2, rfl, hb16, hO16, kE, hE2⟩
   have hB'9 := hB'8.trans hb16
   have hO := ((((Only.upd_new ((((show Only [74, 26, 3, 30] w _ from (Only.of_below n1.below)).trans (Only.of_below (below_drew W1))).trans (only_w hO6)).trans (Only.of_below n10.below)) u11 g10).trans (Only.of_below n12.below)).trans (Only.of_grown hg13 hBl'4 (by decide))).trans (Only.of_upd u14 kL6'3 (by decide))).trans (only_le hO16)
   have o13'1 := own_only (u14.own2 o13 kL6'3 (by decide)) hO16 (by decide)
   have hFl'3 := own_only (u14.own2 (own_grown (own_below (u11.own2 (own_below (own_only (own_below (own_below hFl n1.below) (below_drew W1)) hO6 (by decide)) n10.below) n10.blk (by decide)) n12.below) hg13 hBl'4 (by decide)) kL6'3 (by decide)) hO16 (by decide)
   have hFv'3 := ((((((((hFv.below n1.below).below (below_drew W1)).only hO6 (by decide)).below n10.below).only (Only.of_upd (T := [67]) u11 n10.blk (by decide)) (by decide)).below n12.below).only (Only.of_grown (T := [3]) hg13 hBl'4 (by decide)) (by decide)).only (Only.of_upd (T := [74]) u14 kL6'3 (by decide)) (by decide)).only hO16 (by decide)
   have hWy'8 := own_only (u14.own2 hWyq13 kL6'3 (by decide)) hO16 (by decide)
   have hI'4 := ((((((hI'2.only hO6 (by decide)).below n10.below).only (Only.of_upd (T := [67]) u11 n10.blk (by decide)) (by decide)).below n12.below).only (Only.of_grown (T := [3]) hg13 hBl'4 (by decide)) (by decide)).only (Only.of_upd (T := [74]) u14 kL6'3 (by decide)) (by decide)).only hO16 (by decide)
   refine xe 4 (.tuple #[]) ?_
   rw [hch]
   exact ⟨_, pe2, _, pf, pw, ce2, _, cf, cw, fv, rfl, hB'9, hO, by simpa [leafL_len] using kE, by simpa [leafL_len] using hE2, by simpa using o13'1, hFl'3, hFv'3, hWy'8, by simpa using hAp, hI'4⟩
 refine xb 8 8 k14 ?_
 refine xbs 1 1 [.int .i64 no] 3 fun b17 W17 n17 => ?_
 have hB'10 := u14.below (hB'7.trans hb13) hBb
 have g17 := n17.ge0 hB'10
 have hWy'9 := u14.own2 hWyq13 kL6'3 (by decide)
 have r17_hWy := own_ne hWy'9 n17
 have hk'5 := u14.own2 hkq13 kL6'3 (by decide)
 have r17_hk := own_ne hk'5 n17
 have o13'2 := u14.own2 o13 kL6'3 (by decide)
 have r17_o13 := own_ne o13'2 n17
 have hWy'10 := own_below hWy'9 n17.below
 have hB'11 := Bl.nextB hB'10 hBw n17.below
 refine xbi 0 fun _ _ _ _ zJ zQ zo zx zy zK => op_app_at (b := b17) (c := 1) (m := 1) (news := [.int .i64 no]) (.int .i64 0) 1 8 ((way ++ [no]).length) (((way ++ [no]).map (Value.int .i64))) zo Tryz.underlying33 (by kernel_rfl) rfl (by decide) zx hWy'10 zy n17.blk rfl (by simp [Value.oneCell']) (by unfold maxLen; omega) (by omega) (Nat.le_trans hBw hB'11.size) (by simp) (by simp) fun px18 cx18 W18 o18 hg18 hb18 ha18 => ?_
 have o13'3 := own_below o13'2 n17.below
 have q18_o13 := hAp.symm.row o13'3 hg18
 replace hAp := (hAp.symm.grow o13'3 ha18).symm
 have hk'6 := own_below hk'5 n17.below
 have q18_hk := hApw.row hk'6 hg18
 replace hApw := (hApw.grow hk'6 ha18)
 have o13q18 := q18_o13
 have hkq18 := q18_hk
 refine zK _ _ ?_
 have k14'1 := (k14.below n17.below).grown hg18 hWy'10 (by decide)
 refine xs 2 k14'1 [.slice pe s.es.length ce, .slice px13 ((s.bs ++ [no]).length) cx13, .int .i64 s.deep, .int .i64 ((s.looked : Int) + 1), .slice pf s.fs.length cf, .pointer (some ⟨b, 0, none⟩), .int .i64 tree, .int .i64 fuel, .slice px18 ((way ++ [no]).length) cx18, .bool s.dry] fun W19 u19 k19 => ?_
 have k1'1 := u19.blkT (((u14.blkT (((u11.blkT ((k1.only hO6 (by decide)).below n10.below) n10.blk (by decide)).below n12.below).grown hg13 hBl'4 (by decide)) kL6'3 (by decide)).below n17.below).grown hg18 hWy'10 (by decide)) k14'1 (by decide)
 refine xlv 5 k1'1.rp ?_
 have k11'2 := u19.blkT ((k11'1.below n17.below).grown hg18 hWy'10 (by decide)) k14'1 (by decide)
 refine xb 1 2 k11'2 ?_
 have hB'12 := u19.below (hB'11.trans hb18) hBb
 have hsp0 := hB'12.size
 obtain ⟨hfit, hw16⟩ := look_fits hz
 have hkl : (nodK l no).length = nodC (inB l no) := by simp [nodK, keysI]
 have hnc : nodC (inB l no) < 65536 := rawN_lt _ 2 2
 have hk'7 := u19.own2 hkq18 k14'1 (by decide)
 refine xc 0 (args := #[.agg #[.int .i64 lo, .int .i64 hi], .slice kp (nodC (inB l no)) kc]) (span_split2 lo hi _ (nodK l no) _ (by rw [hkl]; omega) (intsN_of (own_sl hk'7) hkl)) ?_
 rintro _ W20 ⟨r20, rfl, hb20, _, hg20⟩
 obtain ⟨gs, rfl, hgs, kS⟩ := hg20 hfit
 rw [hkl]
 have hSp := own_of_blk (size := 2) (n := nodC (inB l no)) kS (Nat.le_trans hsp0 hgs) (by rw [flat2_length, splitL_len, hkl]) (by unfold maxLen; omega)
 have hch : (visitF l tree fuel (d + 1) way no lo hi s) = (loopW (visitF l tree fuel d) l way no hi (nodC (inB l no)) { s with looked := s.looked + 1, bs := s.bs ++ [no] }) := by unfold visitF; rw [if_neg (by omega), if_neg (by omega), if_neg (by simp; assumption)]
 have hspl : (splitL hi (nodK l no)).length = (nodC (inB l no)) := by rw [splitL_len, hkl]
 have hvl : (nodV l no).length = (nodC (inB l no)) := by simp [nodV, valsL]
 have k19'1 := k19.below hb20
 have hEn'4 := own_below (u19.own2 (own_grown (own_below (u14.own2 (own_grown (own_below (u11.own2 (own_below (own_only (own_below (own_below hEn n1.below) (below_drew W1)) hO6 (by decide)) n10.below) n10.blk (by decide)) n12.below) hg13 hBl'4 (by decide)) kL6'3 (by decide)) n17.below) hg18 hWy'10 (by decide)) k14'1 (by decide)) hb20
 have o13'4 := own_below (u19.own2 o13q18 k14'1 (by decide)) hb20
 have hFl'4 := own_below (u19.own2 (own_grown (own_below (u14.own2 (own_grown (own_below (u11.own2 (own_below (own_only (own_below (own_below hFl n1.below) (below_drew W1)) hO6 (by decide)) n10.below) n10.blk (by decide)) n12.below) hg13 hBl'4 (by decide)) kL6'3 (by decide)) n17.below) hg18 hWy'10 (by decide)) k14'1 (by decide)) hb20
 have hFv'4 := (((((((((((hFv.below n1.below).below (below_drew W1)).only hO6 (by decide)).below n10.below).only (Only.of_upd (T := [67]) u11 n10.blk (by decide)) (by decide)).below n12.below).only (Only.of_grown (T := [3]) hg13 hBl'4 (by decide)) (by decide)).only (Only.of_upd (T := [74]) u14 kL6'3 (by decide)) (by decide)).below n17.below).only (Only.of_grown (T := [3]) hg18 hWy'10 (by decide)) (by decide)).only (Only.of_upd (T := [74]) u19 k14'1 (by decide)) (by decide)).below hb20
 have o18'1 := own_below (u19.own2 o18 k14'1 (by decide)) hb20
 have hI'5 := (((((((((hI'2.only hO6 (by decide)).below n10.below).only (Only.of_upd (T := [67]) u11 n10.blk (by decide)) (by decide)).below n12.below).only (Only.of_grown (T := [3]) hg13 hBl'4 (by decide)) (by decide)).only (Only.of_upd (T := [74]) u14 kL6'3 (by decide)) (by decide)).below n17.below).only (Only.of_grown (T := [3]) hg18 hWy'10 (by decide)) (by decide)).only (Only.of_upd (T := [74]) u19 k14'1 (by decide)) (by decide)).below hb20
 have hR : WalkR B bw Bi b pi ni ci l tree fuel (way ++ [no]) (loopW (visitF l tree fuel d) l way no hi 0 { s with looked := s.looked + 1, bs := s.bs ++ [no] }) pe _ pf _ ce _ cf _ fv W20 := ⟨k19'1, hEn'4, o13'4, hFl'4, hFv'4, o18'1, hAp, hI'5⟩
 have hv_'2 := own_below (u19.own2 (own_grown (own_below (u14.own2 (own_grown (own_below (u11.own2 (own_below (own_mono hv_ hs6) n10.below) n10.blk (by decide)) n12.below) hg13 hBl'4 (by decide)) kL6'3 (by decide)) n17.below) hg18 hWy'10 (by decide)) k14'1 (by decide)) hb20
 have hB'13 := Bl.nextB hB'12 hBw hb20
 have hO := (((((((Only.upd_new ((((show Only [74, 26, 3, 30] w _ from (Only.of_below n1.below)).trans (Only.of_below (below_drew W1))).trans (only_w hO6)).trans (Only.of_below n10.below)) u11 g10).trans (Only.of_below n12.below)).trans (Only.of_grown hg13 hBl'4 (by decide))).trans (Only.of_upd u14 kL6'3 (by decide))).trans (Only.of_below n17.below)).trans (Only.of_grown hg18 hWy'10 (by decide))).trans (Only.of_upd u19 k14'1 (by decide))).trans (Only.of_below hb20)
 have k1'2 := k1'1.below hb20
 have k11'3 := k11'2.below hb20
 refine zl 5 106 (fun zm zkv V => ∃ (i : Nat) (pe5 pb5 pf5 pw5 : Option Addr) (ce5 cb5 cf5 cw5 : Nat) (fv5 : List Value), zkv = [(0, .pointer (some ⟨bw, 0, none⟩)), (1, .int .i64 no), (6, .pointer (some ⟨b10, 0, none⟩)), (71, .slice (some ⟨gs, 0, none⟩) (nodC (inB l no)) (nodC (inB l no))), (72, .int .i64 (↑(nodC (inB l no)) : Int)), (73, .int .i64 (↑i : Int))] ∧ zm = (nodC (inB l no)) - ((↑i : Int)).toNat ∧ Below B w V ∧ Only [74, 26, 3, 30] w V ∧ Blk V b1 ([.int .i64 lo, .int .i64 hi]) 77 ∧ Blk V b10 ([.int .i64 (nodT (inB l no)), .bool (nodL (inB l no)), .slice kp (nodC (inB l no)) kc, .slice vp (nodC (inB l no)) vc]) 67 ∧ WalkR B bw Bi b pi ni ci l tree fuel (way ++ [no]) (loopW (visitF l tree fuel d) l way no hi i { s with looked := s.looked + 1, bs := s.bs ++ [no] }) pe5 pb5 pf5 pw5 ce5 cb5 cf5 cw5 fv5 V ∧ V.ownsRow w.heap.size 9 1 (.slice vp (nodC (inB l no)) vc) (nodC (inB l no)) ((nodV l no).map sv) ∧ V.ownsRow w.heap.size 77 2 (.slice (some ⟨gs, 0, none⟩) (nodC (inB l no)) (nodC (inB l no))) (nodC (inB l no)) (flat2 (splitL hi (nodK l no))) ∧ i ≤ (nodC (inB l no)) ∧ (loopW (visitF l tree fuel d) l way no hi i { s with looked := s.looked + 1, bs := s.bs ++ [no] }).dry = false) ⟨0, _, _, _, _, _, _, _, _, _, rfl, rfl, hB'13, hO, k1'2, k11'3, hR, hv_'2, hSp, Nat.zero_le _, hdry⟩ ?_
 rintro _ _ W21 ⟨i, pe5, pb5, pf5, pw5, ce5, cb5, cf5, cw5, fv5, rfl, rfl, hB_21, hO_21, k21_b1, k21_b10, hR, hv_, hSp, hi_, hdr⟩ J21 hJ21 r21
 have kW3 := hR.blk
 refine xid 6 ((↑i : Int) < (↑(nodC (inB l no)) : Int)) (fun hc22 => ?_) (fun hc22 => ?_)
 · refine xx 7 _ (nodC (inB l no)) i 2 (Sts.cell (sts_sp (own_sl hSp) hspl) prC_len (0, 0) (k := i) (i := 0) (show i < (splitL hi (nodK l no)).length by omega) rfl).1 ?_
   refine xlv 0 (Sts.rp (k := i) (sts_sp (own_sl hSp) hspl) prC_len (0, 0) (by omega) (by decide)) ?_
   refine xa 0 [.int .i64 0, .int .i64 0] 77 fun b23 W23 n23 => ?_
   have d23_b1 := n23.ne k21_b1
   have g23 := n23.ge0 hB_21
   have r23_hSp := own_ne hSp n23
   refine xsv 1 n23.blk [.int .i64 (((splitL hi (nodK l no)).getD i (0, 0)).1), .int .i64 (((splitL hi (nodK l no)).getD i (0, 0)).2)] fun W24 u24 k24 => ?_
   refine xd 3 (.t B [74, 26, 3, 30]) ?_
   have k21_b10'1 := (u24.blkT (k21_b10.below n23.below) n23.blk (by decide)).below (below_drew W24)
   refine xbt (.e [0, 1, 2] 3) 3 B [74, 26, 3, 30] k21_b10'1 ?_
   have hv_'3 := own_below (u24.own2 (own_below hv_ n23.below) n23.blk (by decide)) (below_drew W24)
   refine xx (.e [4] 5) _ (nodC (inB l no)) i 1 (Strs.elem (own_sl hv_'3) hvl (k := i) (by omega)).1 ?_
   refine xlt (.e [] 6) (.t B [74, 26, 3, 30]) (fun V hV => (Strs.elem (own_sl (own_only hv_'3 hV.2 (by decide))) hvl (k := i) (by omega)).2) ?_
   have k24'1 := k24.below (below_drew W24)
   refine xlvt (.e [] 7) (.t B [74, 26, 3, 30]) (fun V hV => (k24'1.only hV.2 (by decide)).rp) ?_
   have hxi := splitL_get hi (nodK l no) (i := i) (by omega)
   have hch2 : childW (visitF l tree fuel d) way no ((nodV l no).getD i []) (((splitL hi (nodK l no)).getD i (0, 0)).1, ((splitL hi (nodK l no)).getD i (0, 0)).2) (loopW (visitF l tree fuel d) l way no hi i { s with looked := s.looked + 1, bs := s.bs ++ [no] }) = (loopW (visitF l tree fuel d) l way no hi (i + 1) { s with looked := s.looked + 1, bs := s.bs ++ [no] }) := by rw [loopW_succ]; unfold roundW; rw [if_neg (by rw [hdr]; decide), hxi]
   have hgi := loopW_grow (visitF_grow l tree fuel d) l way no hi { s with looked := s.looked + 1, bs := s.bs ++ [no] } (show i + 1 ≤ (nodC (inB l no)) by omega)
   rw [hch] at he hb_ hf
   have hB'14 := Bl.nextB (u24.below (Bl.nextB hB_21 hBw n23.below) (Nat.le_trans hBw g23)) hBw (below_drew W24)
   have hR'1 := ((hR.below n23.below).only (Only.of_upd (T := [77]) u24 n23.blk (by decide)) (by decide)).below (below_drew W24)
   refine yc (.o [] 8) (args := #[.pointer (some ⟨bw, 0, none⟩), .int .i64 no, .string ⟨((nodV l no).getD i []).toArray⟩, .agg #[.int .i64 (((splitL hi (nodK l no)).getD i (0, 0)).1), .int .i64 (((splitL hi (nodK l no)).getD i (0, 0)).2)]]) (.t B [74, 26, 3, 30]) (walker_child B bw Bi b pi ni ci l tree fuel d (hV (by omega)) way no _ _ ((nodV l no).getD i []) _ pe5 pb5 pf5 pw5 ce5 cb5 cf5 cw5 fv5 _ hBb (Nat.le_trans hBw hB'14.size) (by omega) hdr (valsL_short _ _ _) hR'1 (by rw [hch2]; exact Nat.le_trans hgi.1 he) (by rw [hch2]; exact Nat.le_trans hgi.2.1 hb_) (by rw [hch2]; exact Nat.le_trans hgi.2.2 hf)) ?_
   rintro _ W25 ⟨u25, pe3, pb3, pf3, pw3, ce3, cb3, cf3, cw3, fv3, rfl, hb25, hO25, hR3⟩
   have kW3'1 := (u24.blkT (kW3.below n23.below) n23.blk (by decide)).below (below_drew W24)
   refine ⟨(sft_only hb25 hO25), ?_⟩
   rw [hch2] at hR3
   have kW3 := hR3.blk
   refine xb 7 9 kW3 ?_
   refine xi 2 ((loopW (visitF l tree fuel d) l way no hi (i + 1) { s with looked := s.looked + 1, bs := s.bs ++ [no] }).dry) (fun hc26 => ?_) (fun hc26 => ?_)
   · obtain ⟨_, hEn, hBl, hFl, hFv, hWy, hAp, hI⟩ := hR3
     have hwc := (own_some hWy (by simp)).2
     have hwl : (way ++ [no]).length = way.length + 1 := by simp
     have hend : (loopW (visitF l tree fuel d) l way no hi (nodC (inB l no)) { s with looked := s.looked + 1, bs := s.bs ++ [no] }) = (loopW (visitF l tree fuel d) l way no hi (i + 1) { s with looked := s.looked + 1, bs := s.bs ++ [no] }) := loopW_dry _ _ _ _ _ _ (by omega) hc26
     refine xd 6 (.t B [74]) ?_
     refine xm2 (.b [0, 1, 2, 3, 5, 6, 7]) 4 8 ?_ ?_
     · have kW3'2 := kW3.below (below_drew W25)
       refine xb 0 8 kW3'2 ?_
       refine xb (.o [] 8) 8 kW3'2 ?_
       refine xwm (.e [9] 10) ((↑((way ++ [no]).length) : Int) - 1) (↑(((way ++ [no]).length) - 1) : Int) ?_
       refine xsH (.e [] 11) (fun _ _ _ _ zo zx zy V => run_sliceH (k := (((way ++ [no]).length) - 1)) (b := pw3) (n := (way ++ [no]).length) (c := cw3) (i := (↑(((way ++ [no]).length) - 1) : Int)) (ki := .i64) zo zx zy rfl (by omega) Tryz.underlying33 (by kernel_rfl) V) ?_
       refine ys (.o [12, 13] 14) kW3'2 [.slice pe3 ((loopW (visitF l tree fuel d) l way no hi (i + 1) { s with looked := s.looked + 1, bs := s.bs ++ [no] }).es.length) ce3, .slice pb3 ((loopW (visitF l tree fuel d) l way no hi (i + 1) { s with looked := s.looked + 1, bs := s.bs ++ [no] }).bs.length) cb3, .int .i64 (loopW (visitF l tree fuel d) l way no hi (i + 1) { s with looked := s.looked + 1, bs := s.bs ++ [no] }).deep, .int .i64 ((loopW (visitF l tree fuel d) l way no hi (i + 1) { s with looked := s.looked + 1, bs := s.bs ++ [no] }).looked : Int), .slice pf3 ((loopW (visitF l tree fuel d) l way no hi (i + 1) { s with looked := s.looked + 1, bs := s.bs ++ [no] }).fs.length) cf3, .pointer (some ⟨b, 0, none⟩), .int .i64 tree, .int .i64 fuel, .slice pw3 (((way ++ [no]).length) - 1) cw3, .bool ((loopW (visitF l tree fuel d) l way no hi (i + 1) { s with looked := s.looked + 1, bs := s.bs ++ [no] }).dry)] (.t B [74]) fun W27 u27 k27 => ⟨(sft_upd u27 kW3'2 hBb (by decide)), ?_⟩
       have k21_b1'1 := (((u24.blk (k21_b1.below n23.below) (Ne.symm (Ne.symm d23_b1))).below (below_drew W24)).only hO25 (by decide)).below (below_drew W25)
       have k21_b10'2 := (k21_b10'1.only hO25 (by decide)).below (below_drew W25)
       have hB'15 := u27.below (Bl.nextB (hB'14.trans hb25) hBw (below_drew W25)) hBb
       have hO'1 := ((((Only.upd_new (hO_21.trans (Only.of_below n23.below)) u24 g23).trans (Only.of_below (below_drew W24))).trans hO25).trans (Only.of_below (below_drew W25))).trans (Only.of_upd u27 kW3'2 (by decide))
       have hEn'5 := u27.own2 (own_below hEn (below_drew W25)) kW3'2 (by decide)
       have hBl'5 := u27.own2 (own_below hBl (below_drew W25)) kW3'2 (by decide)
       have hFl'5 := u27.own2 (own_below hFl (below_drew W25)) kW3'2 (by decide)
       have hFv'5 := (hFv.below (below_drew W25)).only (Only.of_upd (T := [74]) u27 kW3'2 (by decide)) (by decide)
       have hWy'11 := u27.own2 (own_below hWy (below_drew W25)) kW3'2 (by decide)
       have hI'6 := (hI.below (below_drew W25)).only (Only.of_upd (T := [74]) u27 kW3'2 (by decide)) (by decide)
       refine xe 1 (.tuple #[]) ?_
       rw [hch, hend]
       rw [show (way ++ [no]).length - 1 = way.length by simp] at k27
       exact ⟨_, pe3, pb3, pf3, pw3, ce3, cb3, cf3, cw3, fv3, rfl, hB'15, hO'1, k27, hEn'5, hBl'5, hFl'5, hFv'5, way_cut hWy'11, hAp.len _ _ _ _, hI'6⟩
     have kW3'3 := kW3.below (below_drew W25)
     refine xb 0 8 kW3'3 ?_
     refine xwm (.e [9] 10) ((↑((way ++ [no]).length) : Int) - 1) (↑(((way ++ [no]).length) - 1) : Int) ?_
     refine xb (.o [] 4) 8 kW3'3 ?_
     refine xsH (.e [] 11) (fun _ _ _ _ zo zx zy V => run_sliceH (k := (((way ++ [no]).length) - 1)) (b := pw3) (n := (way ++ [no]).length) (c := cw3) (i := (↑(((way ++ [no]).length) - 1) : Int)) (ki := .i64) zo zx zy rfl (by omega) Tryz.underlying33 (by kernel_rfl) V) ?_
     refine ys (.o [12, 13] 14) kW3'3 [.slice pe3 ((loopW (visitF l tree fuel d) l way no hi (i + 1) { s with looked := s.looked + 1, bs := s.bs ++ [no] }).es.length) ce3, .slice pb3 ((loopW (visitF l tree fuel d) l way no hi (i + 1) { s with looked := s.looked + 1, bs := s.bs ++ [no] }).bs.length) cb3, .int .i64 (loopW (visitF l tree fuel d) l way no hi (i + 1) { s with looked := s.looked + 1, bs := s.bs ++ [no] }).deep, .int .i64 ((loopW (visitF l tree fuel d) l way no hi (i + 1) { s with looked := s.looked + 1, bs := s.bs ++ [no] }).looked : Int), .slice pf3 ((loopW (visitF l tree fuel d) l way no hi (i + 1) { s with looked := s.looked + 1, bs := s.bs ++ [no] }).fs.length) cf3, .pointer (some ⟨b, 0, none⟩), .int .i64 tree, .int .i64 fuel, .slice pw3 (((way ++ [no]).length) - 1) cw3, .bool ((loopW (visitF l tree fuel d) l way no hi (i + 1) { s with looked := s.looked + 1, bs := s.bs ++ [no] }).dry)] (.t B [74]) fun W28 u28 k28 => ⟨(sft_upd u28 kW3'3 hBb (by decide)), ?_⟩
     have k21_b1'2 := (((u24.blk (k21_b1.below n23.below) (Ne.symm (Ne.symm d23_b1))).below (below_drew W24)).only hO25 (by decide)).below (below_drew W25)
     have k21_b10'3 := (k21_b10'1.only hO25 (by decide)).below (below_drew W25)
     have hB'16 := u28.below (Bl.nextB (hB'14.trans hb25) hBw (below_drew W25)) hBb
     have hO'2 := ((((Only.upd_new (hO_21.trans (Only.of_below n23.below)) u24 g23).trans (Only.of_below (below_drew W24))).trans hO25).trans (Only.of_below (below_drew W25))).trans (Only.of_upd u28 kW3'3 (by decide))
     have hEn'6 := u28.own2 (own_below hEn (below_drew W25)) kW3'3 (by decide)
     have hBl'6 := u28.own2 (own_below hBl (below_drew W25)) kW3'3 (by decide)
     have hFl'6 := u28.own2 (own_below hFl (below_drew W25)) kW3'3 (by decide)
     have hFv'6 := (hFv.below (below_drew W25)).only (Only.of_upd (T := [74]) u28 kW3'3 (by decide)) (by decide)
     have hWy'12 := u28.own2 (own_below hWy (below_drew W25)) kW3'3 (by decide)
     have hI'7 := (hI.below (below_drew W25)).only (Only.of_upd (T := [74]) u28 kW3'3 (by decide)) (by decide)
     refine xe 1 (.tuple #[]) ?_
     rw [hch, hend]
     rw [show (way ++ [no]).length - 1 = way.length by simp] at k28
     exact ⟨_, pe3, pb3, pf3, pw3, ce3, cb3, cf3, cw3, fv3, rfl, hB'16, hO'2, k28, hEn'6, hBl'6, hFl'6, hFv'6, way_cut hWy'12, hAp.len _ _ _ _, hI'7⟩
   refine xwm 4 ((↑i : Int) + 1) (↑(i + 1) : Int) ?_
   have hB'17 := hB'14.trans hb25
   have hO'3 := ((Only.upd_new (hO_21.trans (Only.of_below n23.below)) u24 g23).trans (Only.of_below (below_drew W24))).trans hO25
   have k21_b1'3 := ((u24.blk (k21_b1.below n23.below) (Ne.symm (Ne.symm d23_b1))).below (below_drew W24)).only hO25 (by decide)
   have k21_b10'4 := k21_b10'1.only hO25 (by decide)
   have hv_'4 := own_only hv_'3 hO25 (by decide)
   have hSp'1 := own_only (own_below (u24.own3 (own_below hSp n23.below) r23_hSp) (below_drew W24)) hO25 (by decide)
   exact ze 2 (hJ21 _ _ _ ⟨i + 1, _, _, _, _, _, _, _, _, _, rfl, rfl, hB'17, hO'3, k21_b1'3, k21_b10'4, hR3, hv_'4, hSp'1, by omega, by assumption⟩ (by omega))
 obtain ⟨_, hEn, hBl, hFl, hFv, hWy, hAp, hI⟩ := hR
 have hwc := (own_some hWy (by simp)).2
 have hwl : (way ++ [no]).length = way.length + 1 := by simp
 have hend : (loopW (visitF l tree fuel d) l way no hi (nodC (inB l no)) { s with looked := s.looked + 1, bs := s.bs ++ [no] }) = (loopW (visitF l tree fuel d) l way no hi i { s with looked := s.looked + 1, bs := s.bs ++ [no] }) := by rw [show i = (nodC (inB l no)) by omega]
 refine xd 5 (.t B [74]) ?_
 refine xm2 (.b [0, 1, 2, 3, 5, 6, 7]) 4 8 ?_ ?_
 · have kW3'4 := kW3.below (below_drew W21)
   refine xb 0 8 kW3'4 ?_
   refine xb (.o [] 8) 8 kW3'4 ?_
   refine xwm (.e [9] 10) ((↑((way ++ [no]).length) : Int) - 1) (↑(((way ++ [no]).length) - 1) : Int) ?_
   refine xsH (.e [] 11) (fun _ _ _ _ zo zx zy V => run_sliceH (k := (((way ++ [no]).length) - 1)) (b := pw5) (n := (way ++ [no]).length) (c := cw5) (i := (↑(((way ++ [no]).length) - 1) : Int)) (ki := .i64) zo zx zy rfl (by omega) Tryz.underlying33 (by kernel_rfl) V) ?_
   refine ys (.o [12, 13] 14) kW3'4 [.slice pe5 ((loopW (visitF l tree fuel d) l way no hi i { s with looked := s.looked + 1, bs := s.bs ++ [no] }).es.length) ce5, .slice pb5 ((loopW (visitF l tree fuel d) l way no hi i { s with looked := s.looked + 1, bs := s.bs ++ [no] }).bs.length) cb5, .int .i64 (loopW (visitF l tree fuel d) l way no hi i { s with looked := s.looked + 1, bs := s.bs ++ [no] }).deep, .int .i64 ((loopW (visitF l tree fuel d) l way no hi i { s with looked := s.looked + 1, bs := s.bs ++ [no] }).looked : Int), .slice pf5 ((loopW (visitF l tree fuel d) l way no hi i { s with looked := s.looked + 1, bs := s.bs ++ [no] }).fs.length) cf5, .pointer (some ⟨b, 0, none⟩), .int .i64 tree, .int .i64 fuel, .slice pw5 (((way ++ [no]).length) - 1) cw5, .bool ((loopW (visitF l tree fuel d) l way no hi i { s with looked := s.looked + 1, bs := s.bs ++ [no] }).dry)] (.t B [74]) fun W29 u29 k29 => ⟨(sft_upd u29 kW3'4 hBb (by decide)), ?_⟩
   have k21_b1'4 := k21_b1.below (below_drew W21)
   have k21_b10'5 := k21_b10.below (below_drew W21)
   have hB'18 := u29.below (Bl.nextB hB_21 hBw (below_drew W21)) hBb
   have hO'4 := (hO_21.trans (Only.of_below (below_drew W21))).trans (Only.of_upd u29 kW3'4 (by decide))
   have hEn'7 := u29.own2 (own_below hEn (below_drew W21)) kW3'4 (by decide)
   have hBl'7 := u29.own2 (own_below hBl (below_drew W21)) kW3'4 (by decide)
   have hFl'7 := u29.own2 (own_below hFl (below_drew W21)) kW3'4 (by decide)
   have hFv'7 := (hFv.below (below_drew W21)).only (Only.of_upd (T := [74]) u29 kW3'4 (by decide)) (by decide)
   have hWy'13 := u29.own2 (own_below hWy (below_drew W21)) kW3'4 (by decide)
   have hI'8 := (hI.below (below_drew W21)).only (Only.of_upd (T := [74]) u29 kW3'4 (by decide)) (by decide)
   refine xe 1 (.tuple #[]) ?_
   rw [hch, hend]
   rw [show (way ++ [no]).length - 1 = way.length by simp] at k29
   exact ⟨_, pe5, pb5, pf5, pw5, ce5, cb5, cf5, cw5, fv5, rfl, hB'18, hO'4, k29, hEn'7, hBl'7, hFl'7, hFv'7, way_cut hWy'13, hAp.len _ _ _ _, hI'8⟩
 have kW3'5 := kW3.below (below_drew W21)
 refine xb 0 8 kW3'5 ?_
 refine xwm (.e [9] 10) ((↑((way ++ [no]).length) : Int) - 1) (↑(((way ++ [no]).length) - 1) : Int) ?_
 refine xb (.o [] 4) 8 kW3'5 ?_
 refine xsH (.e [] 11) (fun _ _ _ _ zo zx zy V => run_sliceH (k := (((way ++ [no]).length) - 1)) (b := pw5) (n := (way ++ [no]).length) (c := cw5) (i := (↑(((way ++ [no]).length) - 1) : Int)) (ki := .i64) zo zx zy rfl (by omega) Tryz.underlying33 (by kernel_rfl) V) ?_
 refine ys (.o [12, 13] 14) kW3'5 [.slice pe5 ((loopW (visitF l tree fuel d) l way no hi i { s with looked := s.looked + 1, bs := s.bs ++ [no] }).es.length) ce5, .slice pb5 ((loopW (visitF l tree fuel d) l way no hi i { s with looked := s.looked + 1, bs := s.bs ++ [no] }).bs.length) cb5, .int .i64 (loopW (visitF l tree fuel d) l way no hi i { s with looked := s.looked + 1, bs := s.bs ++ [no] }).deep, .int .i64 ((loopW (visitF l tree fuel d) l way no hi i { s with looked := s.looked + 1, bs := s.bs ++ [no] }).looked : Int), .slice pf5 ((loopW (visitF l tree fuel d) l way no hi i { s with looked := s.looked + 1, bs := s.bs ++ [no] }).fs.length) cf5, .pointer (some ⟨b, 0, none⟩), .int .i64 tree, .int .i64 fuel, .slice pw5 (((way ++ [no]).length) - 1) cw5, .bool ((loopW (visitF l tree fuel d) l way no hi i { s with looked := s.looked + 1, bs := s.bs ++ [no] }).dry)] (.t B [74]) fun W30 u30 k30 => ⟨(sft_upd u30 kW3'5 hBb (by decide)), ?_⟩
 have k21_b1'5 := k21_b1.below (below_drew W21)
 have k21_b10'6 := k21_b10.below (below_drew W21)
 have hB'19 := u30.below (Bl.nextB hB_21 hBw (below_drew W21)) hBb
 have hO'5 := (hO_21.trans (Only.of_below (below_drew W21))).trans (Only.of_upd u30 kW3'5 (by decide))
 have hEn'8 := u30.own2 (own_below hEn (below_drew W21)) kW3'5 (by decide)
 have hBl'8 := u30.own2 (own_below hBl (below_drew W21)) kW3'5 (by decide)
 have hFl'8 := u30.own2 (own_below hFl (below_drew W21)) kW3'5 (by decide)
 have hFv'8 := (hFv.below (below_drew W21)).only (Only.of_upd (T := [74]) u30 kW3'5 (by decide)) (by decide)
 have hWy'14 := u30.own2 (own_below hWy (below_drew W21)) kW3'5 (by decide)
 have hI'9 := (hI.below (below_drew W21)).only (Only.of_upd (T := [74]) u30 kW3'5 (by decide)) (by decide)
 refine xe 1 (.tuple #[]) ?_
 rw [hch, hend]
 rw [show (way ++ [no]).length - 1 = way.length by simp] at k30
 exact ⟨_, pe5, pb5, pf5, pw5, ce5, cb5, cf5, cw5, fv5, rfl, hB'19, hO'5, k30, hEn'8, hBl'8, hFl'8, hFv'8, way_cut hWy'14, hAp.len _ _ _ _, hI'9⟩
end Go.Proofs.YtolblnjohaooaaaGreat
namespace Go.Proofs.YtolblnjohaooaaaGreat
open Go.RowKit Go.Extern.Stop Go.Stop Go.Extern
set_option linter.unusedVariables false
theorem loopW_ind {V : List Int → Int → Int → Int → WS → WS} {l : List UInt8} {way : List Int} {no hi : Int} {s : WS} (P : Nat → WS → Prop) (h0 : P 0 s) :
    ∀ n, (∀ i t, i < n → t.dry = false → P i t → P (i + 1) (childW V way no ((nodV l no).getD i []) (partAt hi (nodK l no) i) t)) → (∀ i t, i < n → t.dry = true → P i t → P (i + 1) t) → P n (loopW V l way no hi n s)
  | 0, _, _ => h0
  | n + 1, hs, hd => by
    have ih := loopW_ind P h0 n (fun i t hi => hs i t (by omega)) (fun i t hi => hd i t (by omega))
    rw [loopW_succ]
    unfold roundW
    split
    · rename_i h; exact hd n _ (by omega) h ih
    · rename_i h; exact hs n _ (by omega) (by simpa using h) ih
theorem rootE_no (v : List UInt8) : rootE v = 0 ∨ rootE v = 2 ∨ rootE v = 7 := by
  unfold rootE; split
  · split <;> simp
  · simp
theorem keysErr_no (l : List UInt8) : ∀ n, keysErr l n = 0 ∨ keysErr l n = 2 ∨ keysErr l n = 8
  | 0 => .inl rfl
  | n + 1 => by
    rw [keysErr]
    split
    · exact keysErr_no l n
    · unfold keyE; split
      · simp
      · split <;> simp
theorem nodeErr_no (l : List UInt8) (no tree : Int) : nodeErr l no tree ≠ 12 := by
  unfold nodeErr
  split
  · unfold nodeTE
    split
    · split <;> decide
    · unfold nodeE
      split
      · split
        · rcases keysErr_no (inB l no) (nodC (inB l no)) with h | h | h <;> rw [h] <;> decide
        · decide
      · decide
  · unfold inE
    split
    · unfold openE
      repeat' split
      all_goals decide
    · decide
theorem lookE_no (l : List UInt8) (way : List Int) (no tree lo hi deep : Int) : lookE l way no tree lo hi deep ≠ 12 := by
  unfold lookE
  split
  · decide
  · split
    · decide
    · split
      · exact nodeErr_no _ _ _
      · split
        · decide
        · split <;> decide
theorem maxG_18 (t : Int) (b : Bool) : maxG t b ≤ 18 := by
  unfold maxG maxN
  repeat' split
  all_goals omega
theorem nodeE_shape {l : List UInt8} (h : nodeE l = 0) : shapeB l = true := by
  unfold nodeE at h
  split at h
  · assumption
  · cases h
theorem nodeTE_zero {l : List UInt8} {tree : Int} (h : nodeTE l tree = 0) : nodeE l = 0 := by
  unfold nodeTE at h
  split at h
  · assumption
  · assumption
theorem nodeErr_TE {l : List UInt8} {no tree : Int} (h : nodeErr l no tree = 0) : inE l 2 no = 0 ∧ nodeTE (inB l no) tree = 0 := by
  unfold nodeErr at h
  split at h
  · exact ⟨by assumption, h⟩
  · rename_i q; exact absurd h q
theorem look_node {l : List UInt8} {way : List Int} {no tree lo hi deep : Int} (h : lookE l way no tree lo hi deep = 0) : nodeErr l no tree = 0 ∧ fitsI lo hi (nodK l no) = 0 ∧ nodC (inB l no) ≤ 18 := by
  unfold lookE at h
  split at h
  · cases h
  · split at h
    · cases h
    · split at h
      · rename_i q; exact absurd h q
      · rename_i q
        split at h
        · cases h
        · rename_i q2
          have q1 : nodeErr l no tree = 0 := Decidable.not_not.1 q
          exact ⟨q1, Decidable.not_not.1 q2, Nat.le_trans (node_shapeP (nodeE_shape (nodeTE_zero (nodeErr_TE q1).2))) (maxG_18 _ _)⟩
theorem fits_sort {lo hi : Int} {L : List Int} (h : fitsI lo hi L = 0) : rightB lo hi = true ∧ SortP L ∧ ∀ k ∈ L, lo ≤ k ∧ k < hi := by
  unfold fitsI at h
  split at h
  · split at h
    · split at h
      · exact ⟨by assumption, by assumption, by assumption⟩
      · cases h
    · cases h
  · cases h
/-- an entry stands in its block: at the first place of its key -/
def InBlk (l : List UInt8) (tree : Int) (x : Ent) : Prop :=
  nodeErr l x.2.2 tree = 0 ∧ nodL (inB l x.2.2) = true ∧ ∃ k, k < nodC (inB l x.2.2) ∧ (nodK l x.2.2).getD k 0 = x.1 ∧ (nodV l x.2.2).getD k [] = x.2.1 ∧ ∀ j, j < k → (nodK l x.2.2).getD j 0 ≠ x.1
/-- keys that rise, all within a span -/
def Rise (lo hi : Int) (es : List Ent) : Prop := es.Pairwise (fun x y => x.1 < y.1) ∧ ∀ x ∈ es, lo ≤ x.1 ∧ x.1 < hi
theorem Rise.nil (lo hi : Int) : Rise lo hi [] := ⟨.nil, fun _ h => by cases h⟩
theorem Rise.app {lo mi hi : Int} {a b : List Ent} (h : Rise lo mi a) (k : Rise mi hi b) (h1 : lo ≤ mi) (h2 : mi ≤ hi) : Rise lo hi (a ++ b) := by
  refine ⟨List.pairwise_append.2 ⟨h.1, k.1, fun x hx y hy => ?_⟩, fun x hx => ?_⟩
  · have := (h.2 x hx).2; have := (k.2 y hy).1; omega
  · rcases List.mem_append.1 hx with q | q
    · have := h.2 x q; omega
    · have := k.2 x q; omega
/-- what came between the states s and t of a visit of no below way, of the span lo hi -/
structure Went (l : List UInt8) (tree fuel : Int) (hd : Option Int) (lo hi : Int) (s t : WS) (es : List Ent) (fs : List (List Int × Int)) : Prop where
  esE : t.es = s.es ++ es
  fsE : t.fs = s.fs ++ fs
  rise : Rise lo hi es
  inb : ∀ x ∈ es, InBlk l tree x
  flt : ∀ f ∈ fs, f.1.head? = hd ∧ f.1 ≠ [] ∧ f.2 ≠ 0
  dry : t.dry = true ↔ s.dry = true ∨ ∃ f ∈ fs, f.2 = 12
  fuelE : t.dry = true → s.dry = true ∨ fuel ≤ t.looked
  look : s.looked ≤ fuel.toNat → t.looked ≤ fuel.toNat
  more : s.looked ≤ t.looked
  blks : t.bs.length + s.looked ≤ s.bs.length + t.looked
theorem Went.refl (l : List UInt8) (tree fuel : Int) (hd : Option Int) (lo hi : Int) (s : WS) : Went l tree fuel hd lo hi s s [] [] :=
  ⟨by simp, by simp, Rise.nil _ _, by simp, by simp, by simp, fun h => .inl h, fun h => h, Nat.le_refl _, Nat.le_refl _⟩
theorem Went.trans {l : List UInt8} {tree fuel : Int} {hd : Option Int} {lo mi hi : Int} {s t u : WS} {es es2 : List Ent} {fs fs2 : List (List Int × Int)} (h : Went l tree fuel hd lo mi s t es fs) (k : Went l tree fuel hd mi hi t u es2 fs2) (h1 : lo ≤ mi) (h2 : mi ≤ hi) :
    Went l tree fuel hd lo hi s u (es ++ es2) (fs ++ fs2) where
  esE := by rw [k.esE, h.esE, List.append_assoc]
  fsE := by rw [k.fsE, h.fsE, List.append_assoc]
  rise := h.rise.app k.rise h1 h2
  inb x hx := by
    rcases List.mem_append.1 hx with q | q
    · exact h.inb x q
    · exact k.inb x q
  flt f hf := by
    rcases List.mem_append.1 hf with q | q
    · exact h.flt f q
    · exact k.flt f q
  dry := by
    rw [k.dry, h.dry]
    constructor
    · rintro ((q | ⟨f, q1, q2⟩) | ⟨f, q1, q2⟩)
      · exact .inl q
      · exact .inr ⟨f, List.mem_append_left _ q1, q2⟩
      · exact .inr ⟨f, List.mem_append_right _ q1, q2⟩
    · rintro (q | ⟨f, q1, q2⟩)
      · exact .inl (.inl q)
      · rcases List.mem_append.1 q1 with q | q
        · exact .inl (.inr ⟨f, q, q2⟩)
        · exact .inr ⟨f, q, q2⟩
  fuelE h0 := by
    rcases k.fuelE h0 with q | q
    · rcases h.fuelE q with q | q
      · exact .inl q
      · exact .inr (by have := k.more; omega)
    · exact .inr q
  look h0 := k.look (h.look h0)
  more := Nat.le_trans h.more k.more
  blks := by have := h.blks; have := k.blks; omega
theorem Went.wide {l : List UInt8} {tree fuel : Int} {hd : Option Int} {lo hi lo2 hi2 : Int} {s t : WS} {es : List Ent} {fs : List (List Int × Int)} (h : Went l tree fuel hd lo hi s t es fs) (h1 : lo2 ≤ lo) (h2 : hi ≤ hi2) : Went l tree fuel hd lo2 hi2 s t es fs :=
  { h with rise := ⟨h.rise.1, fun x hx => by have := h.rise.2 x hx; omega⟩ }
theorem Went.note (l : List UInt8) (tree fuel : Int) {hd : Option Int} (lo hi : Int) (way : List Int) (no c : Int) (s : WS) (hc : c ≠ 0) (hc2 : c ≠ 12) (hh : (way ++ [no]).head? = hd) : Went l tree fuel hd lo hi s (noteW way [no] c s) [] [(way ++ [no], c)] :=
  ⟨by simp [noteW], by simp [noteW], Rise.nil _ _, by simp, (fun f hf => by rw [List.mem_singleton.1 hf]; exact ⟨hh, by simp, hc⟩), by simp [noteW, hc2], fun h => .inl (by simpa [noteW] using h), fun h => by simpa [noteW] using h, Nat.le_refl _, Nat.le_refl _⟩
theorem partAt_le {lo hi : Int} {L : List Int} (hf : fitsI lo hi L = 0) {i : Nat} (h : i < L.length) : lo ≤ (partAt hi L i).1 ∧ (partAt hi L i).1 ≤ (partAt hi L i).2 ∧ (partAt hi L i).2 ≤ hi ∧ (i + 1 < L.length → (partAt hi L i).2 = (partAt hi L (i + 1)).1) := by
  obtain ⟨h1, h2, h3⟩ := fits_sort hf
  have h4 := h3 L[i] (List.getElem_mem _)
  unfold partAt
  simp only [List.getElem?_eq_getElem h, Option.getD_some]
  by_cases hn : i + 1 < L.length
  · have h5 := h3 L[i + 1] (List.getElem_mem _)
    have h6 := SortP.lt h2 (i + 1) i (by omega) hn
    simp only [List.getElem?_eq_getElem h, List.getElem?_eq_getElem hn, Option.getD_some] at h6 ⊢
    exact ⟨h4.1, by omega, by omega, fun _ => trivial⟩
  · rw [List.getElem?_eq_none (by omega)]
    simp only [Option.getD_none]
    exact ⟨h4.1, by omega, Int.le_refl _, fun h => absurd h hn⟩
theorem leaf_rise {lo hi : Int} {l : List UInt8} {no : Int} (hf : fitsI lo hi (nodK l no) = 0) (Vs : List (List UInt8)) : Rise lo hi (leafL (nodK l no) Vs no (nodC (inB l no))) := by
  obtain ⟨h1, h2, h3⟩ := fits_sort hf
  have hl : (nodK l no).length = nodC (inB l no) := by simp [nodK, keysI]
  refine ⟨?_, ?_⟩
  · unfold leafL
    rw [List.pairwise_map]
    refine List.Pairwise.imp_of_mem (R := fun a b => a < b) ?_ List.pairwise_lt_range
    intro a b ha hb hab
    have := SortP.lt h2 b a hab (by rw [hl]; simpa using hb)
    simpa [List.getD] using this
  · intro x hx
    unfold leafL at hx
    obtain ⟨j, hj, rfl⟩ := List.mem_map.1 hx
    have hj : j < (nodK l no).length := by rw [hl]; simpa using hj
    have := h3 (nodK l no)[j] (List.getElem_mem _)
    simpa [List.getD, hj] using this
theorem leaf_inb {lo hi : Int} {l : List UInt8} {no tree : Int} (hn : nodeErr l no tree = 0) (hl : nodL (inB l no) = true) (hf : fitsI lo hi (nodK l no) = 0) : ∀ x ∈ leafL (nodK l no) (nodV l no) no (nodC (inB l no)), InBlk l tree x := by
  intro x hx
  obtain ⟨h1, h2, h3⟩ := fits_sort hf
  have hk : (nodK l no).length = nodC (inB l no) := by simp [nodK, keysI]
  unfold leafL at hx
  obtain ⟨j, hj, rfl⟩ := List.mem_map.1 hx
  have hj : j < nodC (inB l no) := by simpa using hj
  refine ⟨hn, hl, j, hj, rfl, rfl, fun i hi => ?_⟩
  have := SortP.lt h2 j i hi (by rw [hk]; exact hj)
  simp only [List.getD] 
  omega
theorem visitF_went (l : List UInt8) (tree fuel : Int) : ∀ (d : Nat) (way : List Int) (no lo hi : Int) (s : WS), s.dry = false → ∃ es fs, Went l tree fuel (way ++ [no]).head? lo hi s (visitF l tree fuel d way no lo hi s) es fs
  | 0, way, no, lo, hi, s, _ => ⟨[], [], Went.refl _ _ _ _ _ _ _⟩
  | d + 1, way, no, lo, hi, s, hs => by
    unfold visitF
    split
    · rename_i hf
      exact ⟨[], [(way ++ [no], 12)], by simp [noteW], by simp [noteW], Rise.nil _ _, by simp, by simp, by simp, fun _ => .inr hf, fun h => h, Nat.le_refl _, Nat.le_refl _⟩
    · rename_i hf
      have hlk : s.looked + 1 ≤ fuel.toNat := by omega
      split
      · rename_i he
        have := Went.note l tree fuel lo hi way no _ { s with looked := s.looked + 1 } he (lookE_no _ _ _ _ _ _ _) rfl
        exact ⟨_, _, this.esE, this.fsE, this.rise, this.inb, this.flt, this.dry, fun h => by simp [noteW, hs] at h, fun _ => hlk, by simp [noteW], by simp [noteW]⟩
      · rename_i he
        have he : lookE l way no tree lo hi s.deep = 0 := Decidable.not_not.1 he
        obtain ⟨hn, hft, hc⟩ := look_node he
        split
        · rename_i hl
          exact ⟨_, [], rfl, by simp, leaf_rise hft _, leaf_inb hn hl hft, by simp, by simp [hs], fun h => by simp [hs] at h, fun _ => hlk, by simp, by simp; omega⟩
        · have hk : (nodK l no).length = nodC (inB l no) := by simp [nodK, keysI]
          have hfs := fits_sort hft
          have hrt : lo ≤ hi := by have := hfs.1; unfold rightB at this; simp at this; omega
          have hloop := loopW_ind (V := visitF l tree fuel d) (l := l) (way := way) (no := no) (hi := hi) (s := { s with looked := s.looked + 1, bs := s.bs ++ [no] })
            (fun i t => ∃ es fs, Went l tree fuel (way ++ [no]).head? lo (if i = 0 then lo else (partAt hi (nodK l no) (i - 1)).2) { s with looked := s.looked + 1, bs := s.bs ++ [no] } t es fs)
            ⟨[], [], Went.refl _ _ _ _ _ _ _⟩ (nodC (inB l no)) ?_ ?_
          · obtain ⟨es, fs, q⟩ := hloop
            refine ⟨es, fs, q.esE, q.fsE, ?_, q.inb, q.flt, q.dry, fun h => ?_, fun _ => q.look hlk, by have := q.more; simp only at this; omega, by have := q.blks; simp at this; omega⟩
            · refine ⟨q.rise.1, fun x hx => ?_⟩
              have := q.rise.2 x hx
              split at this
              · omega
              · rename_i h0
                have := (partAt_le hft (i := nodC (inB l no) - 1) (by rw [hk]; omega)).2.2.1
                omega
            · rcases q.fuelE h with q2 | q2
              · exact .inl q2
              · exact .inr q2
          · rintro i t hi0 htd ⟨es, fs, q⟩
            have hp := partAt_le hft (i := i) (by rw [hk]; exact hi0)
            have hmid : lo ≤ (if i = 0 then lo else (partAt hi (nodK l no) (i - 1)).2) ∧ (if i = 0 then lo else (partAt hi (nodK l no) (i - 1)).2) ≤ (partAt hi (nodK l no) i).1 := by
              split
              · exact ⟨Int.le_refl _, hp.1⟩
              · rename_i h0
                have hp2 := partAt_le hft (i := i - 1) (by rw [hk]; omega)
                have := hp2.2.2.2 (by rw [hk]; omega)
                rw [show i - 1 + 1 = i by omega] at this
                omega
            have q' := q.wide (Int.le_refl lo) hmid.2
            rw [if_neg (by omega), Nat.add_sub_cancel]
            unfold childW
            split
            · obtain ⟨es2, fs2, r⟩ := visitF_went l tree fuel d (way ++ [no]) (rootN ((nodV l no).getD i []) : Int) (partAt hi (nodK l no) i).1 (partAt hi (nodK l no) i).2 t htd
              have hh : ((way ++ [no]) ++ [(rootN ((nodV l no).getD i []) : Int)]).head? = (way ++ [no]).head? := by cases way <;> rfl
              rw [hh] at r
              exact ⟨_, _, q'.trans r (by omega) hp.2.1⟩
            · rename_i hre
              have r := Went.note l tree fuel (partAt hi (nodK l no) i).1 (partAt hi (nodK l no) i).2 way no (rootE ((nodV l no).getD i [])) t hre (by rcases rootE_no ((nodV l no).getD i []) with h | h | h <;> rw [h] <;> decide) rfl
              exact ⟨_, _, q'.trans r (by omega) hp.2.1⟩
          · rintro i t hi0 htd ⟨es, fs, q⟩
            have hp := partAt_le hft (i := i) (by rw [hk]; exact hi0)
            rw [if_neg (by omega), Nat.add_sub_cancel]
            refine ⟨es, fs, q.wide (Int.le_refl _) ?_⟩
            split
            · omega
            · rename_i h0
              have hp2 := partAt_le hft (i := i - 1) (by rw [hk]; omega)
              have := hp2.2.2.2 (by rw [hk]; omega)
              rw [show i - 1 + 1 = i by omega] at this
              omega
/-- how much is found, by the nodes looked at -/
theorem visitF_count (l : List UInt8) (tree fuel : Int) : ∀ (d : Nat) (way : List Int) (no lo hi : Int) (s : WS), s.dry = false →
    (visitF l tree fuel d way no lo hi s).fs.length + (visitF l tree fuel d way no lo hi s).es.length + 18 * s.looked ≤ s.fs.length + s.es.length + 18 * (visitF l tree fuel d way no lo hi s).looked + (if (visitF l tree fuel d way no lo hi s).dry = true then 1 else 0)
  | 0, way, no, lo, hi, s, hs => by simp [visitF, hs]
  | d + 1, way, no, lo, hi, s, hs => by
    unfold visitF
    split
    · simp [noteW]; omega
    · split
      · simp [noteW, hs]; omega
      · rename_i he
        have he : lookE l way no tree lo hi s.deep = 0 := Decidable.not_not.1 he
        obtain ⟨hn, hft, hc⟩ := look_node he
        split
        · simp [leafL_len, hs]; omega
        · have hloop := loopW_ind (V := visitF l tree fuel d) (l := l) (way := way) (no := no) (hi := hi) (s := { s with looked := s.looked + 1, bs := s.bs ++ [no] })
            (fun i t => t.fs.length + t.es.length + 18 * (s.looked + 1) ≤ s.fs.length + s.es.length + i + 18 * t.looked + (if t.dry = true then 1 else 0)) (by simp [hs]) (nodC (inB l no)) ?_ ?_
          · omega
          · intro i t hi0 htd q
            rw [htd] at q
            unfold childW
            split
            · have := visitF_count l tree fuel d (way ++ [no]) (rootN ((nodV l no).getD i []) : Int) (partAt hi (nodK l no) i).1 (partAt hi (nodK l no) i).2 t htd
              simp at q
              omega
            · simp [noteW, htd] at q ⊢; omega
          · intro i t hi0 htd q; omega
/-- once the fuel is used up it stays so -/
theorem visitF_dry (l : List UInt8) (tree fuel : Int) (V : List Int → Int → Int → Int → WS → WS) (way : List Int) (no hi : Int) (s : WS) {k n : Nat} (hk : k ≤ n) (h : (loopW V l way no hi n s).dry = false) : (loopW V l way no hi k s).dry = false := by
  cases q : (loopW V l way no hi k s).dry with
  | false => rfl
  | true => rw [loopW_dry V l way no hi s hk q] at h; rw [← h, q]
/-- with more fuel a scan that had enough is the same -/
theorem visitF_more (l : List UInt8) (tree fuel fuel2 : Int) (hff : fuel ≤ fuel2) : ∀ (d : Nat) (way : List Int) (no lo hi : Int) (s : WS), (visitF l tree fuel d way no lo hi s).dry = false → visitF l tree fuel2 d way no lo hi s = visitF l tree fuel d way no lo hi s
  | 0, _, _, _, _, _, _ => rfl
  | d + 1, way, no, lo, hi, s, h => by
    unfold visitF at h ⊢
    by_cases hf : fuel ≤ s.looked
    · rw [if_pos hf] at h; cases h
    · rw [if_neg hf] at h
      rw [if_neg (show ¬ fuel2 ≤ s.looked by omega), if_neg hf]
      by_cases he : lookE l way no tree lo hi s.deep ≠ 0
      · rw [if_pos he, if_pos he]
      · rw [if_neg he] at h
        rw [if_neg he, if_neg he]
        by_cases hl : nodL (inB l no) = true
        · rw [if_pos hl, if_pos hl]
        · rw [if_neg hl] at h
          rw [if_neg hl, if_neg hl]
          have key : ∀ k, k ≤ nodC (inB l no) → loopW (visitF l tree fuel2 d) l way no hi k { s with looked := s.looked + 1, bs := s.bs ++ [no] } = loopW (visitF l tree fuel d) l way no hi k { s with looked := s.looked + 1, bs := s.bs ++ [no] } := by
            intro k
            induction k with
            | zero => intro _; rfl
            | succ k ih =>
              intro hk
              have h1 := visitF_dry l tree fuel _ way no hi _ hk h
              have h0 := visitF_dry l tree fuel _ way no hi _ (show k ≤ nodC (inB l no) by omega) h
              rw [loopW_succ, loopW_succ, ih (by omega)]
              rw [loopW_succ] at h1
              unfold roundW at h1 ⊢
              rw [if_neg (by rw [h0]; decide)] at h1
              rw [if_neg (by rw [h0]; decide), if_neg (by rw [h0]; decide)]
              unfold childW at h1 ⊢
              split
              · rename_i hr
                rw [if_pos hr] at h1
                exact visitF_more l tree fuel fuel2 hff d _ _ _ _ _ h1
              · rfl
          exact key _ (Nat.le_refl _)
end Go.Proofs.YtolblnjohaooaaaGreat
namespace Go.Proofs.YtolblnjohaooaaaGreat
open Go.RowKit Go.Extern.Stop Go.Stop Go.Extern
set_option linter.unusedVariables false
attribute [local irreducible] wpList wpAnyH Code.wp Oper.wp Go

theorem visit_all {B bw Bi b : Nat} {pi : Option Addr} {ni ci : Nat} {l : List UInt8} {tree fuel : Int} (hBb : B ≤ bw) (hfu : fuel ≤ 1000000) : ∀ d, VisitC B bw Bi b pi ni ci l tree fuel (d + 1)
  | 0 => fun way no lo hi s pe pb pf pw ce cb cf cw fv w h1 h2 h3 h4 h5 h6 h7 => walker_visit B bw Bi b pi ni ci l tree fuel 0 (fun h => absurd rfl h) way no lo hi s pe pb pf pw ce cb cf cw fv w hBb h2 h1 h3 hfu h4 h5 h6 h7
  | d + 1 => fun way no lo hi s pe pb pf pw ce cb cf cw fv w h1 h2 h3 h4 h5 h6 h7 => walker_visit B bw Bi b pi ni ci l tree fuel (d + 1) (fun _ => visit_all hBb hfu d) way no lo hi s pe pb pf pw ce cb cf cw fv w hBb h2 h1 h3 hfu h4 h5 h6 h7
def ws0 : WS := ⟨[], [], 0, 0, [], false⟩
/-- what a scan finds -/
def scanW (l : List UInt8) (root tree fuel : Int) : WS := visitF l tree fuel 17 [] root 0 281474976710656 ws0
theorem scanW_went (l : List UInt8) (root tree fuel : Int) : ∃ es fs, Went l tree fuel (some root) 0 281474976710656 ws0 (scanW l root tree fuel) es fs := visitF_went l tree fuel 17 [] root 0 281474976710656 ws0 rfl
theorem scanW_looked (l : List UInt8) (root tree fuel : Int) : (scanW l root tree fuel).looked ≤ fuel.toNat := by
  obtain ⟨_, _, h⟩ := scanW_went l root tree fuel
  exact h.look (Nat.zero_le _)
theorem scanW_few (l : List UInt8) (root tree fuel : Int) (hf : fuel ≤ 1000) : (scanW l root tree fuel).es.length ≤ 1000000 ∧ (scanW l root tree fuel).bs.length ≤ 1000000 ∧ (scanW l root tree fuel).fs.length ≤ 1000000 := by
  have h1 := visitF_count l tree fuel 17 [] root 0 281474976710656 ws0 rfl
  have h2 := scanW_looked l root tree fuel
  obtain ⟨_, _, h3⟩ := scanW_went l root tree fuel
  have h4 := h3.blks
  simp only [ws0, List.length_nil] at h4
  change (scanW l root tree fuel).fs.length + (scanW l root tree fuel).es.length + 18 * 0 ≤ 0 + 0 + 18 * (scanW l root tree fuel).looked + (if (scanW l root tree fuel).dry = true then 1 else 0) at h1
  have h5 : (if (scanW l root tree fuel).dry = true then 1 else 0) ≤ 1 := by split <;> omega
  have h6 : fuel.toNat ≤ 1000 := by omega
  generalize (if (scanW l root tree fuel).dry = true then 1 else 0) = q at h1 h5
  omega
/-- a scan's finding in memory: the five cells of a Walked -/
def walkC (t : WS) (pe pb pf : Option Addr) (ce cb cf : Nat) : List Value := [.slice pe t.es.length ce, .slice pb t.bs.length cb, .int .i64 t.deep, .int .i64 (t.looked : Int), .slice pf t.fs.length cf]
structure WalkV (B : Nat) (t : WS) (pe pb pf : Option Addr) (ce cb cf : Nat) (fv : List Value) (w : World) : Prop where
  ents : w.ownsRow B 26 3 (.slice pe t.es.length ce) t.es.length (t.es.flatMap entC)
  blks : w.ownsRow B 3 1 (.slice pb t.bs.length cb) t.bs.length (t.bs.map (Value.int .i64))
  flts : w.ownsRow B 30 1 (.slice pf t.fs.length cf) t.fs.length fv
  fltv : FltsW w t.fs fv
def ScanP (l : List UInt8) (root tree fuel : Int) (w : World) (e : Ending) (w' : World) : Prop :=
  ∃ pe pb pf ce cb cf fv, e = .returned (.agg (walkC (scanW l root tree fuel) pe pb pf ce cb cf).toArray) ∧ Below w.heap.size w w' ∧ WalkV w.heap.size (scanW l root tree fuel) pe pb pf ce cb cf fv w'
set_option maxRecDepth 100000 in
set_option maxHeartbeats 4000000 in
theorem walk_Scan (Bi b : Nat) (pi : Option Addr) (ni ci : Nat) (l : List UInt8) (root tree fuel : Int) (w : World) (hfu : fuel ≤ 1000) (hI : ImgR Bi b pi ni ci l w) :
    Calls Tryz.prog 19 #[.pointer (some ⟨b, 0, none⟩), .int .i64 root, .int .i64 tree, .int .i64 fuel] w (ScanP l root tree fuel w) := by
 refine zin 23 Tryz.func19 ?_
 refine xa 2 [.slice none 0 0, .slice none 0 0, .int .i64 0, .int .i64 0, .slice none 0 0] 36 fun b1 W1 n1 => ?_
 refine xa 8 [.slice none 0 0, .slice none 0 0, .int .i64 0, .int .i64 0, .slice none 0 0, .pointer (some ⟨b, 0, none⟩), .int .i64 tree, .int .i64 fuel, .slice none 0 0, .bool false] 74 fun b2 W2 n2 => ?_
 refine xr 7 (args := #[]) (span_all _) fun W3 hb3 => ?_
 have hfew := scanW_few l root tree fuel hfu
 have g2 := n2.ge n1.below
 have hB := Bl.next (Bl.next n1.below n2.below) hb3
 have k2 := n2.blk.below hb3
 have hI'1 := ((hI.below n1.below).below n2.below).below hb3
 refine xc 0 (args := #[.pointer (some ⟨b2, 0, none⟩), .int .i64 root, .agg #[.int .i64 0, .int .i64 281474976710656]]) (visit_all (B := w.heap.size) (bw := b2) (Bi := Bi) (b := b) (pi := pi) (ni := ni) (ci := ci) (l := l) (tree := tree) (fuel := fuel) g2 (by omega) 16 [] root 0 281474976710656 ws0 none none none none 0 0 0 0 [] _ rfl hB.size rfl ⟨k2, World.ownsRow_nil _ _ _ _, World.ownsRow_nil _ _ _ _, World.ownsRow_nil _ _ _ _, trivial, World.ownsRow_nil _ _ _ _, Apart.nil _, hI'1⟩ hfew.1 hfew.2.1 hfew.2.2) ?_
 rintro _ W4 ⟨u4, pe, pb, pf, pw, ce, cb, cf, cw, fv, rfl, hb4, hO4, hR⟩
 change WalkR _ _ _ _ _ _ _ _ _ _ _ (scanW l root tree fuel) _ _ _ _ _ _ _ _ _ _ at hR
 obtain ⟨kW, hEn, hBl, hFl, hFv, hWy, hAp, hI⟩ := hR
 refine xlv 7 (kW.rpp 0 5) ?_
 have k1 := ((n1.blk.below n2.below).below hb3).only hO4 (by decide)
 refine xsv 0 k1 [.slice pe ((scanW l root tree fuel).es.length) ce, .slice pb ((scanW l root tree fuel).bs.length) cb, .int .i64 (scanW l root tree fuel).deep, .int .i64 ((scanW l root tree fuel).looked : Int), .slice pf ((scanW l root tree fuel).fs.length) cf] fun W5 u5 k5 => ?_
 have g1 := n1.ge (Below.refl w.heap.size _)
 have hB'1 := u5.below (hB.trans hb4) g1
 have hEn'1 := u5.own2 hEn k1 (by decide)
 have hBl'1 := u5.own2 hBl k1 (by decide)
 have hFl'1 := u5.own2 hFl k1 (by decide)
 have hFv'1 := hFv.only (Only.of_upd (T := [36]) u5 k1 (by decide)) (by decide)
 exact xec 3 k5 (.agg #[.slice pe ((scanW l root tree fuel).es.length) ce, .slice pb ((scanW l root tree fuel).bs.length) cb, .int .i64 (scanW l root tree fuel).deep, .int .i64 ((scanW l root tree fuel).looked : Int), .slice pf ((scanW l root tree fuel).fs.length) cf]) ⟨_, _, _, _, _, _, _, rfl, hB'1, ⟨hEn'1, hBl'1, hFl'1, hFv'1⟩⟩
end Go.Proofs.YtolblnjohaooaaaGreat
namespace Go.Proofs.YtolblnjohaooaaaGreat
open Go.RowKit Go.Extern.Stop Go.Stop Go.Extern
set_option linter.unusedVariables false
attribute [local irreducible] wpList wpAnyH Code.wp Oper.wp Go

/-- the keys of a node, i places of them, when n keys are there -/
def keyPad (K : List Int) (n : Nat) (i : Nat) : List UInt8 := (List.range i).flatMap fun j => if j < n then leB (K.getD j 0) 8 else List.replicate 8 0
theorem keyPad_succ (K : List Int) (n i : Nat) : keyPad K n (i + 1) = keyPad K n i ++ (if i < n then leB (K.getD i 0) 8 else List.replicate 8 0) := by
  unfold keyPad; rw [List.range_succ, List.flatMap_append]; simp
theorem keyPad_len (K : List Int) (n i : Nat) : (keyPad K n i).length = i * 8 := by
  induction i with
  | zero => rfl
  | succ i ih => rw [keyPad_succ, List.length_append, ih]; split <;> simp [leB_len] <;> omega
/-- the values of a node, i of them -/
def valPad (Vs : List (List UInt8)) (i : Nat) : List UInt8 := (List.range i).flatMap fun j => Vs.getD j []
theorem valPad_succ (Vs : List (List UInt8)) (i : Nat) : valPad Vs (i + 1) = valPad Vs i ++ Vs.getD i [] := by
  unfold valPad; rw [List.range_succ, List.flatMap_append]; simp
theorem valPad_len {Vs : List (List UInt8)} {v : Nat} : ∀ {i : Nat}, (∀ j, j < i → (Vs.getD j []).length = v) → (valPad Vs i).length = i * v
  | 0, _ => by simp [valPad]
  | i + 1, h => by rw [valPad_succ, List.length_append, valPad_len fun j hj => h j (by omega), h i (by omega), Nat.add_mul, Nat.one_mul]
theorem putB_mid {P z Q x : List UInt8} {k : Nat} (hk : P.length = k) (hz : z.length = x.length) : putB (P ++ z ++ Q) k x = P ++ x ++ Q := by
  unfold putB
  subst hk
  rw [List.append_assoc P z Q, List.take_left' rfl, ← hz]
  have e : P ++ (z ++ Q) = (P ++ z) ++ Q := (List.append_assoc _ _ _).symm
  rw [e, List.drop_left' (by simp)]
theorem keyPad_zero (K : List Int) (i : Nat) : ∀ d, keyPad K i (i + d) = keyPad K i i ++ List.replicate (d * 8) 0
  | 0 => by simp
  | d + 1 => by
    rw [← Nat.add_assoc, keyPad_succ, keyPad_zero K i d, if_neg (by omega), List.append_assoc, List.replicate_append_replicate, Nat.add_mul, Nat.one_mul]
theorem keyPad_own (K : List Int) (n : Nat) : ∀ i, i ≤ n → keyPad K n i = keyPad K i i
  | 0, _ => rfl
  | i + 1, h => by
    rw [keyPad_succ, keyPad_succ, if_pos (by omega), if_pos (by omega), keyPad_own K n i (by omega), keyPad_own K (i + 1) i (by omega)]
theorem rep_add (a b : Nat) : List.replicate (a + b) (0 : UInt8) = List.replicate a 0 ++ List.replicate b 0 := List.replicate_append_replicate.symm
/-- a node's bytes, part by part -/
theorem nodeP_form {m v : Nat} {H : List UInt8} {K : List Int} {Vs : List (List UInt8)} (hH : H.length = 12) (hf : 12 + m * 8 + m * v ≤ 244) : ∀ {i : Nat}, i ≤ m → (∀ j, j < i → (Vs.getD j []).length = v) →
    nodeP m v H K Vs i = H ++ keyPad K i m ++ valPad Vs i ++ List.replicate (232 - m * 8 - i * v) 0
  | 0, _, _ => by
    have e1 := keyPad_zero K 0 m
    rw [Nat.zero_add] at e1
    rw [nodeP, e1]
    have h1 : (232 - m * 8 - 0 * v) = 232 - m * 8 := by omega
    rw [h1, show (244 : Nat) = 12 + (m * 8 + (232 - m * 8)) by omega, rep_add, rep_add]
    have := putB_mid (P := []) (z := List.replicate 12 (0 : UInt8)) (Q := List.replicate (m * 8) 0 ++ List.replicate (232 - m * 8) 0) (x := H) (k := 0) rfl (by simp [hH])
    rw [List.nil_append, List.nil_append] at this
    rw [this]
    simp [keyPad, valPad]
  | i + 1, hi, hV => by
    have ih := nodeP_form (K := K) hH hf (i := i) (by omega) (fun j hj => hV j (by omega))
    have hvi := hV i (by omega)
    have h2 : (i + 1) * v ≤ m * v := Nat.mul_le_mul_right v hi
    rw [Nat.add_mul, Nat.one_mul] at h2
    obtain ⟨d, hd⟩ : ∃ d, m = i + (d + 1) := ⟨m - i - 1, by omega⟩
    have ek : keyPad K i m = keyPad K i i ++ List.replicate 8 0 ++ List.replicate (d * 8) 0 := by
      rw [hd, keyPad_zero, show (d + 1) * 8 = 8 + d * 8 by omega, rep_add, List.append_assoc]
    have ek2 : keyPad K (i + 1) m = keyPad K i i ++ leB (K.getD i 0) 8 ++ List.replicate (d * 8) 0 := by
      rw [show m = (i + 1) + d by omega, keyPad_zero, keyPad_succ, if_pos (by omega), keyPad_own K (i + 1) i (by omega)]
    have er : List.replicate (232 - m * 8 - i * v) (0 : UInt8) = List.replicate v 0 ++ List.replicate (232 - m * 8 - (i * v + v)) 0 := by
      rw [← rep_add]; congr 1; omega
    have hvp : (valPad Vs i).length = i * v := valPad_len fun j hj => hV j (by omega)
    rw [nodeP, ih, ek, er]
    have s1 := putB_mid (P := H ++ keyPad K i i) (z := List.replicate 8 (0 : UInt8)) (Q := List.replicate (d * 8) 0 ++ (valPad Vs i ++ (List.replicate v 0 ++ List.replicate (232 - m * 8 - (i * v + v)) 0))) (x := leB (K.getD i 0) 8) (k := 12 + i * 8) (by rw [List.length_append, hH, keyPad_len]) (by simp [leB_len])
    have a1 : H ++ (keyPad K i i ++ List.replicate 8 0 ++ List.replicate (d * 8) 0) ++ valPad Vs i ++ (List.replicate v 0 ++ List.replicate (232 - m * 8 - (i * v + v)) 0) = H ++ keyPad K i i ++ List.replicate 8 0 ++ (List.replicate (d * 8) 0 ++ (valPad Vs i ++ (List.replicate v 0 ++ List.replicate (232 - m * 8 - (i * v + v)) 0))) := by simp only [List.append_assoc]
    rw [a1, s1]
    have s2 := putB_mid (P := H ++ keyPad K (i + 1) m ++ valPad Vs i) (z := List.replicate v (0 : UInt8)) (Q := List.replicate (232 - m * 8 - (i * v + v)) 0) (x := Vs.getD i []) (k := 12 + m * 8 + i * v) (by rw [List.length_append, List.length_append, hH, keyPad_len, hvp]) (by rw [List.length_replicate, hvi])
    have a2 : H ++ keyPad K i i ++ leB (K.getD i 0) 8 ++ (List.replicate (d * 8) 0 ++ (valPad Vs i ++ (List.replicate v 0 ++ List.replicate (232 - m * 8 - (i * v + v)) 0))) = H ++ keyPad K (i + 1) m ++ valPad Vs i ++ List.replicate v 0 ++ List.replicate (232 - m * 8 - (i * v + v)) 0 := by rw [ek2]; simp only [List.append_assoc]
    rw [a2, s2, valPad_succ, Nat.add_mul, Nat.one_mul]
    simp only [List.append_assoc]
end Go.Proofs.YtolblnjohaooaaaGreat
namespace Go.Proofs.YtolblnjohaooaaaGreat
open Go.RowKit Go.Extern.Stop Go.Stop Go.Extern
set_option linter.unusedVariables false
attribute [local irreducible] wpList wpAnyH Code.wp Oper.wp Go

theorem ext_getD {l l' : List UInt8} (h : l.length = l'.length) (h2 : ∀ j, j < l.length → l.getD j 0 = l'.getD j 0) : l = l' := by
  apply List.ext_getElem h
  intro j h3 h4
  have := h2 j h3
  simpa [List.getD, h3, h4] using this
theorem putB_get {l : List UInt8} {k : Nat} {x : List UInt8} (h : k + x.length ≤ l.length) (j : Nat) : (putB l k x).getD j 0 = if k ≤ j ∧ j < k + x.length then x.getD (j - k) 0 else l.getD j 0 := by
  unfold putB
  simp only [List.getD]
  rw [List.append_assoc, List.getElem?_append, List.getElem?_append]
  have e : (l.take k).length = k := by simp; omega
  rw [e]
  by_cases h1 : j < k
  · rw [if_pos h1, if_neg (by omega), List.getElem?_take, if_pos h1]
  · rw [if_neg h1]
    by_cases h2 : j - k < x.length
    · rw [if_pos h2, if_pos (by omega)]
    · rw [if_neg h2, if_neg (by omega), List.getElem?_drop, show k + x.length + (j - k - x.length) = j by omega]
theorem rawN_congr {l l' : List UInt8} : ∀ (w k : Nat), (∀ j, k ≤ j → j < k + w → l.getD j 0 = l'.getD j 0) → rawN l k w = rawN l' k w
  | 0, k, h => rfl
  | w + 1, k, h => by rw [rawN, rawN, h k (by omega) (by omega), rawN_congr w (k + 1) fun j h1 h2 => h j (by omega) (by omega)]
theorem rawN_bytes {l : List UInt8} : ∀ (w k m : Nat), (∀ i, i < w → l.getD (k + i) 0 = UInt8.ofNat (m / 256 ^ i)) → rawN l k w = m % 256 ^ w
  | 0, k, m, h => by simp [rawN, Nat.mod_one]
  | w + 1, k, m, h => by
    have h0 := h 0 (by omega)
    simp only [Nat.add_zero, Nat.pow_zero, Nat.div_one] at h0
    have h1 := rawN_bytes (l := l) w (k + 1) (m / 256) fun i hi => by
      have := h (i + 1) (by omega)
      rw [Nat.pow_succ, Nat.mul_comm, ← Nat.div_div_eq_div_mul] at this
      rw [show k + 1 + i = k + (i + 1) by omega]; exact this
    rw [rawN, h0, h1, Nat.pow_succ, Nat.mul_comm (256 ^ w) 256, Nat.mod_mul]
    congr 1
theorem rawN_put {l : List UInt8} {k w : Nat} {n : Int} (h : k + w ≤ l.length) (h0 : 0 ≤ n) (hb : n.toNat < 256 ^ w) : (rawN (putB l k (leB n w)) k w : Int) = n := by
  rw [rawN_bytes w k n.toNat, Nat.mod_eq_of_lt hb]
  · omega
  · intro i hi
    rw [putB_get (by rw [leB_len]; exact h), if_pos (by rw [leB_len]; omega), show k + i - k = i by omega]
    simp [leB, byteAt, List.getD, List.getElem?_range hi]
theorem rawN_put_other {l x : List UInt8} {k j w : Nat} (h : k + x.length ≤ l.length) (hd : j + w ≤ k ∨ k + x.length ≤ j) : rawN (putB l k x) j w = rawN l j w :=
  rawN_congr w j fun i h1 h2 => by rw [putB_get h, if_neg (by omega)]
theorem rawN_zero {l : List UInt8} {k w : Nat} (h : ∀ j, k ≤ j → j < k + w → l.getD j 0 = 0) : rawN l k w = 0 := by
  have := rawN_bytes (l := l) w k 0 fun i hi => by rw [h (k + i) (by omega) (by omega)]; simp
  simpa using this
theorem sumB_put {l x : List UInt8} {kind : Int} (h : 252 ≤ l.length) : sumB (putB l 252 x) kind = sumB l kind := by
  unfold sumB putB
  rw [List.append_assoc, List.take_append_of_le_length (by simp; omega), List.take_take]; rfl
theorem zeros_get (n j : Nat) : (List.replicate n (0 : UInt8)).getD j 0 = 0 := by
  simp [List.getD, List.getElem?_replicate]; split <;> rfl
/-- what lies within a sealed block -/
def inSeal (li : List UInt8) : List UInt8 := li ++ List.replicate (244 - li.length) 0
theorem open_seal {kind no : Int} {li : List UInt8} (h1 : 1 ≤ kind) (h2 : kind ≤ 4) (h3 : 0 ≤ no) (h4 : no < 14400) (hl : li.length ≤ 244) : openE kind no (sealB kind no li) = 0 := by
  have l1 := seal1_len hl
  have l2 := seal2_len (no := no) hl
  have l3 := seal3_len (kind := kind) (no := no) hl
  have l4 := sealB_len (kind := kind) (no := no) hl
  have a0 : askB kind no (sealB kind no li) 0 = false := by simp only [askB]; rw [show knownB kind no = true from decide_eq_true (by omega)]; rfl
  have a1 : askB kind no (sealB kind no li) 1 = false := by simp only [askB, l4]; rfl
  have a2 : askB kind no (sealB kind no li) 2 = false := by
    have hs : sumB (sealB kind no li) kind = sumB (seal3 kind no li) kind := by unfold sealB; exact sumB_put (by omega)
    have hr : (rawN (sealB kind no li) 252 4 : Int) = (sumB (seal3 kind no li) kind : Int) := by
      unfold sealB
      exact rawN_put (by omega) (by omega) (by have := sumB_lt (seal3 kind no li) kind; simpa using this)
    simp only [askB, hr, hs]; simp
  have a3 : askB kind no (sealB kind no li) 3 = false := by
    have hr : (rawN (sealB kind no li) 0 4 : Int) = no := by
      unfold sealB
      rw [rawN_put_other (by rw [leB_len]; omega) (.inl (by omega))]
      unfold seal3
      rw [rawN_put_other (by rw [leB_len]; omega) (.inl (by omega))]
      unfold seal2
      exact rawN_put (by omega) (by omega) (by omega)
    simp only [askB, hr]; simp
  have a4 : askB kind no (sealB kind no li) 4 = false := by
    have hr : (rawN (sealB kind no li) 4 2 : Int) = kind := by
      unfold sealB
      rw [rawN_put_other (by rw [leB_len]; omega) (.inl (by omega))]
      unfold seal3
      exact rawN_put (by omega) (by omega) (by omega)
    simp only [askB, hr]; simp
  have a5 : askB kind no (sealB kind no li) 5 = false := by
    have hr : rawN (sealB kind no li) 6 2 = 0 := by
      unfold sealB
      rw [rawN_put_other (by rw [leB_len]; omega) (.inl (by omega))]
      unfold seal3
      rw [rawN_put_other (by rw [leB_len]; omega) (.inr (by rw [leB_len]; omega))]
      unfold seal2
      rw [rawN_put_other (by rw [leB_len]; omega) (.inr (by rw [leB_len]; omega))]
      unfold seal1
      rw [rawN_put_other (by rw [List.length_replicate]; omega) (.inl (by omega))]
      exact rawN_zero fun j _ _ => zeros_get 256 j
    simp only [askB, hr]; rfl
  simp [openE, a0, a1, a2, a3, a4, a5]
theorem in_seal {kind no : Int} {li : List UInt8} (hl : li.length ≤ 244) : ((sealB kind no li).drop 8).take 244 = inSeal li := by
  have l1 := seal1_len hl
  have l2 := seal2_len (no := no) hl
  have l3 := seal3_len (kind := kind) (no := no) hl
  have l4 := sealB_len (kind := kind) (no := no) hl
  apply ext_getD
  · simp [inSeal, l4]; omega
  · intro j hj
    have hj2 : j < 244 := by simp [l4] at hj; omega
    have e : (((sealB kind no li).drop 8).take 244).getD j 0 = (sealB kind no li).getD (8 + j) 0 := by
      simp only [List.getD]; rw [List.getElem?_take, if_pos hj2, List.getElem?_drop]
    rw [e]
    unfold sealB
    rw [putB_get (by rw [leB_len]; omega), if_neg (by rw [leB_len]; omega)]
    unfold seal3
    rw [putB_get (by rw [leB_len]; omega), if_neg (by rw [leB_len]; omega)]
    unfold seal2
    rw [putB_get (by rw [leB_len]; omega), if_neg (by rw [leB_len]; omega)]
    unfold seal1
    rw [putB_get (by rw [List.length_replicate]; omega), zeros_get]
    unfold inSeal
    simp only [List.getD]
    rw [List.getElem?_append]
    by_cases h : j < li.length
    · rw [if_pos ⟨by omega, by omega⟩, if_pos h, show 8 + j - 8 = j by omega]
    · rw [if_neg (by omega), if_neg h]
      have := zeros_get (244 - li.length) (j - li.length)
      simp only [List.getD] at this
      exact this.symm
/-- a block that was written stands in the image -/
theorem blkB_put {l x : List UInt8} {k : Nat} (hx : x.length = 256) (hk : k < l.length / 256) : blkB (putB l (k * 256) x) k = x := by
  have hkl : k * 256 + 256 ≤ l.length := by omega
  have hp := putB_len (l := l) (k := k * 256) (x := x) (by omega)
  apply ext_getD
  · rw [blkB_len (by rw [hp]; exact hk), hx]
  · intro j hj
    rw [blkB_len (by rw [hp]; exact hk)] at hj
    have e : (blkB (putB l (k * 256) x) k).getD j 0 = (putB l (k * 256) x).getD (k * 256 + j) 0 := by
      simp only [blkB, List.getD]; rw [List.getElem?_take, if_pos hj, List.getElem?_drop]
    rw [e, putB_get (by omega), if_pos (by omega), show k * 256 + j - k * 256 = j by omega]
theorem blkB_put_other {l x : List UInt8} {k i : Nat} (hx : x.length = 256) (hk : k < l.length / 256) (hne : i ≠ k) (hi : i < l.length / 256) : blkB (putB l (k * 256) x) i = blkB l i := by
  have hkl : k * 256 + 256 ≤ l.length := by omega
  have hp := putB_len (l := l) (k := k * 256) (x := x) (by omega)
  apply ext_getD
  · rw [blkB_len (by rw [hp]; exact hi), blkB_len hi]
  · intro j hj
    rw [blkB_len (by rw [hp]; exact hi)] at hj
    have e : ∀ l : List UInt8, (blkB l i).getD j 0 = l.getD (i * 256 + j) 0 := fun l => by
      simp only [blkB, List.getD]; rw [List.getElem?_take, if_pos hj, List.getElem?_drop]
    rw [e, e, putB_get (by omega), if_neg (by omega)]
end Go.Proofs.YtolblnjohaooaaaGreat
namespace Go.Proofs.YtolblnjohaooaaaGreat
open Go.RowKit Go.Extern.Stop Go.Stop Go.Extern
set_option linter.unusedVariables false
attribute [local irreducible] wpList wpAnyH Code.wp Oper.wp Go

theorem getD_app {P Q : List UInt8} {k i : Nat} (hk : P.length = k) : (P ++ Q).getD (k + i) 0 = Q.getD i 0 := by
  subst hk
  simp [List.getD, List.getElem?_append_right]
theorem getD_hd {P Q : List UInt8} {i : Nat} (hi : i < P.length) : (P ++ Q).getD i 0 = P.getD i 0 := by
  simp [List.getD, List.getElem?_append_left hi]
theorem rawN_mid {P Q : List UInt8} {k w : Nat} {x : Int} (hk : P.length = k) (h0 : 0 ≤ x) (hb : x.toNat < 256 ^ w) : (rawN (P ++ (leB x w ++ Q)) k w : Int) = x := by
  rw [rawN_bytes w k x.toNat, Nat.mod_eq_of_lt hb]
  · omega
  · intro i hi
    rw [getD_app hk, getD_hd (by rw [leB_len]; exact hi)]
    simp [leB, byteAt, List.getD, List.getElem?_range hi]
theorem drop_app {P Q : List UInt8} {k : Nat} (hk : P.length = k) : (P ++ Q).drop k = Q := List.drop_left' hk
theorem zeroB_rep (n m : Nat) : zeroB ((List.replicate n (0 : UInt8)).take m) = true := by
  unfold zeroB; rw [List.all_eq_true]
  intro x hx
  have := List.mem_of_mem_take hx
  rw [(List.mem_replicate.1 this).2]; rfl
theorem keyPad_more (K : List Int) (n j : Nat) : ∀ d, ∃ X, keyPad K n (j + d) = keyPad K n j ++ X
  | 0 => ⟨[], by simp⟩
  | d + 1 => by
    obtain ⟨X, hX⟩ := keyPad_more K n j d
    exact ⟨_, by rw [← Nat.add_assoc, keyPad_succ, hX, List.append_assoc]⟩
theorem valPad_more (Vs : List (List UInt8)) (j : Nat) : ∀ d, ∃ X, valPad Vs (j + d) = valPad Vs j ++ X
  | 0 => ⟨[], by simp⟩
  | d + 1 => by
    obtain ⟨X, hX⟩ := valPad_more Vs j d
    exact ⟨_, by rw [← Nat.add_assoc, valPad_succ, hX, List.append_assoc]⟩
theorem keysErr_zero {l : List UInt8} : ∀ {n : Nat}, (∀ i, i < n → keyE l i = 0) → keysErr l n = 0
  | 0, _ => rfl
  | n + 1, h => keysErr_next (keysErr_zero fun i hi => h i (by omega)) (h n (by omega))
theorem getD_ext {l l' : List Int} (h : l.length = l'.length) (h2 : ∀ j, j < l.length → l.getD j 0 = l'.getD j 0) : l = l' := by
  apply List.ext_getElem h
  intro j h3 h4
  have := h2 j h3
  simpa [List.getD, h3, h4] using this
theorem getD_extV {l l' : List (List UInt8)} (h : l.length = l'.length) (h2 : ∀ j, j < l.length → l.getD j [] = l'.getD j []) : l = l' := by
  apply List.ext_getElem h
  intro j h3 h4
  have := h2 j h3
  simpa [List.getD, h3, h4] using this
/-- a node's bytes are read as that node -/
structure NodBack (b : List UInt8) (t : Int) (leaf : Bool) (n m v : Nat) (K : List Int) (Vs : List (List UInt8)) : Prop where
  len : b.length = 244
  e : nodeE b = 0
  t : nodT b = t
  l : nodL b = leaf
  c : nodC b = n
  k : keysI b n = K
  v : valsL b n = Vs
theorem nod_back {t : Int} {leaf : Bool} {n m v : Nat} {K : List Int} {Vs : List (List UInt8)} (N : NodeOk t leaf n m v K Vs) : NodBack (nodeP m v (headB t leaf n m v) K Vs n) t leaf n m v K Vs := by
  have hmb := maxN_pos t leaf
  rw [N.hm] at hmb
  have hwb := widN_bd t leaf
  rw [N.hv] at hwb
  have hfit := fitN t leaf
  rw [N.hm, N.hv] at hfit
  have ht1 := N.ht1
  have ht2 := N.ht2
  have hnm := N.hn
  have hform := nodeP_form (H := headB t leaf n m v) (K := K) (Vs := Vs) (headB_len _ _ _ _ _) hfit hnm (fun j hj => N.hw j hj)
  have hlen := nodeP_len (H := headB t leaf n m v) (K := K) (Vs := Vs) (headB_len _ _ _ _ _) hfit hnm (fun j hj => N.hw j hj)
  generalize nodeP m v (headB t leaf n m v) K Vs n = b at hform hlen
  obtain ⟨R, hR⟩ : ∃ R, b = headB t leaf n m v ++ R := ⟨_, by rw [hform, List.append_assoc, List.append_assoc]⟩
  have hfl := flagN_bd leaf
  have r0 : (rawN b 0 1 : Int) = flagN leaf := by
    rw [hR, headB]; simp only [List.append_assoc]
    exact rawN_mid (P := []) (k := 0) (w := 1) (x := flagN leaf) rfl hfl.1 (Nat.lt_of_le_of_lt (show (flagN leaf).toNat ≤ 255 by omega) (by decide))
  have r1 : (rawN b 1 1 : Int) = t := by
    rw [hR, headB]; simp only [List.append_assoc]
    exact rawN_mid (P := leB (flagN leaf) 1) (by rw [leB_len]) (by omega) (by omega)
  have r2 : (rawN b 2 2 : Int) = (n : Int) := by
    rw [hR, headB]; simp only [List.append_assoc]
    rw [← List.append_assoc]
    exact rawN_mid (P := leB (flagN leaf) 1 ++ leB t 1) (by simp [leB_len]) (by omega) (by omega)
  have r4 : (rawN b 4 2 : Int) = (v : Int) := by
    rw [hR, headB]; simp only [List.append_assoc]
    rw [← List.append_assoc, ← List.append_assoc]
    exact rawN_mid (P := leB (flagN leaf) 1 ++ leB t 1 ++ leB (n : Int) 2) (by simp [leB_len]) (by omega) (by omega)
  have r6 : (rawN b 6 2 : Int) = (m : Int) := by
    rw [hR, headB]; simp only [List.append_assoc]
    rw [← List.append_assoc, ← List.append_assoc, ← List.append_assoc]
    exact rawN_mid (P := leB (flagN leaf) 1 ++ leB t 1 ++ leB (n : Int) 2 ++ leB (v : Int) 2) (by simp [leB_len]) (by omega) (by omega)
  have r8 : (rawN b 8 4 : Int) = 0 := by
    rw [hR, headB]; simp only [List.append_assoc]
    rw [← List.append_assoc, ← List.append_assoc, ← List.append_assoc, ← List.append_assoc]
    exact rawN_mid (P := leB (flagN leaf) 1 ++ leB t 1 ++ leB (n : Int) 2 ++ leB (v : Int) 2 ++ leB (m : Int) 2) (by simp [leB_len]) (by omega) (by decide)
  have eT : nodT b = t := r1
  have eL : nodL b = leaf := by
    unfold nodL; rw [r0]; cases leaf <;> rfl
  have eC : nodC b = n := by unfold nodC; omega
  have eW : nodW b = v := by unfold nodW; rw [eT, eL, widG, if_pos ⟨ht1, ht2⟩]; exact N.hv
  have eM : nodM b = m := by unfold nodM; rw [eT, eL, maxG, if_pos ⟨ht1, ht2⟩]; exact N.hm
  have hkey : ∀ i, i < n → (keyN b i : Int) = K.getD i 0 := by
    intro i hi
    obtain ⟨X, hX⟩ := keyPad_more K n (i + 1) (m - (i + 1))
    rw [show i + 1 + (m - (i + 1)) = m by omega, keyPad_succ, if_pos hi] at hX
    unfold keyN
    rw [hform, hX]
    have hk := N.hk0 i hi
    have := rawN_mid (P := headB t leaf n m v ++ keyPad K n i) (Q := X ++ (valPad Vs n ++ List.replicate (232 - m * 8 - n * v) 0)) (k := 12 + i * 8) (w := 8) (x := K.getD i 0) (by rw [List.length_append, headB_len, keyPad_len]) hk.1 (Nat.lt_of_le_of_lt (show (K.getD i 0).toNat ≤ 281474976710655 by omega) (by decide))
    simp only [List.append_assoc] at this ⊢
    exact this
  have hval : ∀ i, i < n → valN b i = Vs.getD i [] := by
    intro i hi
    obtain ⟨X, hX⟩ := valPad_more Vs (i + 1) (n - (i + 1))
    rw [show i + 1 + (n - (i + 1)) = n by omega, valPad_succ] at hX
    have hvl : (valPad Vs i).length = i * v := valPad_len fun j hj => N.hw j (by omega)
    unfold valN
    rw [eM, eW, hform, hX]
    have := drop_app (P := headB t leaf n m v ++ keyPad K n m ++ valPad Vs i) (Q := Vs.getD i [] ++ (X ++ List.replicate (232 - m * 8 - n * v) 0)) (k := 12 + m * 8 + i * v) (by rw [List.length_append, List.length_append, headB_len, keyPad_len, hvl])
    simp only [List.append_assoc] at this ⊢
    rw [this]
    exact List.take_left' (N.hw i hi)
  have hmv : n * v ≤ m * v := Nat.mul_le_mul_right v hnm
  refine ⟨hlen, ?_, eT, eL, eC, ?_, ?_⟩
  · have hs : shapeB b = true := by
      unfold shapeB
      rw [eW, eM]
      refine decide_eq_true ⟨?_, by omega, by omega, by omega, by omega, by omega, ?_⟩
      · cases leaf <;> simp only [flagN] at r0 <;> simp at r0 <;> omega
      · cases leaf with
        | true => left; simp only [flagN] at r0; simp at r0; omega
        | false => right; have := N.hl rfl; omega
    have hz : nodeZ b = true := by
      unfold nodeZ node2 node1 node0
      rw [eC, eM, eW, Bool.and_eq_true]
      constructor
      · have hk := keyPad_zero K n (m - n)
        rw [show n + (m - n) = m by omega] at hk
        have := drop_app (P := headB t leaf n m v ++ keyPad K n n) (Q := List.replicate ((m - n) * 8) 0 ++ (valPad Vs n ++ List.replicate (232 - m * 8 - n * v) 0)) (k := 12 + n * 8) (by rw [List.length_append, headB_len, keyPad_len])
        rw [hform, hk]
        simp only [List.append_assoc] at this ⊢
        rw [this, List.take_append_of_le_length (by rw [List.length_replicate]; omega)]
        exact zeroB_rep _ _
      · have hvl : (valPad Vs n).length = n * v := valPad_len fun j hj => N.hw j hj
        have := drop_app (P := headB t leaf n m v ++ keyPad K n m ++ valPad Vs n) (Q := List.replicate (232 - m * 8 - n * v) 0) (k := 12 + m * 8 + n * v) (by rw [List.length_append, List.length_append, headB_len, keyPad_len, hvl])
        rw [hform, this]
        exact zeroB_rep _ _
    unfold nodeE
    rw [if_pos hs, if_pos hz, eC]
    refine keysErr_zero fun i hi => ?_
    have h1 := hkey i hi
    have h2 := N.hk0 i hi
    unfold keyE
    rw [if_neg (by omega), if_neg ?_]
    rintro ⟨h3, h4⟩
    have h5 := hkey (i - 1) (by omega)
    have h6 := N.hk1 (i - 1) (by omega)
    rw [show i - 1 + 1 = i by omega] at h6
    omega
  · exact getD_ext (by rw [keysI_len, N.hK]) fun j hj => by rw [keysI_len] at hj; rw [keysI_get b hj]; exact hkey j hj
  · exact getD_extV (by rw [valsL_len, N.hV]) fun j hj => by rw [valsL_len] at hj; rw [valsL_get b hj]; exact hval j hj
/-- and so in the block where it was written -/
theorem blk_back {t : Int} {leaf : Bool} {n m v : Nat} {K : List Int} {Vs : List (List UInt8)} (N : NodeOk t leaf n m v K Vs) {l : List UInt8} {j len : Nat} (hl : l.length = len) (hj : j < len / 256) (h4 : j < 14400) (hb : blkB l j = sealB 2 (j : Int) (nodeP m v (headB t leaf n m v) K Vs n)) (tree : Int) (ht : tree = 0 ∨ t = tree) :
    nodeErr l (j : Int) tree = 0 ∧ inB l (j : Int) = nodeP m v (headB t leaf n m v) K Vs n := by
  have B := nod_back N
  have hin : inB l (j : Int) = nodeP m v (headB t leaf n m v) K Vs n := by
    rw [inB_in (no := (j : Int)) (j := j) rfl, hb, in_seal (by rw [B.len]; decide)]
    unfold inSeal; rw [B.len]; simp
  refine ⟨?_, hin⟩
  unfold nodeErr
  rw [inE_in (no := (j : Int)) (j := j) hl rfl hj, hb, if_pos (open_seal (by decide) (by decide) (by omega) (by omega) (by rw [B.len]; decide)), hin]
  unfold nodeTE
  rw [if_pos B.e, if_pos (by rw [B.t]; exact ht)]
theorem root_leB {q : Nat} (h1 : 1 ≤ q) (h2 : q ≤ 14399) : rootE (leB (q : Int) 4) = 0 ∧ (rootN (leB (q : Int) 4) : Int) = (q : Int) := by
  have hr : (rawN (leB (q : Int) 4) 0 4 : Int) = (q : Int) := by
    have := rawN_mid (P := []) (Q := []) (k := 0) (w := 4) (x := (q : Int)) rfl (by omega) (Nat.lt_of_le_of_lt (show (q : Int).toNat ≤ 14399 by omega) (by decide))
    simpa using this
  have he : rootE (leB (q : Int) 4) = 0 := by
    unfold rootE; rw [if_pos (leB_len _ _), if_pos (by omega)]
  exact ⟨he, by unfold rootN; rw [if_pos he]; exact hr⟩
end Go.Proofs.YtolblnjohaooaaaGreat
namespace Go.Proofs.YtolblnjohaooaaaGreat
open Go.RowKit Go.Extern.Stop Go.Stop Go.Extern
set_option linter.unusedVariables false
attribute [local irreducible] wpList wpAnyH Code.wp Oper.wp Go

set_option maxRecDepth 100000 in
set_option maxHeartbeats 1000000 in
theorem value_root (w : World) :
    Calls Tryz.prog 41 #[] w (RetS (fun w' r => ∃ b, r = .slice (some ⟨b, 0, none⟩) 1 1 ∧ w.heap.size ≤ b ∧ Blk w' b [.int .i64 4, .int .i64 1, .int .i64 14399] 108) w) := by
 refine zin 3 Tryz.func41 ?_
 refine xbs 8 1 [.int .i64 4, .int .i64 1, .int .i64 14399] 108 fun b1 W1 n1 => ?_
 have g1 := n1.ge (Below.refl w.heap.size _)
 exact xe 4 (.slice (some ⟨b1, 0, none⟩) 1 1) ⟨_, rfl, n1.below, _, rfl, g1, n1.blk⟩
set_option maxRecDepth 100000 in
set_option maxHeartbeats 1000000 in
theorem value_put1 (gl gn : Nat) (n : Int) (h1 : 1 ≤ n) (h2 : n ≤ 14399) (w : World) (hl : Blk w gl [.int .i64 4, .int .i64 1, .int .i64 14399] 108) (hn : Blk w gn [.int .i64 n] 3) :
    Calls Tryz.prog 40 #[.slice (some ⟨gl, 0, none⟩) 1 1, .slice (some ⟨gn, 0, none⟩) 1 1] w (Ret (.string ⟨(leB n 4).toArray⟩) w) := by
 have hlo := h1
 have hhi := h2
 clear h2
 refine zin 51 Tryz.func40 ?_
 refine xu 19 2 ?_
 refine xlv 15 hl.rp ?_
 refine xa 0 [.int .i64 0, .int .i64 0, .int .i64 0] 108 fun b1 W1 n1 => ?_
 have d1_gl := n1.ne hl
 refine xsv 1 n1.blk [.int .i64 4, .int .i64 1, .int .i64 14399] fun W2 u2 k2 => ?_
 have g1 := n1.ge (Below.refl w.heap.size _)
 refine xd 4 .z ?_
 have hn'1 := (u2.blkT (hn.below n1.below) n1.blk (by decide)).below (below_drew W2)
 refine xb (.e [0, 1, 2] 3) 0 hn'1 ?_
 have k2'1 := k2.below (below_drew W2)
 refine xb (.e [4] 5) 1 k2'1 ?_
 refine xgk (.b [6, 7]) [23, 24] (show (decide (n < (1 : Int)) : Bool) = false from decide_eq_false (by omega)) ?_
 refine xb (.e [8, 9, 10] 11) 0 hn'1 ?_
 refine xb (.e [12] 13) 2 k2'1 ?_
 refine xk (.r [14, 15] 2) (show (decide (n > (14399 : Int)) : Bool) = false from decide_eq_false (by omega)) ?_
 refine xd 3 .z ?_
 have k2'2 := k2'1.below (below_drew W2.drew)
 refine xb (.e [0] 1) 0 k2'2 ?_
 have hn'2 := hn'1.below (below_drew W2.drew)
 refine xb (.e [2, 3, 4] 5) 0 hn'2 ?_
 refine xbs (.o [6] 7) 1 [.int .i64 4, .int .i64 n] 84 fun b4 W4 n4 => ?_
 refine yc (.o [] 8) (args := #[.slice (some ⟨b4, 0, none⟩) 1 1]) .z (Pack_4 b4 n (by omega) (by omega) _ n4.blk) ?_
 rintro _ W5 ⟨_, rfl, hb5, p2, c2, rfl, h2⟩
 have hs5 := (Bl.next (Bl.next (Bl.next (u2.below n1.below g1) (below_drew W2)) (below_drew W2.drew)) n4.below).size
 refine ⟨hb5, ?_⟩
 have o6 := World.ownsRow_nil W5 w.heap.size 5 1
 have h2'1 := own_mono h2 hs5
 have hB := Bl.next (Bl.next (Bl.next (Bl.next (u2.below n1.below g1) (below_drew W2)) (below_drew W2.drew)) n4.below) hb5
 refine xbi (.r [9, 10, 11, 12, 13] 5) fun _ _ _ _ zJ zQ zo zx zy zK => op_app (m := 4) (news := (leB n 4).map bv) (.int .u8 0) 1 1 (4) ((leB n 4).map bv) zo Tryz.underlying22 (by kernel_rfl) rfl (by decide) zx o6 zy (own_sl h2'1) (by simp [leB_len]) (bv_one _) (by unfold maxLen; omega) (by omega) hB.size (by rfl) (by simp) fun p7 c7 W7 o7 hg7 hb7 => ?_
 refine zK _ _ ?_
 refine xcv0 24 (fun _ _ _ zo zx => run_bstr zo zx (bys_of (own_sl o7) (leB_len _ _)) (leB_len _ _) Tryz.underlying22 Tryz.underlying5 Tryz.underlying9) ?_
 have hB'1 := hB.trans hb7
 exact xe 4 (.string ⟨(leB n 4).toArray⟩) ⟨rfl, hB'1⟩
set_option maxRecDepth 100000 in
set_option maxHeartbeats 1000000 in
theorem value_Root (n : Int) (h1 : 1 ≤ n) (h2 : n ≤ 14399) (w : World) :
    Calls Tryz.prog 31 #[.int .i64 n] w (Ret (.string ⟨(leB n 4).toArray⟩) w) := by
 refine zin 7 Tryz.func31 ?_
 refine xc 7 (args := #[]) (value_root _) ?_
 rintro _ W1 ⟨_, rfl, hb1, gl, rfl, gg, kl⟩
 refine xbs 1 1 [.int .i64 n] 3 fun b2 W2 n2 => ?_
 have kl'1 := kl.below n2.below
 refine xr 0 (args := #[.slice (some ⟨gl, 0, none⟩) 1 1, .slice (some ⟨b2, 0, none⟩) 1 1]) (value_put1 gl b2 n h1 h2 _ kl'1 n2.blk) fun W3 hb3 => ?_
 have hB := Bl.next (Bl.next hb1 n2.below) hb3
 exact xe 4 (.string ⟨(leB n 4).toArray⟩) ⟨rfl, hB⟩
end Go.Proofs.YtolblnjohaooaaaGreat
namespace Go.Proofs.YtolblnjohaooaaaGreat
open Go.RowKit Go.Extern.Stop Go.Stop Go.Extern
set_option linter.unusedVariables false
attribute [local irreducible] wpList wpAnyH Code.wp Oper.wp Go

theorem Sts.cut {α : Type} {f : α → List Value} {m : Nat} {w : World} {b : Option Addr} {c : Nat} {l : List α} (hm : ∀ x, (f x).length = m) (h : Sts f w (.slice b l.length c) l) (k : Nat) (hk : k ≤ l.length) : Sts f w (.slice (cutA b k c m) (l.drop k).length (c - k)) (l.drop k) := by
  have hlen : (l.drop k).length = l.length - k := by simp
  have hcap := Sl.cap h
  by_cases hkn : k = l.length
  · refine .inl ⟨cutA b k c m, c - k, by rw [show (l.drop k).length = 0 by omega], by omega, ?_⟩
    rw [List.drop_eq_nil_of_le (by omega)]; rfl
  rcases h with ⟨a', c', h1, h2, h3⟩ | ⟨g, off, cap, h1, h2, h3, h4⟩
  · omega
  · simp only [Value.slice.injEq] at h1
    obtain ⟨rfl, _, rfl⟩ := h1
    refine .inr ⟨g, off + k * m, c - k, ?_, by omega, by omega, fun j x hj => ?_⟩
    · rw [cutA, if_neg (by omega)]; simp [Addr.add]
    · have hfl : (l.drop k).flatMap f = (l.flatMap f).drop (k * m) := by
        conv => rhs; rw [← List.take_append_drop k l, List.flatMap_append]
        rw [List.drop_left' (by rw [flat_length hm, List.length_take, Nat.min_eq_left hk])]
      rw [hfl, List.getElem?_drop] at hj
      have := h4 _ _ hj
      rwa [← Nat.add_assoc] at this
theorem Al.only {B ba b g n c : Nat} {pa : Option Addr} {ca f N k : Nat} {l : List UInt8} {w W : World} {T : List TypeId} (h : Al B ba b g n c pa ca f N k l w) (hO : Only T w W) (hT : (T.contains 59 || T.contains 63 || T.contains 5 || T.contains 3) = false) : Al B ba b g n c pa ca f N k l W := by
  simp only [Bool.or_eq_false_iff] at hT
  exact ⟨h.blkA.only hO hT.1.1.1, h.blkI.only hO hT.1.1.2, own_only h.data hO hT.1.2, own_only h.nums hO hT.2⟩
/-- the entries of node i -/
def chunkE (l : List Ent) (m i : Nat) : List Ent := (l.drop (i * m)).take m
def keysE (c : List Ent) : List Int := c.map (·.1)
def valsE (c : List Ent) : List (List UInt8) := c.map (·.2.1)
/-- the bytes of a node -/
def nodB (t : Int) (leaf : Bool) (m v : Nat) (c : List Ent) : List UInt8 := nodeP m v (headB t leaf c.length m v) (keysE c) (valsE c) c.length
/-- a level's nodes laid from number q on -/
def levB (t : Int) (leaf : Bool) (m v : Nat) (l : List Ent) (q : Nat) (bs : List UInt8) : Nat → List UInt8
  | 0 => bs
  | i + 1 => putB (levB t leaf m v l q bs i) ((q + i) * 256) (sealB 2 ((q + i : Nat) : Int) (nodB t leaf m v (chunkE l m i)))
def upX (l : List Ent) (m q i : Nat) : Ent := (((chunkE l m i).getD 0 entD).1, leB ((q + i : Nat) : Int) 4, ((q + i : Nat) : Int))
/-- the entries of the level above -/
def upE (l : List Ent) (m q j : Nat) : List Ent := (List.range j).map (upX l m q)
theorem upE_succ (l : List Ent) (m q j : Nat) : upE l m q (j + 1) = upE l m q j ++ [upX l m q j] := by simp [upE, List.range_succ]
theorem upE_len (l : List Ent) (m q j : Nat) : (upE l m q j).length = j := by simp [upE]
theorem upE_get {l : List Ent} {m q j i : Nat} (h : i < j) : (upE l m q j).getD i entD = upX l m q i := by simp [upE, List.getD, List.getElem?_range h]
theorem chunk_len (l : List Ent) (m i : Nat) : (chunkE l m i).length = sizN l.length m i := by simp [chunkE, sizN]
theorem chunk_get {l : List Ent} {m i j : Nat} (h : j < sizN l.length m i) : (chunkE l m i).getD j entD = l.getD (i * m + j) entD := by
  unfold sizN at h
  simp [chunkE, List.getD, List.getElem?_take_of_lt (show j < m by omega), List.getElem?_drop]
theorem keysE_get {c : List Ent} {j : Nat} (h : j < c.length) : (keysE c).getD j 0 = (c.getD j entD).1 := by simp [keysE, List.getD, h]
theorem valsE_get {c : List Ent} {j : Nat} (h : j < c.length) : (valsE c).getD j [] = (c.getD j entD).2.1 := by simp [valsE, List.getD, h]
theorem keysE_len (c : List Ent) : (keysE c).length = c.length := by simp [keysE]
theorem valsE_len (c : List Ent) : (valsE c).length = c.length := by simp [valsE]
theorem siz_lt {n m i : Nat} (hm : 1 ≤ m) (hn : 1 ≤ n) (h : i < ovN n m) : i * m < n := by
  unfold ovN at h
  rcases Nat.eq_zero_or_pos i with rfl | hi
  · omega
  have h2 : i < (n + m - 1) / m := by omega
  have h3 := (Nat.lt_div_iff_mul_lt (by omega)).1 h2
  omega
theorem chunk_ok {t : Int} {leaf : Bool} {m v : Nat} {l : List Ent} (E : EntsOk v l) (h1 : 1 ≤ t) (h2 : t ≤ 5) (hm : maxN t leaf = m) (hv : widN t leaf = v) (hl : leaf = false → 1 ≤ l.length) {i : Nat} (hi : i < ovN l.length m) : NodeOk t leaf (chunkE l m i).length m v (keysE (chunkE l m i)) (valsE (chunkE l m i)) := by
  have hm1 := (maxN_pos t leaf).1
  rw [hm] at hm1
  have hlen := chunk_len l m i
  have hile := siz_le hm1 hi
  have hle : (chunkE l m i).length ≤ l.length - i * m := by rw [hlen]; unfold sizN; omega
  have key : ∀ j, j < (chunkE l m i).length → i * m + j < l.length ∧ (keysE (chunkE l m i)).getD j 0 = (l.getD (i * m + j) entD).1 ∧ (valsE (chunkE l m i)).getD j [] = (l.getD (i * m + j) entD).2.1 := fun j hj => by
    refine ⟨by omega, ?_, ?_⟩
    · rw [keysE_get hj, chunk_get (by omega)]
    · rw [valsE_get hj, chunk_get (by omega)]
  refine ⟨h1, h2, hm, hv, keysE_len _, valsE_len _, by rw [hlen]; unfold sizN; omega, fun h => ?_, fun j hj => ?_, fun j hj => ?_, fun j hj => ?_⟩
  · have := siz_lt hm1 (hl h) hi
    rw [hlen]; unfold sizN; omega
  · obtain ⟨a1, a2, _⟩ := key j hj
    rw [a2]; exact E.hk _ a1
  · obtain ⟨a1, a2, _⟩ := key j (by omega)
    obtain ⟨b1, b2, _⟩ := key (j + 1) hj
    rw [a2, b2]; exact E.hs _ (by omega)
  · obtain ⟨a1, _, a3⟩ := key j hj
    rw [a3]; exact E.hw _ a1
theorem nodB_len {t : Int} {leaf : Bool} {m v : Nat} {c : List Ent} (N : NodeOk t leaf c.length m v (keysE c) (valsE c)) : (nodB t leaf m v c).length = 244 := by
  have hf := fitN t leaf
  rw [N.hm, N.hv] at hf
  exact nodeP_len (headB_len _ _ _ _ _) hf N.hn (fun j hj => N.hw j hj)
theorem siz_elem {w : World} {b : Option Addr} {n m c : Nat} (h : Sl w (.slice b (ovN n m) c) (ovN n m) ((sizL n m).map nv)) {k : Nat} (hk : k < ovN n m) : b.isSome = true ∧ w.cell? (elemAddr b (k * 1)) = some (.int .i64 ((sizN n m k : Nat) : Int)) := by
  have := nv_elem h (sizL_len n m) hk
  rwa [show (sizL n m).getD k 0 = sizN n m k from by simp [sizL, List.getD, List.getElem?_range hk]] at this
theorem keys_take {l : List Ent} {j : Nat} (h : j < l.length) : ((keysE l).take (j + 1)).map (Value.int .i64) = ((keysE l).take j).map (Value.int .i64) ++ [.int .i64 (l.getD j entD).1] := by
  rw [List.take_succ_eq_append_getElem (by rw [keysE_len]; exact h)]
  simp [keysE, List.getD, h]
theorem vals_take {l : List Ent} {j : Nat} (h : j < l.length) : ((valsE l).take (j + 1)).map sv = ((valsE l).take j).map sv ++ [.string ⟨(l.getD j entD).2.1.toArray⟩] := by
  rw [List.take_succ_eq_append_getElem (by rw [valsE_len]; exact h)]
  simp [valsE, List.getD, h, sv]
theorem keys_chunk {l : List Ent} {m i s : Nat} (hs : sizN l.length m i = s) : (keysE (l.drop (i * m))).take s = keysE (chunkE l m i) := by
  subst hs
  unfold keysE chunkE sizN
  rw [← List.map_take]
  congr 1
  rw [List.take_eq_take_iff]; simp
theorem vals_chunk {l : List Ent} {m i s : Nat} (hs : sizN l.length m i = s) : (valsE (l.drop (i * m))).take s = valsE (chunkE l m i) := by
  subst hs
  unfold valsE chunkE sizN
  rw [← List.map_take]
  congr 1
  rw [List.take_eq_take_iff]; simp
theorem EntsOk.mono {v : Nat} {l : List Ent} (E : EntsOk v l) : ∀ {a b : Nat}, a < b → b < l.length → (l.getD a entD).1 < (l.getD b entD).1 := by
  intro a b h hb
  induction b with
  | zero => omega
  | succ b ih =>
    have h1 := E.hs b (by omega)
    rcases Nat.lt_or_ge a b with h2 | h2
    · have := ih h2 (by omega); omega
    · obtain rfl : a = b := by omega
      exact h1
theorem up_key {v : Nat} {l : List Ent} {m : Nat} (hm : 1 ≤ m) (hl : 1 ≤ l.length) {i q : Nat} (hi : i < ovN l.length m) : (upX l m q i).1 = (l.getD (i * m) entD).1 ∧ i * m < l.length := by
  have h := siz_lt hm hl hi
  refine ⟨?_, h⟩
  unfold upX
  rw [chunk_get (by unfold sizN; omega)]; rfl
theorem up_ok {v : Nat} {l : List Ent} (E : EntsOk v l) {m q : Nat} (hm : 1 ≤ m) : EntsOk 4 (upE l m q (ovN l.length m)) := by
  rcases Nat.eq_zero_or_pos l.length with h0 | hl
  · have h1 : ovN l.length m = 1 := by
      rw [h0]; unfold ovN
      have : (0 + m - 1) / m = 0 := Nat.div_eq_of_lt (by omega)
      omega
    have hnil : l = [] := List.eq_nil_of_length_eq_zero h0
    subst hnil
    constructor
    · intro i hi; rw [upE_len, h1] at hi; rw [upE_get (by omega)]; simp [upX, chunkE, entD]
    · intro j hj; rw [upE_len, h1] at hj; omega
    · intro i hi; rw [upE_len, h1] at hi; rw [upE_get (by omega)]; simp [upX, leB_len]
  constructor
  · intro i hi
    rw [upE_len] at hi
    obtain ⟨h1, h2⟩ := up_key (v := v) (q := q) hm hl hi
    rw [upE_get hi, h1]; exact E.hk _ h2
  · intro j hj
    rw [upE_len] at hj
    obtain ⟨h1, h2⟩ := up_key (v := v) (q := q) hm hl hj
    obtain ⟨h3, h4⟩ := up_key (v := v) (q := q) hm hl (show j < ovN l.length m by omega)
    rw [upE_get hj, upE_get (by omega), h1, h3]
    refine E.mono ?_ h2
    rw [Nat.add_mul]; omega
  · intro i hi
    rw [upE_len] at hi
    rw [upE_get hi]; simp [upX, leB_len]
/-- the levels above: the root's number, and the bytes -/
def treeUp (t : Int) (u : List Ent) (q : Nat) (bs : List UInt8) : Int × List UInt8 :=
  if h : u.length ≤ 1 then ((u.getD 0 entD).2.2, bs)
  else treeUp t (upE u 18 q (ovN u.length 18)) (q + ovN u.length 18) (levB t false 18 4 u q bs (ovN u.length 18))
termination_by u.length
decreasing_by rw [upE_len]; have := ov18 (x := u.length) (by omega); omega
theorem treeUp_one {t : Int} {u : List Ent} {q : Nat} {bs : List UInt8} (h : u.length ≤ 1) : treeUp t u q bs = ((u.getD 0 entD).2.2, bs) := by rw [treeUp]; simp [h]
theorem treeUp_more {t : Int} {u : List Ent} {q : Nat} {bs : List UInt8} (h : ¬ u.length ≤ 1) : treeUp t u q bs = treeUp t (upE u 18 q (ovN u.length 18)) (q + ovN u.length 18) (levB t false 18 4 u q bs (ovN u.length 18)) := by rw [treeUp]; simp [h]
/-- a packed tree laid from number q on -/
def treeB (t : Int) (l : List Ent) (q : Nat) (bs : List UInt8) : Int × List UInt8 :=
  treeUp t (upE l (maxN t true) q (ovN l.length (maxN t true))) (q + ovN l.length (maxN t true)) (levB t true (maxN t true) (widN t true) l q bs (ovN l.length (maxN t true)))
/-- the root is the last number -/
theorem treeUp_root {t : Int} {u : List Ent} {q : Nat} {bs : List UInt8} (h1 : 1 ≤ u.length) (hu : (u.getD (u.length - 1) entD).2.2 = ((q - 1 : Nat) : Int)) (hq : 1 ≤ q) : (treeUp t u q bs).1 = ((q - 1 + ((levs u.length).sum - u.length) : Nat) : Int) := by
  induction hx : u.length using Nat.strongRecOn generalizing u q bs with
  | _ x ih =>
    subst hx
    by_cases h : u.length ≤ 1
    · rw [treeUp_one h, levs_one h]
      rw [show u.length - 1 = 0 by omega] at hu
      show (u.getD 0 entD).2.2 = _
      rw [hu]; simp
    · have h18 := ov18 (x := u.length) (by omega)
      have hp := ovN_pos u.length 18
      rw [treeUp_more h, ih (ovN u.length 18) (by omega) (u := upE u 18 q (ovN u.length 18)) (q := q + ovN u.length 18) (by rw [upE_len]; exact hp) ?_ (by omega) (upE_len _ _ _ _), levs_more h]
      · have hge := levs_ge (ovN u.length 18)
        simp only [List.sum_cons]
        congr 1
        omega
      · rw [upE_len, upE_get (by omega)]
        simp only [upX]
        congr 1
        omega
/-- an allocator's next number q is handed out, and its block written -/
def LaidQ (B ba b g n c : Nat) (pa : Option Addr) (ca f N k : Nat) (l : List UInt8) (kind : Int) (li : List UInt8) (q : Nat) (w : World) (e : Ending) (w' : World) : Prop :=
  e = .returned (.tuple #[.int .i64 (q : Int), .nilIface]) ∧ Below B w w' ∧ Only [59, 5] w w' ∧ Fr [ba, g] w w' ∧ Al B ba b g n c pa ca f N (k + 1) (putB l (q * 256) (sealB kind (q : Int) li)) w'
theorem alloc_LayQ (B ba b g n c : Nat) (p : Option Addr) (ca f N k : Nat) (l : List UInt8) (kind : Int) (a : Option Addr) (ci : Nat) (li : List UInt8) (q n' : Nat) (w : World) (hq : f + k = q) (hn' : li.length = n') (hC : AlC B ba n c ca f N) (hA : Al B ba b g n c p ca f N k l w) (hkN : k < N) (h1 : 1 ≤ kind) (h2 : kind ≤ 4) (hin : ∀ W, Below B w W → Only [59] w W → Bys W (.slice a n' ci) li) (hl : n' ≤ 244) (hBw : B ≤ w.heap.size) :
    Calls Tryz.prog 30 #[.pointer (some ⟨ba, 0, none⟩), .int .i64 kind, .slice a n' ci] w (LaidQ B ba b g n c p ca f N k l kind li q w) := by
  subst hq hn'; exact alloc_Lay B ba b g n c p ca f N k l kind a ci li w hC hA hkN h1 h2 hin hl hBw
theorem up_row {l : List Ent} {m q i : Nat} {key : Int} (hk : key = ((chunkE l m i).getD 0 entD).1) : (upE l m q i).flatMap entC ++ [.int .i64 key, .string ⟨(leB ((q + i : Nat) : Int) 4).toArray⟩, .int .i64 ((q + i : Nat) : Int)] = (upE l m q (i + 1)).flatMap entC := by
  subst hk; rw [upE_succ]; simp [entC, upX]
theorem chunk_key {l : List Ent} {m i j : Nat} (hs : sizN l.length m i = j) (hj : 0 < j) : ((keysE (chunkE l m i))).getD 0 0 = ((chunkE l m i).getD 0 entD).1 := keysE_get (by rw [chunk_len]; omega)
theorem chunk_nokey {l : List Ent} {m i j : Nat} (hs : sizN l.length m i = j) (hj : j = 0) : (0 : Int) = ((chunkE l m i).getD 0 entD).1 := by
  have : chunkE l m i = [] := List.eq_nil_of_length_eq_zero (by rw [chunk_len]; omega)
  rw [this]; rfl
end Go.Proofs.YtolblnjohaooaaaGreat
namespace Go.Proofs.YtolblnjohaooaaaGreat
open Go.RowKit Go.Extern.Stop Go.Stop Go.Extern
set_option linter.unusedVariables false
attribute [local irreducible] wpList wpAnyH Code.wp Oper.wp Go

def kvE (x : Ent) : Int × List UInt8 := (x.1, x.2.1)
/-- the blocks of a level stand -/
def LaidF (F : List UInt8) (t : Int) (leaf : Bool) (m v : Nat) (u : List Ent) (q : Nat) : Prop :=
  ∀ i, i < ovN u.length m → blkB F (q + i) = sealB 2 ((q + i : Nat) : Int) (nodB t leaf m v (chunkE u m i))
theorem levB_succ {t : Int} {leaf : Bool} {m v : Nat} {l : List Ent} {q : Nat} {bs : List UInt8} (j : Nat) : levB t leaf m v l q bs (j + 1) = putB (levB t leaf m v l q bs j) ((q + j) * 256) (sealB 2 ((q + j : Nat) : Int) (nodB t leaf m v (chunkE l m j))) := rfl
set_option maxRecDepth 100000 in
theorem levB_laid {t : Int} {leaf : Bool} {m v : Nat} {l : List Ent} {q : Nat} {bs : List UInt8} (E : EntsOk v l) (h1 : 1 ≤ t) (h2 : t ≤ 5) (hm : maxN t leaf = m) (hv : widN t leaf = v) (hl : leaf = false → 1 ≤ l.length) (j : Nat) :
    j ≤ ovN l.length m → (q + j) * 256 ≤ bs.length → (levB t leaf m v l q bs j).length = bs.length ∧ (∀ i, i < j → blkB (levB t leaf m v l q bs j) (q + i) = sealB 2 ((q + i : Nat) : Int) (nodB t leaf m v (chunkE l m i))) ∧ (∀ x, x < q → blkB (levB t leaf m v l q bs j) x = blkB bs x) := by
  induction j with
  | zero => exact fun _ _ => ⟨rfl, fun i hi => absurd hi (Nat.not_lt_zero i), fun x _ => rfl⟩
  | succ j ih =>
    intro hj hq
    obtain ⟨a1, a2, a3⟩ := ih (by omega) (by omega)
    have hlen := nodB_len (chunk_ok E h1 h2 hm hv hl (show j < ovN l.length m by omega))
    have hsl : (sealB 2 ((q + j : Nat) : Int) (nodB t leaf m v (chunkE l m j))).length = 256 := sealB_len (by rw [hlen]; decide)
    rw [levB_succ]
    generalize levB t leaf m v l q bs j = y at a1 a2 a3 ⊢
    generalize hx : sealB 2 ((q + j : Nat) : Int) (nodB t leaf m v (chunkE l m j)) = x at hsl ⊢
    have hk : q + j < y.length / 256 := by rw [a1]; omega
    refine ⟨?_, fun i hi => ?_, fun z hz => ?_⟩
    · rw [putB_len (by rw [hsl, a1]; omega), a1]
    · by_cases e : i = j
      · subst e; rw [hx]; exact blkB_put hsl hk
      · rw [blkB_put_other hsl hk (by omega) (by omega)]; exact a2 i (by omega)
    · rw [blkB_put_other hsl hk (by omega) (by omega)]; exact a3 z hz
set_option maxRecDepth 100000 in
theorem treeUp_keep {t : Int} (h1 : 1 ≤ t) (h2 : t ≤ 5) (n : Nat) : ∀ (u : List Ent) (q : Nat) (bs : List UInt8), u.length = n → 1 ≤ n → EntsOk 4 u → (q + ((levs n).sum - n)) * 256 ≤ bs.length → (treeUp t u q bs).2.length = bs.length ∧ ∀ x, x < q → blkB (treeUp t u q bs).2 x = blkB bs x := by
  induction n using Nat.strongRecOn with
  | _ n ih =>
    intro u q bs hn h1n E hq
    subst hn
    by_cases h : u.length ≤ 1
    · rw [treeUp_one h]; exact ⟨rfl, fun _ _ => rfl⟩
    · have h18 := ov18 (x := u.length) (by omega)
      have hp := ovN_pos u.length 18
      have hlm : (levs u.length).sum = u.length + (levs (ovN u.length 18)).sum := by rw [levs_more h]; rfl
      have hg := levs_ge (ovN u.length 18)
      rw [treeUp_more h]
      obtain ⟨a1, a2, a3⟩ := levB_laid (t := t) (leaf := false) (m := 18) (v := 4) (l := u) (q := q) (bs := bs) E h1 h2 rfl rfl (fun _ => by omega) (ovN u.length 18) (Nat.le_refl _) (by omega)
      obtain ⟨b1, b2⟩ := ih (ovN u.length 18) (by omega) (upE u 18 q (ovN u.length 18)) (q + ovN u.length 18) (levB t false 18 4 u q bs (ovN u.length 18)) (upE_len _ _ _ _) hp (up_ok E (by decide)) (by rw [a1]; omega)
      exact ⟨by rw [b1, a1], fun x hx => by rw [b2 x (by omega), a3 x hx]⟩
theorem nodeok_sort {t : Int} {leaf : Bool} {n m v : Nat} {K : List Int} {Vs : List (List UInt8)} (N : NodeOk t leaf n m v K Vs) : SortP K := by
  intro k hk hk1
  rw [N.hK] at hk
  have := N.hk1 (k - 1) (by omega)
  rw [show k - 1 + 1 = k by omega] at this
  simpa [List.getD] using this
theorem look_ok {F : List UInt8} {way : List Int} {no t lo hi deep : Int} (hw : way.length < 16) (hway : ∀ y ∈ way, no ≠ y) (he : nodeErr F no t = 0) (hr : rightB lo hi = true) (hs : SortP (nodK F no)) (hk : ∀ x ∈ nodK F no, lo ≤ x ∧ x < hi)
    (hd : nodL (inB F no) = true → deep = 0 ∨ deep = ((way.length + 1 : Nat) : Int)) : lookE F way no t lo hi deep = 0 := by
  have hf : fitsI lo hi (nodK F no) = 0 := by unfold fitsI; rw [if_pos hr, if_pos hs, if_pos hk]
  have hh : hasI way no = false := by
    unfold hasI; rw [List.any_eq_false]
    intro y hy
    simpa using hway y hy
  unfold lookE
  rw [if_neg (by rw [hh]; simp), if_neg (by omega), if_neg (by rw [he]; simp)]
  unfold nodK at hf
  rw [if_neg (by rw [hf]; simp), if_neg (by rintro ⟨a, b, c⟩; rcases hd a with h | h; exact b h; exact c h)]
/-- the visits of a level's nodes: what stands below each, and how many nodes -/
structure Lev (F : List UInt8) (t fuel : Int) (h n base : Nat) (X : Nat → List (Int × List UInt8)) (C : Nat → Nat) : Prop where
  one : ∀ i, i < n → 1 ≤ C i
  go : ∀ i, i < n → ∀ (d : Nat) (way : List Int) (lo hi : Int) (s : WS), h + 1 ≤ d → way.length + h + 1 ≤ 16 → (∀ y ∈ way, ((base + n : Nat) : Int) ≤ y) → rightB lo hi = true → (∀ x ∈ X i, lo ≤ x.1 ∧ x.1 < hi) → s.dry = false → ((s.looked + C i : Nat) : Int) ≤ fuel → (s.deep = 0 ∨ s.deep = ((way.length + h + 1 : Nat) : Int)) →
    ∃ (es : List Ent) (bl : List Int), es.map kvE = X i ∧ bl.length = C i ∧ visitF F t fuel d way ((base + i : Nat) : Int) lo hi s = { s with es := s.es ++ es, bs := s.bs ++ bl, deep := ((way.length + h + 1 : Nat) : Int), looked := s.looked + C i }
theorem leaf_kv {c : List Ent} {no : Int} : (leafL (keysE c) (valsE c) no c.length).map kvE = c.map kvE := by
  unfold leafL
  apply List.ext_getElem?
  intro j
  by_cases h : j < c.length
  · simp [keysE, valsE, kvE, List.getD, h]
  · rw [List.getElem?_eq_none (by simp; omega), List.getElem?_eq_none (by simp; omega)]
set_option maxRecDepth 100000 in
theorem lev_leaf {F : List UInt8} {t fuel : Int} {l : List Ent} {base len m v : Nat} (hm : maxN t true = m) (hv : widN t true = v) (E : EntsOk v l) (h1 : 1 ≤ t) (h2 : t ≤ 5) (hF : LaidF F t true m v l base) (hl : F.length = len) (hb : (base + ovN l.length m) * 256 ≤ len) (h4 : base + ovN l.length m ≤ 14400) :
    Lev F t fuel 0 (ovN l.length m) base (fun i => (chunkE l m i).map kvE) (fun _ => 1) where
  one _ _ := Nat.le_refl _
  go i hi d way lo hi' s hd hw hway hr hX hdry hfu hdeep := by
    obtain ⟨d', rfl⟩ : ∃ d', d = d' + 1 := ⟨d - 1, by omega⟩
    have N := chunk_ok E h1 h2 hm hv (fun h => by cases h) hi
    have B := nod_back N
    obtain ⟨he, hin⟩ := blk_back N hl (by omega) (by omega) (hF i hi) t (.inr rfl)
    have hC : nodC (inB F ((base + i : Nat) : Int)) = (chunkE l m i).length := by rw [hin]; exact B.c
    have hK : nodK F ((base + i : Nat) : Int) = keysE (chunkE l m i) := by unfold nodK; rw [hC, hin]; exact B.k
    have hV : nodV F ((base + i : Nat) : Int) = valsE (chunkE l m i) := by unfold nodV; rw [hC, hin]; exact B.v
    have hL : nodL (inB F ((base + i : Nat) : Int)) = true := by rw [hin]; exact B.l
    have hk : ∀ x ∈ keysE (chunkE l m i), lo ≤ x ∧ x < hi' := by
      intro x hx
      obtain ⟨y, hy, rfl⟩ := List.mem_map.1 hx
      exact hX (kvE y) (List.mem_map.2 ⟨y, hy, rfl⟩)
    have hlook : lookE F way ((base + i : Nat) : Int) t lo hi' s.deep = 0 := look_ok (by omega) (fun y hy => by have := hway y hy; omega) he hr (by rw [hK]; exact nodeok_sort N) (by rw [hK]; exact hk) fun _ => hdeep
    refine ⟨leafL (keysE (chunkE l m i)) (valsE (chunkE l m i)) ((base + i : Nat) : Int) (chunkE l m i).length, [((base + i : Nat) : Int)], leaf_kv, rfl, ?_⟩
    unfold visitF
    rw [if_neg (by omega), if_neg (by rw [hlook]; simp), if_pos hL, hC, hK, hV]
theorem sum_rng_le {f : Nat → Nat} {a b : Nat} (h : a ≤ b) : ((List.range a).map f).sum ≤ ((List.range b).map f).sum := by
  obtain ⟨d, rfl⟩ : ∃ d, b = a + d := ⟨b - a, by omega⟩
  rw [List.range_add, List.map_append, List.sum_append]; omega
theorem part_snd {hi : Int} {K : List Int} {k : Nat} (hk : k < K.length) : (k + 1 < K.length ∧ (partAt hi K k).2 = K.getD (k + 1) 0) ∨ (k + 1 = K.length ∧ (partAt hi K k).2 = hi) := by
  by_cases q : k + 1 < K.length
  · left; exact ⟨q, by simp [partAt, List.getD, q]⟩
  · right; exact ⟨by omega, by simp only [partAt]; rw [List.getElem?_eq_none (by omega)]; rfl⟩
set_option maxRecDepth 100000 in
set_option maxHeartbeats 1000000 in
theorem lev_loop {F : List UInt8} {t fuel : Int} {h n base : Nat} {X : Nat → List (Int × List UInt8)} {C : Nat → Nat} (L : Lev F t fuel h n base X C) {way : List Int} {no hi' : Int} {s0 : WS} {z a d' : Nat} (K : List Int) (hK : nodK F no = K) (hKl : K.length = z) (hidx : a + z ≤ n)
    (hval : ∀ k, k < z → (nodV F no).getD k [] = leB ((base + (a + k) : Nat) : Int) 4) (hkk : ∀ k, k < z → ∃ v r, X (a + k) = (K.getD k 0, v) :: r) (hs : ∀ a b, a < b → b < n → ∀ x ∈ X a, ∀ y ∈ X b, x.1 < y.1) (hs1 : ∀ a, a < n → (X a).Pairwise fun x y => x.1 < y.1)
    (hk0 : ∀ k, k < z → 0 ≤ K.getD k 0 ∧ K.getD k 0 < hi') (hk1 : ∀ k, k + 1 < z → K.getD k 0 < K.getD (k + 1) 0) (hX2 : ∀ k, k < z → ∀ x ∈ X (a + k), x.1 < hi') (hhi : hi' ≤ 281474976710656) (hb1 : 1 ≤ base) (h4 : base + n ≤ 14400) (hd : h + 1 ≤ d') (hw : way.length + 1 + h + 1 ≤ 16) (hway : ∀ y ∈ way, ((base + n : Nat) : Int) ≤ y) (hno : ((base + n : Nat) : Int) ≤ no)
    (hdry : s0.dry = false) (hdeep : s0.deep = 0 ∨ s0.deep = ((way.length + (h + 1) + 1 : Nat) : Int)) (hfu : ((s0.looked + ((List.range z).map fun j => C (a + j)).sum : Nat) : Int) ≤ fuel) (k : Nat) :
    k ≤ z → ∃ (es : List Ent) (bl : List Int), es.map kvE = ((List.range k).flatMap fun j => X (a + j)) ∧ bl.length = ((List.range k).map fun j => C (a + j)).sum ∧
        loopW (visitF F t fuel d') F way no hi' k s0 = { s0 with es := s0.es ++ es, bs := s0.bs ++ bl, deep := if k = 0 then s0.deep else ((way.length + (h + 1) + 1 : Nat) : Int), looked := s0.looked + ((List.range k).map fun j => C (a + j)).sum } := by
  induction k with
  | zero => exact fun _ => ⟨[], [], rfl, rfl, by simp [loopW]⟩
  | succ k ih =>
    intro hk1z
    obtain ⟨es, bl, e1, e2, e3⟩ := ih (by omega)
    have hkl : k < z := by omega
    obtain ⟨r1, r2⟩ := root_leB (q := base + (a + k)) (by omega) (by omega)
    have hp1 : (partAt hi' (nodK F no) k).1 = K.getD k 0 := by rw [hK]; rfl
    have hp2 := part_snd (hi := hi') (K := K) (k := k) (by omega)
    rw [← hK] at hp2
    have hx1 : ∀ x ∈ X (a + k), K.getD k 0 ≤ x.1 := by
      intro x hx
      obtain ⟨v, r, hv⟩ := hkk k hkl
      have hpw := hs1 (a + k) (by omega)
      rw [hv] at hx hpw
      rcases List.mem_cons.1 hx with rfl | hx
      · exact Int.le_refl _
      · exact Int.le_of_lt ((List.pairwise_cons.1 hpw).1 x hx)
    have hx2 : ∀ x ∈ X (a + k), x.1 < (partAt hi' (nodK F no) k).2 := by
      intro x hx
      rcases hp2 with ⟨q1, q2⟩ | ⟨q1, q2⟩
      · rw [hK] at q1
        obtain ⟨v, r, hv⟩ := hkk (k + 1) (by omega)
        rw [q2, hK]
        exact hs (a + k) (a + (k + 1)) (by omega) (by omega) x hx (K.getD (k + 1) 0, v) (by rw [hv]; exact List.mem_cons_self)
      · rw [q2]; exact hX2 k hkl x hx
    have hr2 : rightB (partAt hi' (nodK F no) k).1 (partAt hi' (nodK F no) k).2 = true := by
      have g0 := hk0 k hkl
      refine decide_eq_true ?_
      rw [hp1]
      rcases hp2 with ⟨q1, q2⟩ | ⟨q1, q2⟩
      · rw [hK] at q1
        rw [q2, hK]
        have g1 := hk1 k (by omega)
        have g2 := hk0 (k + 1) (by omega)
        omega
      · rw [q2]; omega
    have hsum := sum_rng_le (f := fun j => C (a + j)) (show k + 1 ≤ z from hk1z)
    have hsucc : ((List.range (k + 1)).map fun j => C (a + j)).sum = ((List.range k).map fun j => C (a + j)).sum + C (a + k) := by rw [List.range_succ, List.map_append, List.sum_append]; simp
    rw [hsucc] at hsum
    have hfk : ((s0.looked + ((List.range k).map fun j => C (a + j)).sum + C (a + k) : Nat) : Int) ≤ fuel := by omega
    have hwl : (way ++ [no]).length = way.length + 1 := by simp
    obtain ⟨es2, bl2, g1, g2, g3⟩ := L.go (a + k) (by omega) d' (way ++ [no]) (partAt hi' (nodK F no) k).1 (partAt hi' (nodK F no) k).2 { s0 with es := s0.es ++ es, bs := s0.bs ++ bl, deep := if k = 0 then s0.deep else ((way.length + (h + 1) + 1 : Nat) : Int), looked := s0.looked + ((List.range k).map fun j => C (a + j)).sum } hd (by rw [hwl]; omega) (by
        intro y hy
        rcases List.mem_append.1 hy with q | q
        · exact hway y q
        · rw [List.mem_singleton.1 q]; exact hno) hr2 (fun x hx => ⟨by rw [hp1]; exact hx1 x hx, hx2 x hx⟩) hdry hfk (by
        rw [hwl, show way.length + 1 + h + 1 = way.length + (h + 1) + 1 by omega]
        by_cases q : k = 0
        · rcases hdeep with d | d
          · exact .inl (by show (if k = 0 then s0.deep else _) = 0; rw [if_pos q]; exact d)
          · exact .inr (by show (if k = 0 then s0.deep else _) = _; rw [if_pos q]; exact d)
        · exact .inr (by show (if k = 0 then s0.deep else _) = _; rw [if_neg q]))
    refine ⟨es ++ es2, bl ++ bl2, ?_, ?_, ?_⟩
    · rw [List.map_append, e1, g1, List.range_succ, List.flatMap_append]; simp
    · rw [List.length_append, e2, g2, hsucc]
    · rw [loopW_succ, e3]
      unfold roundW
      rw [if_neg (by rw [hdry]; simp)]
      unfold childW
      rw [hval k hkl, if_pos r1, r2, g3, hsucc, if_neg (Nat.succ_ne_zero k), hwl, show way.length + 1 + h + 1 = way.length + (h + 1) + 1 by omega, List.append_assoc, List.append_assoc]
      simp only [WS.mk.injEq, true_and, and_true]
      omega
set_option maxRecDepth 100000 in
set_option maxHeartbeats 1000000 in
theorem lev_inner {F : List UInt8} {t fuel : Int} {h n base len : Nat} {X : Nat → List (Int × List UInt8)} {C : Nat → Nat} {u : List Ent} (L : Lev F t fuel h n base X C) (hn : u.length = n) (hu : ∀ k, k < n → (u.getD k entD).2.1 = leB ((base + k : Nat) : Int) 4) (hh : ∀ k, k < n → ∃ v r, X k = ((u.getD k entD).1, v) :: r)
    (hs : ∀ a b, a < b → b < n → ∀ x ∈ X a, ∀ y ∈ X b, x.1 < y.1) (hs1 : ∀ a, a < n → (X a).Pairwise fun x y => x.1 < y.1) (E : EntsOk 4 u) (h1 : 1 ≤ t) (h2 : t ≤ 5) (hn1 : 1 ≤ n) (hb1 : 1 ≤ base) (hF : LaidF F t false 18 4 u (base + n)) (hl : F.length = len) (hb : (base + n + ovN n 18) * 256 ≤ len) (h4 : base + n + ovN n 18 ≤ 14400) :
    Lev F t fuel (h + 1) (ovN n 18) (base + n) (fun i => (List.range (sizN n 18 i)).flatMap fun j => X (i * 18 + j)) (fun i => 1 + ((List.range (sizN n 18 i)).map fun j => C (i * 18 + j)).sum) where
  one _ _ := Nat.le_add_right _ _
  go i hi d way lo hi' s hd hw hway hr hX hdry hfu hdeep := by
    subst hn
    obtain ⟨d', rfl⟩ : ∃ d', d = d' + 1 := ⟨d - 1, by omega⟩
    have N := chunk_ok E h1 h2 (leaf := false) (m := 18) (v := 4) rfl rfl (fun _ => hn1) hi
    have B := nod_back N
    obtain ⟨he, hin⟩ := blk_back N hl (by omega) (by omega) (hF i hi) t (.inr rfl)
    have hilt := siz_lt (m := 18) (by decide) hn1 hi
    have hzl := chunk_len u 18 i
    have hget : ∀ j, j < sizN u.length 18 i → (chunkE u 18 i).getD j entD = u.getD (i * 18 + j) entD := fun j hj => chunk_get hj
    have hz1 : 1 ≤ sizN u.length 18 i := by unfold sizN; omega
    have hz2 : i * 18 + sizN u.length 18 i ≤ u.length := by unfold sizN; omega
    replace hX : ∀ x ∈ (List.range (sizN u.length 18 i)).flatMap (fun j => X (i * 18 + j)), lo ≤ x.1 ∧ x.1 < hi' := hX
    replace hfu : ((s.looked + (1 + ((List.range (sizN u.length 18 i)).map fun j => C (i * 18 + j)).sum) : Nat) : Int) ≤ fuel := hfu
    show ∃ (es : List Ent) (bl : List Int), es.map kvE = (List.range (sizN u.length 18 i)).flatMap (fun j => X (i * 18 + j)) ∧ bl.length = 1 + ((List.range (sizN u.length 18 i)).map fun j => C (i * 18 + j)).sum ∧ visitF F t fuel (d' + 1) way ((base + u.length + i : Nat) : Int) lo hi' s = { s with es := s.es ++ es, bs := s.bs ++ bl, deep := ((way.length + (h + 1) + 1 : Nat) : Int), looked := s.looked + (1 + ((List.range (sizN u.length 18 i)).map fun j => C (i * 18 + j)).sum) }
    generalize sizN u.length 18 i = z at hzl hget hz1 hz2 hX hfu ⊢
    obtain ⟨no, hno⟩ : ∃ no : Int, no = ((base + u.length + i : Nat) : Int) := ⟨_, rfl⟩
    rw [← hno] at he hin ⊢
    have hC : nodC (inB F no) = (chunkE u 18 i).length := by rw [hin]; exact B.c
    have hK : nodK F no = keysE (chunkE u 18 i) := by unfold nodK; rw [hC, hin]; exact B.k
    have hV : nodV F no = valsE (chunkE u 18 i) := by unfold nodV; rw [hC, hin]; exact B.v
    have hL : nodL (inB F no) = false := by rw [hin]; exact B.l
    have hKl : (keysE (chunkE u 18 i)).length = z := by rw [keysE_len, hzl]
    have hVl : (valsE (chunkE u 18 i)).length = z := by rw [valsE_len, hzl]
    have key : ∀ j, j < z → (keysE (chunkE u 18 i)).getD j 0 = (u.getD (i * 18 + j) entD).1 := fun j hj => by rw [keysE_get (by rw [hzl]; exact hj), hget j hj]
    have vals : ∀ j, j < z → (valsE (chunkE u 18 i)).getD j [] = (u.getD (i * 18 + j) entD).2.1 := fun j hj => by rw [valsE_get (by rw [hzl]; exact hj), hget j hj]
    have hkk0 : ∀ j, j < z → 0 ≤ (keysE (chunkE u 18 i)).getD j 0 ∧ (keysE (chunkE u 18 i)).getD j 0 ≤ 281474976710655 := fun j hj => N.hk0 j (by rw [hzl]; exact hj)
    have hkk1 : ∀ j, j + 1 < z → (keysE (chunkE u 18 i)).getD j 0 < (keysE (chunkE u 18 i)).getD (j + 1) 0 := fun j hj => N.hk1 j (by rw [hzl]; exact hj)
    have hsort := nodeok_sort N
    have hcz : (chunkE u 18 i).length = z := hzl
    generalize keysE (chunkE u 18 i) = K at hK hKl key hkk0 hkk1 hsort
    generalize valsE (chunkE u 18 i) = Vs at hV hVl vals
    rw [hcz] at hC
    have hX2 : ∀ j, j < z → ∀ x ∈ X (i * 18 + j), lo ≤ x.1 ∧ x.1 < hi' := fun j hj x hx => hX x (List.mem_flatMap.2 ⟨j, List.mem_range.2 hj, hx⟩)
    have hhead : ∀ j, j < z → ∃ v r, X (i * 18 + j) = (K.getD j 0, v) :: r := fun j hj => by rw [key j hj]; exact hh _ (by omega)
    have hkb : ∀ j, j < z → lo ≤ K.getD j 0 ∧ K.getD j 0 < hi' := by
      intro j hj
      obtain ⟨v, r, hv⟩ := hhead j hj
      exact hX2 j hj (K.getD j 0, v) (by rw [hv]; exact List.mem_cons_self)
    have hk : ∀ x ∈ K, lo ≤ x ∧ x < hi' := by
      intro x hx
      obtain ⟨j, hj, rfl⟩ := List.mem_iff_getElem.1 hx
      have := hkb j (by omega)
      simpa [List.getD, hj] using this
    have hrb := of_decide_eq_true hr
    have hlook : lookE F way no t lo hi' s.deep = 0 := look_ok (by omega) (fun y hy => by have := hway y hy; omega) he hr (by rw [hK]; exact hsort) (by rw [hK]; exact hk) fun q => by rw [hL] at q; cases q
    obtain ⟨es, bl, e1, e2, e3⟩ := lev_loop L (way := way) (no := no) (hi' := hi') (s0 := { s with looked := s.looked + 1, bs := s.bs ++ [no] }) (z := z) (a := i * 18) (d' := d') K hK hKl hz2
      (fun k hk => by rw [hV, vals k hk]; exact hu _ (by omega)) hhead hs hs1 (fun k hk => ⟨(hkk0 k hk).1, (hkb k hk).2⟩) hkk1 (fun k hk x hx => (hX2 k hk x hx).2) hrb.2.2 hb1 (by omega) (by omega) (by omega) (fun y hy => by have := hway y hy; omega) (by omega) hdry (by rw [show way.length + (h + 1) + 1 = way.length + (h + 1) + 1 from rfl]; exact hdeep) (by simp only; omega) z (Nat.le_refl _)
    refine ⟨es, no :: bl, e1, by rw [List.length_cons, e2]; omega, ?_⟩
    unfold visitF
    rw [if_neg (by omega), if_neg (by rw [hlook]; simp), if_neg (by rw [hL]; simp), hC, e3, if_neg (by omega)]
    simp only [WS.mk.injEq, List.append_assoc, List.singleton_append, true_and, and_true]
    omega
end Go.Proofs.YtolblnjohaooaaaGreat
namespace Go.Proofs.YtolblnjohaooaaaGreat
open Go.RowKit Go.Extern.Stop Go.Stop Go.Extern
set_option linter.unusedVariables false
attribute [local irreducible] wpList wpAnyH Code.wp Oper.wp Go

theorem chunks_sum {n m : Nat} (hm : 1 ≤ m) (C : Nat → Nat) : ∀ j, j ≤ ovN n m → ((List.range j).map fun i => 1 + ((List.range (sizN n m i)).map fun k => C (i * m + k)).sum).sum = j + ((List.range (min (j * m) n)).map C).sum
  | 0, _ => by simp
  | j + 1, hj => by
    have hle := siz_le hm (show j < ovN n m by omega)
    have e : min ((j + 1) * m) n = j * m + sizN n m j := by unfold sizN; rw [Nat.add_mul, Nat.one_mul]; omega
    rw [List.range_succ, List.map_append, List.sum_append, chunks_sum hm C j (by omega), e, List.range_add, List.map_append, List.sum_append, Nat.min_eq_left hle]
    simp only [List.map_cons, List.map_nil, List.sum_cons, List.sum_nil, List.map_map]
    have : ((List.range (sizN n m j)).map fun k => C (j * m + k)) = (List.range (sizN n m j)).map (C ∘ fun x => j * m + x) := rfl
    rw [this]; omega
theorem chunks_flat {α : Type} {n m : Nat} (hm : 1 ≤ m) (X : Nat → List α) : ∀ j, j ≤ ovN n m → ((List.range j).flatMap fun i => (List.range (sizN n m i)).flatMap fun k => X (i * m + k)) = (List.range (min (j * m) n)).flatMap X
  | 0, _ => by simp
  | j + 1, hj => by
    have hle := siz_le hm (show j < ovN n m by omega)
    have e : min ((j + 1) * m) n = j * m + sizN n m j := by unfold sizN; rw [Nat.add_mul, Nat.one_mul]; omega
    rw [List.range_succ, List.flatMap_append, chunks_flat hm X j (by omega), e, List.range_add, List.flatMap_append, Nat.min_eq_left hle]
    simp [List.flatMap_map]
theorem ov_all {n m : Nat} (hm : 1 ≤ m) : min (ovN n m * m) n = n := by
  have h := Nat.div_add_mod (n + m - 1) m
  have h2 := Nat.mod_lt (n + m - 1) (show 0 < m by omega)
  have h3 : (n + m - 1) / m * m ≤ ovN n m * m := Nat.mul_le_mul_right m (by unfold ovN; omega)
  rw [Nat.mul_comm] at h
  omega
/-- what a scan of a level's only node finds -/
def FoundW (X : List (Int × List UInt8)) (total deep : Nat) (w : WS) : Prop := ∃ (es : List Ent) (bl : List Int), es.map kvE = X ∧ bl.length = total ∧ w = ⟨es, bl, (deep : Int), total, [], false⟩
set_option maxRecDepth 100000 in
set_option maxHeartbeats 1000000 in
theorem treeUp_scan {t fuel : Int} (h1 : 1 ≤ t) (h2 : t ≤ 5) (n : Nat) : ∀ (u : List Ent) (h base : Nat) (bs F : List UInt8) (X : Nat → List (Int × List UInt8)) (C : Nat → Nat), u.length = n → 1 ≤ n → EntsOk 4 u → (∀ k, k < n → (u.getD k entD).2.1 = leB ((base + k : Nat) : Int) 4 ∧ (u.getD k entD).2.2 = ((base + k : Nat) : Int)) →
    (2 ≤ n → ∀ k, k < n → ∃ v r, X k = ((u.getD k entD).1, v) :: r) → (∀ a b, a < b → b < n → ∀ x ∈ X a, ∀ y ∈ X b, x.1 < y.1) → (∀ a, a < n → (X a).Pairwise fun x y => x.1 < y.1) → F = (treeUp t u (base + n) bs).2 → 1 ≤ base → (base + n + ((levs n).sum - n)) * 256 ≤ bs.length → base + n + ((levs n).sum - n) ≤ 14400 → Lev F t fuel h n base X C → h + (levs n).length ≤ 16 →
    (∀ k, k < n → ∀ x ∈ X k, 0 ≤ x.1 ∧ x.1 < 281474976710656) → ((((List.range n).map C).sum + ((levs n).sum - n) : Nat) : Int) ≤ fuel →
    FoundW ((List.range n).flatMap X) (((List.range n).map C).sum + ((levs n).sum - n)) (h + (levs n).length) (scanW F (treeUp t u (base + n) bs).1 t fuel) := by
  induction n using Nat.strongRecOn with
  | _ n ih =>
    intro u h base bs F X C hn hn1 E hu hh hs hs1 hF hb1 hbs h4 L hdep hX hfu
    subst hn
    by_cases h9 : u.length ≤ 1
    · have h10 : u.length = 1 := by omega
      have hl1 : levs u.length = [1] := by rw [levs_one h9, h10]
      rw [hl1] at hdep hfu ⊢
      rw [h10] at hfu ⊢
      simp only [List.length_cons, List.length_nil, List.sum_cons, List.sum_nil, List.range_one, List.map_cons, List.map_nil, List.flatMap_cons, List.flatMap_nil, List.append_nil, Nat.sub_self, Nat.add_zero] at hdep hfu ⊢
      rw [treeUp_one h9, (hu 0 (by omega)).2]
      obtain ⟨es, bl, e1, e2, e3⟩ := L.go 0 (by omega) 17 [] 0 281474976710656 ws0 (by omega) (by simp; omega) (fun y hy => by cases hy) (by decide) (fun x hx => hX 0 (by omega) x hx) rfl (by simp only [ws0]; omega) (.inl rfl)
      refine ⟨es, bl, e1, e2, ?_⟩
      unfold scanW
      rw [e3]
      simp [ws0]
    · have h18 := ov18 (x := u.length) (by omega)
      have hp := ovN_pos u.length 18
      have hlm : levs u.length = u.length :: levs (ovN u.length 18) := levs_more h9
      have hg := levs_ge (ovN u.length 18)
      rw [hlm] at hbs h4 hdep hfu
      simp only [List.sum_cons, List.length_cons] at hbs h4 hdep hfu
      obtain ⟨a1, a2, a3⟩ := levB_laid (t := t) (leaf := false) (m := 18) (v := 4) (l := u) (q := base + u.length) (bs := bs) E h1 h2 rfl rfl (fun _ => by omega) (ovN u.length 18) (Nat.le_refl _) (by omega)
      obtain ⟨b1, b2⟩ := treeUp_keep (t := t) h1 h2 (ovN u.length 18) (upE u 18 (base + u.length) (ovN u.length 18)) (base + u.length + ovN u.length 18) (levB t false 18 4 u (base + u.length) bs (ovN u.length 18)) (upE_len _ _ _ _) hp (up_ok E (by decide)) (by rw [a1]; omega)
      have hF2 : F = (treeUp t (upE u 18 (base + u.length) (ovN u.length 18)) (base + u.length + ovN u.length 18) (levB t false 18 4 u (base + u.length) bs (ovN u.length 18))).2 := by rw [hF, treeUp_more h9]
      have hlen : F.length = bs.length := by rw [hF2, b1, a1]
      have hLaid : LaidF F t false 18 4 u (base + u.length) := by
        intro i hi
        rw [hF2, b2 _ (by omega)]; exact a2 i hi
      have L2 := lev_inner L rfl (fun k hk => (hu k hk).1) (hh (by omega)) hs hs1 E h1 h2 hn1 hb1 hLaid hlen (by omega) (by omega)
      have hsz : ∀ i, sizN u.length 18 i = min 18 (u.length - i * 18) := fun i => rfl
      have hsl : ∀ i, i < ovN u.length 18 → i * 18 < u.length := fun i hi => siz_lt (by decide) hn1 hi
      have hall := ov_all (n := u.length) (m := 18) (by decide)
      have hsum := chunks_sum (n := u.length) (m := 18) (by decide) C (ovN u.length 18) (Nat.le_refl _)
      have hflat := chunks_flat (n := u.length) (m := 18) (by decide) X (ovN u.length 18) (Nat.le_refl _)
      rw [hall] at hsum hflat
      have key := ih (ovN u.length 18) (by omega) (upE u 18 (base + u.length) (ovN u.length 18)) (h + 1) (base + u.length) (levB t false 18 4 u (base + u.length) bs (ovN u.length 18)) F (fun i => (List.range (sizN u.length 18 i)).flatMap fun j => X (i * 18 + j)) (fun i => 1 + ((List.range (sizN u.length 18 i)).map fun j => C (i * 18 + j)).sum) (upE_len _ _ _ _) hp (up_ok E (by decide)) (fun k hk => by rw [upE_get hk]; exact ⟨rfl, rfl⟩)
        (fun _ k hk => by
          obtain ⟨v, r, hv⟩ := hh (by omega) (k * 18) (hsl k hk)
          obtain ⟨z, hz⟩ : ∃ z, sizN u.length 18 k = z + 1 := ⟨sizN u.length 18 k - 1, by have := hsl k hk; rw [hsz]; omega⟩
          refine ⟨v, r ++ (List.range z).flatMap fun j => X (k * 18 + (j + 1)), ?_⟩
          show (List.range (sizN u.length 18 k)).flatMap _ = _
          rw [hz, List.range_succ_eq_map, List.flatMap_cons, Nat.add_zero, hv, upE_get hk, (up_key (v := 4) (by decide) hn1 hk).1, List.flatMap_map]
          rfl)
        (fun a b hab hb x hx y hy => by
          obtain ⟨j, hj, hx⟩ := List.mem_flatMap.1 hx
          obtain ⟨j2, hj2, hy⟩ := List.mem_flatMap.1 hy
          have hj := List.mem_range.1 hj
          have hj2 := List.mem_range.1 hj2
          rw [hsz] at hj hj2
          have : (a + 1) * 18 ≤ b * 18 := Nat.mul_le_mul_right 18 hab
          exact hs (a * 18 + j) (b * 18 + j2) (by omega) (by omega) x hx y hy)
        (fun a ha => by
          refine List.pairwise_flatMap.2 ⟨fun j hj => ?_, ?_⟩
          · have hj := List.mem_range.1 hj
            rw [hsz] at hj
            exact hs1 _ (by omega)
          · refine List.Pairwise.imp_of_mem ?_ (List.pairwise_lt_range)
            intro j j2 hj hj2 hlt x hx y hy
            have hj2 := List.mem_range.1 hj2
            rw [hsz] at hj2
            exact hs (a * 18 + j) (a * 18 + j2) (by omega) (by omega) x hx y hy)
        hF2 (by omega) (by rw [a1]; omega) (by omega) L2 (by omega)
        (fun k hk x hx => by
          obtain ⟨j, hj, hx⟩ := List.mem_flatMap.1 hx
          have hj := List.mem_range.1 hj
          rw [hsz] at hj
          exact hX _ (by omega) x hx)
        (by rw [hsum]; omega)
      rw [hsum, hflat] at key
      rw [treeUp_more h9, hlm, List.sum_cons, List.length_cons]
      have e1 : ovN u.length 18 + ((List.range u.length).map C).sum + ((levs (ovN u.length 18)).sum - ovN u.length 18) = ((List.range u.length).map C).sum + (u.length + (levs (ovN u.length 18)).sum - u.length) := by omega
      have e2 : h + 1 + (levs (ovN u.length 18)).length = h + ((levs (ovN u.length 18)).length + 1) := by omega
      rw [e1, e2] at key
      exact key
set_option maxRecDepth 100000 in
set_option maxHeartbeats 1000000 in
theorem levs_short : ∀ (k x : Nat), x ≤ 18 ^ k → (levs x).length ≤ k + 1
  | 0, x, h => by rw [levs_one (by simpa using h)]; simp
  | k + 1, x, h => by
    by_cases h1 : x ≤ 1
    · rw [levs_one h1]; simp
    · rw [levs_more h1, List.length_cons]
      have : ovN x 18 ≤ 18 ^ k := by
        rw [Nat.pow_succ] at h
        have hp : 0 < 18 ^ k := Nat.pow_pos (by decide)
        unfold ovN
        have : (x + 18 - 1) / 18 ≤ 18 ^ k := by
          rw [Nat.div_le_iff_le_mul_add_pred (by decide)]; omega
        omega
      have := levs_short k _ this
      omega
theorem chunk_flat {l : List Ent} {m : Nat} : ∀ j, ((List.range j).flatMap fun i => (chunkE l m i).map kvE) = (l.take (j * m)).map kvE
  | 0 => by simp
  | j + 1 => by
    rw [List.range_succ, List.flatMap_append, chunk_flat j, Nat.add_mul, Nat.one_mul, List.take_add, List.map_append]
    simp [chunkE]
theorem sum_one (n : Nat) : ((List.range n).map fun _ => 1).sum = n := by
  induction n with
  | zero => rfl
  | succ n ih => rw [List.range_succ, List.map_append, List.sum_append, ih]; simp
set_option maxRecDepth 100000 in
set_option maxHeartbeats 1000000 in
/-- a packed tree is scanned: its entries, its blocks, no faults -/
theorem treeB_scan {t fuel : Int} {l : List Ent} {q : Nat} {bs : List UInt8} (h1 : 1 ≤ t) (h2 : t ≤ 5) (E : EntsOk (widN t true) l) (hn : l.length ≤ 32768) (hq : 1 ≤ q) (hbs : (q + nodN t l.length) * 256 ≤ bs.length) (h4 : q + nodN t l.length ≤ 14400) (hfu : (nodN t l.length : Int) ≤ fuel) :
    FoundW (l.map kvE) (nodN t l.length) (levL t l.length).length (scanW (treeB t l q bs).2 (treeB t l q bs).1 t fuel) := by
  obtain ⟨m, hm⟩ : ∃ m, maxN t true = m := ⟨_, rfl⟩
  obtain ⟨v, hv⟩ : ∃ v, widN t true = v := ⟨_, rfl⟩
  have hmb := maxN_pos t true
  have h6 : 6 ≤ maxN t true := by unfold maxN; repeat' split
                                  all_goals first | decide | simp_all
  have hop := ovN_pos l.length m
  have hg := levs_ge (ovN l.length m)
  have hN : nodN t l.length = (levs (ovN l.length m)).sum := by unfold nodN levL; rw [hm]
  have hT : treeB t l q bs = treeUp t (upE l m q (ovN l.length m)) (q + ovN l.length m) (levB t true m v l q bs (ovN l.length m)) := by unfold treeB; rw [hm, hv]
  have hD : (levL t l.length).length = 0 + (levs (ovN l.length m)).length := by unfold levL; rw [hm, Nat.zero_add]
  rw [hv] at E
  rw [hm] at hmb h6
  rw [hN] at hbs h4 hfu ⊢
  rw [hD, hT]
  obtain ⟨a1, a2, a3⟩ := levB_laid (t := t) (leaf := true) (m := m) (v := v) (l := l) (q := q) (bs := bs) E h1 h2 hm hv (fun h => by cases h) (ovN l.length m) (Nat.le_refl _) (by omega)
  obtain ⟨b1, b2⟩ := treeUp_keep (t := t) h1 h2 (ovN l.length m) (upE l m q (ovN l.length m)) (q + ovN l.length m) (levB t true m v l q bs (ovN l.length m)) (upE_len _ _ _ _) hop (up_ok E hmb.1) (by rw [a1]; omega)
  have hlen : (treeUp t (upE l m q (ovN l.length m)) (q + ovN l.length m) (levB t true m v l q bs (ovN l.length m))).2.length = bs.length := by rw [b1, a1]
  have hLaid : LaidF (treeUp t (upE l m q (ovN l.length m)) (q + ovN l.length m) (levB t true m v l q bs (ovN l.length m))).2 t true m v l q := by
    intro i hi
    rw [b2 _ (by omega)]; exact a2 i hi
  have L := lev_leaf (fuel := fuel) hm hv E h1 h2 hLaid hlen (by omega) (by omega)
  have hov : ovN l.length m ≤ 5833 := by
    unfold ovN
    have : (l.length + m - 1) / m ≤ 5833 := by
      rw [Nat.div_le_iff_le_mul_add_pred (by omega)]
      have := Nat.mul_le_mul_right 5833 h6
      omega
    omega
  have hdep := levs_short 4 (ovN l.length m) (Nat.le_trans hov (by decide))
  have hget : ∀ {i j : Nat}, j < sizN l.length m i → i * m + j < l.length := fun {i j} hj => by unfold sizN at hj; omega
  have hmem : ∀ {i : Nat} {x : Int × List UInt8}, x ∈ (chunkE l m i).map kvE → ∃ j, j < sizN l.length m i ∧ x = kvE (l.getD (i * m + j) entD) := by
    intro i x hx
    obtain ⟨y, hy, rfl⟩ := List.mem_map.1 hx
    obtain ⟨j, hj, rfl⟩ := List.mem_iff_getElem.1 hy
    have hj2 : j < sizN l.length m i := by rw [← chunk_len]; exact hj
    refine ⟨j, hj2, ?_⟩
    rw [← chunk_get hj2]; simp [List.getD, hj]
  have key := treeUp_scan (fuel := fuel) h1 h2 (ovN l.length m) (upE l m q (ovN l.length m)) 0 q (levB t true m v l q bs (ovN l.length m)) _ (fun i => (chunkE l m i).map kvE) (fun _ => 1) (upE_len _ _ _ _) hop (up_ok E hmb.1) (fun k hk => by rw [upE_get hk]; exact ⟨rfl, rfl⟩)
    (fun h2n k hk => by
      have hl1 : 1 ≤ l.length := by
        rcases Nat.eq_zero_or_pos l.length with q0 | q0
        · rw [q0] at h2n
          have : ovN 0 m = 1 := by unfold ovN; rw [Nat.div_eq_of_lt (by omega)]; rfl
          omega
        · exact q0
      obtain ⟨k1, k2⟩ := up_key (v := v) (q := q) hmb.1 hl1 hk
      have hz : 0 < sizN l.length m k := by unfold sizN; omega
      rw [upE_get hk, k1]
      have hc := chunk_len l m k
      cases hcc : chunkE l m k with
      | nil => rw [hcc] at hc; simp at hc; omega
      | cons y r =>
        refine ⟨y.2.1, r.map kvE, ?_⟩
        have h0 := chunk_get (l := l) (m := m) (i := k) (j := 0) hz
        rw [hcc, Nat.add_zero] at h0
        simp only [List.map_cons]
        have e0 : y = l.getD (k * m) entD := by simpa [List.getD] using h0
        rw [e0]; rfl)
    (fun a b hab hb x hx y hy => by
      obtain ⟨j, hj, rfl⟩ := hmem hx
      obtain ⟨j2, hj2, rfl⟩ := hmem hy
      have : (a + 1) * m ≤ b * m := Nat.mul_le_mul_right m hab
      rw [Nat.add_mul, Nat.one_mul] at this
      have hjm : j < m := by unfold sizN at hj; omega
      exact E.mono (a := a * m + j) (b := b * m + j2) (by omega) (hget hj2))
    (fun a ha => by
      rw [List.pairwise_map]
      refine List.pairwise_iff_getElem.2 fun i j hi hj hij => ?_
      have hj2 : j < sizN l.length m a := by rw [← chunk_len]; exact hj
      have e1 := chunk_get (l := l) (m := m) (i := a) (j := i) (by omega)
      have e2 := chunk_get (l := l) (m := m) (i := a) (j := j) hj2
      simp only [List.getD, List.getElem?_eq_getElem hi, List.getElem?_eq_getElem hj, Option.getD_some] at e1 e2
      show (chunkE l m a)[i].1 < (chunkE l m a)[j].1
      rw [e1, e2]
      exact E.mono (a := a * m + i) (b := a * m + j) (by omega) (hget hj2))
    rfl hq (by rw [a1]; omega) (by omega) L (by omega)
    (fun k hk x hx => by
      obtain ⟨j, hj, rfl⟩ := hmem hx
      have := E.hk _ (hget hj)
      exact ⟨this.1, by have := this.2; simp only [kvE]; omega⟩)
    (by rw [sum_one]; omega)
  rw [sum_one, chunk_flat] at key
  rw [show ovN l.length m + ((levs (ovN l.length m)).sum - ovN l.length m) = (levs (ovN l.length m)).sum by omega] at key
  have hall := ov_all (n := l.length) (m := m) hmb.1
  rw [List.take_of_length_le (by omega)] at key
  exact key
end Go.Proofs.YtolblnjohaooaaaGreat
namespace Go.Proofs.YtolblnjohaooaaaGreat
open Go.RowKit Go.Extern.Stop Go.Stop Go.Extern
set_option linter.unusedVariables false
attribute [local irreducible] wpList wpAnyH Code.wp Oper.wp Go

def WholeT (t : WS) (w : World) (e : Ending) (w' : World) : Prop := ∃ pe pb pf ce cb cf fv, e = .returned (.tuple #[.agg (walkC t pe pb pf ce cb cf).toArray, .nilIface]) ∧ Below w.heap.size w w' ∧ WalkV w.heap.size t pe pb pf ce cb cf fv w'
def ScanT0 (t : WS) (w : World) (e : Ending) (w' : World) : Prop := ∃ pe pb pf ce cb cf fv, e = .returned (.agg (walkC t pe pb pf ce cb cf).toArray) ∧ Below w.heap.size w w' ∧ WalkV w.heap.size t pe pb pf ce cb cf fv w'
theorem walk_ScanT (Bi b : Nat) (pi : Option Addr) (ni ci : Nat) (l : List UInt8) (root tree fuel : Int) (t : WS) (w : World) (hfu : fuel ≤ 1000) (hI : ImgR Bi b pi ni ci l w) (ht : scanW l root tree fuel = t) :
    Calls Tryz.prog 19 #[.pointer (some ⟨b, 0, none⟩), .int .i64 root, .int .i64 tree, .int .i64 fuel] w (ScanT0 t w) := by
  subst ht; exact walk_Scan Bi b pi ni ci l root tree fuel w hfu hI
set_option maxRecDepth 100000 in
set_option maxHeartbeats 1000000 in
theorem fault_First0 (p : Option Addr) (c : Nat) (w : World) :
    Calls Tryz.prog 20 #[.slice p 0 c] w (Ret .nilIface w) := by
 refine zin 15 Tryz.func20 ?_
 refine xu 14 1 ?_
 exact xe 18 .nilIface ⟨rfl, (Below.refl w.heap.size _)⟩
set_option maxRecDepth 100000 in
set_option maxHeartbeats 1000000 in
theorem walk_Whole0 (Bi b : Nat) (pi : Option Addr) (ni ci : Nat) (l : List UInt8) (root tree fuel : Int) (es : List Ent) (bl : List Int) (deep total : Nat) (w : World) (hfu : fuel ≤ 1000) (hI : ImgR Bi b pi ni ci l w) (ht : scanW l root tree fuel = ⟨es, bl, (deep : Int), total, [], false⟩) :
    Calls Tryz.prog 7 #[.pointer (some ⟨b, 0, none⟩), .int .i64 root, .int .i64 tree, .int .i64 fuel] w (WholeT ⟨es, bl, (deep : Int), total, [], false⟩ w) := by
 refine zin 25 Tryz.func7 ?_
 refine xa 2 [.slice none 0 0, .slice none 0 0, .int .i64 0, .int .i64 0, .slice none 0 0] 36 fun b1 W1 n1 => ?_
 have hs2 : w.heap.size ≤ (W1).heap.size := n1.below.size
 refine xc 9 (args := #[.pointer (some ⟨b, 0, none⟩), .int .i64 root, .int .i64 tree, .int .i64 fuel]) (walk_ScanT Bi b pi ni ci l root tree fuel ⟨es, bl, (deep : Int), total, [], false⟩ _ hfu (hI.below n1.below) ht) ?_
 rintro _ W2 ⟨pe, pb, pf, ce, cb, cf, fv, rfl, hb2, hW⟩
 obtain ⟨hEn, hBl, hFl, hFv⟩ := hW
 replace hEn := own_mono hEn n1.below.size
 replace hBl := own_mono hBl n1.below.size
 replace hFl := own_mono hFl n1.below.size
 refine xa 0 [.slice none 0 0, .slice none 0 0, .int .i64 0, .int .i64 0, .slice none 0 0] 36 fun b3 W3 n3 => ?_
 have k1 := n1.blk.below hb2
 have d3_b1 := n3.ne k1
 have hB'1 := Bl.next n1.below hb2
 have g3 := n3.ge hB'1
 refine xsv 0 n3.blk [.slice pe es.length ce, .slice pb bl.length cb, .int .i64 (↑deep : Int), .int .i64 (↑total : Int), .slice pf 0 cf] fun W4 u4 k4 => ?_
 refine xb 6 4 k4 ?_
 refine xr 0 (args := #[.slice pf 0 cf]) (fault_First0 pf cf _) fun W5 hb5 => ?_
 have k4'1 := k4.below hb5
 refine xlv 14 k4'1.rp ?_
 have k1'1 := (u4.blk (k1.below n3.below) (Ne.symm (Ne.symm d3_b1))).below hb5
 refine xsv 0 k1'1 [.slice pe es.length ce, .slice pb bl.length cb, .int .i64 (↑deep : Int), .int .i64 (↑total : Int), .slice pf 0 cf] fun W6 u6 k6 => ?_
 have g1 := n1.ge (Below.refl w.heap.size _)
 have hB'2 := u6.below (Bl.next (u4.below (Bl.next hB'1 n3.below) g3) hb5) g1
 have hEn'1 := u6.own2 (own_below (u4.own2 (own_below hEn n3.below) n3.blk (by decide)) hb5) k1'1 (by decide)
 have hBl'1 := u6.own2 (own_below (u4.own2 (own_below hBl n3.below) n3.blk (by decide)) hb5) k1'1 (by decide)
 have hFl'1 := u6.own2 (own_below (u4.own2 (own_below hFl n3.below) n3.blk (by decide)) hb5) k1'1 (by decide)
 have hFv'1 := (((hFv.below n3.below).only (Only.of_upd (T := [36]) u4 n3.blk (by decide)) (by decide)).below hb5).only (Only.of_upd (T := [36]) u6 k1'1 (by decide)) (by decide)
 exact xec 4 k6 (.tuple #[.agg #[.slice pe es.length ce, .slice pb bl.length cb, .int .i64 (↑deep : Int), .int .i64 (↑total : Int), .slice pf 0 cf], .nilIface]) ⟨_, _, _, _, _, _, _, rfl, hB'2, ⟨hEn'1, hBl'1, hFl'1, hFv'1⟩⟩
end Go.Proofs.YtolblnjohaooaaaGreat
namespace Go.Proofs.YtolblnjohaooaaaGreat
open Go.RowKit Go.Extern.Stop Go.Stop Go.Extern
set_option linter.unusedVariables false
attribute [local irreducible] wpList wpAnyH Code.wp Oper.wp Go

def LevelPost (B ba b g nn cc : Nat) (pa : Option Addr) (ca f N k0 : Nat) (bs : List UInt8) (t : Int) (leaf : Bool) (m v : Nat) (l : List Ent) (w : World) (e : Ending) (w' : World) : Prop :=
  ∃ p c, e = .returned (.tuple #[.slice p (ovN l.length m) c, .nilIface]) ∧ Below B w w' ∧ Only [59, 5] w w' ∧ Fr [ba, g] w w' ∧ Al B ba b g nn cc pa ca f N (k0 + ovN l.length m) (levB t leaf m v l (f + k0) bs (ovN l.length m)) w' ∧ w'.ownsRow w.heap.size 26 3 (.slice p (ovN l.length m) c) (ovN l.length m) ((upE l m (f + k0) (ovN l.length m)).flatMap entC)
set_option maxRecDepth 100000 in
set_option maxHeartbeats 8000000 in
theorem build_level (B ba b g nn cc : Nat) (pa : Option Addr) (ca f N k0 : Nat) (bs : List UInt8) (t : Int) (leaf : Bool) (m v : Nat) (a : Option Addr) (c : Nat) (l : List Ent) (w : World) (hC : AlC B ba nn cc ca f N) (hA : Al B ba b g nn cc pa ca f N k0 bs w) (ht1 : 1 ≤ t) (ht2 : t ≤ 5) (hm : maxN t leaf = m) (hv : widN t leaf = v) (E : EntsOk v l) (hl : leaf = false → 1 ≤ l.length) (hn : l.length ≤ 32768) (hf1 : 1 ≤ f) (hk : k0 + ovN l.length m ≤ N) (hin : ∀ W, Below B w W → Only [59, 5] w W → Sts entC W (.slice a l.length c) l) (hBw : B ≤ w.heap.size) :
    Calls Tryz.prog 18 #[.pointer (some ⟨ba, 0, none⟩), .int .i64 t, .bool leaf, .slice a l.length c] w (LevelPost B ba b g nn cc pa ca f N k0 bs t leaf m v l w) := by
 have hmb := maxN_pos t leaf
 rw [hm] at hmb
 have hcf := hC.hf
 have hcn := hC.hn
 refine zin 96 Tryz.func18 ?_
 refine xr 18 (args := #[.int .i64 t, .bool leaf]) (node_MaxN t leaf m hm ht1 ht2 _) fun W1 hb1 => ?_
 refine xc 0 (args := #[.int .i64 (↑l.length : Int), .int .i64 (↑m : Int)]) (tall_Sizes l.length m _ hn (by omega) (by omega)) ?_
 rintro _ W2 ⟨_, rfl, hb2, ps, cs, rfl, hsz⟩
 have hs2 := (Bl.nextB (Below.refl B w) hBw hb1).size
 have hsz'1 := own_mono hsz hs2
 have hA'1 := (hA.below hb1).below hb2
 have hB := Bl.nextB (Bl.nextB (Below.refl B w) hBw hb1) hBw hb2
 have hX := (show Fr [ba, g] w _ from (Fr.of_below hb1)).trans (Fr.of_below hb2)
 have hO := (show Only [59, 5] w _ from (Only.of_below hb1)).trans (Only.of_below hb2)
 refine zl 5 96 (fun zm zkv V => ∃ (i : Nat) (a2 : Option Addr) (c2 : Nat) (l2 : List Ent) (p4 : Option Addr) (c4 : Nat), zkv = [(0, .pointer (some ⟨ba, 0, none⟩)), (1, .int .i64 t), (2, .bool leaf), (3, .slice a2 l2.length c2), (10, .slice p4 i c4), (26, .slice ps (ovN l.length m) cs), (27, .int .i64 (↑(ovN l.length m) : Int)), (28, .int .i64 (↑i : Int))] ∧ zm = ovN l.length m - ((↑i : Int)).toNat ∧ Below B w V ∧ Fr [ba, g] w V ∧ Only [59, 5] w V ∧ V.ownsRow w.heap.size 3 1 (.slice ps (ovN l.length m) cs) (ovN l.length m) ((sizL l.length m).map nv) ∧ V.ownsRow w.heap.size 26 3 (.slice p4 i c4) i ((upE l m (f + k0) i).flatMap entC) ∧ Al B ba b g nn cc pa ca f N (k0 + i) (levB t leaf m v l (f + k0) bs i) V ∧ (∀ W, Below B w W → Only [59, 5] w W → Sts entC W (.slice a2 l2.length c2) l2) ∧ i ≤ ovN l.length m ∧ l2 = l.drop (i * m)) ⟨0, a, c, l, none, 0, rfl, rfl, hB, hX, hO, hsz'1, World.ownsRow_nil _ _ _ _, hA'1, ?_, Nat.zero_le _, by simp⟩ ?_
 · exact hin
 rintro _ _ W3 ⟨i, a2, c2, l2, p4, c4, rfl, rfl, hB_3, hX_3, hO_3, hsz, hup, hA, hen, hi, hl2⟩ J3 hJ3 r3
 have hcap := Sl.cap (hen _ hB_3 hO_3)
 have hsl : i < ovN l.length m → i * m ≤ l.length := siz_le (by omega)
 have hl2n : l2.length = l.length - i * m := by rw [hl2]; simp
 have hszn : sizN l.length m i ≤ l2.length := by rw [hl2n]; unfold sizN; omega
 refine xid 6 ((↑i : Int) < (↑(ovN l.length m) : Int)) (fun hc4 => ?_) (fun hc4 => ?_)
 · refine xx 6 _ (ovN l.length m) i 1 (siz_elem (own_sl hsz) (k := i) (by omega)).1 ?_
   refine xl 0 ((siz_elem (own_sl hsz) (k := i) (by omega)).2) ?_
   have hF5 := hB_3
   have hOhF5 := hO_3
   have hXhF5 := hX_3
   refine xa 8 [.int .i64 0, .bool false, .slice none 0 0, .slice none 0 0] 67 fun b6 W6 n6 => ?_
   refine xsv 0 n6.blk [.int .i64 t, .bool leaf, .slice none 0 0, .slice none 0 0] fun W7 u7 k7 => ?_
   have g6 := n6.ge (Below.refl W3.heap.size _)
   refine xsH 7 (fun _ _ _ _ zo zx zy V => run_sliceH (k := (sizN l.length m i)) (b := a2) (n := l2.length) (c := c2) (i := (↑(sizN l.length m i) : Int)) (ki := .i64) zo zx zy rfl (by omega) Tryz.underlying23 (by kernel_rfl) V) ?_
   have hB := u7.below n6.below g6
   refine zl 5 96 (fun zm zkv V => ∃ (j : Nat) (kp : Option Addr) (kc : Nat) (vp : Option Addr) (vc : Nat), zkv = [(0, .pointer (some ⟨ba, 0, none⟩)), (1, .int .i64 t), (2, .bool leaf), (3, .slice a2 l2.length c2), (10, .slice p4 i c4), (12, .int .i64 (↑(sizN l.length m i) : Int)), (13, .pointer (some ⟨b6, 0, none⟩)), (26, .slice ps (ovN l.length m) cs), (27, .int .i64 (↑(ovN l.length m) : Int)), (28, .int .i64 (↑i : Int)), (37, .slice a2 (sizN l.length m i) c2), (38, .int .i64 (↑(sizN l.length m i) : Int)), (39, .int .i64 (↑j : Int))] ∧ zm = sizN l.length m i - ((↑j : Int)).toNat ∧ Below W3.heap.size W3 V ∧ Blk V b6 ([.int .i64 t, .bool leaf, .slice kp j kc, .slice vp j vc]) 67 ∧ V.ownsRow W3.heap.size 3 1 (.slice kp j kc) j (((keysE l2).take j).map (Value.int .i64)) ∧ V.ownsRow W3.heap.size 9 1 (.slice vp j vc) j (((valsE l2).take j).map sv) ∧ j ≤ sizN l.length m i) ⟨0, none, 0, none, 0, rfl, rfl, hB, k7, World.ownsRow_nil _ _ _ _, World.ownsRow_nil _ _ _ _, Nat.zero_le _⟩ ?_
   rintro _ _ W8 ⟨j, kp, kc, vp, vc, rfl, rfl, hB_8, k8_b6, hK, hV, hj⟩ J8 hJ8 r8
   refine xid 6 ((↑j : Int) < (↑(sizN l.length m i) : Int)) (fun hc9 => ?_) (fun hc9 => ?_)
   · have hen_hF5 := hen _ hF5 hOhF5
     refine xx 6 _ (sizN l.length m i) j 3 (Sts.cell hen_hF5 entC_len entD (k := j) (i := 0) (by omega) rfl).1 ?_
     refine xlv 0 (Sts.rp (k := j) (hen_hF5.below hB_8) entC_len entD (by omega) (by decide)) ?_
     refine xa 0 [.int .i64 0, .string ⟨#[]⟩, .int .i64 0] 26 fun b10 W10 n10 => ?_
     have g10 := n10.ge hB_8
     refine xsv 0 n10.blk [.int .i64 ((l2.getD j entD).1), .string ⟨((l2.getD j entD).2.1).toArray⟩, .int .i64 ((l2.getD j entD).2.2)] fun W11 u11 k11 => ?_
     have k8_b6'1 := u11.blkT (k8_b6.below n10.below) n10.blk (by decide)
     refine xb 5 2 k8_b6'1 ?_
     refine xb 1 0 k11 ?_
     refine xbs 0 1 [.int .i64 ((l2.getD j entD).1)] 3 fun b12 W12 n12 => ?_
     have hB'1 := u11.below (Bl.next hB_8 n10.below) g10
     have g12 := n12.ge hB'1
     have hK'1 := u11.own2 (own_below hK n10.below) n10.blk (by decide)
     have r12_hK := own_ne hK'1 n12
     have hK'2 := own_below hK'1 n12.below
     have hB'2 := Bl.next hB'1 n12.below
     refine xbi 0 fun _ _ _ _ zJ zQ zo zx zy zK => op_app (m := 1) (news := [.int .i64 ((l2.getD j entD).1)]) (.int .i64 0) 1 8 (j + 1) (((keysE l2).take (j + 1)).map (Value.int .i64)) zo Tryz.underlying33 (by kernel_rfl) rfl (by decide) zx hK'2 zy (n12.blk.sl 1 1 (by decide) (by decide)) rfl (by simp [Value.oneCell']) (by unfold maxLen; omega) (by omega) hB'2.size (by rfl) ((keys_take (by omega)).symm) fun px13 cx13 W13 o13 hg13 hb13 => ?_
     refine zK _ _ ?_
     have k8_b6'2 := (k8_b6'1.below n12.below).grown hg13 hK'2 (by decide)
     refine xs 1 k8_b6'2 [.int .i64 t, .bool leaf, .slice px13 (j + 1) cx13, .slice vp j vc] fun W14 u14 k14 => ?_
     refine xb 4 3 k14 ?_
     have k11'1 := u14.blkT ((k11.below n12.below).grown hg13 hK'2 (by decide)) k8_b6'2 (by decide)
     refine xb 1 1 k11'1 ?_
     refine xbs 0 1 [.string ⟨((l2.getD j entD).2.1).toArray⟩] 9 fun b15 W15 n15 => ?_
     have hB'3 := u14.below (hB'2.trans hb13) g6
     have g15 := n15.ge hB'3
     have hV'1 := u14.own2 (own_grown (own_below (u11.own2 (own_below hV n10.below) n10.blk (by decide)) n12.below) hg13 hK'2 (by decide)) k8_b6'2 (by decide)
     have r15_hV := own_ne hV'1 n15
     have hV'2 := own_below hV'1 n15.below
     have hB'4 := Bl.next hB'3 n15.below
     refine xbi 0 fun _ _ _ _ zJ zQ zo zx zy zK => op_app (m := 1) (news := [.string ⟨((l2.getD j entD).2.1).toArray⟩]) (.string ⟨#[]⟩) 1 16 (j + 1) (((valsE l2).take (j + 1)).map sv) zo Tryz.underlying65 (by kernel_rfl) rfl (by decide) zx hV'2 zy (n15.blk.sl 1 1 (by decide) (by decide)) rfl (by simp [Value.oneCell']) (by unfold maxLen; omega) (by omega) hB'4.size (by rfl) ((vals_take (by omega)).symm) fun px16 cx16 W16 o16 hg16 hb16 => ?_
     refine zK _ _ ?_
     have k14'1 := (k14.below n15.below).grown hg16 hV'2 (by decide)
     refine xs 1 k14'1 [.int .i64 t, .bool leaf, .slice px13 (j + 1) cx13, .slice px16 (j + 1) cx16] fun W17 u17 k17 => ?_
     refine xwm 4 ((↑j : Int) + 1) (↑(j + 1) : Int) ?_
     have hB'5 := u17.below (hB'4.trans hb16) g6
     have o13'1 := u17.own2 (own_grown (own_below (u14.own2 o13 k8_b6'2 (by decide)) n15.below) hg16 hV'2 (by decide)) k14'1 (by decide)
     have o16'1 := u17.own2 o16 k14'1 (by decide)
     exact ze 2 (hJ8 _ _ _ ⟨j + 1, _, _, _, _, rfl, rfl, hB'5, k17, o13'1, o16'1, by omega⟩ (by omega))
   refine xsL 9 (fun _ _ _ _ zo zx zy V => run_sliceLA (k := (sizN l.length m i)) (b := a2) (n := l2.length) (c := c2) (i := (↑(sizN l.length m i) : Int)) (ki := .i64) 3 zo zx zy rfl (by omega) Tryz.underlying23 (by kernel_rfl) V) ?_
   refine xlv 5 k8_b6.rp ?_
   have hT18 : Below W3.heap.size W3 W8 := hB_8
   have hs18 : w.heap.size ≤ W3.heap.size := hF5.size
   have hjs : sizN l.length m i = j := by omega
   have hck : (keysE l2).take j = keysE (chunkE l m i) := by rw [hl2]; exact keys_chunk hjs
   have hcv : (valsE l2).take j = valsE (chunkE l m i) := by rw [hl2]; exact vals_chunk hjs
   have hcl : (chunkE l m i).length = j := by rw [chunk_len, hjs]
   have hK'3 := own_mono hK hs18
   rw [hck] at hK'3
   have hV'3 := own_mono hV hs18
   rw [hcv] at hV'3
   have hN := chunk_ok E ht1 ht2 hm hv hl (show i < ovN l.length m by omega)
   have hlen := nodB_len hN
   rw [hcl] at hN
   have hnd : nodeP m v (headB t leaf j m v) (keysE (chunkE l m i)) (valsE (chunkE l m i)) j = nodB t leaf m v (chunkE l m i) := by rw [← hcl]; rfl
   refine xc 0 (args := #[.agg #[.int .i64 t, .bool leaf, .slice kp j kc, .slice vp j vc]]) (node_Put t leaf j m v (keysE (chunkE l m i)) (valsE (chunkE l m i)) kp vp kc vc _ hN (own_sl hK'3) (own_sl hV'3)) ?_
   rintro _ W19 ⟨_, rfl, hb19, p6, c6, rfl, h6⟩
   have hs19 := (Bl.nextB hF5 hBw hT18).size
   have h6'1 := own_mono h6 hs19
   rw [hnd] at h6'1
   have hA'2 := (hA.below hT18).below hb19
   have hO := (hOhF5.trans (Only.of_below hT18)).trans (Only.of_below hb19)
   have hB := Bl.nextB (Bl.nextB hF5 hBw hT18) hBw hb19
   refine xc 21 (args := #[.pointer (some ⟨ba, 0, none⟩), .int .i64 2, .slice p6 244 c6]) (alloc_LayQ B ba b g nn cc pa ca f N (k0 + i) (levB t leaf m v l (f + k0) bs i) 2 p6 c6 (nodB t leaf m v (chunkE l m i)) (f + k0 + i) 244 _ (Nat.add_assoc _ _ _).symm hlen hC hA'2 (by omega) (by decide) (by decide) (fun W _ hO => bys_of (own_sl (own_only h6'1 hO (by decide))) hlen) (by decide) (Nat.le_trans hBw hB.size)) ?_
   rintro _ W20 ⟨rfl, hb20, hO20, hX20, hA⟩
   refine xr 20 (args := #[.int .i64 (↑(f + k0 + i) : Int)]) (value_Root ((f + k0 + i : Nat) : Int) (by omega) (by omega) _) fun W21 hb21 => ?_
   refine xa 2 [.int .i64 0, .string ⟨#[]⟩, .int .i64 0] 26 fun b22 W22 n22 => ?_
   have hB'6 := Bl.nextB (hB.trans hb20) hBw hb21
   have g22 := n22.ge0 hB'6
   have hup'1 := own_below (own_only (own_below (own_below hup hT18) hb19) hO20 (by decide)) hb21
   have r22_hup := own_ne hup'1 n22
   refine xsv 0 n22.blk [.int .i64 0, .string ⟨(leB (↑(f + k0 + i) : Int) 4).toArray⟩, .int .i64 (↑(f + k0 + i) : Int)] fun W23 u23 k23 => ?_
   refine xid 9 ((↑(sizN l.length m i) : Int) > (0 : Int)) (fun hc24 => ?_) (fun hc24 => ?_)
   · have hkey : ((keysE (chunkE l m i))).getD 0 0 = ((chunkE l m i).getD 0 entD).1 := chunk_key hjs (by omega)
     have k8_b6'3 := u23.blkT ((((k8_b6.below hb19).only hO20 (by decide)).below hb21).below n22.below) n22.blk (by decide)
     refine xb 2 2 k8_b6'3 ?_
     have hK'4 := u23.own2 (own_below (own_below (own_only (own_below hK'3 hb19) hO20 (by decide)) hb21) n22.below) n22.blk (by decide)
     refine xx 0 _ j 0 1 (IntsN.elem (own_sl hK'4) (by rw [keysE_len, hcl]) (k := 0) (by omega)).1 ?_
     refine xl 0 ((IntsN.elem (own_sl hK'4) (by rw [keysE_len, hcl]) (k := 0) (by omega)).2) ?_
     refine xs 1 k23 [.int .i64 ((keysE (chunkE l m i)).getD 0 0), .string ⟨(leB (↑(f + k0 + i) : Int) 4).toArray⟩, .int .i64 (↑(f + k0 + i) : Int)] fun W25 u25 k25 => ?_
     refine xlv 4 k25.rp ?_
     refine xbs 0 1 [.int .i64 ((keysE (chunkE l m i)).getD 0 0), .string ⟨(leB (↑(f + k0 + i) : Int) 4).toArray⟩, .int .i64 (↑(f + k0 + i) : Int)] 26 fun b26 W26 n26 => ?_
     have d26_b22 := n26.ne k25
     have hB'7 := u25.below (u23.below (Bl.nextB hB'6 hBw n22.below) (Nat.le_trans hBw g22)) (Nat.le_trans hBw g22)
     have g26 := n26.ge0 hB'7
     have hup'2 := u25.own3 (u23.own3 (own_below hup'1 n22.below) r22_hup) r22_hup
     have r26_hup := own_ne hup'2 n26
     have hup'3 := own_below hup'2 n26.below
     have hB'8 := Bl.nextB hB'7 hBw n26.below
     refine xbi 0 fun _ _ _ _ zJ zQ zo zx zy zK => op_app (m := 1) (news := [.int .i64 ((keysE (chunkE l m i)).getD 0 0), .string ⟨(leB (↑(f + k0 + i) : Int) 4).toArray⟩, .int .i64 (↑(f + k0 + i) : Int)]) (.agg #[.int .i64 0, .string ⟨#[]⟩, .int .i64 0]) 3 32 (i + 1) ((upE l m (f + k0) (i + 1)).flatMap entC) zo Tryz.underlying23 (by kernel_rfl) rfl (by decide) zx hup'3 zy (n26.blk.sl 1 1 (by decide) (by decide)) rfl (by simp [Value.oneCell']) (by unfold maxLen; omega) (by omega) hB'8.size (by rfl) (up_row (by first | exact hkey | exact hkey0)) fun px27 cx27 W27 o27 hg27 hb27 => ?_
     refine zK _ _ ?_
     refine xwm 5 ((↑i : Int) + 1) (↑(i + 1) : Int) ?_
     refine xv1 2 3 (show (.slice (cutA a2 (sizN l.length m i) c2 3) (l2.length - (sizN l.length m i)) (c2 - (sizN l.length m i)) : Value) = .slice (cutA a2 (sizN l.length m i) c2 3) ((l2.drop (sizN l.length m i)).length) (c2 - sizN l.length m i) from by rw [List.length_drop]) ?_
     have hA'3 := (((((hA.below hb21).below n22.below).only (Only.of_upd (T := [26]) u23 n22.blk (by decide)) (by decide)).only (Only.of_upd (T := [26]) u25 k23 (by decide)) (by decide)).below n26.below).only (Only.of_grown (T := [26]) hg27 hup'3 (by decide)) (by decide)
     have hl2s : l2.drop (sizN l.length m i) = l.drop ((i + 1) * m) := by
       rw [hl2, List.drop_drop, Nat.add_mul, Nat.one_mul]
       unfold sizN
       rcases Nat.le_total m (l.length - i * m) with q | q
       · rw [Nat.min_eq_left q]
       · rw [Nat.min_eq_right q, List.drop_eq_nil_of_le (by omega), List.drop_eq_nil_of_le (by omega)]
     have hB'9 := hB'8.trans (hb27.mono hBw)
     have hX := (Fr.grown_new ((Fr.upd_new (Fr.upd_new (((((hXhF5.trans (Fr.of_below hT18)).trans (Fr.of_below hb19)).trans (hX20.mono (by simp))).trans (Fr.of_below hb21)).trans (Fr.of_below n22.below)) u23 g22) u25 g22).trans (Fr.of_below n26.below)) hg27 hup'3)
     have hO'1 := (Only.grown_new ((Only.upd_new (Only.upd_new (((hO.trans hO20).trans (Only.of_below hb21)).trans (Only.of_below n22.below)) u23 g22) u25 g22).trans (Only.of_below n26.below)) hg27 hup'3)
     have hsz'2 := own_grown (own_below (u25.own2 (u23.own2 (own_below (own_below (own_only (own_below (own_below hsz hT18) hb19) hO20 (by decide)) hb21) n22.below) n22.blk (by decide)) k23 (by decide)) n26.below) hg27 hup'3 (by decide)
     exact ze 0 (hJ3 _ _ _ ⟨i + 1, _, _, (l2.drop (sizN l.length m i)), _, _, rfl, rfl, hB'9, hX, hO'1, hsz'2, o27, hA'3, fun W h1 h2 => Sts.cut entC_len (hen W h1 h2) _ hszn, by omega, hl2s⟩ (by omega))
   have hkey0 : (0 : Int) = ((chunkE l m i).getD 0 entD).1 := chunk_nokey hjs (by omega)
   refine xlv 4 k23.rp ?_
   refine xbs 0 1 [.int .i64 0, .string ⟨(leB (↑(f + k0 + i) : Int) 4).toArray⟩, .int .i64 (↑(f + k0 + i) : Int)] 26 fun b28 W28 n28 => ?_
   have d28_b22 := n28.ne k23
   have hB'10 := u23.below (Bl.nextB hB'6 hBw n22.below) (Nat.le_trans hBw g22)
   have g28 := n28.ge0 hB'10
   have hup'4 := u23.own3 (own_below hup'1 n22.below) r22_hup
   have r28_hup := own_ne hup'4 n28
   have hup'5 := own_below hup'4 n28.below
   have hB'11 := Bl.nextB hB'10 hBw n28.below
   refine xbi 0 fun _ _ _ _ zJ zQ zo zx zy zK => op_app (m := 1) (news := [.int .i64 0, .string ⟨(leB (↑(f + k0 + i) : Int) 4).toArray⟩, .int .i64 (↑(f + k0 + i) : Int)]) (.agg #[.int .i64 0, .string ⟨#[]⟩, .int .i64 0]) 3 32 (i + 1) ((upE l m (f + k0) (i + 1)).flatMap entC) zo Tryz.underlying23 (by kernel_rfl) rfl (by decide) zx hup'5 zy (n28.blk.sl 1 1 (by decide) (by decide)) rfl (by simp [Value.oneCell']) (by unfold maxLen; omega) (by omega) hB'11.size (by rfl) (up_row (by first | exact hkey | exact hkey0)) fun px29 cx29 W29 o29 hg29 hb29 => ?_
   refine zK _ _ ?_
   refine xwm 5 ((↑i : Int) + 1) (↑(i + 1) : Int) ?_
   refine xv1 2 3 (show (.slice (cutA a2 (sizN l.length m i) c2 3) (l2.length - (sizN l.length m i)) (c2 - (sizN l.length m i)) : Value) = .slice (cutA a2 (sizN l.length m i) c2 3) ((l2.drop (sizN l.length m i)).length) (c2 - sizN l.length m i) from by rw [List.length_drop]) ?_
   have hA'4 := ((((hA.below hb21).below n22.below).only (Only.of_upd (T := [26]) u23 n22.blk (by decide)) (by decide)).below n28.below).only (Only.of_grown (T := [26]) hg29 hup'5 (by decide)) (by decide)
   have hl2s : l2.drop (sizN l.length m i) = l.drop ((i + 1) * m) := by
     rw [hl2, List.drop_drop, Nat.add_mul, Nat.one_mul]
     unfold sizN
     rcases Nat.le_total m (l.length - i * m) with q | q
     · rw [Nat.min_eq_left q]
     · rw [Nat.min_eq_right q, List.drop_eq_nil_of_le (by omega), List.drop_eq_nil_of_le (by omega)]
   have hB'12 := hB'11.trans (hb29.mono hBw)
   have hX := (Fr.grown_new ((Fr.upd_new (((((hXhF5.trans (Fr.of_below hT18)).trans (Fr.of_below hb19)).trans (hX20.mono (by simp))).trans (Fr.of_below hb21)).trans (Fr.of_below n22.below)) u23 g22).trans (Fr.of_below n28.below)) hg29 hup'5)
   have hO'2 := (Only.grown_new ((Only.upd_new (((hO.trans hO20).trans (Only.of_below hb21)).trans (Only.of_below n22.below)) u23 g22).trans (Only.of_below n28.below)) hg29 hup'5)
   have hsz'3 := own_grown (own_below (u23.own2 (own_below (own_below (own_only (own_below (own_below hsz hT18) hb19) hO20 (by decide)) hb21) n22.below) n22.blk (by decide)) n28.below) hg29 hup'5 (by decide)
   exact ze 0 (hJ3 _ _ _ ⟨i + 1, _, _, (l2.drop (sizN l.length m i)), _, _, rfl, rfl, hB'12, hX, hO'2, hsz'3, o29, hA'4, fun W h1 h2 => Sts.cut entC_len (hen W h1 h2) _ hszn, by omega, hl2s⟩ (by omega))
 refine xe 13 (.tuple #[.slice p4 i c4, .nilIface]) ?_
 obtain rfl : i = ovN l.length m := by omega
 exact ⟨_, _, rfl, hB_3, hO_3, hX_3, hA, hup⟩
end Go.Proofs.YtolblnjohaooaaaGreat
namespace Go.Proofs.YtolblnjohaooaaaGreat
open Go.RowKit Go.Extern.Stop Go.Stop Go.Extern
set_option linter.unusedVariables false
attribute [local irreducible] wpList wpAnyH Code.wp Oper.wp Go

theorem only_a3 {w w' : World} (h : Only [59, 5] w w') : Only [59, 5, 30] w w' := h.mono fun t ht => by simp at ht ⊢; exact ⟨ht.1, ht.2.1⟩
def Tree1Post (B ba b g nn cc : Nat) (pa : Option Addr) (ca f N k0 : Nat) (bs : List UInt8) (t : Int) (leaf : Bool) (m v : Nat) (l : List Ent) (b8 : Nat) (w : World) (e : Ending) (w' : World) : Prop :=
  ∃ p c, e = .returned (.slice p (ovN l.length m) c) ∧ Below B w w' ∧ Only [59, 5, 30] w w' ∧ Fr [ba, g, b8] w w' ∧ Blk w' b8 [.nilIface] 30 ∧ Al B ba b g nn cc pa ca f N (k0 + ovN l.length m) (levB t leaf m v l (f + k0) bs (ovN l.length m)) w' ∧ w'.ownsRow w.heap.size 26 3 (.slice p (ovN l.length m) c) (ovN l.length m) ((upE l m (f + k0) (ovN l.length m)).flatMap entC)
set_option maxRecDepth 100000 in
set_option maxHeartbeats 4000000 in
theorem build_Tree1 (B ba b g nn cc : Nat) (pa : Option Addr) (ca f N k0 : Nat) (bs : List UInt8) (t : Int) (leaf : Bool) (m v : Nat) (a : Option Addr) (c : Nat) (l : List Ent) (b3 b4 b8 : Nat) (w : World) (k3 : Blk w b3 [.pointer (some ⟨ba, 0, none⟩)] 27) (k4 : Blk w b4 [.int .i64 t] 3) (k8 : Blk w b8 [.nilIface] 30) (h38 : b3 ≠ b8) (h48 : b4 ≠ b8) (hB8 : B ≤ b8) (hC : AlC B ba nn cc ca f N) (hA : Al B ba b g nn cc pa ca f N k0 bs w) (ht1 : 1 ≤ t) (ht2 : t ≤ 5) (hm : maxN t leaf = m) (hv : widN t leaf = v) (E : EntsOk v l) (hl : leaf = false → 1 ≤ l.length) (hn : l.length ≤ 32768) (hf1 : 1 ≤ f) (hk : k0 + ovN l.length m ≤ N) (hin : ∀ W, Below B w W → Only [59, 5, 30] w W → Sts entC W (.slice a l.length c) l) (hBw : B ≤ w.heap.size) :
    Calls Tryz.prog 17 #[.bool leaf, .slice a l.length c, .pointer (some ⟨b3, 0, none⟩), .pointer (some ⟨b4, 0, none⟩), .pointer (some ⟨b8, 0, none⟩)] w (Tree1Post B ba b g nn cc pa ca f N k0 bs t leaf m v l b8 w) := by
 refine zin 20 Tryz.func17 ?_
 refine xb 7 0 k3 ?_
 refine xb 0 0 k4 ?_
 refine xc 2 (args := #[.pointer (some ⟨ba, 0, none⟩), .int .i64 t, .bool leaf, .slice a l.length c]) (build_level B ba b g nn cc pa ca f N k0 bs t leaf m v a c l _ hC hA ht1 ht2 hm hv E hl hn hf1 hk (fun W h1 h2 => hin W ((Below.refl B _).trans h1) ((Only.refl _ _).trans (only_a3 h2))) (Nat.le_trans hBw (Below.refl B _).size)) ?_
 rintro _ W1 ⟨p4, c4, rfl, hb1, hO1, hX1, hA, hup⟩
 have hs1 := Nat.le_refl w.heap.size
 have k8'1 := k8.only hO1 (by decide)
 refine xs 10 k8'1 [.nilIface] fun W2 u2 k2 => ?_
 have hB := u2.below hb1 hB8
 have hO := (show Only [59, 5, 30] w _ from (only_a3 hO1)).trans (Only.of_upd u2 k8'1 (by decide))
 have hX := (show Fr [ba, g, b8] w _ from (hX1.mono (by simp))).trans (Fr.of_upd u2 (by simp))
 have hA'1 := hA.only (Only.of_upd (T := [30]) u2 k8'1 (by decide)) (by decide)
 have hup'1 := u2.own2 (own_mono hup hs1) k8'1 (by decide)
 exact xe 9 (.slice p4 (ovN l.length m) c4) ⟨_, _, rfl, hB, hO, hX, k2, hA'1, hup'1⟩
def TreePost (B ba b g nn cc : Nat) (pa : Option Addr) (ca f N k0 : Nat) (bs : List UInt8) (t : Int) (l : List Ent) (w : World) (e : Ending) (w' : World) : Prop :=
  e = .returned (.tuple #[.int .i64 (treeB t l (f + k0) bs).1, .nilIface]) ∧ Below B w w' ∧ Only [59, 5, 30] w w' ∧ Fr [ba, g] w w' ∧ Al B ba b g nn cc pa ca f N (k0 + nodN t l.length) (treeB t l (f + k0) bs).2 w'
set_option maxRecDepth 100000 in
set_option maxHeartbeats 8000000 in
theorem build_Tree (B ba b g nn cc : Nat) (pa : Option Addr) (ca f N k0 : Nat) (bs : List UInt8) (t : Int) (a : Option Addr) (c : Nat) (l : List Ent) (w : World) (hC : AlC B ba nn cc ca f N) (hA : Al B ba b g nn cc pa ca f N k0 bs w) (ht1 : 1 ≤ t) (ht2 : t ≤ 5) (E : EntsOk (widN t true) l) (hn : l.length ≤ 32768) (hf1 : 1 ≤ f) (hkN : k0 ≤ N) (hk : k0 + nodN t l.length ≤ N) (hin : ∀ W, Below B w W → Only [59, 5, 30] w W → Sts entC W (.slice a l.length c) l) (hBw : B ≤ w.heap.size) :
    Calls Tryz.prog 6 #[.pointer (some ⟨ba, 0, none⟩), .int .i64 t, .slice a l.length c] w (TreePost B ba b g nn cc pa ca f N k0 bs t l w) := by
 have hnp := nodN_pos t l.length
 have hog : (ovN l.length (maxN t true)) ≤ nodN t l.length := levs_ge _
 have hov := ovN_le l.length (maxN t true) (maxN_pos t true).1
 have hop := ovN_pos l.length (maxN t true)
 have hcf := hC.hf
 have hcn := hC.hn
 refine zin 52 Tryz.func6 ?_
 refine xa 2 [.pointer (some ⟨ba, 0, none⟩)] 27 fun b1 W1 n1 => ?_
 refine xa 0 [.int .i64 t] 3 fun b2 W2 n2 => ?_
 have k1 := n1.blk.below n2.below
 refine xb 8 0 k1 ?_
 have hA'1 := (hA.below n1.below).below n2.below
 refine xr 0 (args := #[.pointer (some ⟨ba, 0, none⟩)]) (alloc_Image ba b _ _ _ hA'1.blkA) fun W3 hb3 => ?_
 have k2 := n2.blk.below hb3
 refine xb 7 0 k2 ?_
 have hB := Bl.nextB (Bl.nextB (Bl.nextB (Below.refl B w) hBw n1.below) hBw n2.below) hBw hb3
 have hO := ((show Only [59, 5, 30] w _ from (Only.of_below n1.below)).trans (Only.of_below n2.below)).trans (Only.of_below hb3)
 refine xr 1 (args := #[.int .i64 t, .slice a l.length c]) (build_right t (widN t true) a c l _ ht1 ht2 rfl E (hin _ hB hO) hn) fun W4 hb4 => ?_
 refine xd 6 .z ?_
 have k1'1 := ((k1.below hb3).below hb4).below (below_drew W4)
 refine xb (.e [] 0) 0 k1'1 ?_
 have k2'1 := (k2.below hb4).below (below_drew W4)
 refine xb (.e [] 2) 0 k2'1 ?_
 have hA'2 := ((hA'1.below hb3).below hb4).below (below_drew W4)
 refine xr (.o [3, 4] 1) (args := #[.pointer (some ⟨ba, 0, none⟩)]) (alloc_Left ba b pa N ca k0 _ hA'2.blkA hkN) fun W5 hb5 => ?_
 refine xr (.o [] 5) (args := #[.int .i64 t, .int .i64 (↑l.length : Int)]) (tall_Nodes t l.length _ ht1 ht2 hn) fun W6 hb6 => ?_
 refine xk (.r [6, 7] 2) (show (decide ((↑(N - k0) : Int) < (↑(nodN t l.length) : Int)) : Bool) = false from decide_eq_false (by omega)) ?_
 refine xa 5 [.nilIface] 30 fun b7 W7 n7 => ?_
 have hB'1 := Bl.nextB (Bl.nextB (Bl.nextB (Bl.nextB hB hBw hb4) hBw (below_drew W4)) hBw hb5) hBw hb6
 have g7 := n7.ge0 hB'1
 have k1'2 := ((k1'1.below hb5).below hb6).below n7.below
 have k2'2 := ((k2'1.below hb5).below hb6).below n7.below
 have hA'3 := ((hA'2.below hb5).below hb6).below n7.below
 have hB'2 := Bl.nextB hB'1 hBw n7.below
 have hO'1 := ((((hO.trans (Only.of_below hb4)).trans (Only.of_below (below_drew W4))).trans (Only.of_below hb5)).trans (Only.of_below hb6)).trans (Only.of_below n7.below)
 refine xc 12 (args := #[.bool true, .slice a l.length c, .pointer (some ⟨b1, 0, none⟩), .pointer (some ⟨b2, 0, none⟩), .pointer (some ⟨b7, 0, none⟩)]) (build_Tree1 B ba b g nn cc pa ca f N k0 bs t true (maxN t true) (widN t true) a c l b1 b2 b7 _ k1'2 k2'2 n7.blk (Blk.tne k1'2 n7.blk (by decide)) (Blk.tne k2'2 n7.blk (by decide)) (Nat.le_trans hBw g7) hC hA'3 ht1 ht2 rfl rfl E (by simp) hn hf1 (by omega) (fun W h1 h2 => hin W (hB'2.trans h1) (hO'1.trans h2)) (Nat.le_trans hBw hB'2.size)) ?_
 rintro _ W8 ⟨p41, c41, rfl, hb8, hO8, hX8, k8n, hA, hup⟩
 have hs8 := (Bl.nextB hB'1 hBw n7.below).size
 refine xv1 5 10 (show (.slice p41 (ovN l.length (maxN t true)) c41 : Value) = .slice p41 ((upE l (maxN t true) (f + k0) (ovN l.length (maxN t true))).length) c41 from by rw [upE_len]) ?_
 have hup'1 := own_mono hup hs8
 have hB'3 := hB'2.trans hb8
 have hX := (Fr.trans_new ((((((((show Fr [ba, g] w _ from (Fr.of_below n1.below)).trans (Fr.of_below n2.below)).trans (Fr.of_below hb3)).trans (Fr.of_below hb4)).trans (Fr.of_below (below_drew W4))).trans (Fr.of_below hb5)).trans (Fr.of_below hb6)).trans (Fr.of_below n7.below)) hX8 g7)
 have hO'2 := hO'1.trans hO8
 have k1'3 := k1'2.only hO8 (by decide)
 have k2'3 := k2'2.only hO8 (by decide)
 refine zl 0 52 (fun zm zkv V => ∃ (u : List Ent) (K : Nat) (bs2 : List UInt8) (p : Option Addr) (c2 : Nat), zkv = [(6, .int .i64 0), (7, .nilIface), (8, .pointer (some ⟨b7, 0, none⟩)), (9, .func (.func 17) #[] #[.pointer (some ⟨b1, 0, none⟩), .pointer (some ⟨b2, 0, none⟩), .pointer (some ⟨b7, 0, none⟩)]), (10, .slice p u.length c2)] ∧ zm = u.length ∧ Below B w V ∧ Fr [ba, g] w V ∧ Only [59, 5, 30] w V ∧ Blk V b1 ([.pointer (some ⟨ba, 0, none⟩)]) 27 ∧ Blk V b2 ([.int .i64 t]) 3 ∧ Blk V b7 ([.nilIface]) 30 ∧ V.ownsRow w.heap.size 26 3 (.slice p u.length c2) u.length (u.flatMap entC) ∧ Al B ba b g nn cc pa ca f N K bs2 V ∧ K + (levs u.length).sum = k0 + nodN t l.length + u.length ∧ 1 ≤ u.length ∧ u.length ≤ 32768 ∧ EntsOk 4 u ∧ treeUp t u (f + K) bs2 = treeB t l (f + k0) bs) ⟨(upE l (maxN t true) (f + k0) (ovN l.length (maxN t true))), (k0 + (ovN l.length (maxN t true))), (levB t true (maxN t true) (widN t true) l (f + k0) bs (ovN l.length (maxN t true))), p41, c41, rfl, rfl, hB'3, hX, hO'2, k1'3, k2'3, k8n, (by rw [upE_len]; exact hup'1), hA, (by rw [upE_len]; unfold nodN levL; omega), (by rw [upE_len]; exact hop), (by rw [upE_len]; omega), up_ok E (maxN_pos t true).1, (by rw [← Nat.add_assoc]; rfl)⟩ ?_
 rintro _ _ W9 ⟨u, K, bs2, p, c2, rfl, rfl, hB_9, hX_9, hO_9, k9_b1, k9_b2, k9_b7, hup, hA, hK, hu1, hun, hE, htr⟩ J9 hJ9 r9
 have hlm : ¬ u.length ≤ 1 → (levs u.length).sum = u.length + (levs (ovN u.length 18)).sum := fun h => by rw [levs_more h]; rfl
 have hlg := levs_ge (ovN u.length 18)
 have h18 : 2 ≤ u.length → ovN u.length 18 ≤ u.length / 2 := ov18
 have h18p := ovN_pos u.length 18
 refine xb 3 0 k9_b7 ?_
 refine xid 8 ((↑u.length : Int) > (1 : Int)) (fun hc10 => ?_) (fun hc10 => ?_)
 · refine xc 6 (args := #[.bool false, .slice p u.length c2, .pointer (some ⟨b1, 0, none⟩), .pointer (some ⟨b2, 0, none⟩), .pointer (some ⟨b7, 0, none⟩)]) (build_Tree1 B ba b g nn cc pa ca f N K bs2 t false 18 4 p c2 u b1 b2 b7 _ k9_b1 k9_b2 k9_b7 (Blk.tne k9_b1 k9_b7 (by decide)) (Blk.tne k9_b2 k9_b7 (by decide)) (Nat.le_trans hBw g7) hC hA ht1 ht2 rfl rfl hE (fun _ => hu1) (by omega) hf1 (by omega) (fun W _ h2 => own_sl (own_only hup h2 (by decide))) (Nat.le_trans hBw hB_9.size)) ?_
   rintro _ W11 ⟨p42, c42, rfl, hb11, hO11, hX11, k8n, hA, hup⟩
   refine xv1 3 10 (show (.slice p42 (ovN u.length 18) c42 : Value) = .slice p42 ((upE u 18 (f + K) (ovN u.length 18)).length) c42 from by rw [upE_len]) ?_
   have hup'2 := own_mono hup hB_9.size
   have hB'4 := hB_9.trans hb11
   have hX'1 := (Fr.trans_new hX_9 hX11 g7)
   have hO'3 := hO_9.trans hO11
   have k9_b1'1 := k9_b1.only hO11 (by decide)
   have k9_b2'1 := k9_b2.only hO11 (by decide)
   refine ze 0 (hJ9 _ _ _ ⟨(upE u 18 (f + K) (ovN u.length 18)), (K + ovN u.length 18), _, _, _, rfl, rfl, hB'4, hX'1, hO'3, k9_b1'1, k9_b2'1, k8n, (by rw [upE_len]; exact hup'2), hA, (by rw [upE_len]; omega), (by rw [upE_len]; exact h18p), (by rw [upE_len]; omega), up_ok hE (by decide), (by rw [← htr, ← Nat.add_assoc]; exact (treeUp_more (by omega)).symm)⟩ ?_)
   show ((upE u 18 (f + K) (ovN u.length 18)).length) < u.length
   rw [upE_len]; omega
 refine xb 8 0 k9_b7 ?_
 refine xx 9 _ u.length 0 3 (Sts.cell (own_sl hup) entC_len entD (k := 0) (i := 0) (by omega) rfl).1 ?_
 refine xl 1 ((Sts.cell (own_sl hup) entC_len entD (k := 0) (i := 2) (by omega) rfl).2) ?_
 refine xe 5 (.tuple #[.int .i64 ((u.getD 0 entD).2.2), .nilIface]) ?_
 have h1 : u.length ≤ 1 := by omega
 rw [treeUp_one h1] at htr
 rw [levs_one h1] at hK
 simp only [List.sum_cons, List.sum_nil] at hK
 obtain rfl : K = k0 + nodN t l.length := by omega
 refine ⟨by rw [← htr], hB_9, hO_9, hX_9, by rw [← htr]; exact hA⟩
set_option maxRecDepth 100000 in
set_option maxHeartbeats 8000000 in
theorem build_Tree_none (B ba b g nn cc : Nat) (pa : Option Addr) (ca f N k0 : Nat) (bs : List UInt8) (t : Int) (a : Option Addr) (c : Nat) (l : List Ent) (w : World) (hA : Al B ba b g nn cc pa ca f N k0 bs w) (ht1 : 1 ≤ t) (ht2 : t ≤ 5) (E : EntsOk (widN t true) l) (hn : l.length ≤ 32768) (hkN : k0 ≤ N) (hk : N < k0 + nodN t l.length) (h : Sts entC w (.slice a l.length c) l) :
    Calls Tryz.prog 6 #[.pointer (some ⟨ba, 0, none⟩), .int .i64 t, .slice a l.length c] w (Ret (.tuple #[.int .i64 0, .iface 49 (.int .i64 14)]) w) := by
 refine zin 52 Tryz.func6 ?_
 refine xa 2 [.pointer (some ⟨ba, 0, none⟩)] 27 fun b1 W1 n1 => ?_
 refine xa 0 [.int .i64 t] 3 fun b2 W2 n2 => ?_
 have k1 := n1.blk.below n2.below
 refine xb 8 0 k1 ?_
 have hA'1 := (hA.below n1.below).below n2.below
 refine xr 0 (args := #[.pointer (some ⟨ba, 0, none⟩)]) (alloc_Image ba b _ _ _ hA'1.blkA) fun W3 hb3 => ?_
 have k2 := n2.blk.below hb3
 refine xb 7 0 k2 ?_
 have hB := Bl.next (Bl.next n1.below n2.below) hb3
 refine xr 1 (args := #[.int .i64 t, .slice a l.length c]) (build_right t (widN t true) a c l _ ht1 ht2 rfl E (h.below hB) hn) fun W4 hb4 => ?_
 refine xd 6 .z ?_
 have k1'1 := ((k1.below hb3).below hb4).below (below_drew W4)
 refine xb (.e [] 0) 0 k1'1 ?_
 have k2'1 := (k2.below hb4).below (below_drew W4)
 refine xb (.e [] 2) 0 k2'1 ?_
 have hA'2 := ((hA'1.below hb3).below hb4).below (below_drew W4)
 refine xr (.o [3, 4] 1) (args := #[.pointer (some ⟨ba, 0, none⟩)]) (alloc_Left ba b pa N ca k0 _ hA'2.blkA hkN) fun W5 hb5 => ?_
 refine xr (.o [] 5) (args := #[.int .i64 t, .int .i64 (↑l.length : Int)]) (tall_Nodes t l.length _ ht1 ht2 hn) fun W6 hb6 => ?_
 refine xk (.r [6, 7] 2) (show (decide ((↑(N - k0) : Int) < (↑(nodN t l.length) : Int)) : Bool) = true from decide_eq_true (by omega)) ?_
 have hB'1 := Bl.next (Bl.next (Bl.next (Bl.next hB hb4) (below_drew W4)) hb5) hb6
 exact xe 10 (.tuple #[.int .i64 0, .iface 49 (.int .i64 14)]) ⟨rfl, hB'1⟩
end Go.Proofs.YtolblnjohaooaaaGreat
namespace Go.Proofs.YtolblnjohaooaaaGreat
open Go.RowKit Go.Extern.Stop Go.Stop Go.Extern
set_option linter.unusedVariables false
attribute [local irreducible] wpList wpAnyH Code.wp Oper.wp Go

set_option maxRecDepth 100000 in
set_option maxHeartbeats 1000000 in
theorem law17_made (N f : Nat) (w : World) (hN : N ≤ 14400) (h1 : 1 ≤ f) (h2 : f ≤ N) :
    Calls Tryz.prog 5 #[.int .i64 (↑N : Int), .int .i64 (↑f : Int)] w (RetS (fun w' r => ∃ ba b g c pa ca, r = .pointer (some ⟨ba, 0, none⟩) ∧ AlC w.heap.size ba (256 * N) c ca f (N - f) ∧ Al w.heap.size ba b g (256 * N) c pa ca f (N - f) 0 (List.replicate (256 * N) (0 : UInt8)) w') w) := by
 refine zin 17 Tryz.func5 ?_
 refine xwm 8 (256 * (↑N : Int)) (↑(256 * N) : Int) ?_
 refine xmk 0 fun _ _ _ _ zJ zQ zo zx zy zK => op_make (256 * N) (.int .u8 0) 1 1 ((List.replicate (256 * N) (0 : UInt8)).map bv) zo zx zy Tryz.underlying22 (by kernel_rfl) rfl (by omega) (by omega) (zerosB (256 * N)) fun b1 W1 n1 => ?_
 refine zK _ _ ?_
 have o1 := own_of_blk (size := 1) (n := (256 * N)) n1.blk (n1.ge (Below.refl w.heap.size _)) (by rw [List.length_map, List.length_replicate, Nat.mul_one]) (by unfold maxLen; omega)
 refine xc 0 (args := #[.slice (some ⟨b1, 0, none⟩) (256 * N) (256 * N)]) (image_OfN (some ⟨b1, 0, none⟩) (256 * N) (256 * N) (256 * N) (List.replicate (256 * N) (0 : UInt8)) _ List.length_replicate (by omega) (bys_of (own_sl o1) List.length_replicate) (by omega) (Nat.le_refl _)) ?_
 rintro _ W2 ⟨_, rfl, hb2, bi, pi, ci, rfl, gi, ki, hd⟩
 have hd'1 := own_mono hd n1.below.size
 rw [List.take_of_length_le (by rw [List.length_replicate]; omega)] at hd'1
 obtain ⟨g, rfl, hci⟩ := own_someN hd'1 (by omega)
 have hB := Bl.next n1.below hb2
 have hs9 := hB.size
 refine xc 1 (args := #[.pointer (some ⟨bi, 0, none⟩), .int .i64 (↑f : Int)]) (alloc_NewN bi (some ⟨g, 0, none⟩) (256 * N) ci f (N - f) (f : Int) rfl (by omega) _ ki (by omega) h1 (by omega)) ?_
 rintro _ W3 ⟨_, rfl, hb3, ba, pa, ca, rfl, ga, ka, ho⟩
 replace ga := Nat.le_trans hs9 ga
 have ki'1 := ki.below hb3
 have hd'2 := own_below hd'1 hb3
 have ho'1 := own_mono ho hB.size
 have hA : Al w.heap.size ba bi g (256 * N) ci pa ca f (N - f) 0 (List.replicate (256 * N) (0 : UInt8)) _ := ⟨ka, ki'1, hd'2, ho'1⟩
 have hca : N - f ≤ ca := by
   rcases Nat.eq_zero_or_pos (N - f) with q | q
   · omega
   · exact own_cap ho'1 q
 have hC : AlC w.heap.size ba (256 * N) ci ca f (N - f) := ⟨by omega, hci, hca, by omega, ga⟩
 have hB'1 := Bl.next hB hb3
 exact xe 14 (.pointer (some ⟨ba, 0, none⟩)) ⟨_, rfl, hB'1, _, _, _, _, _, _, rfl, hC, hA⟩
/-- the law's entries: keys 0, 3, 6 .., values of v zero bytes -/
def someE (v N : Nat) : List Ent := (List.range N).map fun i => (((3 * i : Nat) : Int), List.replicate v 0, 0)
theorem someE_len (v N : Nat) : (someE v N).length = N := by simp [someE]
theorem someE_get {v N i : Nat} (h : i < N) : (someE v N).getD i entD = (((3 * i : Nat) : Int), List.replicate v 0, 0) := by simp [someE, List.getD, List.getElem?_range h]
theorem someE_succ (v j : Nat) : (someE v (j + 1)).flatMap entC = (someE v j).flatMap entC ++ [.int .i64 ((3 * j : Nat) : Int), .string ⟨(List.replicate v (0 : UInt8)).toArray⟩, .int .i64 0] := by
  simp [someE, List.range_succ, entC]
theorem someE_ok {v N : Nat} (h : N ≤ 100000) : EntsOk v (someE v N) where
  hk i hi := by rw [someE_len] at hi; rw [someE_get hi]; constructor <;> (simp only; omega)
  hs j hj := by rw [someE_len] at hj; rw [someE_get (by omega), someE_get hj]; simp only; omega
  hw i hi := by rw [someE_len] at hi; rw [someE_get hi]; simp
set_option maxRecDepth 100000 in
set_option maxHeartbeats 4000000 in
theorem law17_some1 (N : Nat) (w : World) (hN : N ≤ 32768) :
    Calls Tryz.prog 4 #[.int .i64 (↑N : Int), .int .i64 1] w (RetS (fun w' r => ∃ p c, r = .slice p N c ∧ w'.ownsRow w.heap.size 26 3 (.slice p N c) N ((someE 4 N).flatMap entC)) w) := by
 refine zin 25 Tryz.func4 ?_
 have hB := Below.refl w.heap.size w
 refine zl 17 25 (fun zm zkv V => ∃ (j : Nat) (p : Option Addr) (c : Nat), zkv = [(0, .int .i64 (↑N : Int)), (1, .int .i64 1), (4, .slice none 0 0), (5, .slice p j c), (6, .int .i64 (↑j : Int))] ∧ zm = N - ((↑j : Int)).toNat ∧ Below w.heap.size w V ∧ V.ownsRow w.heap.size 26 3 (.slice p j c) j ((someE 4 j).flatMap entC) ∧ j ≤ N) ⟨0, _, _, rfl, rfl, hB, World.ownsRow_nil _ _ _ _, Nat.zero_le _⟩ ?_
 rintro _ _ W1 ⟨j, p, c, rfl, rfl, hB_1, ho, hj⟩ J1 hJ1 r1
 refine xid 8 ((↑j : Int) < (↑N : Int)) (fun hc2 => ?_) (fun hc2 => ?_)
 · refine xwm 7 (3 * (↑j : Int)) (↑(3 * j) : Int) ?_
   refine xbs 0 6 [.int .i64 0, .int .i64 4, .int .i64 8, .int .i64 24, .int .i64 16, .int .i64 4] 3 fun b3 W3 n3 => ?_
   refine xb 2 1 n3.blk ?_
   refine xmk 0 fun _ _ _ _ zJ zQ zo zx zy zK => op_make 4 (.int .u8 0) 1 1 ((List.replicate 4 (0 : UInt8)).map bv) zo zx zy Tryz.underlying22 (by kernel_rfl) rfl (by omega) (by omega) (zerosB 4) fun b4 W4 n4 => ?_
   refine zK _ _ ?_
   have o4 := own_of_blk (size := 1) (n := 4) n4.blk (n4.ge (Bl.next hB_1 n3.below)) (by rw [List.length_map, List.length_replicate]) (by unfold maxLen; omega)
   refine xcv0 0 (fun _ _ _ zo zx => run_bstr zo zx (bys_of (own_sl o4) List.length_replicate) List.length_replicate Tryz.underlying22 Tryz.underlying5 Tryz.underlying9) ?_
   refine xbs 1 1 [.int .i64 (↑(3 * j) : Int), .string ⟨(List.replicate 4 (0 : UInt8)).toArray⟩, .int .i64 0] 26 fun b5 W5 n5 => ?_
   have ho'1 := own_below (own_below ho n3.below) n4.below
   have r5_ho := own_ne ho'1 n5
   have ho'2 := own_below ho'1 n5.below
   have hB'1 := Bl.next (Bl.next (Bl.next hB_1 n3.below) n4.below) n5.below
   refine xbi 0 fun _ _ _ _ zJ zQ zo zx zy zK => op_app (m := 1) (news := [.int .i64 (↑(3 * j) : Int), .string ⟨(List.replicate 4 (0 : UInt8)).toArray⟩, .int .i64 0]) (.agg #[.int .i64 0, .string ⟨#[]⟩, .int .i64 0]) 3 32 (j + 1) ((someE 4 (j + 1)).flatMap entC) zo Tryz.underlying23 (by kernel_rfl) rfl (by decide) zx ho'2 zy (n5.blk.sl 1 1 (by decide) (by decide)) rfl (by simp [Value.oneCell']) (by unfold maxLen; omega) (by omega) hB'1.size (by rfl) ((someE_succ 4 j).symm) fun p6 c6 W6 o6 hg6 hb6 => ?_
   refine zK _ _ ?_
   refine xwm 6 ((↑j : Int) + 1) (↑(j + 1) : Int) ?_
   have hB'2 := hB'1.trans hb6
   exact ze 2 (hJ1 _ _ _ ⟨j + 1, _, _, rfl, rfl, hB'2, o6, by omega⟩ (by omega))
 refine xe 12 (.slice p j c) ?_
 obtain rfl : j = N := by omega
 exact ⟨_, rfl, hB_1, _, _, rfl, ho⟩
set_option maxRecDepth 100000 in
set_option maxHeartbeats 4000000 in
theorem law17_some2 (N : Nat) (w : World) (hN : N ≤ 32768) :
    Calls Tryz.prog 4 #[.int .i64 (↑N : Int), .int .i64 2] w (RetS (fun w' r => ∃ p c, r = .slice p N c ∧ w'.ownsRow w.heap.size 26 3 (.slice p N c) N ((someE 8 N).flatMap entC)) w) := by
 refine zin 25 Tryz.func4 ?_
 have hB := Below.refl w.heap.size w
 refine zl 17 25 (fun zm zkv V => ∃ (j : Nat) (p : Option Addr) (c : Nat), zkv = [(0, .int .i64 (↑N : Int)), (1, .int .i64 2), (4, .slice none 0 0), (5, .slice p j c), (6, .int .i64 (↑j : Int))] ∧ zm = N - ((↑j : Int)).toNat ∧ Below w.heap.size w V ∧ V.ownsRow w.heap.size 26 3 (.slice p j c) j ((someE 8 j).flatMap entC) ∧ j ≤ N) ⟨0, _, _, rfl, rfl, hB, World.ownsRow_nil _ _ _ _, Nat.zero_le _⟩ ?_
 rintro _ _ W1 ⟨j, p, c, rfl, rfl, hB_1, ho, hj⟩ J1 hJ1 r1
 refine xid 8 ((↑j : Int) < (↑N : Int)) (fun hc2 => ?_) (fun hc2 => ?_)
 · refine xwm 7 (3 * (↑j : Int)) (↑(3 * j) : Int) ?_
   refine xbs 0 6 [.int .i64 0, .int .i64 4, .int .i64 8, .int .i64 24, .int .i64 16, .int .i64 4] 3 fun b3 W3 n3 => ?_
   refine xb 2 2 n3.blk ?_
   refine xmk 0 fun _ _ _ _ zJ zQ zo zx zy zK => op_make 8 (.int .u8 0) 1 1 ((List.replicate 8 (0 : UInt8)).map bv) zo zx zy Tryz.underlying22 (by kernel_rfl) rfl (by omega) (by omega) (zerosB 8) fun b4 W4 n4 => ?_
   refine zK _ _ ?_
   have o4 := own_of_blk (size := 1) (n := 8) n4.blk (n4.ge (Bl.next hB_1 n3.below)) (by rw [List.length_map, List.length_replicate]) (by unfold maxLen; omega)
   refine xcv0 0 (fun _ _ _ zo zx => run_bstr zo zx (bys_of (own_sl o4) List.length_replicate) List.length_replicate Tryz.underlying22 Tryz.underlying5 Tryz.underlying9) ?_
   refine xbs 1 1 [.int .i64 (↑(3 * j) : Int), .string ⟨(List.replicate 8 (0 : UInt8)).toArray⟩, .int .i64 0] 26 fun b5 W5 n5 => ?_
   have ho'1 := own_below (own_below ho n3.below) n4.below
   have r5_ho := own_ne ho'1 n5
   have ho'2 := own_below ho'1 n5.below
   have hB'1 := Bl.next (Bl.next (Bl.next hB_1 n3.below) n4.below) n5.below
   refine xbi 0 fun _ _ _ _ zJ zQ zo zx zy zK => op_app (m := 1) (news := [.int .i64 (↑(3 * j) : Int), .string ⟨(List.replicate 8 (0 : UInt8)).toArray⟩, .int .i64 0]) (.agg #[.int .i64 0, .string ⟨#[]⟩, .int .i64 0]) 3 32 (j + 1) ((someE 8 (j + 1)).flatMap entC) zo Tryz.underlying23 (by kernel_rfl) rfl (by decide) zx ho'2 zy (n5.blk.sl 1 1 (by decide) (by decide)) rfl (by simp [Value.oneCell']) (by unfold maxLen; omega) (by omega) hB'1.size (by rfl) ((someE_succ 8 j).symm) fun p6 c6 W6 o6 hg6 hb6 => ?_
   refine zK _ _ ?_
   refine xwm 6 ((↑j : Int) + 1) (↑(j + 1) : Int) ?_
   have hB'2 := hB'1.trans hb6
   exact ze 2 (hJ1 _ _ _ ⟨j + 1, _, _, rfl, rfl, hB'2, o6, by omega⟩ (by omega))
 refine xe 12 (.slice p j c) ?_
 obtain rfl : j = N := by omega
 exact ⟨_, rfl, hB_1, _, _, rfl, ho⟩
set_option maxRecDepth 100000 in
set_option maxHeartbeats 4000000 in
theorem law17_some3 (N : Nat) (w : World) (hN : N ≤ 32768) :
    Calls Tryz.prog 4 #[.int .i64 (↑N : Int), .int .i64 3] w (RetS (fun w' r => ∃ p c, r = .slice p N c ∧ w'.ownsRow w.heap.size 26 3 (.slice p N c) N ((someE 24 N).flatMap entC)) w) := by
 refine zin 25 Tryz.func4 ?_
 have hB := Below.refl w.heap.size w
 refine zl 17 25 (fun zm zkv V => ∃ (j : Nat) (p : Option Addr) (c : Nat), zkv = [(0, .int .i64 (↑N : Int)), (1, .int .i64 3), (4, .slice none 0 0), (5, .slice p j c), (6, .int .i64 (↑j : Int))] ∧ zm = N - ((↑j : Int)).toNat ∧ Below w.heap.size w V ∧ V.ownsRow w.heap.size 26 3 (.slice p j c) j ((someE 24 j).flatMap entC) ∧ j ≤ N) ⟨0, _, _, rfl, rfl, hB, World.ownsRow_nil _ _ _ _, Nat.zero_le _⟩ ?_
 rintro _ _ W1 ⟨j, p, c, rfl, rfl, hB_1, ho, hj⟩ J1 hJ1 r1
 refine xid 8 ((↑j : Int) < (↑N : Int)) (fun hc2 => ?_) (fun hc2 => ?_)
 · refine xwm 7 (3 * (↑j : Int)) (↑(3 * j) : Int) ?_
   refine xbs 0 6 [.int .i64 0, .int .i64 4, .int .i64 8, .int .i64 24, .int .i64 16, .int .i64 4] 3 fun b3 W3 n3 => ?_
   refine xb 2 3 n3.blk ?_
   refine xmk 0 fun _ _ _ _ zJ zQ zo zx zy zK => op_make 24 (.int .u8 0) 1 1 ((List.replicate 24 (0 : UInt8)).map bv) zo zx zy Tryz.underlying22 (by kernel_rfl) rfl (by omega) (by omega) (zerosB 24) fun b4 W4 n4 => ?_
   refine zK _ _ ?_
   have o4 := own_of_blk (size := 1) (n := 24) n4.blk (n4.ge (Bl.next hB_1 n3.below)) (by rw [List.length_map, List.length_replicate]) (by unfold maxLen; omega)
   refine xcv0 0 (fun _ _ _ zo zx => run_bstr zo zx (bys_of (own_sl o4) List.length_replicate) List.length_replicate Tryz.underlying22 Tryz.underlying5 Tryz.underlying9) ?_
   refine xbs 1 1 [.int .i64 (↑(3 * j) : Int), .string ⟨(List.replicate 24 (0 : UInt8)).toArray⟩, .int .i64 0] 26 fun b5 W5 n5 => ?_
   have ho'1 := own_below (own_below ho n3.below) n4.below
   have r5_ho := own_ne ho'1 n5
   have ho'2 := own_below ho'1 n5.below
   have hB'1 := Bl.next (Bl.next (Bl.next hB_1 n3.below) n4.below) n5.below
   refine xbi 0 fun _ _ _ _ zJ zQ zo zx zy zK => op_app (m := 1) (news := [.int .i64 (↑(3 * j) : Int), .string ⟨(List.replicate 24 (0 : UInt8)).toArray⟩, .int .i64 0]) (.agg #[.int .i64 0, .string ⟨#[]⟩, .int .i64 0]) 3 32 (j + 1) ((someE 24 (j + 1)).flatMap entC) zo Tryz.underlying23 (by kernel_rfl) rfl (by decide) zx ho'2 zy (n5.blk.sl 1 1 (by decide) (by decide)) rfl (by simp [Value.oneCell']) (by unfold maxLen; omega) (by omega) hB'1.size (by rfl) ((someE_succ 24 j).symm) fun p6 c6 W6 o6 hg6 hb6 => ?_
   refine zK _ _ ?_
   refine xwm 6 ((↑j : Int) + 1) (↑(j + 1) : Int) ?_
   have hB'2 := hB'1.trans hb6
   exact ze 2 (hJ1 _ _ _ ⟨j + 1, _, _, rfl, rfl, hB'2, o6, by omega⟩ (by omega))
 refine xe 12 (.slice p j c) ?_
 obtain rfl : j = N := by omega
 exact ⟨_, rfl, hB_1, _, _, rfl, ho⟩
set_option maxRecDepth 100000 in
set_option maxHeartbeats 4000000 in
theorem law17_some4 (N : Nat) (w : World) (hN : N ≤ 32768) :
    Calls Tryz.prog 4 #[.int .i64 (↑N : Int), .int .i64 4] w (RetS (fun w' r => ∃ p c, r = .slice p N c ∧ w'.ownsRow w.heap.size 26 3 (.slice p N c) N ((someE 16 N).flatMap entC)) w) := by
 refine zin 25 Tryz.func4 ?_
 have hB := Below.refl w.heap.size w
 refine zl 17 25 (fun zm zkv V => ∃ (j : Nat) (p : Option Addr) (c : Nat), zkv = [(0, .int .i64 (↑N : Int)), (1, .int .i64 4), (4, .slice none 0 0), (5, .slice p j c), (6, .int .i64 (↑j : Int))] ∧ zm = N - ((↑j : Int)).toNat ∧ Below w.heap.size w V ∧ V.ownsRow w.heap.size 26 3 (.slice p j c) j ((someE 16 j).flatMap entC) ∧ j ≤ N) ⟨0, _, _, rfl, rfl, hB, World.ownsRow_nil _ _ _ _, Nat.zero_le _⟩ ?_
 rintro _ _ W1 ⟨j, p, c, rfl, rfl, hB_1, ho, hj⟩ J1 hJ1 r1
 refine xid 8 ((↑j : Int) < (↑N : Int)) (fun hc2 => ?_) (fun hc2 => ?_)
 · refine xwm 7 (3 * (↑j : Int)) (↑(3 * j) : Int) ?_
   refine xbs 0 6 [.int .i64 0, .int .i64 4, .int .i64 8, .int .i64 24, .int .i64 16, .int .i64 4] 3 fun b3 W3 n3 => ?_
   refine xb 2 4 n3.blk ?_
   refine xmk 0 fun _ _ _ _ zJ zQ zo zx zy zK => op_make 16 (.int .u8 0) 1 1 ((List.replicate 16 (0 : UInt8)).map bv) zo zx zy Tryz.underlying22 (by kernel_rfl) rfl (by omega) (by omega) (zerosB 16) fun b4 W4 n4 => ?_
   refine zK _ _ ?_
   have o4 := own_of_blk (size := 1) (n := 16) n4.blk (n4.ge (Bl.next hB_1 n3.below)) (by rw [List.length_map, List.length_replicate]) (by unfold maxLen; omega)
   refine xcv0 0 (fun _ _ _ zo zx => run_bstr zo zx (bys_of (own_sl o4) List.length_replicate) List.length_replicate Tryz.underlying22 Tryz.underlying5 Tryz.underlying9) ?_
   refine xbs 1 1 [.int .i64 (↑(3 * j) : Int), .string ⟨(List.replicate 16 (0 : UInt8)).toArray⟩, .int .i64 0] 26 fun b5 W5 n5 => ?_
   have ho'1 := own_below (own_below ho n3.below) n4.below
   have r5_ho := own_ne ho'1 n5
   have ho'2 := own_below ho'1 n5.below
   have hB'1 := Bl.next (Bl.next (Bl.next hB_1 n3.below) n4.below) n5.below
   refine xbi 0 fun _ _ _ _ zJ zQ zo zx zy zK => op_app (m := 1) (news := [.int .i64 (↑(3 * j) : Int), .string ⟨(List.replicate 16 (0 : UInt8)).toArray⟩, .int .i64 0]) (.agg #[.int .i64 0, .string ⟨#[]⟩, .int .i64 0]) 3 32 (j + 1) ((someE 16 (j + 1)).flatMap entC) zo Tryz.underlying23 (by kernel_rfl) rfl (by decide) zx ho'2 zy (n5.blk.sl 1 1 (by decide) (by decide)) rfl (by simp [Value.oneCell']) (by unfold maxLen; omega) (by omega) hB'1.size (by rfl) ((someE_succ 16 j).symm) fun p6 c6 W6 o6 hg6 hb6 => ?_
   refine zK _ _ ?_
   refine xwm 6 ((↑j : Int) + 1) (↑(j + 1) : Int) ?_
   have hB'2 := hB'1.trans hb6
   exact ze 2 (hJ1 _ _ _ ⟨j + 1, _, _, rfl, rfl, hB'2, o6, by omega⟩ (by omega))
 refine xe 12 (.slice p j c) ?_
 obtain rfl : j = N := by omega
 exact ⟨_, rfl, hB_1, _, _, rfl, ho⟩
set_option maxRecDepth 100000 in
set_option maxHeartbeats 4000000 in
theorem law17_some5 (N : Nat) (w : World) (hN : N ≤ 32768) :
    Calls Tryz.prog 4 #[.int .i64 (↑N : Int), .int .i64 5] w (RetS (fun w' r => ∃ p c, r = .slice p N c ∧ w'.ownsRow w.heap.size 26 3 (.slice p N c) N ((someE 4 N).flatMap entC)) w) := by
 refine zin 25 Tryz.func4 ?_
 have hB := Below.refl w.heap.size w
 refine zl 17 25 (fun zm zkv V => ∃ (j : Nat) (p : Option Addr) (c : Nat), zkv = [(0, .int .i64 (↑N : Int)), (1, .int .i64 5), (4, .slice none 0 0), (5, .slice p j c), (6, .int .i64 (↑j : Int))] ∧ zm = N - ((↑j : Int)).toNat ∧ Below w.heap.size w V ∧ V.ownsRow w.heap.size 26 3 (.slice p j c) j ((someE 4 j).flatMap entC) ∧ j ≤ N) ⟨0, _, _, rfl, rfl, hB, World.ownsRow_nil _ _ _ _, Nat.zero_le _⟩ ?_
 rintro _ _ W1 ⟨j, p, c, rfl, rfl, hB_1, ho, hj⟩ J1 hJ1 r1
 refine xid 8 ((↑j : Int) < (↑N : Int)) (fun hc2 => ?_) (fun hc2 => ?_)
 · refine xwm 7 (3 * (↑j : Int)) (↑(3 * j) : Int) ?_
   refine xbs 0 6 [.int .i64 0, .int .i64 4, .int .i64 8, .int .i64 24, .int .i64 16, .int .i64 4] 3 fun b3 W3 n3 => ?_
   refine xb 2 5 n3.blk ?_
   refine xmk 0 fun _ _ _ _ zJ zQ zo zx zy zK => op_make 4 (.int .u8 0) 1 1 ((List.replicate 4 (0 : UInt8)).map bv) zo zx zy Tryz.underlying22 (by kernel_rfl) rfl (by omega) (by omega) (zerosB 4) fun b4 W4 n4 => ?_
   refine zK _ _ ?_
   have o4 := own_of_blk (size := 1) (n := 4) n4.blk (n4.ge (Bl.next hB_1 n3.below)) (by rw [List.length_map, List.length_replicate]) (by unfold maxLen; omega)
   refine xcv0 0 (fun _ _ _ zo zx => run_bstr zo zx (bys_of (own_sl o4) List.length_replicate) List.length_replicate Tryz.underlying22 Tryz.underlying5 Tryz.underlying9) ?_
   refine xbs 1 1 [.int .i64 (↑(3 * j) : Int), .string ⟨(List.replicate 4 (0 : UInt8)).toArray⟩, .int .i64 0] 26 fun b5 W5 n5 => ?_
   have ho'1 := own_below (own_below ho n3.below) n4.below
   have r5_ho := own_ne ho'1 n5
   have ho'2 := own_below ho'1 n5.below
   have hB'1 := Bl.next (Bl.next (Bl.next hB_1 n3.below) n4.below) n5.below
   refine xbi 0 fun _ _ _ _ zJ zQ zo zx zy zK => op_app (m := 1) (news := [.int .i64 (↑(3 * j) : Int), .string ⟨(List.replicate 4 (0 : UInt8)).toArray⟩, .int .i64 0]) (.agg #[.int .i64 0, .string ⟨#[]⟩, .int .i64 0]) 3 32 (j + 1) ((someE 4 (j + 1)).flatMap entC) zo Tryz.underlying23 (by kernel_rfl) rfl (by decide) zx ho'2 zy (n5.blk.sl 1 1 (by decide) (by decide)) rfl (by simp [Value.oneCell']) (by unfold maxLen; omega) (by omega) hB'1.size (by rfl) ((someE_succ 4 j).symm) fun p6 c6 W6 o6 hg6 hb6 => ?_
   refine zK _ _ ?_
   refine xwm 6 ((↑j : Int) + 1) (↑(j + 1) : Int) ?_
   have hB'2 := hB'1.trans hb6
   exact ze 2 (hJ1 _ _ _ ⟨j + 1, _, _, rfl, rfl, hB'2, o6, by omega⟩ (by omega))
 refine xe 12 (.slice p j c) ?_
 obtain rfl : j = N := by omega
 exact ⟨_, rfl, hB_1, _, _, rfl, ho⟩
end Go.Proofs.YtolblnjohaooaaaGreat
namespace Go.Proofs.YtolblnjohaooaaaGreat
open Go.RowKit Go.Extern.Stop Go.Stop Go.Extern
set_option linter.unusedVariables false
attribute [local irreducible] wpList wpAnyH Code.wp Oper.wp Go

theorem Al.mono {B B' ba b g n c : Nat} {pa : Option Addr} {ca f N k : Nat} {l : List UInt8} {w : World} (h : Al B' ba b g n c pa ca f N k l w) (hB : B ≤ B') : Al B ba b g n c pa ca f N k l w := ⟨h.blkA, h.blkI, own_mono h.data hB, own_mono h.nums hB⟩
theorem AlC.mono {B B' ba n c ca f N : Nat} (h : AlC B' ba n c ca f N) (hB : B ≤ B') : AlC B ba n c ca f N := ⟨h.hn, h.hc, h.hca, h.hf, Nat.le_trans hB h.hB⟩
theorem row_at {w : World} {base g n c size : Nat} {e : TypeId} {xs : List Value} (h : w.ownsRow base e size (.slice (some ⟨g, 0, none⟩) n c) n xs) : ∃ cur, w.heap[g]? = some (.cells cur e (0, 0)) := by
  rcases h.2 with ⟨hv, _⟩ | ⟨g2, cap, cur, hv, _, hh, _⟩
  · cases hv
  · simp only [Value.slice.injEq, Option.some.injEq, Addr.mk.injEq] at hv
    obtain ⟨⟨rfl, _, _⟩, _⟩ := hv
    exact ⟨cur, hh⟩
theorem row_lt {w : World} {base g n c size : Nat} {e : TypeId} {xs : List Value} (h : w.ownsRow base e size (.slice (some ⟨g, 0, none⟩) n c) n xs) : g < w.heap.size := by
  obtain ⟨cur, hh⟩ := row_at h
  exact (Array.getElem?_eq_some_iff.1 hh).1
/-- the image of one allocator is no block that another one writes -/
theorem Al.ne {B ba b g n c : Nat} {pa : Option Addr} {ca f N k : Nat} {l : List UInt8} {B2 ba2 b2 g2 n2 c2 : Nat} {pa2 : Option Addr} {ca2 f2 N2 k2 : Nat} {l2 : List UInt8} {w : World} (h : Al B ba b g n c pa ca f N k l w) (h2 : Al B2 ba2 b2 g2 n2 c2 pa2 ca2 f2 N2 k2 l2 w) : b2 ≠ ba ∧ b2 ≠ g := by
  constructor
  · rintro rfl
    exact absurd (h.blkA.ty h2.blkI) (by decide)
  · rintro rfl
    obtain ⟨cur, hh⟩ := row_at h.data
    have h3 : w.heap[b2]? = some (.cells [.slice (some ⟨g2, 0, none⟩) n2 c2].toArray 63 (0, 0)) := h2.blkI
    rw [hh] at h3
    simp only [Option.some.injEq, Obj.cells.injEq] at h3
    exact absurd h3.2.1 (by decide)
theorem Al.apart {B2 ba2 b2 g2 n2 c2 : Nat} {pa2 : Option Addr} {ca2 f2 N2 k2 : Nat} {l2 : List UInt8} {w W : World} {ba g : Nat} (h : Al B2 ba2 b2 g2 n2 c2 pa2 ca2 f2 N2 k2 l2 w) (hC : AlC B2 ba2 n2 c2 ca2 f2 N2) (h1 : ba < B2) (h2 : g < B2) (hne : b2 ≠ ba ∧ b2 ≠ g) (hX : Fr [ba, g] w W) : Al B2 ba2 b2 g2 n2 c2 pa2 ca2 f2 N2 k2 l2 W := by
  have hB := hC.hB
  refine ⟨h.blkA.fr hX (by simp; omega), h.blkI.fr hX (by simp; exact hne), own_fr h.data hX fun k hk => ?_, own_fr h.nums hX fun k hk => ?_⟩
  · have := (h.data.lt k hk).1; simp; omega
  · have := (h.nums.lt k hk).1; simp; omega
theorem madeN (N f : Nat) (Ni fi : Int) (hNi : Ni = (N : Int)) (hfi : fi = (f : Int)) (w : World) (hN : N ≤ 14400) (h1 : 1 ≤ f) (h2 : f ≤ N) :
    Calls Tryz.prog 5 #[.int .i64 Ni, .int .i64 fi] w (RetS (fun w' r => ∃ ba b g c pa ca, r = .pointer (some ⟨ba, 0, none⟩) ∧ AlC w.heap.size ba (256 * N) c ca f (N - f) ∧ Al w.heap.size ba b g (256 * N) c pa ca f (N - f) 0 (List.replicate (256 * N) (0 : UInt8)) w') w) := by
  subst hNi hfi; exact law17_made N f w hN h1 h2
theorem law17_some (t : Int) (N : Nat) (Ni : Int) (hNi : Ni = (N : Int)) (w : World) (h1 : 1 ≤ t) (h2 : t ≤ 5) (hN : N ≤ 32768) :
    Calls Tryz.prog 4 #[.int .i64 Ni, .int .i64 t] w (RetS (fun w' r => ∃ p c, r = .slice p N c ∧ w'.ownsRow w.heap.size 26 3 (.slice p N c) N ((someE (widN t true) N).flatMap entC)) w) := by
  subst hNi
  obtain rfl | rfl | rfl | rfl | rfl : t = 1 ∨ t = 2 ∨ t = 3 ∨ t = 4 ∨ t = 5 := by omega
  · exact law17_some1 N w hN
  · exact law17_some2 N w hN
  · exact law17_some3 N w hN
  · exact law17_some4 N w hN
  · exact law17_some5 N w hN
theorem build_TreeN (B ba b g nn cc : Nat) (pa : Option Addr) (ca f N k0 : Nat) (bs : List UInt8) (t : Int) (a : Option Addr) (c : Nat) (l : List Ent) (n : Nat) (w : World) (hl : l.length = n) (hC : AlC B ba nn cc ca f N) (hA : Al B ba b g nn cc pa ca f N k0 bs w) (ht1 : 1 ≤ t) (ht2 : t ≤ 5) (E : EntsOk (widN t true) l) (hn : n ≤ 32768) (hf1 : 1 ≤ f) (hkN : k0 ≤ N) (hk : k0 + nodN t n ≤ N) (hin : ∀ W, Below B w W → Only [59, 5, 30] w W → Sts entC W (.slice a l.length c) l) (hBw : B ≤ w.heap.size) :
    Calls Tryz.prog 6 #[.pointer (some ⟨ba, 0, none⟩), .int .i64 t, .slice a n c] w (TreePost B ba b g nn cc pa ca f N k0 bs t l w) := by
  subst hl; exact build_Tree B ba b g nn cc pa ca f N k0 bs t a c l w hC hA ht1 ht2 E hn hf1 hkN hk hin hBw
theorem build_Tree_noneN (B ba b g nn cc : Nat) (pa : Option Addr) (ca f N k0 : Nat) (bs : List UInt8) (t : Int) (a : Option Addr) (c : Nat) (l : List Ent) (n : Nat) (w : World) (hl : l.length = n) (hA : Al B ba b g nn cc pa ca f N k0 bs w) (ht1 : 1 ≤ t) (ht2 : t ≤ 5) (E : EntsOk (widN t true) l) (hn : n ≤ 32768) (hkN : k0 ≤ N) (hk : N < k0 + nodN t n) (h : Sts entC w (.slice a l.length c) l) :
    Calls Tryz.prog 6 #[.pointer (some ⟨ba, 0, none⟩), .int .i64 t, .slice a n c] w (Ret (.tuple #[.int .i64 0, .iface 49 (.int .i64 14)]) w) := by
  subst hl; exact build_Tree_none B ba b g nn cc pa ca f N k0 bs t a c l w hA ht1 ht2 E hn hkN hk h
theorem treeB_root {t : Int} {l : List Ent} {q : Nat} {bs : List UInt8} (hq : 1 ≤ q) : (treeB t l q bs).1 = ((q + nodN t l.length - 1 : Nat) : Int) := by
  have hp := ovN_pos l.length (maxN t true)
  have hg := levs_ge (ovN l.length (maxN t true))
  unfold treeB
  rw [treeUp_root (by rw [upE_len]; exact hp) (by rw [upE_len, upE_get (by omega)]; simp only [upX]; congr 1; omega) (by omega), upE_len]
  unfold nodN levL
  congr 1; omega
theorem ovN_6 {n m : Nat} (hm : 6 ≤ m) (hn : n ≤ 511) : ovN n m ≤ 86 := by
  unfold ovN
  have : (n + m - 1) / m ≤ 86 := by
    rw [Nat.div_le_iff_le_mul_add_pred (by omega)]
    have : 6 * 86 ≤ m * 86 := Nat.mul_le_mul_right 86 hm
    omega
  omega
theorem nodN_511 {t : Int} {n : Nat} (hn : n ≤ 511) : nodN t n ≤ 200 := by
  have hm : 6 ≤ maxN t true := by unfold maxN; repeat' split
                                  all_goals first | decide | simp_all
  have h1 := ovN_6 (m := maxN t true) hm hn
  have h2 := levs_sum (ovN_pos n (maxN t true))
  unfold nodN levL; omega
theorem and511 (x : Int) : ∃ n : Nat, IntKind.i64.wrap (↑(BitVec.ofInt 64 x &&& BitVec.ofInt 64 (511 : Int)).toNat : Int) = (n : Int) ∧ n ≤ 511 := by
  refine ⟨(BitVec.ofInt 64 x &&& BitVec.ofInt 64 (511 : Int)).toNat, ?_, ?_⟩
  · have h : (BitVec.ofInt 64 x &&& BitVec.ofInt 64 (511 : Int)).toNat ≤ 511 := by rw [BitVec.toNat_and]; exact Nat.and_le_right
    exact i64_nat (by omega)
  · rw [BitVec.toNat_and]; exact Nat.and_le_right
theorem nodN_2_13 : nodN 2 13 = 3 := by
  unfold nodN levL
  rw [show ovN 13 (maxN 2 true) = 2 from rfl, levs_more (by decide), show ovN 2 18 = 1 from rfl, levs_one (by decide)]; rfl
set_option maxRecDepth 100000 in
set_option maxHeartbeats 4000000 in
theorem lives17 (w : World) :
    Calls Tryz.prog 12 #[] w (Ret (.bool true) w) := by
 refine zin 24 Tryz.func12 ?_
 have hs1 : w.heap.size ≤ (w).heap.size := (Below.refl w.heap.size _).size
 refine xc 7 (args := #[.int .i64 9, .int .i64 5]) (madeN 9 5 (9) (5) (by simp) rfl _ (by decide) (by decide) (by decide)) ?_
 rintro _ W1 ⟨_, rfl, hb1, ba, b, g, c, pa, ca, rfl, hC, hA⟩
 have hs1 := Nat.le_refl w.heap.size
 replace hC := hC.mono hs1
 replace hA := hA.mono hs1
 refine xc 16 (args := #[.int .i64 13, .int .i64 2]) (law17_some 2 13 (13) rfl _ (by decide) (by decide) (by omega)) ?_
 rintro _ W2 ⟨_, rfl, hb2, p1, c1, rfl, hr⟩
 have hA'1 := hA.below hb2
 have hr'1 := own_mono hr hb1.size
 have hB := Bl.next hb1 hb2
 refine xc 0 (args := #[.pointer (some ⟨ba, 0, none⟩), .int .i64 2, .slice p1 13 c1]) (build_TreeN w.heap.size ba b g _ c pa ca 5 _ 0 (List.replicate (256 * 9) (0 : UInt8)) 2 p1 c1 (someE (widN 2 true) 13) 13 _ (someE_len _ _) hC hA'1 (by decide) (by decide) (someE_ok (by omega)) (by omega) (by decide) (Nat.zero_le _) (by rw [nodN_2_13]; decide) (fun W _ h2 => by unfold Sts; rw [someE_len]; exact own_sl (own_only hr'1 h2 (by decide))) hB.size) ?_
 rintro _ W3 ⟨rfl, hb3, hO3, hX3, hA⟩
 refine xgk 12 [14, 15] (show (((treeB 2 (someE (widN 2 true) 13) (5 + 0) (List.replicate (256 * 9) (0 : UInt8))).1 == (7 : Int)) : Bool) = true from by rw [treeB_root (by decide), someE_len, nodN_2_13]; rfl) ?_
 refine xr 5 (args := #[.pointer (some ⟨ba, 0, none⟩)]) (alloc_Used ba b _ (0 + nodN 2 (someE (widN 2 true) 13).length) _ hA.blkA) fun W5 hb5 => ?_
 have hB'1 := Bl.next (hB.trans hb3) hb5
 exact xe 6 (.bool ((↑(0 + nodN 2 (someE (widN 2 true) 13).length) : Int) == (3 : Int))) ⟨by rw [someE_len, nodN_2_13]; rfl, hB'1⟩
end Go.Proofs.YtolblnjohaooaaaGreat
namespace Go.Proofs.YtolblnjohaooaaaGreat
open Go.RowKit Go.Extern.Stop Go.Stop Go.Extern
set_option linter.unusedVariables false
attribute [local irreducible] wpList wpAnyH Code.wp Oper.wp Go

section
variable {P : Program} {a : Act} {w : World} {K : Act → World → Prop} {Q : Exit → Act → World → Prop}
theorem op_storeRowF {o : Oper} {t e : TypeId} {x y : Operand} {p : Addr} {g n c base size : Nat} {xs : List Value} {v : Value} (k off : Nat) (ho : o.op = .store t x y) (hx : a.eval x = .pointer (some p)) (hp : p = ⟨g, k * size + off, none⟩) (hy : a.eval y = v)
    (hi : (P.info? t).map (·.size) = some 1) (h1 : v.oneCell' = true) (hown : w.ownsRow base e size (.slice (some ⟨g, 0, none⟩) n c) n xs) (hk : k * size + off < n * size)
    (h : ∀ W, Upd w g W → W.ownsRow base e size (.slice (some ⟨g, 0, none⟩) n c) n (xs.set (k * size + off) v) → K (a.put o.dst undef) W) : o.wp P a w K Q := by
  subst hp
  obtain ⟨hl, h2⟩ := hown
  rcases h2 with ⟨h2, _⟩ | ⟨g', cap, cur, hv, hg, hh, hc, hm, hsz, htk⟩
  · cases h2
  · simp only [Value.slice.injEq, Option.some.injEq, Addr.mk.injEq] at hv
    obtain ⟨⟨rfl, _⟩, _, rfl⟩ := hv
    have hb : Blk w g cur.toList e := by unfold Blk; simpa using hh
    have hcs : n * size ≤ c * size := Nat.mul_le_mul_right size hc
    refine op_store ho hx hy hi h1 hb (by simp; omega) fun W hu hW => h W hu ⟨by simpa using hl, .inr ⟨g, c, (cur.toList.set (k * size + off) v).toArray, rfl, hg, hW, hc, hm, by simpa using hsz, ?_⟩⟩
    rw [← htk]
    simp [List.take_set]
theorem elemF (g k size off : Nat) : (elemAddr (some ⟨g, 0, none⟩) (k * size)).add off = ⟨g, k * size + off, none⟩ := by rw [elemAddr_mid, Addr.add_mid, Nat.zero_add]
theorem elemF0 (g k size : Nat) : elemAddr (some ⟨g, 0, none⟩) (k * size) = ⟨g, k * size + 0, none⟩ := by rw [elemAddr_mid, Nat.zero_add, Nat.add_zero]
end
end Go.Proofs.YtolblnjohaooaaaGreat
namespace Go.Proofs.YtolblnjohaooaaaGreat
open Go.RowKit Go.Extern.Stop Go.Stop Go.Extern
set_option linter.unusedVariables false
attribute [local irreducible] wpList wpAnyH Code.wp Oper.wp Go

/-- the law's steps between keys -/
def gapN (gaps : List UInt8) : Nat → Nat
  | 0 => 0
  | i + 1 => gapN gaps i + 1 + if i < gaps.length then (gaps.getD i 0).toNat else 0
theorem gapN_le (gaps : List UInt8) : ∀ i, gapN gaps i ≤ i * 256
  | 0 => Nat.le_refl _
  | i + 1 => by
    have h := gapN_le gaps i
    have h2 := (gaps.getD i 0).toNat_lt
    unfold gapN; split <;> omega
theorem gapN_lt (gaps : List UInt8) (i : Nat) : gapN gaps i < gapN gaps (i + 1) := by
  show _ < gapN gaps i + 1 + _
  split <;> omega
/-- the law's entries, i of them with their own keys -/
def bkE (v n : Nat) (f : Nat) (gaps : List UInt8) (i : Nat) : List Ent := (List.range n).map fun j => (if j < i then ((f + gapN gaps j : Nat) : Int) else ((3 * j : Nat) : Int), List.replicate v 0, 0)
theorem bkE_len (v n f : Nat) (gaps : List UInt8) (i : Nat) : (bkE v n f gaps i).length = n := by simp [bkE]
theorem bkE_get {v n f : Nat} {gaps : List UInt8} {i j : Nat} (h : j < n) : (bkE v n f gaps i).getD j entD = (if j < i then ((f + gapN gaps j : Nat) : Int) else ((3 * j : Nat) : Int), List.replicate v 0, 0) := by simp [bkE, List.getD, List.getElem?_range h]
theorem bkE_zero (v n f : Nat) (gaps : List UInt8) : bkE v n f gaps 0 = someE v n := by
  unfold bkE someE
  apply List.map_congr_left
  intro j _
  rw [if_neg (by omega)]
theorem flat_set {α : Type} {f : α → List Value} {m : Nat} (hf : ∀ x, (f x).length = m) : ∀ (l : List α) (i o : Nat) (x : α) (v : Value), i < l.length → o < m → f x = (f (l[i]?.getD x)).set o v → (l.flatMap f).set (i * m + o) v = (l.set i x).flatMap f
  | [], i, o, x, v, hi, _, _ => absurd hi (by simp)
  | y :: l, 0, o, x, v, hi, ho, h => by
    simp only [List.getElem?_cons_zero, Option.getD_some] at h
    rw [List.flatMap_cons, List.set_cons_zero, List.flatMap_cons, h, Nat.zero_mul, Nat.zero_add, List.set_append_left _ _ (by rw [hf]; exact ho)]
  | y :: l, i + 1, o, x, v, hi, ho, h => by
    simp only [List.getElem?_cons_succ] at h
    rw [List.flatMap_cons, List.set_cons_succ, List.flatMap_cons, List.set_append_right _ _ (by rw [hf, Nat.add_mul]; omega), hf, show (i + 1) * m + o - m = i * m + o by rw [Nat.add_mul]; omega, flat_set hf l i o x v (by simpa using hi) ho h]
theorem bkE_set {v n f : Nat} {gaps : List UInt8} {i : Nat} (h : i < n) : ((bkE v n f gaps i).flatMap entC).set (i * 3 + 0) (.int .i64 ((f + gapN gaps i : Nat) : Int)) = (bkE v n f gaps (i + 1)).flatMap entC := by
  have h1 := bkE_get (v := v) (f := f) (gaps := gaps) (i := i) h
  rw [flat_set entC_len _ i 0 (((f + gapN gaps i : Nat) : Int), List.replicate v 0, 0) _ (by rw [bkE_len]; exact h) (by decide) (by
    have e : (bkE v n f gaps i)[i]?.getD (((f + gapN gaps i : Nat) : Int), List.replicate v 0, 0) = (((3 * i : Nat) : Int), List.replicate v 0, 0) := by simp [bkE, List.getElem?_range h]
    rw [e]; rfl)]
  congr 1
  apply List.ext_getElem?
  intro j
  by_cases hj : j < n
  · by_cases e : i = j
    · subst e
      rw [List.getElem?_set_self (by rw [bkE_len]; exact h)]
      simp [bkE, List.getElem?_range h]
    · rw [List.getElem?_set_ne e]
      simp only [bkE, List.getElem?_map, List.getElem?_range hj, Option.map_some]
      by_cases h3 : j < i
      · rw [if_pos h3, if_pos (by omega)]
      · rw [if_neg h3, if_neg (by omega)]
  · rw [List.getElem?_eq_none (by rw [List.length_set, bkE_len]; omega), List.getElem?_eq_none (by rw [bkE_len]; omega)]
theorem bkE_ok {v n f : Nat} {gaps : List UInt8} (hn : n ≤ 511) (hf : f ≤ 16777215) : EntsOk v (bkE v n f gaps n) where
  hk i hi := by
    rw [bkE_len] at hi
    have := gapN_le gaps i
    rw [bkE_get hi, if_pos hi]
    constructor <;> (simp only; omega)
  hs j hj := by
    rw [bkE_len] at hj
    have := gapN_lt gaps j
    rw [bkE_get (by omega), bkE_get hj, if_pos (by omega), if_pos hj]
    simp only; omega
  hw i hi := by rw [bkE_len] at hi; rw [bkE_get hi]; simp
theorem nodN_92 {t : Int} {n : Nat} (hn : n ≤ 511) : nodN t n ≤ 92 := by
  have hm : 6 ≤ maxN t true := by unfold maxN; repeat' split
                                  all_goals first | decide | simp_all
  have h1 := ovN_6 (m := maxN t true) hm hn
  have h0 := ovN_pos n (maxN t true)
  unfold nodN levL
  generalize ovN n (maxN t true) = x at h1 h0
  by_cases hx : x ≤ 1
  · rw [levs_one hx]; simp; omega
  · rw [levs_more hx]
    have h2 : ovN x 18 ≤ 5 := by unfold ovN; omega
    have h3 := ovN_pos x 18
    generalize ovN x 18 = y at h2 h3
    by_cases hy : y ≤ 1
    · rw [levs_one hy]; simp; omega
    · rw [levs_more hy]
      have h4 : ovN y 18 ≤ 1 := by unfold ovN; omega
      rw [levs_one h4]; simp; omega
theorem and511f (x : Int) : ∃ n : Nat, IntKind.i64.wrap (↑(BitVec.ofInt 64 x &&& BitVec.ofInt 64 (16777215 : Int)).toNat : Int) = (n : Int) ∧ n ≤ 16777215 := by
  have h : (BitVec.ofInt 64 x &&& BitVec.ofInt 64 (16777215 : Int)).toNat ≤ 16777215 := by rw [BitVec.toNat_and]; exact Nat.and_le_right
  exact ⟨_, i64_nat (by omega), h⟩
theorem gapN_in {gaps : List UInt8} {i : Nat} (h : i < gaps.length) : gapN gaps (i + 1) = gapN gaps i + 1 + (gaps.getD i 0).toNat := by
  show gapN gaps i + 1 + (if i < gaps.length then _ else _) = _
  rw [if_pos h]
theorem gapN_out {gaps : List UInt8} {i : Nat} (h : ¬ i < gaps.length) : gapN gaps (i + 1) = gapN gaps i + 1 := by
  show gapN gaps i + 1 + (if i < gaps.length then _ else _) = _
  rw [if_neg h]
theorem kv_get {es l : List Ent} (h : es.map kvE = l.map kvE) {i : Nat} (hi : i < es.length) : (es.getD i entD).1 = (l.getD i entD).1 ∧ (es.getD i entD).2.1 = (l.getD i entD).2.1 := by
  have hl : es.length = l.length := by have := congrArg List.length h; simpa using this
  have h2 : (es.map kvE)[i]? = (l.map kvE)[i]? := by rw [h]
  simp only [List.getElem?_map, List.getElem?_eq_getElem hi, List.getElem?_eq_getElem (show i < l.length by omega), Option.map_some, Option.some.injEq, kvE, Prod.mk.injEq] at h2
  simpa [List.getD, hi, show i < l.length by omega] using h2
set_option maxRecDepth 100000 in
set_option maxHeartbeats 8000000 in
theorem buildBack_law (n0 t0 f0 : Int) (a : Option Addr) (cg : Nat) (gaps : List UInt8) (w : World) (h : Bys w (.slice a gaps.length cg) gaps) :
    Calls Tryz.prog 3 #[.int .i64 n0, .int .i64 t0, .int .i64 f0, .slice a gaps.length cg] w (Ret (.bool true) w) := by
 obtain ⟨n, hn, hn5⟩ := and511 n0
 obtain ⟨f, hf, hf5⟩ := and511f f0
 obtain ⟨r1, hr1⟩ : ∃ r, Int.tmod t0 5 = r := ⟨_, rfl⟩
 obtain ⟨r2, hr2⟩ : ∃ r, Int.tmod (r1 + 5) 5 = r := ⟨_, rfl⟩
 have b1 := tmod_bd t0 (m := 5) (by decide)
 rw [show ((5 : Nat) : Int) = 5 from rfl, hr1] at b1
 have b2 := tmod_bd (r1 + 5) (m := 5) (by decide)
 have b3 := tmod_nn (x := r1 + 5) (by omega) 5
 rw [show ((5 : Nat) : Int) = 5 from rfl, hr2] at b2 b3
 obtain ⟨t, ht⟩ : ∃ t, 1 + r2 = t := ⟨_, rfl⟩
 have ht1 : 1 ≤ t := by omega
 have ht2 : t ≤ 5 := by omega
 refine zin 140 Tryz.func3 ?_
 refine xq 8 (congrArg (Value.int .i64) (show (IntKind.i64.wrap (↑(BitVec.ofInt 64 n0 &&& BitVec.ofInt 64 (511 : Int)).toNat : Int) : Int) = (↑n : Int) from hn)) ?_
 refine xq 1 (congrArg (Value.int .i64) (show (Int.tmod t0 5 : Int) = r1 from hr1)) ?_
 refine xw 0 (r1 + 5) ?_
 refine xq 0 (congrArg (Value.int .i64) (show (Int.tmod (r1 + 5) 5 : Int) = r2 from hr2)) ?_
 refine xq 0 (congrArg (Value.int .i64) (show IntKind.i64.wrap (1 + r2) = t from (show IntKind.i64.wrap (1 + r2) = (1 + r2) from by first | exact IntWalk.i64_in _ (by omega) | (simp only [IntKind.wrap]; omega)).trans (ht))) ?_
 refine xq 1 (congrArg (Value.int .i64) (show (IntKind.i64.wrap (↑(BitVec.ofInt 64 f0 &&& BitVec.ofInt 64 (16777215 : Int)).toNat : Int) : Int) = (↑f : Int) from hf)) ?_
 refine xc 9 (args := #[.int .i64 (↑n : Int), .int .i64 t]) (law17_some t n ((↑n : Int)) rfl _ ht1 ht2 (by omega)) ?_
 rintro _ W1 ⟨_, rfl, hb1, p1, c1, rfl, hr⟩
 have hs1 := Nat.le_refl w.heap.size
 refine xv1 16 10 (show (.int .i64 (↑f : Int) : Value) = .int .i64 (↑(f + gapN gaps 0) : Int) from by rfl) ?_
 have hr'1 := own_mono hr hs1
 refine zl 0 140 (fun zm zkv V => ∃ (i : Nat), zkv = [(0, .int .i64 (↑n : Int)), (1, .int .i64 t), (3, .slice a gaps.length cg), (8, .bool false), (9, .slice p1 n c1), (10, .int .i64 (↑(f + gapN gaps i) : Int)), (11, .int .i64 (↑i : Int))] ∧ zm = n - ((↑i : Int)).toNat ∧ Below w.heap.size w V ∧ V.ownsRow w.heap.size 26 3 (.slice p1 n c1) n ((bkE (widN t true) n f gaps i).flatMap entC) ∧ i ≤ n) ⟨0, rfl, rfl, hb1, (by rw [bkE_zero]; exact hr'1), Nat.zero_le _⟩ ?_
 rintro _ _ W2 ⟨i, rfl, rfl, hB_2, hr, hi⟩ J2 hJ2 r2
 have hg1 := gapN_le gaps i
 have hg2 := gapN_in (gaps := gaps) (i := i)
 have hg3 := gapN_out (gaps := gaps) (i := i)
 have hg4 := (gaps.getD i 0).toNat_lt
 refine xid 8 ((↑i : Int) < (↑n : Int)) (fun hc3 => ?_) (fun hc3 => ?_)
 · obtain ⟨g1, rfl, _⟩ := own_someN hr (by omega)
   refine xx 9 _ n i 3 (Sts.cell (f := entC) (l := (bkE (widN t true) n f gaps i)) (by unfold Sts; rw [bkE_len]; exact own_sl hr) entC_len entD (k := i) (i := 0) (by rw [bkE_len]; omega) rfl).1 ?_
   refine xst 1 fun _ _ _ _ zJ zQ zo zx zy zK => op_storeRowF (t := 3) (v := .int .i64 (↑(f + gapN gaps i) : Int)) i 0 zo zx (elemF0 _ _ _) zy (by kernel_rfl) rfl hr (by omega) fun W4 u4 o4 => ?_
   rw [bkE_set (i := i) (n := n) (by omega)] at o4
   refine zK _ _ ?_
   refine xwm 5 ((↑(f + gapN gaps i) : Int) + 1) (↑((f + gapN gaps i) + 1) : Int) ?_
   refine xid 11 ((↑i : Int) < (↑gaps.length : Int)) (fun hc5 => ?_) (fun hc5 => ?_)
   · refine xx 4 _ gaps.length i 1 (Bys.elem h (k := i) (by omega)).1 ?_
     have hB'1 := u4.below hB_2 (own_ge hr)
     refine xl 0 ((Bys.elem (h.below hB'1) (k := i) (by omega)).2) ?_
     refine xq 0 (congrArg (Value.int .i64) (show (IntKind.i64.wrap (↑(gaps.getD i 0).toNat : Int) : Int) = (↑(gaps.getD i 0).toNat : Int) from i64_nat (by omega))) ?_
     refine xwm 0 ((↑((f + gapN gaps i) + 1) : Int) + (↑(gaps.getD i 0).toNat : Int)) (↑(((f + gapN gaps i) + 1) + ((gaps.getD i 0).toNat)) : Int) ?_
     refine xwm 6 ((↑i : Int) + 1) (↑(i + 1) : Int) ?_
     refine xv1 2 10 (show (.int .i64 (↑(((f + gapN gaps i) + 1) + ((gaps.getD i 0).toNat)) : Int) : Value) = .int .i64 (↑(f + gapN gaps (i + 1)) : Int) from by congr 2; omega) ?_
     exact ze 0 (hJ2 _ _ _ ⟨i + 1, rfl, rfl, hB'1, o4, by omega⟩ (by omega))
   refine xwm 5 ((↑i : Int) + 1) (↑(i + 1) : Int) ?_
   refine xv1 2 10 (show (.int .i64 (↑((f + gapN gaps i) + 1) : Int) : Value) = .int .i64 (↑(f + gapN gaps (i + 1)) : Int) from by congr 2; omega) ?_
   have hB'2 := u4.below hB_2 (own_ge hr)
   exact ze 0 (hJ2 _ _ _ ⟨i + 1, rfl, rfl, hB'2, o4, by omega⟩ (by omega))
 have hs6 : w.heap.size ≤ (W2).heap.size := hB_2.size
 refine xc 7 (args := #[.int .i64 150, .int .i64 2]) (madeN 150 2 (150) (2) (by simp) rfl _ (by decide) (by decide) (by decide)) ?_
 rintro _ W6 ⟨_, rfl, hb6, ba, b, g, c, pa, ca, rfl, hC, hA⟩
 replace hC := hC.mono hB_2.size
 replace hA := hA.mono hB_2.size
 have hr'2 := own_below hr hb6
 have hin : i = n := by omega
 rw [hin] at hr'2
 have h92 := nodN_92 (t := t) hn5
 have hE := bkE_ok (v := widN t true) (gaps := gaps) hn5 hf5
 have hB'3 := Bl.next hB_2 hb6
 refine xc 18 (args := #[.pointer (some ⟨ba, 0, none⟩), .int .i64 t, .slice p1 n c1]) (build_TreeN w.heap.size ba b g _ c pa ca 2 _ 0 (List.replicate (256 * 150) (0 : UInt8)) t p1 c1 (bkE (widN t true) n f gaps n) n _ (bkE_len _ _ _ _ _) hC hA ht1 ht2 hE (by omega) (by decide) (Nat.zero_le _) (by omega) (fun W _ h2 => by unfold Sts; rw [bkE_len]; exact own_sl (own_only hr'2 h2 (by decide))) hB'3.size) ?_
 rintro _ W7 ⟨rfl, hb7, hO7, hX7, hA⟩
 rw [bkE_len] at hA
 refine xr 20 (args := #[.pointer (some ⟨ba, 0, none⟩)]) (alloc_Image ba b _ _ _ hA.blkA) fun W8 hb8 => ?_
 have hB'4 := Bl.next (hB'3.trans hb7) hb8
 have hlZ : (List.replicate (256 * 150) (0 : UInt8)).length = 256 * 150 := List.length_replicate
 have hT := treeB_scan (t := t) (fuel := 200) (l := (bkE (widN t true) n f gaps n)) (q := 2 + 0) (bs := (List.replicate (256 * 150) (0 : UInt8))) ht1 ht2 hE (by rw [bkE_len]; omega) (by decide) (by rw [bkE_len, hlZ]; omega) (by rw [bkE_len]; omega) (by rw [bkE_len]; omega)
 rw [bkE_len] at hT
 obtain ⟨es, bl, he1, he2, hsc⟩ := hT
 have hel : es.length = n := by have h9 := congrArg List.length he1; simpa [bkE_len] using h9
 have hs7 : w.heap.size ≤ (W8).heap.size := hB'4.size
 have hA'1 := hA.below hb8
 refine xc 2 (args := #[.pointer (some ⟨b, 0, none⟩), .int .i64 ((treeB t (bkE (widN t true) n f gaps n) (2 + 0) (List.replicate (256 * 150) (0 : UInt8))).1), .int .i64 t, .int .i64 200]) (walk_Whole0 w.heap.size b (some ⟨g, 0, none⟩) (256 * 150) c (treeB t (bkE (widN t true) n f gaps n) (2 + 0) (List.replicate (256 * 150) (0 : UInt8))).2 (treeB t (bkE (widN t true) n f gaps n) (2 + 0) (List.replicate (256 * 150) (0 : UInt8))).1 t 200 es bl (levL t n).length (nodN t n) _ (by decide) ⟨hA'1.blkI, hA'1.data, by decide⟩ hsc) ?_
 rintro _ W9 ⟨pe, pb, pf, ce, cb, cf, fv, rfl, hb9, hW⟩
 obtain ⟨hEn, _, _, _⟩ := hW
 replace hEn := own_mono hEn hs7
 refine xa 3 [.slice none 0 0, .slice none 0 0, .int .i64 0, .int .i64 0, .slice none 0 0] 36 fun b10 W10 n10 => ?_
 have hB'5 := Bl.next hB'4 hb9
 have g10 := n10.ge hB'5
 refine xsv 0 n10.blk [.slice pe es.length ce, .slice pb bl.length cb, .int .i64 (↑(levL t n).length : Int), .int .i64 (↑(nodN t n) : Int), .slice pf 0 cf] fun W11 u11 k11 => ?_
 refine xd 5 .z ?_
 have k11'1 := k11.below (below_drew W11)
 refine xb (.e [0, 1, 2, 3] 4) 0 k11'1 ?_
 refine xgk (.b [5, 6, 7, 8, 9]) [81, 82, 83] (show (((↑es.length : Int) != (↑n : Int)) : Bool) = false from by rw [hel]; simp) ?_
 have hA'2 := (((hA'1.below hb9).below n10.below).only (Only.of_upd (T := [36]) u11 n10.blk (by decide)) (by decide)).below (below_drew W11)
 refine xr (.o [10, 12, 13] 11) (args := #[.pointer (some ⟨ba, 0, none⟩)]) (alloc_Used ba b _ (0 + nodN t n) _ hA'2.blkA) fun W13 hb13 => ?_
 refine xr (.o [] 14) (args := #[.int .i64 t, .int .i64 (↑n : Int)]) (tall_Nodes t n _ ht1 ht2 (by omega)) fun W14 hb14 => ?_
 refine xgk (.b [15, 16, 17]) [89, 90, 91] (show (((↑(0 + nodN t n) : Int) != (↑(nodN t n) : Int)) : Bool) = false from by simp) ?_
 have k11'2 := (k11'1.below hb13).below hb14
 refine xb (.e [18] 19) 1 k11'2 ?_
 have hA'3 := (hA'2.below hb13).below hb14
 refine xr (.o [20, 21] 22) (args := #[.pointer (some ⟨ba, 0, none⟩)]) (alloc_Used ba b _ (0 + nodN t n) _ hA'3.blkA) fun W16 hb16 => ?_
 refine xgk (.b [23, 24, 25]) [97, 98, 99] (show (((↑bl.length : Int) != (↑(0 + nodN t n) : Int)) : Bool) = false from by rw [he2]; simp) ?_
 have k11'3 := k11'2.below hb16
 refine xb (.e [26] 27) 2 k11'3 ?_
 refine yc (.o [28, 29] 30) (args := #[.int .i64 t, .int .i64 (↑n : Int)]) .z (tall_Levels t n _ ht1 ht2 (by omega)) ?_
 rintro _ W18 ⟨_, rfl, hb18, pl, cl, rfl, _⟩
 refine ⟨hb18, ?_⟩
 refine xk (.r [31, 32, 33] 2) (show (((↑(levL t n).length : Int) != (↑((levL t n).length) : Int)) : Bool) = false from by simp) ?_
 have hr'3 := own_below (own_below (own_below (own_below (own_below (u11.own2 (own_below (own_below (own_below (own_only hr'2 hO7 (by decide)) hb8) hb9) n10.below) n10.blk (by decide)) (below_drew W11)) hb13) hb14) hb16) hb18
 have hEn'1 := own_below (own_below (own_below (own_below (own_below (u11.own2 (own_below hEn n10.below) n10.blk (by decide)) (below_drew W11)) hb13) hb14) hb16) hb18
 have hB'6 := Bl.next (Bl.next (Bl.next (Bl.next (Bl.next (u11.below (Bl.next hB'5 n10.below) g10) (below_drew W11)) hb13) hb14) hb16) hb18
 have k11'4 := k11'3.below hb18
 refine zl 9 140 (fun zm zkv V => ∃ (j : Nat), zkv = [(0, .int .i64 (↑n : Int)), (9, .slice p1 n c1), (15, .pointer (some ⟨b10, 0, none⟩)), (17, .int .i64 (↑j : Int))] ∧ zm = n - ((↑j : Int)).toNat ∧ Below w.heap.size w V ∧ Blk V b10 ([.slice pe es.length ce, .slice pb bl.length cb, .int .i64 (↑(levL t n).length : Int), .int .i64 (↑(nodN t n) : Int), .slice pf 0 cf]) 36 ∧ V.ownsRow w.heap.size 26 3 (.slice p1 n c1) n ((bkE (widN t true) n f gaps n).flatMap entC) ∧ V.ownsRow w.heap.size 26 3 (.slice pe es.length ce) es.length (es.flatMap entC) ∧ j ≤ n) ⟨0, rfl, rfl, hB'6, k11'4, hr'3, hEn'1, Nat.zero_le _⟩ ?_
 rintro _ _ W19 ⟨j, rfl, rfl, hB_19, k19_b10, hr, hEn, hj⟩ J19 hJ19 r19
 refine xid 8 ((↑j : Int) < (↑n : Int)) (fun hc20 => ?_) (fun hc20 => ?_)
 · refine xd 5 .z ?_
   have k19_b10'1 := k19_b10.below (below_drew W19)
   refine xb (.e [0] 1) 0 k19_b10'1 ?_
   have hEn'2 := own_below hEn (below_drew W19)
   refine xx (.e [2] 3) _ es.length j 3 (Sts.cell (f := entC) (own_sl hEn'2) entC_len entD (k := j) (i := 0) (by omega) rfl).1 ?_
   refine xl (.e [4] 5) ((Sts.cell (own_sl hEn'2) entC_len entD (k := j) (i := 0) (by omega) rfl).2) ?_
   have hr'4 := own_below hr (below_drew W19)
   refine xx (.e [6, 7] 8) _ n j 3 (Sts.cell (f := entC) (l := (bkE (widN t true) n f gaps n)) (by unfold Sts; rw [bkE_len]; exact own_sl hr'4) entC_len entD (k := j) (i := 0) (by rw [bkE_len]; omega) rfl).1 ?_
   refine xl (.e [9] 10) ((Sts.cell (f := entC) (l := (bkE (widN t true) n f gaps n)) (by unfold Sts; rw [bkE_len]; exact (own_sl hr'4)) entC_len entD (k := j) (i := 0) (by rw [bkE_len]; omega) rfl).2) ?_
   refine xgk (.b [11, 12]) [124, 125] (show (((es.getD j entD).1 != ((bkE (widN t true) n f gaps n).getD j entD).1) : Bool) = false from by rw [(kv_get he1 (i := j) (by omega)).1]; simp) ?_
   refine xb (.e [13] 14) 0 k19_b10'1 ?_
   refine xx (.e [15] 16) _ es.length j 3 (Sts.cell (f := entC) (own_sl hEn'2) entC_len entD (k := j) (i := 0) (by omega) rfl).1 ?_
   refine xl (.e [17] 18) ((Sts.cell (own_sl hEn'2) entC_len entD (k := j) (i := 1) (by omega) rfl).2) ?_
   refine xx (.e [19, 20] 21) _ n j 3 (Sts.cell (f := entC) (l := (bkE (widN t true) n f gaps n)) (by unfold Sts; rw [bkE_len]; exact own_sl hr'4) entC_len entD (k := j) (i := 0) (by rw [bkE_len]; omega) rfl).1 ?_
   refine xl (.e [22] 23) ((Sts.cell (f := entC) (l := (bkE (widN t true) n f gaps n)) (by unfold Sts; rw [bkE_len]; exact (own_sl hr'4)) entC_len entD (k := j) (i := 1) (by rw [bkE_len]; omega) rfl).2) ?_
   refine xk (.r [24, 25] 2) (show (!((⟨((es.getD j entD).2.1).toArray⟩ : ByteArray).toList == (⟨(((bkE (widN t true) n f gaps n).getD j entD).2.1).toArray⟩ : ByteArray).toList) : Bool) = false from by rw [(kv_get he1 (i := j) (by omega)).2]; simp) ?_
   refine xwm 5 ((↑j : Int) + 1) (↑(j + 1) : Int) ?_
   have hB'7 := Bl.next hB_19 (below_drew W19)
   exact ze 2 (hJ19 _ _ _ ⟨j + 1, rfl, rfl, hB'7, k19_b10'1, hr'4, hEn'2, by omega⟩ (by omega))
 refine xr 7 (args := #[]) (lives17 _) fun W22 hb22 => ?_
 have hB'8 := Bl.next hB_19 hb22
 exact xe 4 (.bool true) ⟨rfl, hB'8⟩
end Go.Proofs.YtolblnjohaooaaaGreat
namespace Go.Proofs.YtolblnjohaooaaaGreat
open Go.ChangeShapes Go.WideShapes Go.ChangeAt Go.RowKit Go.Joins
set_option linter.unusedVariables false
theorem bytes_open {H : Type} {enc : TypeId × Value → H} {P : Program} {W : World} {r : Reach} {b0 : Nat} {t e : TypeId} {v : Value} {d : DataW H} {p : List MemPlace} (ht : P.underlying t = some (.slice e)) (he : P.underlying e = some (.int .u8)) (hC : P.cellsOf e = 1)
    (hv : Value.okWide P W r b0 t v) (h : DataW.Trod enc P W 0 (fun _ => true) true t v d p) : ∃ l, Bys W v l := by
  obtain ⟨a, len, cap, rfl⟩ := okWide_slice ht hv
  obtain ⟨fuel, hf⟩ := h
  rcases open_ints ht he hC hf with ⟨hcs, _⟩ | ⟨x, l, c, zs, hcs, _, hl, hm, hz, _, hcell, hwz⟩
  · simp [Value.cells] at hcs
    obtain ⟨rfl, rfl, rfl⟩ := hcs
    exact ⟨[], .inl ⟨_, _, rfl, rfl, rfl⟩⟩
  · simp [Value.cells] at hcs
    obtain ⟨rfl, rfl, rfl⟩ := hcs
    have hz' : zs.length = cap := by simpa using hz
    by_cases h0 : len = 0
    · subst h0
      exact ⟨[], .inl ⟨_, _, rfl, rfl, rfl⟩⟩
    · obtain ⟨b, off, spot⟩ := x
      have hc := hcell 0 (by omega)
      have hspot : spot = none := by simpa [Addr.add] using World.cell?_spot hc
      subst hspot
      have hlen : ((zs.take len).map fun n => UInt8.ofNat n.toNat).length = len := by simp; omega
      refine ⟨(zs.take len).map fun n => UInt8.ofNat n.toNat, .inr ⟨b, off, cap, by rw [hlen], by omega, hm, fun j x hj => ?_⟩⟩
      have hjl : j < len := by have := (List.getElem?_eq_some_iff.1 hj).1; simp at this; omega
      have e1 : zs[j]? = some zs[j] := List.getElem?_eq_getElem (by omega)
      have hw := hwz zs[j] (List.getElem_mem _)
      have hcj := hcell j (by omega)
      have e2 : zs.getD j 0 = zs[j] := by simp [List.getD, e1]
      rw [e2] at hcj
      have hx : x = .int .u8 zs[j] := by
        rw [List.getElem?_map, List.getElem?_map, List.getElem?_take_of_lt hjl, e1] at hj
        simp only [Option.map_some, Option.some.injEq] at hj
        rw [← hj]
        have hb : 0 ≤ zs[j] ∧ zs[j] ≤ 255 := by simpa [Lit.wf, IntKind.min, IntKind.max, IntKind.signed, IntKind.bits] using hw
        have h3 : (zs[j].toNat % 256 : Nat) = zs[j].toNat := Nat.mod_eq_of_lt (by omega)
        simp only [bv, UInt8.toNat_ofNat']
        rw [show (2 ^ 8 : Nat) = 256 from rfl, h3, Int.toNat_of_nonneg hb.1]
      subst hx
      by_cases hj0 : j = 0
      · subst hj0; simpa [Addr.add] using hcj
      · simpa [Addr.add, hj0] using hcj
end Go.Proofs.YtolblnjohaooaaaGreat
