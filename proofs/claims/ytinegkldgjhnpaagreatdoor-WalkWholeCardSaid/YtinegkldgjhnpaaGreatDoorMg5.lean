/- (*walker).visit, given what a visit one deeper does. The plain law of a scan: what visitF finds, in plain Lean. walk.Scan. A scan by a list of visits that wait finds what a scan by visits within visits finds. The document's answer for layer 13: Right, Has, Fits, Child and Split of scantlingref13 return the same plain functions. The end of a walk where several results lie in blocks. No program is named here. The document's answer for the layers 8, 11 and 14, read: ReadRoot, Node, has, look, At, wrap. The document's answer for the layers 11 and 14, read: Node, has, look. value.Root of a block number: its four bytes. What build.level lays and hands up: plain definitions and lemmas. What the document's scan keeps in memory: rows of numbers that lie apart, visits that wait, faults. -/
import Derived.StillTailTactics
import Derived.Test.YtinegkldgjhnpaaGreatDoorMg4
namespace Go.Proofs.YtinegkldgjhnpaaGreatDoor
open Go.RowKit Go.Extern.Stop Go.Stop Go.Extern
set_option linter.unusedVariables false
attribute [local irreducible] wpList wpAnyH Code.wp Oper.wp Go

theorem LookP.or {B bw : Nat} {cs : List Value} {l : List UInt8} {way : List Int} {no tree lo hi deep : Int} {w : World} {e : Ending} {w' : World} (h : LookP B bw cs l way no tree lo hi deep w e w') :
    (lookE l way no tree lo hi deep ≠ 0 ∧ ∃ a4 b4 k4 n4 c4 v4 m4 d4 ty x, e = .returned (.tuple #[.agg #[.int .i64 a4, .bool b4, .slice k4 n4 c4, .slice v4 m4 d4], .iface ty x]) ∧ Below B w w' ∧ Only [93] w w' ∧ Blk w' bw cs 93 ∧ ErrV w' [some no] (some (lookE l way no tree lo hi deep)) (.iface ty x)) ∨
    (lookE l way no tree lo hi deep = 0 ∧ ∃ kp kc vp vc, e = .returned (.tuple #[.agg #[.int .i64 (nodT (inB l no)), .bool (nodL (inB l no)), .slice kp (nodC (inB l no)) kc, .slice vp (nodC (inB l no)) vc], .nilIface]) ∧ Below B w w' ∧ Only [93] w w' ∧ Blk w' bw cs 93 ∧
      w'.ownsRow w.heap.size 3 1 (.slice kp (nodC (inB l no)) kc) (nodC (inB l no)) ((nodK l no).map (Value.int .i64)) ∧ w'.ownsRow w.heap.size 9 1 (.slice vp (nodC (inB l no)) vc) (nodC (inB l no)) ((nodV l no).map sv)) := by
  obtain ⟨h1, h2, h3, ⟨h4, a4, b4, k4, n4, c4, v4, m4, d4, ty, x, h5, h6⟩ | ⟨h4, _, kp, kc, vp, vc, h5, h6, h7⟩⟩ := h
  · exact .inl ⟨h4, a4, b4, k4, n4, c4, v4, m4, d4, ty, x, h5, h1, h2, h3, h6⟩
  · exact .inr ⟨h4, kp, kc, vp, vc, h5, h1, h2, h3, h6, h7⟩
theorem widG_24 (t : Int) (b : Bool) : widG t b ≤ 24 := by
  unfold widG widN
  repeat' split
  all_goals omega
theorem valsL_short (l : List UInt8) (n i : Nat) : ((valsL l n).getD i []).length ≤ 1000 := by
  by_cases h : i < n
  · rw [valsL_get l h]
    unfold valN
    rw [List.length_take]
    have := widG_24 (nodT l) (nodL l)
    unfold nodW
    omega
  · simp [List.getD, List.getElem?_eq_none (show (valsL l n).length ≤ i by rw [valsL_len]; omega)]
theorem ownBlock_len (p : Option Addr) (n c n2 c2 : Nat) : (Value.slice p n c).ownBlock = (Value.slice p n2 c2).ownBlock := by
  cases p <;> rfl
theorem Apart.len {p q : Option Addr} {n c m d : Nat} (h : Apart (.slice p n c) (.slice q m d)) (n2 c2 m2 d2 : Nat) : Apart (.slice p n2 c2) (.slice q m2 d2) := fun j h1 h2 =>
  h j ((ownBlock_len _ _ _ _ _).trans h1) ((ownBlock_len _ _ _ _ _).trans h2)
def prC (p : Int × Int) : List Value := [.int .i64 p.1, .int .i64 p.2]
theorem prC_len (p : Int × Int) : (prC p).length = 2 := rfl
theorem flat2_prC (l : List (Int × Int)) : flat2 l = l.flatMap prC := by
  induction l with
  | nil => rfl
  | cons x l ih => simp only [flat2, List.flatMap_cons, prC]; rfl
theorem look_fits {l : List UInt8} {way : List Int} {no tree lo hi deep : Int} (h : lookE l way no tree lo hi deep = 0) : fitsI lo hi (nodK l no) = 0 ∧ way.length < 16 := by
  unfold lookE at h
  by_cases h1 : hasI way no = true
  · rw [if_pos h1] at h; cases h
  rw [if_neg h1] at h
  by_cases h2 : 16 ≤ way.length
  · rw [if_pos h2] at h; cases h
  rw [if_neg h2] at h
  by_cases h3 : nodeErr l no tree ≠ 0
  · rw [if_pos h3] at h; exact absurd h h3
  rw [if_neg h3] at h
  by_cases h4 : fitsI lo hi (keysI (inB l no) (nodC (inB l no))) ≠ 0
  · rw [if_pos h4] at h; cases h
  exact ⟨Decidable.not_not.1 h4, by omega⟩
theorem splitL_get (hi : Int) (l : List Int) {i : Nat} (h : i < l.length) : (splitL hi l).getD i (0, 0) = partAt hi l i := by simp [splitL, h]
theorem sts_sp {w : World} {p : Option Addr} {n c : Nat} {L : List (Int × Int)} (h : Sl w (.slice p n c) n (flat2 L)) (hL : L.length = n) : Sts prC w (.slice p L.length c) L := by
  subst hL; rw [flat2_prC] at h; exact h
theorem splitL_len (hi : Int) (l : List Int) : (splitL hi l).length = l.length := by simp [splitL]
theorem only_le {w w' : World} (h : Only [93, 108] w w') : Only [93, 108, 3, 41] w w' := h.mono fun t ht => by
  simp only [List.contains_cons, List.contains_nil, Bool.or_eq_false_iff] at ht ⊢
  exact ⟨ht.1, ht.2.1, trivial⟩
theorem only_w {w w' : World} (h : Only [93] w w') : Only [93, 108, 3, 41] w w' := h.mono fun t ht => by
  simp only [List.contains_cons, List.contains_nil, Bool.or_eq_false_iff] at ht ⊢
  exact ⟨ht.1, trivial⟩
set_option maxRecDepth 100000 in
set_option maxHeartbeats 4000000 in
theorem walker_visit (B bw Bi b : Nat) (pi : Option Addr) (ni ci : Nat) (l : List UInt8) (tree fuel : Int) (d : Nat) (hV : d ≠ 0 → VisitC B bw Bi b pi ni ci l tree fuel d) (way : List Int) (no lo hi : Int) (s : WS) (pe pb pf pw : Option Addr) (ce cb cf cw : Nat) (fv : List Value) (w : World) (hBb : B ≤ bw) (hBw : B ≤ w.heap.size) (hwd : way.length + (d + 1) = 17) (hdry : s.dry = false) (hfu : fuel ≤ 1000000) (hR : WalkR B bw Bi b pi ni ci l tree fuel way s pe pb pf pw ce cb cf cw fv w) (he : (visitF l tree fuel (d + 1) way no lo hi s).es.length ≤ 1000000) (hb_ : (visitF l tree fuel (d + 1) way no lo hi s).bs.length ≤ 1000000) (hf : (visitF l tree fuel (d + 1) way no lo hi s).fs.length ≤ 1000000) :
    Calls Tryz.prog 37 #[.pointer (some ⟨bw, 0, none⟩), .int .i64 no, .agg #[.int .i64 lo, .int .i64 hi]] w (VisitP B bw Bi b pi ni ci l tree fuel way (visitF l tree fuel (d + 1) way no lo hi s) w) := by
 obtain ⟨kW, hEn, hBl, hFl, hFv, hWy, hAp, hI⟩ := hR
 have hBl0 := hBl
 have hWy0 := hWy
 have hgr := visitF_grow l tree fuel (d + 1) way no lo hi s
 have hbs := Nat.le_trans hgr.2.1 hb_
 refine zin 106 Tryz.func37 ?_
 refine xa 2 [.int .i64 lo, .int .i64 hi] 96 fun b1 W1 n1 => ?_
 refine xd 4 .z ?_
 have kW'1 := (kW.below n1.below).below (below_drew W1)
 refine xb (.e [0, 1, 2, 3] 4) 3 kW'1 ?_
 refine xb (.e [5, 6, 7] 8) 7 kW'1 ?_
 refine xid (.r [9] 2) ((↑s.looked : Int) ≥ fuel) (fun hc2 => ?_) (fun hc2 => ?_)
 · refine xc 5 (args := #[.int .i64 no, .iface 53 (.int .i64 12)]) (fault_At no (some 12) [] _ _ rfl) ?_
   rintro _ W3 ⟨r3, rfl, hb3, hv3⟩
   rw [atL_some] at hv3
   obtain ⟨t3, x3, rfl⟩ := hv3.iface
   have hch : (visitF l tree fuel (d + 1) way no lo hi s) = { noteW way [no] 12 s with dry := true } := by unfold visitF; rw [if_pos (by omega)]
   have hB := Bl.nextB (Bl.nextB (Bl.nextB (Below.refl B w) hBw n1.below) hBw (below_drew W1)) hBw hb3
   have kW'2 := kW'1.below hb3
   have hFl'1 := own_below (own_below (own_below hFl n1.below) (below_drew W1)) hb3
   have hWy'1 := own_below (own_below (own_below hWy n1.below) (below_drew W1)) hb3
   refine xc 0 (args := #[.pointer (some ⟨bw, 0, none⟩), .iface t3 (x3)]) (walker_note B bw _ _ _ _ _ _ _ _ pf _ cf fv pw cw way [no] 12 _ _ _ hBb (Nat.le_trans hBw hB.size) kW'2 hFl'1 hWy'1 hv3 (by omega) (by have := hf; rw [hch] at this; simp [noteW] at this; omega)) ?_
   rintro _ W4 ⟨u4, pf2, cf2, t2, x2, rfl, hb4, hO4, kN, hFl2, hv2⟩
   refine xs 7 kN [.slice pe s.es.length ce, .slice pb s.bs.length cb, .int .i64 s.deep, .int .i64 (↑s.looked : Int), .slice pf2 (s.fs.length + 1) cf2, .pointer (some ⟨b, 0, none⟩), .int .i64 tree, .int .i64 fuel, .slice pw way.length cw, .bool true] fun W5 u5 k5 => ?_
   have hB'1 := u5.below (hB.trans hb4) hBb
   have hO := ((((show Only [93, 108, 3, 41] w _ from (Only.of_below n1.below)).trans (Only.of_below (below_drew W1))).trans (Only.of_below hb3)).trans (only_we hO4)).trans (Only.of_upd u5 kN (by decide))
   have hEn'1 := u5.own2 (own_only (own_below (own_below (own_below hEn n1.below) (below_drew W1)) hb3) hO4 (by decide)) kN (by decide)
   have hBl'1 := u5.own2 (own_only (own_below (own_below (own_below hBl n1.below) (below_drew W1)) hb3) hO4 (by decide)) kN (by decide)
   have hFl2'1 := u5.own2 hFl2 kN (by decide)
   have hv2'1 := hv2.upd u5 kN (by decide)
   have hFv'1 := ((((hFv.below n1.below).below (below_drew W1)).below hb3).only hO4 (by decide)).only (Only.of_upd (T := [93]) u5 kN (by decide)) (by decide)
   have hWy'2 := u5.own2 (own_only hWy'1 hO4 (by decide)) kN (by decide)
   have hI'1 := ((((hI.below n1.below).below (below_drew W1)).below hb3).only hO4 (by decide)).only (Only.of_upd (T := [93]) u5 kN (by decide)) (by decide)
   refine xe 4 (.tuple #[]) ?_
   rw [hch]
   exact ⟨_, pe, pb, pf2, pw, ce, cb, cf2, cw, _, rfl, hB'1, hO, by simpa [noteW] using k5, hEn'1, hBl'1, by simpa [noteW] using hFl2'1, FltsW.snoc hv2'1 hFv'1, hWy'2, hAp, hI'1⟩
 have k1 := n1.blk.below (below_drew W1)
 refine xlv 6 k1.rp ?_
 have hB := Bl.nextB (Bl.nextB (Below.refl B w) hBw n1.below) hBw (below_drew W1)
 have hWy'3 := own_below (own_below hWy n1.below) (below_drew W1)
 have hI'2 := (hI.below n1.below).below (below_drew W1)
 refine xc 0 (args := #[.pointer (some ⟨bw, 0, none⟩), .int .i64 no, .agg #[.int .i64 lo, .int .i64 hi]]) ((walker_look B Bi b bw pi ni ci l _ _ _ _ _ pw cw way no tree lo hi s.deep (s.looked : Int) _ hBb (Nat.le_trans hBw hB.size) kW'1 hWy'3 hI'2 (by omega) (by omega) (by omega)).mono (fun _ _ h => LookP.or h)) ?_
 rintro e W6 hq6
 rcases hq6 with ⟨hz, a4, b4, k4, n4, c4, v4, m4, d4, ty, x, rfl, hb6, hO6, kL6, hv6⟩ | ⟨hz, kp, kc, vp, vc, rfl, hb6, hO6, kL6, hk, hv_⟩
 · refine xa 3 [.int .i64 0, .bool false, .slice none 0 0, .slice none 0 0] 52 fun b7 W7 n7 => ?_
   have hB'2 := hB.trans hb6
   have g7 := n7.ge0 hB'2
   refine xsv 0 n7.blk [.int .i64 a4, .bool b4, .slice k4 n4 c4, .slice v4 m4 d4] fun W8 u8 k8 => ?_
   have hch : (visitF l tree fuel (d + 1) way no lo hi s) = noteW way [no] (lookE l way no tree lo hi s.deep) { s with looked := s.looked + 1 } := by unfold visitF; rw [if_neg (by omega), if_pos hz]
   have hB'3 := u8.below (Bl.nextB hB'2 hBw n7.below) (Nat.le_trans hBw g7)
   have kL6'1 := u8.blkT (kL6.below n7.below) n7.blk (by decide)
   have hFl'2 := u8.own2 (own_below (own_only (own_below (own_below hFl n1.below) (below_drew W1)) hO6 (by decide)) n7.below) n7.blk (by decide)
   have hWy'4 := u8.own2 (own_below (own_only hWy'3 hO6 (by decide)) n7.below) n7.blk (by decide)
   have hv6'1 := (hv6.below n7.below).upd u8 n7.blk (by decide)
   refine xc 15 (args := #[.pointer (some ⟨bw, 0, none⟩), .iface ty (x)]) (walker_note B bw _ _ _ _ _ _ _ _ pf _ cf fv pw cw way [no] (lookE l way no tree lo hi s.deep) _ _ _ hBb (Nat.le_trans hBw hB'3.size) kL6'1 hFl'2 hWy'4 hv6'1 (by omega) (by have := hf; rw [hch] at this; simp [noteW] at this; omega)) ?_
   rintro _ W9 ⟨u9, pf2, cf2, t2, x2, rfl, hb9, hO9, kN, hFl2, hv2⟩
   have hB'4 := hB'3.trans hb9
   have hO := (Only.upd_new ((((show Only [93, 108, 3, 41] w _ from (Only.of_below n1.below)).trans (Only.of_below (below_drew W1))).trans (only_w hO6)).trans (Only.of_below n7.below)) u8 g7).trans (only_we hO9)
   have hEn'2 := own_only (u8.own2 (own_below (own_only (own_below (own_below hEn n1.below) (below_drew W1)) hO6 (by decide)) n7.below) n7.blk (by decide)) hO9 (by decide)
   have hBl'2 := own_only (u8.own2 (own_below (own_only (own_below (own_below hBl n1.below) (below_drew W1)) hO6 (by decide)) n7.below) n7.blk (by decide)) hO9 (by decide)
   have hFv'2 := (((((hFv.below n1.below).below (below_drew W1)).only hO6 (by decide)).below n7.below).only (Only.of_upd (T := [52]) u8 n7.blk (by decide)) (by decide)).only hO9 (by decide)
   have hWy'5 := own_only hWy'4 hO9 (by decide)
   have hI'3 := (((hI'2.only hO6 (by decide)).below n7.below).only (Only.of_upd (T := [52]) u8 n7.blk (by decide)) (by decide)).only hO9 (by decide)
   refine xe 4 (.tuple #[]) ?_
   rw [hch]
   exact ⟨_, pe, pb, pf2, pw, ce, cb, cf2, cw, _, rfl, hB'4, hO, by simpa [noteW] using kN, hEn'2, hBl'2, by simpa [noteW] using hFl2, FltsW.snoc hv2 hFv'2, hWy'5, hAp, hI'3⟩
 have hs6 := (Bl.nextB (Bl.nextB (Below.refl B w) hBw n1.below) hBw (below_drew W1)).size
 have hk'1 := own_mono hk hs6
 have hApk := Apart.of_lt hBl0 hk'1 (Nat.le_refl _)
 have hApw := Apart.of_lt hWy0 hk'1 (Nat.le_refl _)
 refine xa 3 [.int .i64 0, .bool false, .slice none 0 0, .slice none 0 0] 52 fun b10 W10 n10 => ?_
 have hB'5 := hB.trans hb6
 have g10 := n10.ge0 hB'5
 refine xsv 0 n10.blk [.int .i64 (nodT (inB l no)), .bool (nodL (inB l no)), .slice kp (nodC (inB l no)) kc, .slice vp (nodC (inB l no)) vc] fun W11 u11 k11 => ?_
 have kL6'2 := u11.blkT (kL6.below n10.below) n10.blk (by decide)
 refine xb 20 1 kL6'2 ?_
 refine xbs 1 1 [.int .i64 no] 3 fun b12 W12 n12 => ?_
 have hB'6 := u11.below (Bl.nextB hB'5 hBw n10.below) (Nat.le_trans hBw g10)
 have g12 := n12.ge0 hB'6
 have hBl'3 := u11.own2 (own_below (own_only (own_below (own_below hBl n1.below) (below_drew W1)) hO6 (by decide)) n10.below) n10.blk (by decide)
 have r12_hBl := own_ne hBl'3 n12
 have hWy'6 := u11.own2 (own_below (own_only hWy'3 hO6 (by decide)) n10.below) n10.blk (by decide)
 have r12_hWy := own_ne hWy'6 n12
 have hk'2 := u11.own2 (own_below hk'1 n10.below) n10.blk (by decide)
 have r12_hk := own_ne hk'2 n12
 have hBl'4 := own_below hBl'3 n12.below
 have hB'7 := Bl.nextB hB'6 hBw n12.below
 refine xbi 0 fun _ _ _ _ zJ zQ zo zx zy zK => op_app_at (b := b12) (c := 1) (m := 1) (news := [.int .i64 no]) (.int .i64 0) 1 8 ((s.bs ++ [no]).length) (((s.bs ++ [no]).map (Value.int .i64))) zo Tryz.underlying26 (by kernel_rfl) rfl (by decide) zx hBl'4 zy n12.blk rfl (by simp [Value.oneCell']) (by unfold maxLen; omega) (by omega) (Nat.le_trans hBw hB'7.size) (by simp) (by simp) fun px13 cx13 W13 o13 hg13 hb13 ha13 => ?_
 have hWy'7 := own_below hWy'6 n12.below
 have q13_hWy := hAp.row hWy'7 hg13
 replace hAp := (hAp.grow hWy'7 ha13)
 have hk'3 := own_below hk'2 n12.below
 have q13_hk := hApk.row hk'3 hg13
 replace hApk := (hApk.grow hk'3 ha13)
 have hWyq13 := q13_hWy
 have hkq13 := q13_hk
 refine zK _ _ ?_
 have kL6'3 := (kL6'2.below n12.below).grown hg13 hBl'4 (by decide)
 refine xs 3 kL6'3 [.slice pe s.es.length ce, .slice px13 ((s.bs ++ [no]).length) cx13, .int .i64 s.deep, .int .i64 ((s.looked : Int) + 1), .slice pf s.fs.length cf, .pointer (some ⟨b, 0, none⟩), .int .i64 tree, .int .i64 fuel, .slice pw way.length cw, .bool s.dry] fun W14 u14 k14 => ?_
 have k11'1 := u14.blkT ((k11.below n12.below).grown hg13 hBl'4 (by decide)) kL6'3 (by decide)
 refine xb 6 1 k11'1 ?_
 refine xi 2 (nodL (inB l no)) (fun hc15 => ?_) (fun hc15 => ?_)
 · refine xlv 4 k11'1.rp ?_
   have hch : (visitF l tree fuel (d + 1) way no lo hi s) = { s with looked := s.looked + 1, bs := s.bs ++ [no], deep := ((way.length + 1 : Nat) : Int), es := s.es ++ leafL (nodK l no) (nodV l no) no (nodC (inB l no)) } := by unfold visitF; rw [if_neg (by omega), if_neg (by omega), if_pos (by assumption)]
   have hB'8 := u14.below (hB'7.trans hb13) hBb
   have hEn'3 := u14.own2 (own_grown (own_below (u11.own2 (own_below (own_only (own_below (own_below hEn n1.below) (below_drew W1)) hO6 (by decide)) n10.below) n10.blk (by decide)) n12.below) hg13 hBl'4 (by decide)) kL6'3 (by decide)
   have hk'4 := u14.own2 hkq13 kL6'3 (by decide)
   have hv_'1 := u14.own2 (own_grown (own_below (u11.own2 (own_below (own_mono hv_ hs6) n10.below) n10.blk (by decide)) n12.below) hg13 hBl'4 (by decide)) kL6'3 (by decide)
   refine xc 0 (args := #[.pointer (some ⟨bw, 0, none⟩), .int .i64 no, .agg #[.int .i64 (nodT (inB l no)), .bool (nodL (inB l no)), .slice kp (nodC (inB l no)) kc, .slice vp (nodC (inB l no)) vc]]) (walker_leaf B bw _ _ _ _ _ _ _ _ pe ce s.es pw cw way no _ _ kp vp _ kc vc (nodK l no) (nodV l no) _ hBb (Nat.le_trans hBw hB'8.size) k14 hEn'3 (fun W _ q => own_sl (own_only hk'4 q (by decide))) (fun W _ q => own_sl (own_only hv_'1 q (by decide))) (by simp [nodK, keysI]) (by simp [nodV, valsL]) (by omega) (by have := he; rw [hch] at this; simp [leafL_len] at this; omega)) ?_
   rintro _ W16 ⟨u16, pe2, ce2, rfl, hb16, hO16, kE, hE2⟩
   have hB'9 := hB'8.trans hb16
   have hO := ((((Only.upd_new ((((show Only [93, 108, 3, 41] w _ from (Only.of_below n1.below)).trans (Only.of_below (below_drew W1))).trans (only_w hO6)).trans (Only.of_below n10.below)) u11 g10).trans (Only.of_below n12.below)).trans (Only.of_grown hg13 hBl'4 (by decide))).trans (Only.of_upd u14 kL6'3 (by decide))).trans (only_le hO16)
   have o13'1 := own_only (u14.own2 o13 kL6'3 (by decide)) hO16 (by decide)
   have hFl'3 := own_only (u14.own2 (own_grown (own_below (u11.own2 (own_below (own_only (own_below (own_below hFl n1.below) (below_drew W1)) hO6 (by decide)) n10.below) n10.blk (by decide)) n12.below) hg13 hBl'4 (by decide)) kL6'3 (by decide)) hO16 (by decide)
   have hFv'3 := ((((((((hFv.below n1.below).below (below_drew W1)).only hO6 (by decide)).below n10.below).only (Only.of_upd (T := [52]) u11 n10.blk (by decide)) (by decide)).below n12.below).only (Only.of_grown (T := [3]) hg13 hBl'4 (by decide)) (by decide)).only (Only.of_upd (T := [93]) u14 kL6'3 (by decide)) (by decide)).only hO16 (by decide)
   have hWy'8 := own_only (u14.own2 hWyq13 kL6'3 (by decide)) hO16 (by decide)
   have hI'4 := ((((((hI'2.only hO6 (by decide)).below n10.below).only (Only.of_upd (T := [52]) u11 n10.blk (by decide)) (by decide)).below n12.below).only (Only.of_grown (T := [3]) hg13 hBl'4 (by decide)) (by decide)).only (Only.of_upd (T := [93]) u14 kL6'3 (by decide)) (by decide)).only hO16 (by decide)
   refine xe 4 (.tuple #[]) ?_
   rw [hch]
   exact ⟨_, pe2, _, pf, pw, ce2, _, cf, cw, fv, rfl, hB'9, hO, by simpa [leafL_len] using kE, by simpa [leafL_len] using hE2, by simpa using o13'1, hFl'3, hFv'3, hWy'8, by simpa using hAp, hI'4⟩
 refine xb 8 8 k14 ?_
 refine xbs 1 1 [.int .i64 no] 3 fun b17 W17 n17 => ?_
 have hB'10 := u14.below (hB'7.trans hb13) hBb
 have g17 := n17.ge0 hB'10
 have hWy'9 := u14.own2 hWyq13 kL6'3 (by decide)
 have r17_hWy := own_ne hWy'9 n17
 have hk'5 := u14.own2 hkq13 kL6'3 (by decide)
 have r17_hk := own_ne hk'5 n17
 have o13'2 := u14.own2 o13 kL6'3 (by decide)
 have r17_o13 := own_ne o13'2 n17
 have hWy'10 := own_below hWy'9 n17.below
 have hB'11 := Bl.nextB hB'10 hBw n17.below
 refine xbi 0 fun _ _ _ _ zJ zQ zo zx zy zK => op_app_at (b := b17) (c := 1) (m := 1) (news := [.int .i64 no]) (.int .i64 0) 1 8 ((way ++ [no]).length) (((way ++ [no]).map (Value.int .i64))) zo Tryz.underlying26 (by kernel_rfl) rfl (by decide) zx hWy'10 zy n17.blk rfl (by simp [Value.oneCell']) (by unfold maxLen; omega) (by omega) (Nat.le_trans hBw hB'11.size) (by simp) (by simp) fun px18 cx18 W18 o18 hg18 hb18 ha18 => ?_
 have o13'3 := own_below o13'2 n17.below
 have q18_o13 := hAp.symm.row o13'3 hg18
 replace hAp := (hAp.symm.grow o13'3 ha18).symm
 have hk'6 := own_below hk'5 n17.below
 have q18_hk := hApw.row hk'6 hg18
 replace hApw := (hApw.grow hk'6 ha18)
 have o13q18 := q18_o13
 have hkq18 := q18_hk
 refine zK _ _ ?_
 have k14'1 := (k14.below n17.below).grown hg18 hWy'10 (by decide)
 refine xs 2 k14'1 [.slice pe s.es.length ce, .slice px13 ((s.bs ++ [no]).length) cx13, .int .i64 s.deep, .int .i64 ((s.looked : Int) + 1), .slice pf s.fs.length cf, .pointer (some ⟨b, 0, none⟩), .int .i64 tree, .int .i64 fuel, .slice px18 ((way ++ [no]).length) cx18, .bool s.dry] fun W19 u19 k19 => ?_
 have k1'1 := u19.blkT (((u14.blkT (((u11.blkT ((k1.only hO6 (by decide)).below n10.below) n10.blk (by decide)).below n12.below).grown hg13 hBl'4 (by decide)) kL6'3 (by decide)).below n17.below).grown hg18 hWy'10 (by decide)) k14'1 (by decide)
 refine xlv 5 k1'1.rp ?_
 have k11'2 := u19.blkT ((k11'1.below n17.below).grown hg18 hWy'10 (by decide)) k14'1 (by decide)
 refine xb 1 2 k11'2 ?_
 have hB'12 := u19.below (hB'11.trans hb18) hBb
 have hsp0 := hB'12.size
 obtain ⟨hfit, hw16⟩ := look_fits hz
 have hkl : (nodK l no).length = nodC (inB l no) := by simp [nodK, keysI]
 have hnc : nodC (inB l no) < 65536 := rawN_lt _ 2 2
 have hk'7 := u19.own2 hkq18 k14'1 (by decide)
 refine xc 0 (args := #[.agg #[.int .i64 lo, .int .i64 hi], .slice kp (nodC (inB l no)) kc]) (span_split2 lo hi _ (nodK l no) _ (by rw [hkl]; omega) (intsN_of (own_sl hk'7) hkl)) ?_
 rintro _ W20 ⟨r20, rfl, hb20, _, hg20⟩
 obtain ⟨gs, rfl, hgs, kS⟩ := hg20 hfit
 rw [hkl]
 have hSp := own_of_blk (size := 2) (n := nodC (inB l no)) kS (Nat.le_trans hsp0 hgs) (by rw [flat2_length, splitL_len, hkl]) (by unfold maxLen; omega)
 have hch : (visitF l tree fuel (d + 1) way no lo hi s) = (loopW (visitF l tree fuel d) l way no hi (nodC (inB l no)) { s with looked := s.looked + 1, bs := s.bs ++ [no] }) := by unfold visitF; rw [if_neg (by omega), if_neg (by omega), if_neg (by simp; assumption)]
 have hspl : (splitL hi (nodK l no)).length = (nodC (inB l no)) := by rw [splitL_len, hkl]
 have hvl : (nodV l no).length = (nodC (inB l no)) := by simp [nodV, valsL]
 have k19'1 := k19.below hb20
 have hEn'4 := own_below (u19.own2 (own_grown (own_below (u14.own2 (own_grown (own_below (u11.own2 (own_below (own_only (own_below (own_below hEn n1.below) (below_drew W1)) hO6 (by decide)) n10.below) n10.blk (by decide)) n12.below) hg13 hBl'4 (by decide)) kL6'3 (by decide)) n17.below) hg18 hWy'10 (by decide)) k14'1 (by decide)) hb20
 have o13'4 := own_below (u19.own2 o13q18 k14'1 (by decide)) hb20
 have hFl'4 := own_below (u19.own2 (own_grown (own_below (u14.own2 (own_grown (own_below (u11.own2 (own_below (own_only (own_below (own_below hFl n1.below) (below_drew W1)) hO6 (by decide)) n10.below) n10.blk (by decide)) n12.below) hg13 hBl'4 (by decide)) kL6'3 (by decide)) n17.below) hg18 hWy'10 (by decide)) k14'1 (by decide)) hb20
 have hFv'4 := (((((((((((hFv.below n1.below).below (below_drew W1)).only hO6 (by decide)).below n10.below).only (Only.of_upd (T := [52]) u11 n10.blk (by decide)) (by decide)).below n12.below).only (Only.of_grown (T := [3]) hg13 hBl'4 (by decide)) (by decide)).only (Only.of_upd (T := [93]) u14 kL6'3 (by decide)) (by decide)).below n17.below).only (Only.of_grown (T := [3]) hg18 hWy'10 (by decide)) (by decide)).only (Only.of_upd (T := [93]) u19 k14'1 (by decide)) (by decide)).below hb20
 have o18'1 := own_below (u19.own2 o18 k14'1 (by decide)) hb20
 have hI'5 := (((((((((hI'2.only hO6 (by decide)).below n10.below).only (Only.of_upd (T := [52]) u11 n10.blk (by decide)) (by decide)).below n12.below).only (Only.of_grown (T := [3]) hg13 hBl'4 (by decide)) (by decide)).only (Only.of_upd (T := [93]) u14 kL6'3 (by decide)) (by decide)).below n17.below).only (Only.of_grown (T := [3]) hg18 hWy'10 (by decide)) (by decide)).only (Only.of_upd (T := [93]) u19 k14'1 (by decide)) (by decide)).below hb20
 have hR : WalkR B bw Bi b pi ni ci l tree fuel (way ++ [no]) (loopW (visitF l tree fuel d) l way no hi 0 { s with looked := s.looked + 1, bs := s.bs ++ [no] }) pe _ pf _ ce _ cf _ fv W20 := ⟨k19'1, hEn'4, o13'4, hFl'4, hFv'4, o18'1, hAp, hI'5⟩
 have hv_'2 := own_below (u19.own2 (own_grown (own_below (u14.own2 (own_grown (own_below (u11.own2 (own_below (own_mono hv_ hs6) n10.below) n10.blk (by decide)) n12.below) hg13 hBl'4 (by decide)) kL6'3 (by decide)) n17.below) hg18 hWy'10 (by decide)) k14'1 (by decide)) hb20
 have hB'13 := Bl.nextB hB'12 hBw hb20
 have hO := (((((((Only.upd_new ((((show Only [93, 108, 3, 41] w _ from (Only.of_below n1.below)).trans (Only.of_below (below_drew W1))).trans (only_w hO6)).trans (Only.of_below n10.below)) u11 g10).trans (Only.of_below n12.below)).trans (Only.of_grown hg13 hBl'4 (by decide))).trans (Only.of_upd u14 kL6'3 (by decide))).trans (Only.of_below n17.below)).trans (Only.of_grown hg18 hWy'10 (by decide))).trans (Only.of_upd u19 k14'1 (by decide))).trans (Only.of_below hb20)
 have k1'2 := k1'1.below hb20
 have k11'3 := k11'2.below hb20
 refine zl 5 106 (fun zm zkv V => ∃ (i : Nat) (pe5 pb5 pf5 pw5 : Option Addr) (ce5 cb5 cf5 cw5 : Nat) (fv5 : List Value), zkv = [(0, .pointer (some ⟨bw, 0, none⟩)), (1, .int .i64 no), (6, .pointer (some ⟨b10, 0, none⟩)), (71, .slice (some ⟨gs, 0, none⟩) (nodC (inB l no)) (nodC (inB l no))), (72, .int .i64 (↑(nodC (inB l no)) : Int)), (73, .int .i64 (↑i : Int))] ∧ zm = (nodC (inB l no)) - ((↑i : Int)).toNat ∧ Below B w V ∧ Only [93, 108, 3, 41] w V ∧ Blk V b1 ([.int .i64 lo, .int .i64 hi]) 96 ∧ Blk V b10 ([.int .i64 (nodT (inB l no)), .bool (nodL (inB l no)), .slice kp (nodC (inB l no)) kc, .slice vp (nodC (inB l no)) vc]) 52 ∧ WalkR B bw Bi b pi ni ci l tree fuel (way ++ [no]) (loopW (visitF l tree fuel d) l way no hi i { s with looked := s.looked + 1, bs := s.bs ++ [no] }) pe5 pb5 pf5 pw5 ce5 cb5 cf5 cw5 fv5 V ∧ V.ownsRow w.heap.size 9 1 (.slice vp (nodC (inB l no)) vc) (nodC (inB l no)) ((nodV l no).map sv) ∧ V.ownsRow w.heap.size 96 2 (.slice (some ⟨gs, 0, none⟩) (nodC (inB l no)) (nodC (inB l no))) (nodC (inB l no)) (flat2 (splitL hi (nodK l no))) ∧ i ≤ (nodC (inB l no)) ∧ (loopW (visitF l tree fuel d) l way no hi i { s with looked := s.looked + 1, bs := s.bs ++ [no] }).dry = false) ⟨0, _, _, _, _, _, _, _, _, _, rfl, rfl, hB'13, hO, k1'2, k11'3, hR, hv_'2, hSp, Nat.zero_le _, hdry⟩ ?_
 rintro _ _ W21 ⟨i, pe5, pb5, pf5, pw5, ce5, cb5, cf5, cw5, fv5, rfl, rfl, hB_21, hO_21, k21_b1, k21_b10, hR, hv_, hSp, hi_, hdr⟩ J21 hJ21 r21
 have kW3 := hR.blk
 refine xid 6 ((↑i : Int) < (↑(nodC (inB l no)) : Int)) (fun hc22 => ?_) (fun hc22 => ?_)
 · refine xx 7 _ (nodC (inB l no)) i 2 (Sts.cell (sts_sp (own_sl hSp) hspl) prC_len (0, 0) (k := i) (i := 0) (show i < (splitL hi (nodK l no)).length by omega) rfl).1 ?_
   refine xlv 0 (Sts.rp (k := i) (sts_sp (own_sl hSp) hspl) prC_len (0, 0) (by omega) (by decide)) ?_
   refine xa 0 [.int .i64 0, .int .i64 0] 96 fun b23 W23 n23 => ?_
   have d23_b1 := n23.ne k21_b1
   have g23 := n23.ge0 hB_21
   have r23_hSp := own_ne hSp n23
   refine xsv 1 n23.blk [.int .i64 (((splitL hi (nodK l no)).getD i (0, 0)).1), .int .i64 (((splitL hi (nodK l no)).getD i (0, 0)).2)] fun W24 u24 k24 => ?_
   refine xd 3 (.t B [93, 108, 3, 41]) ?_
   have k21_b10'1 := (u24.blkT (k21_b10.below n23.below) n23.blk (by decide)).below (below_drew W24)
   refine xbt (.e [0, 1, 2] 3) 3 B [93, 108, 3, 41] k21_b10'1 ?_
   have hv_'3 := own_below (u24.own2 (own_below hv_ n23.below) n23.blk (by decide)) (below_drew W24)
   refine xx (.e [4] 5) _ (nodC (inB l no)) i 1 (Strs.elem (own_sl hv_'3) hvl (k := i) (by omega)).1 ?_
   refine xlt (.e [] 6) (.t B [93, 108, 3, 41]) (fun V hV => (Strs.elem (own_sl (own_only hv_'3 hV.2 (by decide))) hvl (k := i) (by omega)).2) ?_
   have k24'1 := k24.below (below_drew W24)
   refine xlvt (.e [] 7) (.t B [93, 108, 3, 41]) (fun V hV => (k24'1.only hV.2 (by decide)).rp) ?_
   have hxi := splitL_get hi (nodK l no) (i := i) (by omega)
   have hch2 : childW (visitF l tree fuel d) way no ((nodV l no).getD i []) (((splitL hi (nodK l no)).getD i (0, 0)).1, ((splitL hi (nodK l no)).getD i (0, 0)).2) (loopW (visitF l tree fuel d) l way no hi i { s with looked := s.looked + 1, bs := s.bs ++ [no] }) = (loopW (visitF l tree fuel d) l way no hi (i + 1) { s with looked := s.looked + 1, bs := s.bs ++ [no] }) := by rw [loopW_succ]; unfold roundW; rw [if_neg (by rw [hdr]; decide), hxi]
   have hgi := loopW_grow (visitF_grow l tree fuel d) l way no hi { s with looked := s.looked + 1, bs := s.bs ++ [no] } (show i + 1 ≤ (nodC (inB l no)) by omega)
   rw [hch] at he hb_ hf
   have hB'14 := Bl.nextB (u24.below (Bl.nextB hB_21 hBw n23.below) (Nat.le_trans hBw g23)) hBw (below_drew W24)
   have hR'1 := ((hR.below n23.below).only (Only.of_upd (T := [96]) u24 n23.blk (by decide)) (by decide)).below (below_drew W24)
   refine yc (.o [] 8) (args := #[.pointer (some ⟨bw, 0, none⟩), .int .i64 no, .string ⟨((nodV l no).getD i []).toArray⟩, .agg #[.int .i64 (((splitL hi (nodK l no)).getD i (0, 0)).1), .int .i64 (((splitL hi (nodK l no)).getD i (0, 0)).2)]]) (.t B [93, 108, 3, 41]) (walker_child B bw Bi b pi ni ci l tree fuel d (hV (by omega)) way no _ _ ((nodV l no).getD i []) _ pe5 pb5 pf5 pw5 ce5 cb5 cf5 cw5 fv5 _ hBb (Nat.le_trans hBw hB'14.size) (by omega) hdr (valsL_short _ _ _) hR'1 (by rw [hch2]; exact Nat.le_trans hgi.1 he) (by rw [hch2]; exact Nat.le_trans hgi.2.1 hb_) (by rw [hch2]; exact Nat.le_trans hgi.2.2 hf)) ?_
   rintro _ W25 ⟨u25, pe3, pb3, pf3, pw3, ce3, cb3, cf3, cw3, fv3, rfl, hb25, hO25, hR3⟩
   have kW3'1 := (u24.blkT (kW3.below n23.below) n23.blk (by decide)).below (below_drew W24)
   refine ⟨(sft_only hb25 hO25), ?_⟩
   rw [hch2] at hR3
   have kW3 := hR3.blk
   refine xb 7 9 kW3 ?_
   refine xi 2 ((loopW (visitF l tree fuel d) l way no hi (i + 1) { s with looked := s.looked + 1, bs := s.bs ++ [no] }).dry) (fun hc26 => ?_) (fun hc26 => ?_)
   · obtain ⟨_, hEn, hBl, hFl, hFv, hWy, hAp, hI⟩ := hR3
     have hwc := (own_some hWy (by simp)).2
     have hwl : (way ++ [no]).length = way.length + 1 := by simp
     have hend : (loopW (visitF l tree fuel d) l way no hi (nodC (inB l no)) { s with looked := s.looked + 1, bs := s.bs ++ [no] }) = (loopW (visitF l tree fuel d) l way no hi (i + 1) { s with looked := s.looked + 1, bs := s.bs ++ [no] }) := loopW_dry _ _ _ _ _ _ (by omega) hc26
     refine xd 6 (.t B [93]) ?_
     refine xm2 (.b [0, 1, 2, 3, 5, 6, 7]) 4 8 ?_ ?_
     · have kW3'2 := kW3.below (below_drew W25)
       refine xb 0 8 kW3'2 ?_
       refine xb (.o [] 8) 8 kW3'2 ?_
       refine xwm (.e [9] 10) ((↑((way ++ [no]).length) : Int) - 1) (↑(((way ++ [no]).length) - 1) : Int) ?_
       refine xsH (.e [] 11) (fun _ _ _ _ zo zx zy V => run_sliceH (k := (((way ++ [no]).length) - 1)) (b := pw3) (n := (way ++ [no]).length) (c := cw3) (i := (↑(((way ++ [no]).length) - 1) : Int)) (ki := .i64) zo zx zy rfl (by omega) Tryz.underlying26 (by kernel_rfl) V) ?_
       refine ys (.o [12, 13] 14) kW3'2 [.slice pe3 ((loopW (visitF l tree fuel d) l way no hi (i + 1) { s with looked := s.looked + 1, bs := s.bs ++ [no] }).es.length) ce3, .slice pb3 ((loopW (visitF l tree fuel d) l way no hi (i + 1) { s with looked := s.looked + 1, bs := s.bs ++ [no] }).bs.length) cb3, .int .i64 (loopW (visitF l tree fuel d) l way no hi (i + 1) { s with looked := s.looked + 1, bs := s.bs ++ [no] }).deep, .int .i64 ((loopW (visitF l tree fuel d) l way no hi (i + 1) { s with looked := s.looked + 1, bs := s.bs ++ [no] }).looked : Int), .slice pf3 ((loopW (visitF l tree fuel d) l way no hi (i + 1) { s with looked := s.looked + 1, bs := s.bs ++ [no] }).fs.length) cf3, .pointer (some ⟨b, 0, none⟩), .int .i64 tree, .int .i64 fuel, .slice pw3 (((way ++ [no]).length) - 1) cw3, .bool ((loopW (visitF l tree fuel d) l way no hi (i + 1) { s with looked := s.looked + 1, bs := s.bs ++ [no] }).dry)] (.t B [93]) fun W27 u27 k27 => ⟨(sft_upd u27 kW3'2 hBb (by decide)), ?_⟩
       have k21_b1'1 := (((u24.blk (k21_b1.below n23.below) (Ne.symm (Ne.symm d23_b1))).below (below_drew W24)).only hO25 (by decide)).below (below_drew W25)
       have k21_b10'2 := (k21_b10'1.only hO25 (by decide)).below (below_drew W25)
       have hB'15 := u27.below (Bl.nextB (hB'14.trans hb25) hBw (below_drew W25)) hBb
       have hO'1 := ((((Only.upd_new (hO_21.trans (Only.of_below n23.below)) u24 g23).trans (Only.of_below (below_drew W24))).trans hO25).trans (Only.of_below (below_drew W25))).trans (Only.of_upd u27 kW3'2 (by decide))
       have hEn'5 := u27.own2 (own_below hEn (below_drew W25)) kW3'2 (by decide)
       have hBl'5 := u27.own2 (own_below hBl (below_drew W25)) kW3'2 (by decide)
       have hFl'5 := u27.own2 (own_below hFl (below_drew W25)) kW3'2 (by decide)
       have hFv'5 := (hFv.below (below_drew W25)).only (Only.of_upd (T := [93]) u27 kW3'2 (by decide)) (by decide)
       have hWy'11 := u27.own2 (own_below hWy (below_drew W25)) kW3'2 (by decide)
       have hI'6 := (hI.below (below_drew W25)).only (Only.of_upd (T := [93]) u27 kW3'2 (by decide)) (by decide)
       refine xe 1 (.tuple #[]) ?_
       rw [hch, hend]
       rw [show (way ++ [no]).length - 1 = way.length by simp] at k27
       exact ⟨_, pe3, pb3, pf3, pw3, ce3, cb3, cf3, cw3, fv3, rfl, hB'15, hO'1, k27, hEn'5, hBl'5, hFl'5, hFv'5, way_cut hWy'11, hAp.len _ _ _ _, hI'6⟩
     have kW3'3 := kW3.below (below_drew W25)
     refine xb 0 8 kW3'3 ?_
     refine xwm (.e [9] 10) ((↑((way ++ [no]).length) : Int) - 1) (↑(((way ++ [no]).length) - 1) : Int) ?_
     refine xb (.o [] 4) 8 kW3'3 ?_
     refine xsH (.e [] 11) (fun _ _ _ _ zo zx zy V => run_sliceH (k := (((way ++ [no]).length) - 1)) (b := pw3) (n := (way ++ [no]).length) (c := cw3) (i := (↑(((way ++ [no]).length) - 1) : Int)) (ki := .i64) zo zx zy rfl (by omega) Tryz.underlying26 (by kernel_rfl) V) ?_
     refine ys (.o [12, 13] 14) kW3'3 [.slice pe3 ((loopW (visitF l tree fuel d) l way no hi (i + 1) { s with looked := s.looked + 1, bs := s.bs ++ [no] }).es.length) ce3, .slice pb3 ((loopW (visitF l tree fuel d) l way no hi (i + 1) { s with looked := s.looked + 1, bs := s.bs ++ [no] }).bs.length) cb3, .int .i64 (loopW (visitF l tree fuel d) l way no hi (i + 1) { s with looked := s.looked + 1, bs := s.bs ++ [no] }).deep, .int .i64 ((loopW (visitF l tree fuel d) l way no hi (i + 1) { s with looked := s.looked + 1, bs := s.bs ++ [no] }).looked : Int), .slice pf3 ((loopW (visitF l tree fuel d) l way no hi (i + 1) { s with looked := s.looked + 1, bs := s.bs ++ [no] }).fs.length) cf3, .pointer (some ⟨b, 0, none⟩), .int .i64 tree, .int .i64 fuel, .slice pw3 (((way ++ [no]).length) - 1) cw3, .bool ((loopW (visitF l tree fuel d) l way no hi (i + 1) { s with looked := s.looked + 1, bs := s.bs ++ [no] }).dry)] (.t B [93]) fun W28 u28 k28 => ⟨(sft_upd u28 kW3'3 hBb (by decide)), ?_⟩
     have k21_b1'2 := (((u24.blk (k21_b1.below n23.below) (Ne.symm (Ne.symm d23_b1))).below (below_drew W24)).only hO25 (by decide)).below (below_drew W25)
     have k21_b10'3 := (k21_b10'1.only hO25 (by decide)).below (below_drew W25)
     have hB'16 := u28.below (Bl.nextB (hB'14.trans hb25) hBw (below_drew W25)) hBb
     have hO'2 := ((((Only.upd_new (hO_21.trans (Only.of_below n23.below)) u24 g23).trans (Only.of_below (below_drew W24))).trans hO25).trans (Only.of_below (below_drew W25))).trans (Only.of_upd u28 kW3'3 (by decide))
     have hEn'6 := u28.own2 (own_below hEn (below_drew W25)) kW3'3 (by decide)
     have hBl'6 := u28.own2 (own_below hBl (below_drew W25)) kW3'3 (by decide)
     have hFl'6 := u28.own2 (own_below hFl (below_drew W25)) kW3'3 (by decide)
     have hFv'6 := (hFv.below (below_drew W25)).only (Only.of_upd (T := [93]) u28 kW3'3 (by decide)) (by decide)
     have hWy'12 := u28.own2 (own_below hWy (below_drew W25)) kW3'3 (by decide)
     have hI'7 := (hI.below (below_drew W25)).only (Only.of_upd (T := [93]) u28 kW3'3 (by decide)) (by decide)
     refine xe 1 (.tuple #[]) ?_
     rw [hch, hend]
     rw [show (way ++ [no]).length - 1 = way.length by simp] at k28
     exact ⟨_, pe3, pb3, pf3, pw3, ce3, cb3, cf3, cw3, fv3, rfl, hB'16, hO'2, k28, hEn'6, hBl'6, hFl'6, hFv'6, way_cut hWy'12, hAp.len _ _ _ _, hI'7⟩
   refine xwm 4 ((↑i : Int) + 1) (↑(i + 1) : Int) ?_
   have hB'17 := hB'14.trans hb25
   have hO'3 := ((Only.upd_new (hO_21.trans (Only.of_below n23.below)) u24 g23).trans (Only.of_below (below_drew W24))).trans hO25
   have k21_b1'3 := ((u24.blk (k21_b1.below n23.below) (Ne.symm (Ne.symm d23_b1))).below (below_drew W24)).only hO25 (by decide)
   have k21_b10'4 := k21_b10'1.only hO25 (by decide)
   have hv_'4 := own_only hv_'3 hO25 (by decide)
   have hSp'1 := own_only (own_below (u24.own3 (own_below hSp n23.below) r23_hSp) (below_drew W24)) hO25 (by decide)
   exact ze 2 (hJ21 _ _ _ ⟨i + 1, _, _, _, _, _, _, _, _, _, rfl, rfl, hB'17, hO'3, k21_b1'3, k21_b10'4, hR3, hv_'4, hSp'1, by omega, by assumption⟩ (by omega))
 obtain ⟨_, hEn, hBl, hFl, hFv, hWy, hAp, hI⟩ := hR
 have hwc := (own_some hWy (by simp)).2
 have hwl : (way ++ [no]).length = way.length + 1 := by simp
 have hend : (loopW (visitF l tree fuel d) l way no hi (nodC (inB l no)) { s with looked := s.looked + 1, bs := s.bs ++ [no] }) = (loopW (visitF l tree fuel d) l way no hi i { s with looked := s.looked + 1, bs := s.bs ++ [no] }) := by rw [show i = (nodC (inB l no)) by omega]
 refine xd 5 (.t B [93]) ?_
 refine xm2 (.b [0, 1, 2, 3, 5, 6, 7]) 4 8 ?_ ?_
 · have kW3'4 := kW3.below (below_drew W21)
   refine xb 0 8 kW3'4 ?_
   refine xb (.o [] 8) 8 kW3'4 ?_
   refine xwm (.e [9] 10) ((↑((way ++ [no]).length) : Int) - 1) (↑(((way ++ [no]).length) - 1) : Int) ?_
   refine xsH (.e [] 11) (fun _ _ _ _ zo zx zy V => run_sliceH (k := (((way ++ [no]).length) - 1)) (b := pw5) (n := (way ++ [no]).length) (c := cw5) (i := (↑(((way ++ [no]).length) - 1) : Int)) (ki := .i64) zo zx zy rfl (by omega) Tryz.underlying26 (by kernel_rfl) V) ?_
   refine ys (.o [12, 13] 14) kW3'4 [.slice pe5 ((loopW (visitF l tree fuel d) l way no hi i { s with looked := s.looked + 1, bs := s.bs ++ [no] }).es.length) ce5, .slice pb5 ((loopW (visitF l tree fuel d) l way no hi i { s with looked := s.looked + 1, bs := s.bs ++ [no] }).bs.length) cb5, .int .i64 (loopW (visitF l tree fuel d) l way no hi i { s with looked := s.looked + 1, bs := s.bs ++ [no] }).deep, .int .i64 ((loopW (visitF l tree fuel d) l way no hi i { s with looked := s.looked + 1, bs := s.bs ++ [no] }).looked : Int), .slice pf5 ((loopW (visitF l tree fuel d) l way no hi i { s with looked := s.looked + 1, bs := s.bs ++ [no] }).fs.length) cf5, .pointer (some ⟨b, 0, none⟩), .int .i64 tree, .int .i64 fuel, .slice pw5 (((way ++ [no]).length) - 1) cw5, .bool ((loopW (visitF l tree fuel d) l way no hi i { s with looked := s.looked + 1, bs := s.bs ++ [no] }).dry)] (.t B [93]) fun W29 u29 k29 => ⟨(sft_upd u29 kW3'4 hBb (by decide)), ?_⟩
   have k21_b1'4 := k21_b1.below (below_drew W21)
   have k21_b10'5 := k21_b10.below (below_drew W21)
   have hB'18 := u29.below (Bl.nextB hB_21 hBw (below_drew W21)) hBb
   have hO'4 := (hO_21.trans (Only.of_below (below_drew W21))).trans (Only.of_upd u29 kW3'4 (by decide))
   have hEn'7 := u29.own2 (own_below hEn (below_drew W21)) kW3'4 (by decide)
   have hBl'7 := u29.own2 (own_below hBl (below_drew W21)) kW3'4 (by decide)
   have hFl'7 := u29.own2 (own_below hFl (below_drew W21)) kW3'4 (by decide)
   have hFv'7 := (hFv.below (below_drew W21)).only (Only.of_upd (T := [93]) u29 kW3'4 (by decide)) (by decide)
   have hWy'13 := u29.own2 (own_below hWy (below_drew W21)) kW3'4 (by decide)
   have hI'8 := (hI.below (below_drew W21)).only (Only.of_upd (T := [93]) u29 kW3'4 (by decide)) (by decide)
   refine xe 1 (.tuple #[]) ?_
   rw [hch, hend]
   rw [show (way ++ [no]).length - 1 = way.length by simp] at k29
   exact ⟨_, pe5, pb5, pf5, pw5, ce5, cb5, cf5, cw5, fv5, rfl, hB'18, hO'4, k29, hEn'7, hBl'7, hFl'7, hFv'7, way_cut hWy'13, hAp.len _ _ _ _, hI'8⟩
 have kW3'5 := kW3.below (below_drew W21)
 refine xb 0 8 kW3'5 ?_
 refine xwm (.e [9] 10) ((↑((way ++ [no]).length) : Int) - 1) (↑(((way ++ [no]).length) - 1) : Int) ?_
 refine xb (.o [] 4) 8 kW3'5 ?_
 refine xsH (.e [] 11) (fun _ _ _ _ zo zx zy V => run_sliceH (k := (((way ++ [no]).length) - 1)) (b := pw5) (n := (way ++ [no]).length) (c := cw5) (i := (↑(((way ++ [no]).length) - 1) : Int)) (ki := .i64) zo zx zy rfl (by omega) Tryz.underlying26 (by kernel_rfl) V) ?_
 refine ys (.o [12, 13] 14) kW3'5 [.slice pe5 ((loopW (visitF l tree fuel d) l way no hi i { s with looked := s.looked + 1, bs := s.bs ++ [no] }).es.length) ce5, .slice pb5 ((loopW (visitF l tree fuel d) l way no hi i { s with looked := s.looked + 1, bs := s.bs ++ [no] }).bs.length) cb5, .int .i64 (loopW (visitF l tree fuel d) l way no hi i { s with looked := s.looked + 1, bs := s.bs ++ [no] }).deep, .int .i64 ((loopW (visitF l tree fuel d) l way no hi i { s with looked := s.looked + 1, bs := s.bs ++ [no] }).looked : Int), .slice pf5 ((loopW (visitF l tree fuel d) l way no hi i { s with looked := s.looked + 1, bs := s.bs ++ [no] }).fs.length) cf5, .pointer (some ⟨b, 0, none⟩), .int .i64 tree, .int .i64 fuel, .slice pw5 (((way ++ [no]).length) - 1) cw5, .bool ((loopW (visitF l tree fuel d) l way no hi i { s with looked := s.looked + 1, bs := s.bs ++ [no] }).dry)] (.t B [93]) fun W30 u30 k30 => ⟨(sft_upd u30 kW3'5 hBb (by decide)), ?_⟩
 have k21_b1'5 := k21_b1.below (below_drew W21)
 have k21_b10'6 := k21_b10.below (below_drew W21)
 have hB'19 := u30.below (Bl.nextB hB_21 hBw (below_drew W21)) hBb
 have hO'5 := (hO_21.trans (Only.of_below (below_drew W21))).trans (Only.of_upd u30 kW3'5 (by decide))
 have hEn'8 := u30.own2 (own_below hEn (below_drew W21)) kW3'5 (by decide)
 have hBl'8 := u30.own2 (own_below hBl (below_drew W21)) kW3'5 (by decide)
 have hFl'8 := u30.own2 (own_below hFl (below_drew W21)) kW3'5 (by decide)
 have hFv'8 := (hFv.below (below_drew W21)).only (Only.of_upd (T := [93]) u30 kW3'5 (by decide)) (by decide)
 have hWy'14 := u30.own2 (own_below hWy (below_drew W21)) kW3'5 (by decide)
 have hI'9 := (hI.below (below_drew W21)).only (Only.of_upd (T := [93]) u30 kW3'5 (by decide)) (by decide)
 refine xe 1 (.tuple #[]) ?_
 rw [hch, hend]
 rw [show (way ++ [no]).length - 1 = way.length by simp] at k30
 exact ⟨_, pe5, pb5, pf5, pw5, ce5, cb5, cf5, cw5, fv5, rfl, hB'19, hO'5, k30, hEn'8, hBl'8, hFl'8, hFv'8, way_cut hWy'14, hAp.len _ _ _ _, hI'9⟩
end Go.Proofs.YtinegkldgjhnpaaGreatDoor
namespace Go.Proofs.YtinegkldgjhnpaaGreatDoor
open Go.RowKit Go.Extern.Stop Go.Stop Go.Extern
set_option linter.unusedVariables false
theorem loopW_ind {V : List Int → Int → Int → Int → WS → WS} {l : List UInt8} {way : List Int} {no hi : Int} {s : WS} (P : Nat → WS → Prop) (h0 : P 0 s) :
    ∀ n, (∀ i t, i < n → t.dry = false → P i t → P (i + 1) (childW V way no ((nodV l no).getD i []) (partAt hi (nodK l no) i) t)) → (∀ i t, i < n → t.dry = true → P i t → P (i + 1) t) → P n (loopW V l way no hi n s)
  | 0, _, _ => h0
  | n + 1, hs, hd => by
    have ih := loopW_ind P h0 n (fun i t hi => hs i t (by omega)) (fun i t hi => hd i t (by omega))
    rw [loopW_succ]
    unfold roundW
    split
    · rename_i h; exact hd n _ (by omega) h ih
    · rename_i h; exact hs n _ (by omega) (by simpa using h) ih
theorem rootE_no (v : List UInt8) : rootE v = 0 ∨ rootE v = 2 ∨ rootE v = 7 := by
  unfold rootE; split
  · split <;> simp
  · simp
theorem keysErr_no (l : List UInt8) : ∀ n, keysErr l n = 0 ∨ keysErr l n = 2 ∨ keysErr l n = 8
  | 0 => .inl rfl
  | n + 1 => by
    rw [keysErr]
    split
    · exact keysErr_no l n
    · unfold keyE; split
      · simp
      · split <;> simp
theorem nodeErr_no (l : List UInt8) (no tree : Int) : nodeErr l no tree ≠ 12 := by
  unfold nodeErr
  split
  · unfold nodeTE
    split
    · split <;> decide
    · unfold nodeE
      split
      · split
        · rcases keysErr_no (inB l no) (nodC (inB l no)) with h | h | h <;> rw [h] <;> decide
        · decide
      · decide
  · unfold inE
    split
    · unfold openE
      repeat' split
      all_goals decide
    · decide
theorem lookE_no (l : List UInt8) (way : List Int) (no tree lo hi deep : Int) : lookE l way no tree lo hi deep ≠ 12 := by
  unfold lookE
  split
  · decide
  · split
    · decide
    · split
      · exact nodeErr_no _ _ _
      · split
        · decide
        · split <;> decide
theorem maxG_18 (t : Int) (b : Bool) : maxG t b ≤ 18 := by
  unfold maxG maxN
  repeat' split
  all_goals omega
theorem nodeE_shape {l : List UInt8} (h : nodeE l = 0) : shapeB l = true := by
  unfold nodeE at h
  split at h
  · assumption
  · cases h
theorem nodeTE_zero {l : List UInt8} {tree : Int} (h : nodeTE l tree = 0) : nodeE l = 0 := by
  unfold nodeTE at h
  split at h
  · assumption
  · assumption
theorem nodeErr_TE {l : List UInt8} {no tree : Int} (h : nodeErr l no tree = 0) : inE l 2 no = 0 ∧ nodeTE (inB l no) tree = 0 := by
  unfold nodeErr at h
  split at h
  · exact ⟨by assumption, h⟩
  · rename_i q; exact absurd h q
theorem look_node {l : List UInt8} {way : List Int} {no tree lo hi deep : Int} (h : lookE l way no tree lo hi deep = 0) : nodeErr l no tree = 0 ∧ fitsI lo hi (nodK l no) = 0 ∧ nodC (inB l no) ≤ 18 := by
  unfold lookE at h
  split at h
  · cases h
  · split at h
    · cases h
    · split at h
      · rename_i q; exact absurd h q
      · rename_i q
        split at h
        · cases h
        · rename_i q2
          have q1 : nodeErr l no tree = 0 := Decidable.not_not.1 q
          exact ⟨q1, Decidable.not_not.1 q2, Nat.le_trans (node_shapeP (nodeE_shape (nodeTE_zero (nodeErr_TE q1).2))) (maxG_18 _ _)⟩
theorem fits_sort {lo hi : Int} {L : List Int} (h : fitsI lo hi L = 0) : rightB lo hi = true ∧ SortP L ∧ ∀ k ∈ L, lo ≤ k ∧ k < hi := by
  unfold fitsI at h
  split at h
  · split at h
    · split at h
      · exact ⟨by assumption, by assumption, by assumption⟩
      · cases h
    · cases h
  · cases h
/-- an entry stands in its block: at the first place of its key -/
def InBlk (l : List UInt8) (tree : Int) (x : Ent) : Prop :=
  nodeErr l x.2.2 tree = 0 ∧ nodL (inB l x.2.2) = true ∧ ∃ k, k < nodC (inB l x.2.2) ∧ (nodK l x.2.2).getD k 0 = x.1 ∧ (nodV l x.2.2).getD k [] = x.2.1 ∧ ∀ j, j < k → (nodK l x.2.2).getD j 0 ≠ x.1
/-- keys that rise, all within a span -/
def Rise (lo hi : Int) (es : List Ent) : Prop := es.Pairwise (fun x y => x.1 < y.1) ∧ ∀ x ∈ es, lo ≤ x.1 ∧ x.1 < hi
theorem Rise.nil (lo hi : Int) : Rise lo hi [] := ⟨.nil, fun _ h => by cases h⟩
theorem Rise.app {lo mi hi : Int} {a b : List Ent} (h : Rise lo mi a) (k : Rise mi hi b) (h1 : lo ≤ mi) (h2 : mi ≤ hi) : Rise lo hi (a ++ b) := by
  refine ⟨List.pairwise_append.2 ⟨h.1, k.1, fun x hx y hy => ?_⟩, fun x hx => ?_⟩
  · have := (h.2 x hx).2; have := (k.2 y hy).1; omega
  · rcases List.mem_append.1 hx with q | q
    · have := h.2 x q; omega
    · have := k.2 x q; omega
/-- what came between the states s and t of a visit of no below way, of the span lo hi -/
structure Went (l : List UInt8) (tree fuel : Int) (hd : Option Int) (lo hi : Int) (s t : WS) (es : List Ent) (fs : List (List Int × Int)) : Prop where
  esE : t.es = s.es ++ es
  fsE : t.fs = s.fs ++ fs
  rise : Rise lo hi es
  inb : ∀ x ∈ es, InBlk l tree x
  flt : ∀ f ∈ fs, f.1.head? = hd ∧ f.1 ≠ [] ∧ f.2 ≠ 0
  dry : t.dry = true ↔ s.dry = true ∨ ∃ f ∈ fs, f.2 = 12
  fuelE : t.dry = true → s.dry = true ∨ fuel ≤ t.looked
  look : s.looked ≤ fuel.toNat → t.looked ≤ fuel.toNat
  more : s.looked ≤ t.looked
  blks : t.bs.length + s.looked ≤ s.bs.length + t.looked
theorem Went.refl (l : List UInt8) (tree fuel : Int) (hd : Option Int) (lo hi : Int) (s : WS) : Went l tree fuel hd lo hi s s [] [] :=
  ⟨by simp, by simp, Rise.nil _ _, by simp, by simp, by simp, fun h => .inl h, fun h => h, Nat.le_refl _, Nat.le_refl _⟩
theorem Went.trans {l : List UInt8} {tree fuel : Int} {hd : Option Int} {lo mi hi : Int} {s t u : WS} {es es2 : List Ent} {fs fs2 : List (List Int × Int)} (h : Went l tree fuel hd lo mi s t es fs) (k : Went l tree fuel hd mi hi t u es2 fs2) (h1 : lo ≤ mi) (h2 : mi ≤ hi) :
    Went l tree fuel hd lo hi s u (es ++ es2) (fs ++ fs2) where
  esE := by rw [k.esE, h.esE, List.append_assoc]
  fsE := by rw [k.fsE, h.fsE, List.append_assoc]
  rise := h.rise.app k.rise h1 h2
  inb x hx := by
    rcases List.mem_append.1 hx with q | q
    · exact h.inb x q
    · exact k.inb x q
  flt f hf := by
    rcases List.mem_append.1 hf with q | q
    · exact h.flt f q
    · exact k.flt f q
  dry := by
    rw [k.dry, h.dry]
    constructor
    · rintro ((q | ⟨f, q1, q2⟩) | ⟨f, q1, q2⟩)
      · exact .inl q
      · exact .inr ⟨f, List.mem_append_left _ q1, q2⟩
      · exact .inr ⟨f, List.mem_append_right _ q1, q2⟩
    · rintro (q | ⟨f, q1, q2⟩)
      · exact .inl (.inl q)
      · rcases List.mem_append.1 q1 with q | q
        · exact .inl (.inr ⟨f, q, q2⟩)
        · exact .inr ⟨f, q, q2⟩
  fuelE h0 := by
    rcases k.fuelE h0 with q | q
    · rcases h.fuelE q with q | q
      · exact .inl q
      · exact .inr (by have := k.more; omega)
    · exact .inr q
  look h0 := k.look (h.look h0)
  more := Nat.le_trans h.more k.more
  blks := by have := h.blks; have := k.blks; omega
theorem Went.wide {l : List UInt8} {tree fuel : Int} {hd : Option Int} {lo hi lo2 hi2 : Int} {s t : WS} {es : List Ent} {fs : List (List Int × Int)} (h : Went l tree fuel hd lo hi s t es fs) (h1 : lo2 ≤ lo) (h2 : hi ≤ hi2) : Went l tree fuel hd lo2 hi2 s t es fs :=
  { h with rise := ⟨h.rise.1, fun x hx => by have := h.rise.2 x hx; omega⟩ }
theorem Went.note (l : List UInt8) (tree fuel : Int) {hd : Option Int} (lo hi : Int) (way : List Int) (no c : Int) (s : WS) (hc : c ≠ 0) (hc2 : c ≠ 12) (hh : (way ++ [no]).head? = hd) : Went l tree fuel hd lo hi s (noteW way [no] c s) [] [(way ++ [no], c)] :=
  ⟨by simp [noteW], by simp [noteW], Rise.nil _ _, by simp, (fun f hf => by rw [List.mem_singleton.1 hf]; exact ⟨hh, by simp, hc⟩), by simp [noteW, hc2], fun h => .inl (by simpa [noteW] using h), fun h => by simpa [noteW] using h, Nat.le_refl _, Nat.le_refl _⟩
theorem partAt_le {lo hi : Int} {L : List Int} (hf : fitsI lo hi L = 0) {i : Nat} (h : i < L.length) : lo ≤ (partAt hi L i).1 ∧ (partAt hi L i).1 ≤ (partAt hi L i).2 ∧ (partAt hi L i).2 ≤ hi ∧ (i + 1 < L.length → (partAt hi L i).2 = (partAt hi L (i + 1)).1) := by
  obtain ⟨h1, h2, h3⟩ := fits_sort hf
  have h4 := h3 L[i] (List.getElem_mem _)
  unfold partAt
  simp only [List.getElem?_eq_getElem h, Option.getD_some]
  by_cases hn : i + 1 < L.length
  · have h5 := h3 L[i + 1] (List.getElem_mem _)
    have h6 := SortP.lt h2 (i + 1) i (by omega) hn
    simp only [List.getElem?_eq_getElem h, List.getElem?_eq_getElem hn, Option.getD_some] at h6 ⊢
    exact ⟨h4.1, by omega, by omega, fun _ => trivial⟩
  · rw [List.getElem?_eq_none (by omega)]
    simp only [Option.getD_none]
    exact ⟨h4.1, by omega, Int.le_refl _, fun h => absurd h hn⟩
theorem leaf_rise {lo hi : Int} {l : List UInt8} {no : Int} (hf : fitsI lo hi (nodK l no) = 0) (Vs : List (List UInt8)) : Rise lo hi (leafL (nodK l no) Vs no (nodC (inB l no))) := by
  obtain ⟨h1, h2, h3⟩ := fits_sort hf
  have hl : (nodK l no).length = nodC (inB l no) := by simp [nodK, keysI]
  refine ⟨?_, ?_⟩
  · unfold leafL
    rw [List.pairwise_map]
    refine List.Pairwise.imp_of_mem (R := fun a b => a < b) ?_ List.pairwise_lt_range
    intro a b ha hb hab
    have := SortP.lt h2 b a hab (by rw [hl]; simpa using hb)
    simpa [List.getD] using this
  · intro x hx
    unfold leafL at hx
    obtain ⟨j, hj, rfl⟩ := List.mem_map.1 hx
    have hj : j < (nodK l no).length := by rw [hl]; simpa using hj
    have := h3 (nodK l no)[j] (List.getElem_mem _)
    simpa [List.getD, hj] using this
theorem leaf_inb {lo hi : Int} {l : List UInt8} {no tree : Int} (hn : nodeErr l no tree = 0) (hl : nodL (inB l no) = true) (hf : fitsI lo hi (nodK l no) = 0) : ∀ x ∈ leafL (nodK l no) (nodV l no) no (nodC (inB l no)), InBlk l tree x := by
  intro x hx
  obtain ⟨h1, h2, h3⟩ := fits_sort hf
  have hk : (nodK l no).length = nodC (inB l no) := by simp [nodK, keysI]
  unfold leafL at hx
  obtain ⟨j, hj, rfl⟩ := List.mem_map.1 hx
  have hj : j < nodC (inB l no) := by simpa using hj
  refine ⟨hn, hl, j, hj, rfl, rfl, fun i hi => ?_⟩
  have := SortP.lt h2 j i hi (by rw [hk]; exact hj)
  simp only [List.getD] 
  omega
theorem visitF_went (l : List UInt8) (tree fuel : Int) : ∀ (d : Nat) (way : List Int) (no lo hi : Int) (s : WS), s.dry = false → ∃ es fs, Went l tree fuel (way ++ [no]).head? lo hi s (visitF l tree fuel d way no lo hi s) es fs
  | 0, way, no, lo, hi, s, _ => ⟨[], [], Went.refl _ _ _ _ _ _ _⟩
  | d + 1, way, no, lo, hi, s, hs => by
    unfold visitF
    split
    · rename_i hf
      exact ⟨[], [(way ++ [no], 12)], by simp [noteW], by simp [noteW], Rise.nil _ _, by simp, by simp, by simp, fun _ => .inr hf, fun h => h, Nat.le_refl _, Nat.le_refl _⟩
    · rename_i hf
      have hlk : s.looked + 1 ≤ fuel.toNat := by omega
      split
      · rename_i he
        have := Went.note l tree fuel lo hi way no _ { s with looked := s.looked + 1 } he (lookE_no _ _ _ _ _ _ _) rfl
        exact ⟨_, _, this.esE, this.fsE, this.rise, this.inb, this.flt, this.dry, fun h => by simp [noteW, hs] at h, fun _ => hlk, by simp [noteW], by simp [noteW]⟩
      · rename_i he
        have he : lookE l way no tree lo hi s.deep = 0 := Decidable.not_not.1 he
        obtain ⟨hn, hft, hc⟩ := look_node he
        split
        · rename_i hl
          exact ⟨_, [], rfl, by simp, leaf_rise hft _, leaf_inb hn hl hft, by simp, by simp [hs], fun h => by simp [hs] at h, fun _ => hlk, by simp, by simp; omega⟩
        · have hk : (nodK l no).length = nodC (inB l no) := by simp [nodK, keysI]
          have hfs := fits_sort hft
          have hrt : lo ≤ hi := by have := hfs.1; unfold rightB at this; simp at this; omega
          have hloop := loopW_ind (V := visitF l tree fuel d) (l := l) (way := way) (no := no) (hi := hi) (s := { s with looked := s.looked + 1, bs := s.bs ++ [no] })
            (fun i t => ∃ es fs, Went l tree fuel (way ++ [no]).head? lo (if i = 0 then lo else (partAt hi (nodK l no) (i - 1)).2) { s with looked := s.looked + 1, bs := s.bs ++ [no] } t es fs)
            ⟨[], [], Went.refl _ _ _ _ _ _ _⟩ (nodC (inB l no)) ?_ ?_
          · obtain ⟨es, fs, q⟩ := hloop
            refine ⟨es, fs, q.esE, q.fsE, ?_, q.inb, q.flt, q.dry, fun h => ?_, fun _ => q.look hlk, by have := q.more; simp only at this; omega, by have := q.blks; simp at this; omega⟩
            · refine ⟨q.rise.1, fun x hx => ?_⟩
              have := q.rise.2 x hx
              split at this
              · omega
              · rename_i h0
                have := (partAt_le hft (i := nodC (inB l no) - 1) (by rw [hk]; omega)).2.2.1
                omega
            · rcases q.fuelE h with q2 | q2
              · exact .inl q2
              · exact .inr q2
          · rintro i t hi0 htd ⟨es, fs, q⟩
            have hp := partAt_le hft (i := i) (by rw [hk]; exact hi0)
            have hmid : lo ≤ (if i = 0 then lo else (partAt hi (nodK l no) (i - 1)).2) ∧ (if i = 0 then lo else (partAt hi (nodK l no) (i - 1)).2) ≤ (partAt hi (nodK l no) i).1 := by
              split
              · exact ⟨Int.le_refl _, hp.1⟩
              · rename_i h0
                have hp2 := partAt_le hft (i := i - 1) (by rw [hk]; omega)
                have := hp2.2.2.2 (by rw [hk]; omega)
                rw [show i - 1 + 1 = i by omega] at this
                omega
            have q' := q.wide (Int.le_refl lo) hmid.2
            rw [if_neg (by omega), Nat.add_sub_cancel]
            unfold childW
            split
            · obtain ⟨es2, fs2, r⟩ := visitF_went l tree fuel d (way ++ [no]) (rootN ((nodV l no).getD i []) : Int) (partAt hi (nodK l no) i).1 (partAt hi (nodK l no) i).2 t htd
              have hh : ((way ++ [no]) ++ [(rootN ((nodV l no).getD i []) : Int)]).head? = (way ++ [no]).head? := by cases way <;> rfl
              rw [hh] at r
              exact ⟨_, _, q'.trans r (by omega) hp.2.1⟩
            · rename_i hre
              have r := Went.note l tree fuel (partAt hi (nodK l no) i).1 (partAt hi (nodK l no) i).2 way no (rootE ((nodV l no).getD i [])) t hre (by rcases rootE_no ((nodV l no).getD i []) with h | h | h <;> rw [h] <;> decide) rfl
              exact ⟨_, _, q'.trans r (by omega) hp.2.1⟩
          · rintro i t hi0 htd ⟨es, fs, q⟩
            have hp := partAt_le hft (i := i) (by rw [hk]; exact hi0)
            rw [if_neg (by omega), Nat.add_sub_cancel]
            refine ⟨es, fs, q.wide (Int.le_refl _) ?_⟩
            split
            · omega
            · rename_i h0
              have hp2 := partAt_le hft (i := i - 1) (by rw [hk]; omega)
              have := hp2.2.2.2 (by rw [hk]; omega)
              rw [show i - 1 + 1 = i by omega] at this
              omega
/-- how much is found, by the nodes looked at -/
theorem visitF_count (l : List UInt8) (tree fuel : Int) : ∀ (d : Nat) (way : List Int) (no lo hi : Int) (s : WS), s.dry = false →
    (visitF l tree fuel d way no lo hi s).fs.length + (visitF l tree fuel d way no lo hi s).es.length + 18 * s.looked ≤ s.fs.length + s.es.length + 18 * (visitF l tree fuel d way no lo hi s).looked + (if (visitF l tree fuel d way no lo hi s).dry = true then 1 else 0)
  | 0, way, no, lo, hi, s, hs => by simp [visitF, hs]
  | d + 1, way, no, lo, hi, s, hs => by
    unfold visitF
    split
    · simp [noteW]; omega
    · split
      · simp [noteW, hs]; omega
      · rename_i he
        have he : lookE l way no tree lo hi s.deep = 0 := Decidable.not_not.1 he
        obtain ⟨hn, hft, hc⟩ := look_node he
        split
        · simp [leafL_len, hs]; omega
        · have hloop := loopW_ind (V := visitF l tree fuel d) (l := l) (way := way) (no := no) (hi := hi) (s := { s with looked := s.looked + 1, bs := s.bs ++ [no] })
            (fun i t => t.fs.length + t.es.length + 18 * (s.looked + 1) ≤ s.fs.length + s.es.length + i + 18 * t.looked + (if t.dry = true then 1 else 0)) (by simp [hs]) (nodC (inB l no)) ?_ ?_
          · omega
          · intro i t hi0 htd q
            rw [htd] at q
            unfold childW
            split
            · have := visitF_count l tree fuel d (way ++ [no]) (rootN ((nodV l no).getD i []) : Int) (partAt hi (nodK l no) i).1 (partAt hi (nodK l no) i).2 t htd
              simp at q
              omega
            · simp [noteW, htd] at q ⊢; omega
          · intro i t hi0 htd q; omega
/-- once the fuel is used up it stays so -/
theorem visitF_dry (l : List UInt8) (tree fuel : Int) (V : List Int → Int → Int → Int → WS → WS) (way : List Int) (no hi : Int) (s : WS) {k n : Nat} (hk : k ≤ n) (h : (loopW V l way no hi n s).dry = false) : (loopW V l way no hi k s).dry = false := by
  cases q : (loopW V l way no hi k s).dry with
  | false => rfl
  | true => rw [loopW_dry V l way no hi s hk q] at h; rw [← h, q]
/-- with more fuel a scan that had enough is the same -/
theorem visitF_more (l : List UInt8) (tree fuel fuel2 : Int) (hff : fuel ≤ fuel2) : ∀ (d : Nat) (way : List Int) (no lo hi : Int) (s : WS), (visitF l tree fuel d way no lo hi s).dry = false → visitF l tree fuel2 d way no lo hi s = visitF l tree fuel d way no lo hi s
  | 0, _, _, _, _, _, _ => rfl
  | d + 1, way, no, lo, hi, s, h => by
    unfold visitF at h ⊢
    by_cases hf : fuel ≤ s.looked
    · rw [if_pos hf] at h; cases h
    · rw [if_neg hf] at h
      rw [if_neg (show ¬ fuel2 ≤ s.looked by omega), if_neg hf]
      by_cases he : lookE l way no tree lo hi s.deep ≠ 0
      · rw [if_pos he, if_pos he]
      · rw [if_neg he] at h
        rw [if_neg he, if_neg he]
        by_cases hl : nodL (inB l no) = true
        · rw [if_pos hl, if_pos hl]
        · rw [if_neg hl] at h
          rw [if_neg hl, if_neg hl]
          have key : ∀ k, k ≤ nodC (inB l no) → loopW (visitF l tree fuel2 d) l way no hi k { s with looked := s.looked + 1, bs := s.bs ++ [no] } = loopW (visitF l tree fuel d) l way no hi k { s with looked := s.looked + 1, bs := s.bs ++ [no] } := by
            intro k
            induction k with
            | zero => intro _; rfl
            | succ k ih =>
              intro hk
              have h1 := visitF_dry l tree fuel _ way no hi _ hk h
              have h0 := visitF_dry l tree fuel _ way no hi _ (show k ≤ nodC (inB l no) by omega) h
              rw [loopW_succ, loopW_succ, ih (by omega)]
              rw [loopW_succ] at h1
              unfold roundW at h1 ⊢
              rw [if_neg (by rw [h0]; decide)] at h1
              rw [if_neg (by rw [h0]; decide), if_neg (by rw [h0]; decide)]
              unfold childW at h1 ⊢
              split
              · rename_i hr
                rw [if_pos hr] at h1
                exact visitF_more l tree fuel fuel2 hff d _ _ _ _ _ h1
              · rfl
          exact key _ (Nat.le_refl _)
end Go.Proofs.YtinegkldgjhnpaaGreatDoor
namespace Go.Proofs.YtinegkldgjhnpaaGreatDoor
open Go.RowKit Go.Extern.Stop Go.Stop Go.Extern
set_option linter.unusedVariables false
attribute [local irreducible] wpList wpAnyH Code.wp Oper.wp Go

theorem visit_all {B bw Bi b : Nat} {pi : Option Addr} {ni ci : Nat} {l : List UInt8} {tree fuel : Int} (hBb : B ≤ bw) (hfu : fuel ≤ 1000000) : ∀ d, VisitC B bw Bi b pi ni ci l tree fuel (d + 1)
  | 0 => fun way no lo hi s pe pb pf pw ce cb cf cw fv w h1 h2 h3 h4 h5 h6 h7 => walker_visit B bw Bi b pi ni ci l tree fuel 0 (fun h => absurd rfl h) way no lo hi s pe pb pf pw ce cb cf cw fv w hBb h2 h1 h3 hfu h4 h5 h6 h7
  | d + 1 => fun way no lo hi s pe pb pf pw ce cb cf cw fv w h1 h2 h3 h4 h5 h6 h7 => walker_visit B bw Bi b pi ni ci l tree fuel (d + 1) (fun _ => visit_all hBb hfu d) way no lo hi s pe pb pf pw ce cb cf cw fv w hBb h2 h1 h3 hfu h4 h5 h6 h7
def ws0 : WS := ⟨[], [], 0, 0, [], false⟩
/-- what a scan finds -/
def scanW (l : List UInt8) (root tree fuel : Int) : WS := visitF l tree fuel 17 [] root 0 281474976710656 ws0
theorem scanW_went (l : List UInt8) (root tree fuel : Int) : ∃ es fs, Went l tree fuel (some root) 0 281474976710656 ws0 (scanW l root tree fuel) es fs := visitF_went l tree fuel 17 [] root 0 281474976710656 ws0 rfl
theorem scanW_looked (l : List UInt8) (root tree fuel : Int) : (scanW l root tree fuel).looked ≤ fuel.toNat := by
  obtain ⟨_, _, h⟩ := scanW_went l root tree fuel
  exact h.look (Nat.zero_le _)
theorem scanW_few (l : List UInt8) (root tree fuel : Int) (hf : fuel ≤ 1000) : (scanW l root tree fuel).es.length ≤ 1000000 ∧ (scanW l root tree fuel).bs.length ≤ 1000000 ∧ (scanW l root tree fuel).fs.length ≤ 1000000 := by
  have h1 := visitF_count l tree fuel 17 [] root 0 281474976710656 ws0 rfl
  have h2 := scanW_looked l root tree fuel
  obtain ⟨_, _, h3⟩ := scanW_went l root tree fuel
  have h4 := h3.blks
  simp only [ws0, List.length_nil] at h4
  change (scanW l root tree fuel).fs.length + (scanW l root tree fuel).es.length + 18 * 0 ≤ 0 + 0 + 18 * (scanW l root tree fuel).looked + (if (scanW l root tree fuel).dry = true then 1 else 0) at h1
  have h5 : (if (scanW l root tree fuel).dry = true then 1 else 0) ≤ 1 := by split <;> omega
  have h6 : fuel.toNat ≤ 1000 := by omega
  generalize (if (scanW l root tree fuel).dry = true then 1 else 0) = q at h1 h5
  omega
/-- a scan's finding in memory: the five cells of a Walked -/
def walkC (t : WS) (pe pb pf : Option Addr) (ce cb cf : Nat) : List Value := [.slice pe t.es.length ce, .slice pb t.bs.length cb, .int .i64 t.deep, .int .i64 (t.looked : Int), .slice pf t.fs.length cf]
structure WalkV (B : Nat) (t : WS) (pe pb pf : Option Addr) (ce cb cf : Nat) (fv : List Value) (w : World) : Prop where
  ents : w.ownsRow B 108 3 (.slice pe t.es.length ce) t.es.length (t.es.flatMap entC)
  blks : w.ownsRow B 3 1 (.slice pb t.bs.length cb) t.bs.length (t.bs.map (Value.int .i64))
  flts : w.ownsRow B 41 1 (.slice pf t.fs.length cf) t.fs.length fv
  fltv : FltsW w t.fs fv
def ScanP (l : List UInt8) (root tree fuel : Int) (w : World) (e : Ending) (w' : World) : Prop :=
  ∃ pe pb pf ce cb cf fv, e = .returned (.agg (walkC (scanW l root tree fuel) pe pb pf ce cb cf).toArray) ∧ Below w.heap.size w w' ∧ WalkV w.heap.size (scanW l root tree fuel) pe pb pf ce cb cf fv w'
set_option maxRecDepth 100000 in
set_option maxHeartbeats 4000000 in
theorem walk_Scan (Bi b : Nat) (pi : Option Addr) (ni ci : Nat) (l : List UInt8) (root tree fuel : Int) (w : World) (hfu : fuel ≤ 1000) (hI : ImgR Bi b pi ni ci l w) :
    Calls Tryz.prog 9 #[.pointer (some ⟨b, 0, none⟩), .int .i64 root, .int .i64 tree, .int .i64 fuel] w (ScanP l root tree fuel w) := by
 refine zin 23 Tryz.func9 ?_
 refine xa 2 [.slice none 0 0, .slice none 0 0, .int .i64 0, .int .i64 0, .slice none 0 0] 29 fun b1 W1 n1 => ?_
 refine xa 8 [.slice none 0 0, .slice none 0 0, .int .i64 0, .int .i64 0, .slice none 0 0, .pointer (some ⟨b, 0, none⟩), .int .i64 tree, .int .i64 fuel, .slice none 0 0, .bool false] 93 fun b2 W2 n2 => ?_
 refine xr 7 (args := #[]) (span_all _) fun W3 hb3 => ?_
 have hfew := scanW_few l root tree fuel hfu
 have g2 := n2.ge n1.below
 have hB := Bl.next (Bl.next n1.below n2.below) hb3
 have k2 := n2.blk.below hb3
 have hI'1 := ((hI.below n1.below).below n2.below).below hb3
 refine xc 0 (args := #[.pointer (some ⟨b2, 0, none⟩), .int .i64 root, .agg #[.int .i64 0, .int .i64 281474976710656]]) (visit_all (B := w.heap.size) (bw := b2) (Bi := Bi) (b := b) (pi := pi) (ni := ni) (ci := ci) (l := l) (tree := tree) (fuel := fuel) g2 (by omega) 16 [] root 0 281474976710656 ws0 none none none none 0 0 0 0 [] _ rfl hB.size rfl ⟨k2, World.ownsRow_nil _ _ _ _, World.ownsRow_nil _ _ _ _, World.ownsRow_nil _ _ _ _, trivial, World.ownsRow_nil _ _ _ _, Apart.nil _, hI'1⟩ hfew.1 hfew.2.1 hfew.2.2) ?_
 rintro _ W4 ⟨u4, pe, pb, pf, pw, ce, cb, cf, cw, fv, rfl, hb4, hO4, hR⟩
 change WalkR _ _ _ _ _ _ _ _ _ _ _ (scanW l root tree fuel) _ _ _ _ _ _ _ _ _ _ at hR
 obtain ⟨kW, hEn, hBl, hFl, hFv, hWy, hAp, hI⟩ := hR
 refine xlv 7 (kW.rpp 0 5) ?_
 have k1 := ((n1.blk.below n2.below).below hb3).only hO4 (by decide)
 refine xsv 0 k1 [.slice pe ((scanW l root tree fuel).es.length) ce, .slice pb ((scanW l root tree fuel).bs.length) cb, .int .i64 (scanW l root tree fuel).deep, .int .i64 ((scanW l root tree fuel).looked : Int), .slice pf ((scanW l root tree fuel).fs.length) cf] fun W5 u5 k5 => ?_
 have g1 := n1.ge (Below.refl w.heap.size _)
 have hB'1 := u5.below (hB.trans hb4) g1
 have hEn'1 := u5.own2 hEn k1 (by decide)
 have hBl'1 := u5.own2 hBl k1 (by decide)
 have hFl'1 := u5.own2 hFl k1 (by decide)
 have hFv'1 := hFv.only (Only.of_upd (T := [29]) u5 k1 (by decide)) (by decide)
 exact xec 3 k5 (.agg #[.slice pe ((scanW l root tree fuel).es.length) ce, .slice pb ((scanW l root tree fuel).bs.length) cb, .int .i64 (scanW l root tree fuel).deep, .int .i64 ((scanW l root tree fuel).looked : Int), .slice pf ((scanW l root tree fuel).fs.length) cf]) ⟨_, _, _, _, _, _, _, rfl, hB'1, ⟨hEn'1, hBl'1, hFl'1, hFv'1⟩⟩
end Go.Proofs.YtinegkldgjhnpaaGreatDoor
namespace Go.Proofs.YtinegkldgjhnpaaGreatDoor
open Go.RowKit Go.Extern.Stop Go.Stop Go.Extern
set_option linter.unusedVariables false
/-- a visit that waits (of a node, or a fault that comes in its turn); where its way lies -/
structure Wt where
  no : Int
  lo : Int
  hi : Int
  way : List Int
  ft : Int
  wa : Option Addr
  wc : Nat
def oneW (l : List UInt8) (tree fuel : Int) (s : WS) (t : Wt) : WS :=
  if s.dry = true then s else if t.ft ≠ 0 then noteW t.way [t.no] t.ft s else visitF l tree fuel (17 - t.way.length) t.way t.no t.lo t.hi s
def doneW (l : List UInt8) (tree fuel : Int) (ts : List Wt) (s : WS) : WS := ts.foldl (oneW l tree fuel) s
theorem doneW_nil (l : List UInt8) (tree fuel : Int) (s : WS) : doneW l tree fuel [] s = s := rfl
theorem doneW_cons (l : List UInt8) (tree fuel : Int) (t : Wt) (ts : List Wt) (s : WS) : doneW l tree fuel (t :: ts) s = doneW l tree fuel ts (oneW l tree fuel s t) := rfl
theorem doneW_app (l : List UInt8) (tree fuel : Int) (bs ts : List Wt) (s : WS) : doneW l tree fuel (bs ++ ts) s = doneW l tree fuel ts (doneW l tree fuel bs s) := List.foldl_append
theorem doneW_dry (l : List UInt8) (tree fuel : Int) : ∀ (ts : List Wt) (s : WS), s.dry = true → doneW l tree fuel ts s = s
  | [], _, _ => rfl
  | t :: ts, s, h => by rw [doneW_cons, oneW, if_pos h, doneW_dry l tree fuel ts s h]
theorem oneW_grow (l : List UInt8) (tree fuel : Int) (s : WS) (t : Wt) : Grow s (oneW l tree fuel s t) := by
  unfold oneW
  split
  · exact Grow.refl _
  · split
    · exact noteW_grow _ _ _ _
    · exact visitF_grow _ _ _ _ _ _ _ _ _
theorem doneW_grow (l : List UInt8) (tree fuel : Int) : ∀ (ts : List Wt) (s : WS), Grow s (doneW l tree fuel ts s)
  | [], s => Grow.refl s
  | t :: ts, s => (oneW_grow l tree fuel s t).trans (doneW_grow l tree fuel ts _)
/-- the visit of child number i of a node that is looked at; p, c: where the way lies -/
def belowW (l : List UInt8) (t : Wt) (p : Option Addr) (c i : Nat) : Wt :=
  if rootE ((nodV l t.no).getD i []) = 0 then ⟨rootN ((nodV l t.no).getD i []), (partAt t.hi (nodK l t.no) i).1, (partAt t.hi (nodK l t.no) i).2, t.way ++ [t.no], 0, p, c⟩ else ⟨t.no, 0, 0, t.way, rootE ((nodV l t.no).getD i []), t.wa, t.wc⟩
def belowL (l : List UInt8) (t : Wt) (p : Option Addr) (c k : Nat) : List Wt := (List.range k).map (belowW l t p c)
theorem belowL_len (l : List UInt8) (t : Wt) (p : Option Addr) (c k : Nat) : (belowL l t p c k).length = k := by simp [belowL]
theorem belowL_snoc (l : List UInt8) (t : Wt) (p : Option Addr) (c k : Nat) : belowL l t p c (k + 1) = belowL l t p c k ++ [belowW l t p c k] := by simp [belowL, List.range_succ]
theorem one_fault {l : List UInt8} {tree fuel : Int} {s : WS} {t : Wt} (hd : s.dry = false) (h : t.ft ≠ 0) : oneW l tree fuel s t = noteW t.way [t.no] t.ft s := by
  rw [oneW, if_neg (by rw [hd]; decide), if_pos h]
theorem one_visit {l : List UInt8} {tree fuel : Int} {s : WS} {t : Wt} (hd : s.dry = false) (h : t.ft = 0) : oneW l tree fuel s t = visitF l tree fuel (17 - t.way.length) t.way t.no t.lo t.hi s := by
  rw [oneW, if_neg (by rw [hd]; decide), if_neg (by omega)]
theorem one_fuel {l : List UInt8} {tree fuel : Int} {s : WS} {t : Wt} (hd : s.dry = false) (h : t.ft = 0) (hw : t.way.length ≤ 16) (hf : fuel ≤ s.looked) : oneW l tree fuel s t = { noteW t.way [t.no] 12 s with dry := true } := by
  rw [one_visit hd h, show 17 - t.way.length = (16 - t.way.length) + 1 by omega, visitF, if_pos hf]
theorem one_err {l : List UInt8} {tree fuel : Int} {s : WS} {t : Wt} (hd : s.dry = false) (h : t.ft = 0) (hw : t.way.length ≤ 16) (hf : ¬ fuel ≤ s.looked) (he : lookE l t.way t.no tree t.lo t.hi s.deep ≠ 0) :
    oneW l tree fuel s t = noteW t.way [t.no] (lookE l t.way t.no tree t.lo t.hi s.deep) { s with looked := s.looked + 1 } := by
  rw [one_visit hd h, show 17 - t.way.length = (16 - t.way.length) + 1 by omega, visitF, if_neg hf, if_pos he]
theorem look_deep {l : List UInt8} {way : List Int} {no tree lo hi deep : Int} (h : lookE l way no tree lo hi deep = 0) : way.length < 16 := by
  unfold lookE at h
  split at h
  · cases h
  · split at h
    · cases h
    · omega
theorem one_leaf {l : List UInt8} {tree fuel : Int} {s : WS} {t : Wt} (hd : s.dry = false) (h : t.ft = 0) (hf : ¬ fuel ≤ s.looked) (he : lookE l t.way t.no tree t.lo t.hi s.deep = 0) (hl : nodL (inB l t.no) = true) :
    oneW l tree fuel s t = { s with looked := s.looked + 1, bs := s.bs ++ [t.no], deep := ((t.way.length + 1 : Nat) : Int), es := s.es ++ leafL (nodK l t.no) (nodV l t.no) t.no (nodC (inB l t.no)) } := by
  have := look_deep he
  rw [one_visit hd h, show 17 - t.way.length = (16 - t.way.length) + 1 by omega, visitF, if_neg hf, if_neg (by omega), if_pos hl]
theorem one_inner {l : List UInt8} {tree fuel : Int} {s : WS} {t : Wt} (p : Option Addr) (c : Nat) (hd : s.dry = false) (h : t.ft = 0) (hf : ¬ fuel ≤ s.looked) (he : lookE l t.way t.no tree t.lo t.hi s.deep = 0) (hl : nodL (inB l t.no) = false) :
    oneW l tree fuel s t = doneW l tree fuel (belowL l t p c (nodC (inB l t.no))) { s with looked := s.looked + 1, bs := s.bs ++ [t.no] } := by
  have hw := look_deep he
  rw [one_visit hd h, show 17 - t.way.length = (16 - t.way.length) + 1 by omega, visitF, if_neg hf, if_neg (by omega), if_neg (by rw [hl]; decide)]
  unfold doneW belowL loopW
  rw [List.foldl_map]
  congr 1
  funext u i
  unfold roundW oneW
  split
  · rfl
  · unfold childW belowW
    by_cases hr : rootE ((nodV l t.no).getD i []) = 0
    · rw [if_pos hr, if_pos hr, if_neg (by simp)]
      simp only [List.length_append, List.length_cons, List.length_nil]
      rw [show 17 - (t.way.length + (0 + 1)) = 16 - t.way.length by omega]
    · rw [if_neg hr, if_neg hr, if_pos hr]
/-- the keys of a node that is right rise -/
theorem keysErr_all {l : List UInt8} : ∀ {n : Nat}, keysErr l n = 0 → ∀ i, i < n → keyE l i = 0
  | 0, _, i, h => absurd h (by omega)
  | n + 1, h, i, hi => by
    by_cases h1 : keysErr l n = 0
    · rw [keysErr, if_neg (by rw [h1]; decide)] at h
      by_cases e : i = n
      · rw [e]; exact h
      · exact keysErr_all h1 i (by omega)
    · rw [keysErr, if_pos h1] at h
      exact absurd h h1
theorem nodeE_keys {l : List UInt8} (h : nodeE l = 0) : keysErr l (nodC l) = 0 := by
  unfold nodeE at h
  split at h
  · split at h
    · exact h
    · cases h
  · cases h
theorem keysI_sort {l : List UInt8} {n : Nat} (h : keysErr l n = 0) : SortP (keysI l n) := by
  intro k hk h1
  rw [keysI_len] at hk
  have e := keysErr_all h k hk
  have g : ∀ j, j < n → (keysI l n)[j]?.getD 0 = (keyN l j : Int) := fun j hj => by simp [keysI, List.getElem?_range hj]
  rw [g _ (by omega), g _ hk]
  unfold keyE at e
  split at e
  · cases e
  · split at e
    · cases e
    · rename_i q; omega
theorem nodK_sort {l : List UInt8} {no tree : Int} (h : nodeErr l no tree = 0) : SortP (nodK l no) := keysI_sort (nodeE_keys (nodeTE_zero (nodeErr_TE h).2))
theorem nodK_fits {l : List UInt8} {no tree lo hi : Int} (h : nodeErr l no tree = 0) (hr : rightB lo hi = true) (hk : ∀ i, i < nodC (inB l no) → hasB lo hi ((nodK l no).getD i 0) = true) : fitsI lo hi (nodK l no) = 0 := by
  unfold fitsI
  rw [if_pos hr, if_pos (nodK_sort h), if_pos]
  intro x hx
  obtain ⟨i, hi', rfl⟩ := List.mem_iff_getElem.1 hx
  have hl : (nodK l no).length = nodC (inB l no) := by simp [nodK, keysI]
  have := hk i (by omega)
  rw [show (nodK l no).getD i 0 = (nodK l no)[i] by simp [List.getD, hi']] at this
  exact hasB_iff.1 this
theorem nodK_out {l : List UInt8} {no tree lo hi : Int} {i : Nat} (hn : i < nodC (inB l no)) (hk : hasB lo hi ((nodK l no).getD i 0) = false) : fitsI lo hi (nodK l no) ≠ 0 := by
  intro h
  have hl : (nodK l no).length = nodC (inB l no) := by simp [nodK, keysI]
  have h2 := (fits_sort h).2.2 ((nodK l no)[i]'(by omega)) (List.getElem_mem _)
  rw [show (nodK l no).getD i 0 = (nodK l no)[i]'(by omega) by simp [List.getD, show i < (nodK l no).length by omega]] at hk
  exact absurd (hasB_iff.2 h2) (by rw [hk]; decide)
theorem part_right {lo hi : Int} {L : List Int} (hf : fitsI lo hi L = 0) {i : Nat} (h : i < L.length) : rightB (partAt hi L i).1 (partAt hi L i).2 = true := by
  obtain ⟨h1, h2, h3, _⟩ := partAt_le hf h
  have hr := of_decide_eq_true (fits_sort hf).1
  exact decide_eq_true ⟨by omega, by omega, by omega⟩
end Go.Proofs.YtinegkldgjhnpaaGreatDoor
namespace Go.Proofs.YtinegkldgjhnpaaGreatDoor
open Go.RowKit
set_option linter.unusedVariables false

set_option maxHeartbeats 400000 in
theorem refspan_has (lo hi k : Int) (w : World) : Calls Tryz.prog 86 #[spanV lo hi, .int .i64 k] w (Ret (.bool (hasB lo hi k)) w) := by
  unfold spanV
  go_enter Tryz.func86, Tryz.ntmps86
  go_wp2
  all_goals go_ret
  all_goals refine ⟨?_, Bl.box _ _⟩
  all_goals (unfold hasB; congr 2; simp; omega)
set_option maxHeartbeats 400000 in
theorem refspan_right (lo hi : Int) (w : World) : Calls Tryz.prog 130 #[spanV lo hi] w (Ret (.bool (rightB lo hi)) w) := by
  unfold spanV
  go_enter Tryz.func130, Tryz.ntmps130
  go_wp2_with fail
  all_goals go_ret
  all_goals refine ⟨?_, Bl.box _ _⟩
  all_goals (unfold rightB; congr 2; simp [*]; try omega)

theorem fits_all {lo hi : Int} {l : List Int} (h : rightB lo hi = true) (hs : SortP l) (ha : ∀ j : Nat, j < l.length → ∀ x, l[j]? = some x → hasB lo hi x = true) : fitsI lo hi l = 0 := by
  have hall : ∀ k ∈ l, lo ≤ k ∧ k < hi := fun k hk => by
    obtain ⟨i, hi', rfl⟩ := List.mem_iff_getElem.1 hk
    exact hasB_iff.1 (ha i hi' _ (by simp))
  simp only [fitsI, h, if_true, hs]
  rw [if_pos hall]

set_option maxHeartbeats 1000000 in
theorem refspan_fits (lo hi : Int) (v : Value) (l : List Int) (w : World) (hl : Ints w v l) :
    Calls Tryz.prog 88 #[spanV lo hi, v] w (Ret (.int .i64 (fitsI lo hi l)) w) := by
  have hl0 := hl
  obtain ⟨a, c, rfl⟩ := hl.slice
  by_cases hr : rightB lo hi = true
  case neg =>
    have hr' : rightB lo hi = false := by simpa using hr
    unfold spanV
    go_enter Tryz.func88, Tryz.ntmps88
    go_wp2_with fail
    refine (refspan_right _ _ _).mono ?_
    rintro e w' ⟨rfl, hb⟩
    go_wp2_with fail
    go_ret
    exact ⟨by rw [fits_right hr']; rfl, Bl.next (Bl.box w _) hb⟩
  unfold spanV
  go_enter Tryz.func88, Tryz.ntmps88
  go_wp2_with fail
  refine (refspan_right _ _ _).mono ?_
  rintro e w' ⟨rfl, hb⟩
  have k0 := Blk.below (Blk.new w [.int .i64 lo, .int .i64 hi] 96) hb
  have z0 := k0.lt
  have hB := Bl.next (Bl.box w _) hb
  have hl1 := hl.below hB
  clear hb hl hl0
  have HC : Hid (∀ (j : Nat) x, l[j]? = some x → ∃ b off, a = some ⟨b, off, none⟩ ∧ w'.cell? ⟨b, off + j, none⟩ = some (.int .i64 x)) := by
    intro j x hj
    rcases hl1 with ⟨_, _, _, h2, _⟩ | ⟨b, off, cap, h1, _, _, h4⟩
    · rw [List.length_eq_zero_iff.1 h2] at hj; simp at hj
    · simp only [Value.slice.injEq] at h1
      exact ⟨b, off, h1.1, h4 j _ (by simp [hj])⟩
  have hmax : l.length ≤ 9223372036854775807 := by
    rcases hl1 with ⟨_, _, _, h2, _⟩ | ⟨b, off, cap, h1, h2, h3, _⟩
    · omega
    · unfold maxLen at h3; omega
  clear hl1
  go_wp2_with fail
  go_loopw [5] (fun i wr => ∃ k : Nat, 1 ≤ k ∧ i = .int .i64 k ∧ SortP (l.take k) ∧ Below w'.heap.size w' wr) (fun i _ => l.length - (intOf i).toNat)
  case atStart => exact ⟨1, by omega, rfl, SortP.one l, Below.refl _ _⟩
  case round =>
    obtain ⟨k, hk1, rfl, hs, hbr⟩ := hrel
    have HS := Lib.hid hs; clear hs
    by_cases hlt : k < l.length
    · obtain ⟨x, hx⟩ : ∃ x, l[k-1]? = some x := ⟨l[k-1], by simp⟩
      obtain ⟨y, hy⟩ : ∃ y, l[k]? = some y := ⟨l[k], by simp⟩
      obtain ⟨b, off, rfl, hcx⟩ := HC.out _ _ hx
      obtain ⟨b', off', e', hcy⟩ := HC.out _ _ hy
      simp only [Option.some.injEq, Addr.mk.injEq] at e'
      obtain ⟨rfl, rfl, _⟩ := e'
      have hcx := getC hbr hcx
      have hcy := getC hbr hcy
      have HX := Lib.hid hx; clear hx
      have HY := Lib.hid hy; clear hy
      go_wp2_with fail
      go_quiet (fail)
      go_wp2_with fail
      · go_ret
        exact ⟨by rw [fits_order hr hk1 HX.out HY.out (by assumption)]; rfl, Bl.next hB (Bl.drewN hbr _)⟩
      · go_roundw
        case rel => exact ⟨k + 1, by omega, by go_num, HS.out.succ HX.out HY.out (by assumption), Bl.drewN hbr _⟩
        case measure => simp [intOf]; omega
    · have HA := Lib.hid (HS.out.all (show l.length ≤ k by omega)); clear HS
      go_wp2_with fail
      go_loopw [6] (fun i w2 => ∃ j : Nat, i = .int .i64 j ∧ (∀ q : Nat, q < j → ∀ x, l[q]? = some x → hasB lo hi x = true) ∧ Below w'.heap.size w' w2) (fun i _ => l.length - (intOf i).toNat)
      case atStart => exact ⟨0, rfl, by omega, hbr⟩
      case round =>
        obtain ⟨j, rfl, hj, hb2⟩ := hrel
        have HJ := Lib.hid hj; clear hj
        by_cases hlt2 : j < l.length
        · obtain ⟨x, hx⟩ : ∃ x, l[j]? = some x := ⟨l[j], by simp⟩
          obtain ⟨b, off, rfl, hcx⟩ := HC.out _ _ hx
          have hcx := getC hb2 hcx
          have k2 := k0.below hb2
          have e0 : ∀ z : Ext wr, z.val.cell? ⟨w.heap.size, 0, none⟩ = some (.int .i64 lo) := fun z => z.get (k2.cell (i := 0) rfl)
          have e1 : ∀ z : Ext wr, z.val.cell? ⟨w.heap.size, 1, none⟩ = some (.int .i64 hi) := fun z => z.get (k2.cell (i := 1) rfl)
          have e2 : ∀ z : Ext wr, z.val.cell? ⟨b, off + j, none⟩ = some (.int .i64 x) := fun z => z.get hcx
          have HX := Lib.hid hx; clear hx
          by_cases ha : hasB lo hi x = true
          · go_wp2_with fail
            refine wp_region_ext (by kernel_rfl) (by kernel_rfl) ?_
            repeat (go_big_quiet_step (exact Ret.ext (refspan_has _ _ _ _)))
            refine wpQuiet_nil ?_
            intro wx
            go_wp2_with fail
            go_roundw
            case rel =>
              refine ⟨j + 1, by go_num, fun q hq y hy => ?_, hb2.trans (wx.below.mono hb2.size)⟩
              by_cases hqj : q = j
              · subst hqj; rw [HX.out] at hy; cases hy; exact ha
              · exact HJ.out q (by omega) y hy
            case measure => simp [intOf]; omega
          · have ha : hasB lo hi x = false := by simpa using ha
            go_wp2_with fail
            refine wp_region_ext (by kernel_rfl) (by kernel_rfl) ?_
            repeat (go_big_quiet_step (exact Ret.ext (refspan_has _ _ _ _)))
            refine wpQuiet_nil ?_
            intro wx
            go_wp2_with fail
            go_ret
            exact ⟨by rw [fits_out hr HA.out HX.out ha]; rfl, Bl.next (Bl.next hB hb2) wx.below⟩
        · go_wp2_with fail
          go_ret
          exact ⟨by rw [fits_all hr HA.out (fun q hq => HJ.out q (by omega))]; rfl, Bl.next hB hb2⟩

theorem refres_child {w : World} {B2 : Nat} {a b c : Int} {t2 : TypeId} (h2 : Blk w B2 [.int .i64 a, .int .i64 b] t2) {tmps : Array Value}
    (e2 : tmps.getD 6 undef = .pointer (some ⟨B2, 0, none⟩)) (e3 : tmps.getD 7 undef = .int .i64 c) :
    (results Tryz.f44 tmps).run Tryz.prog w = .ok (.tuple #[spanV a b, .int .i64 c]) w := by
  have c20 := h2.cell (i := 0) rfl
  have c21 := h2.cell (i := 1) rfl
  have e2' : tmps[6]?.getD undef = .pointer (some ⟨B2, 0, none⟩) := by simpa using e2
  have e3' : tmps[7]?.getD undef = .int .i64 c := by simpa using e3
  simp [results, Tryz.results44, go_sem, c20, c21, e2', e3', spanV]
theorem below_set2 {w w' : World} {B : Nat} (h : Below w.heap.size w w') (hB : w.heap.size ≤ B) {i j : Nat} {x y : Value} :
    Below w.heap.size w ((w'.setCell ⟨B, i, none⟩ x).setCell ⟨B, j, none⟩ y) := (h.setCell hB _).setCell hB _

set_option maxRecDepth 100000 in
set_option maxHeartbeats 1000000 in
theorem refspan_child (lo hi i : Int) (v : Value) (l : List Int) (w : World) (hi64 : -9223372036854775808 ≤ i ∧ i ≤ 9223372036854775807) (hlen : l.length ≤ 1000000) (hl : Ints w v l) :
    Calls Tryz.prog 44 #[spanV lo hi, v, .int .i64 i] w (Ret (.tuple #[spanV (childI lo hi l i).1.1 (childI lo hi l i).1.2, .int .i64 (childI lo hi l i).2]) w) := by
  obtain ⟨a, c, rfl⟩ := hl.slice
  unfold spanV
  go_enter Tryz.func44, Tryz.ntmps44
  go_wp2_with fail
  refine (refspan_fits lo hi _ l _ (hl.below ?_)).mono ?_
  · exact Bl.next (Bl.box _ _) (Bl.box _ _)
  rintro e w' ⟨rfl, hb⟩
  have k0 := Blk.below ((Blk.new w [.int .i64 lo, .int .i64 hi] 96).alloc (.cells #[.int .i64 0, .int .i64 0] 96)) hb
  have k1 := Blk.below (Blk.new (w.alloc (.cells #[.int .i64 lo, .int .i64 hi] 96)) [.int .i64 0, .int .i64 0] 96) hb
  simp only [World.size_alloc] at k1
  have hB : Below w.heap.size w w' := Bl.next (Bl.next (Bl.box _ _) (Bl.box _ _)) hb
  have hl1 := hl.below hB
  clear hb hl
  have z0 := k0.lt
  have z1 := k1.lt
  have c00 := k0.cell (i := 0) rfl
  have c01 := k0.cell (i := 1) rfl
  have c10 := k1.cell (i := 0) rfl
  have c11 := k1.cell (i := 1) rfl
  have f10 := k1.frozen 0
  have f11 := k1.frozen 1
  by_cases hf : fitsI lo hi l = 0
  case neg =>
    have hf2 : (fitsI lo hi l != 0) = true := by simpa using hf
    have HF := Lib.hid (child_bad (i := i) hf); clear hf
    go_wp2_with fail
    refine bodyPost_ret (refres_child ((k1.set 0 _).set 1 _) rfl rfl) rfl ?_
    rw [HF.out]
    exact ⟨rfl, below_set2 hB (by omega)⟩
  have hf2 : (fitsI lo hi l != 0) = false := by simpa using hf
  have HF := Lib.hid hf; clear hf
  by_cases hin : 0 ≤ i ∧ i < l.length
  case neg =>
    have HO := Lib.hid (child_out HF.out hin)
    by_cases h0 : i < 0
    · have d0 : decide (i < 0) = true := by simpa using h0
      go_wp2_with fail
      refine bodyPost_ret (refres_child ((k1.set 0 _).set 1 _) rfl rfl) rfl ?_
      rw [HO.out]
      exact ⟨rfl, below_set2 hB (by omega)⟩
    · have d0 : decide (i < 0) = false := by simpa using h0
      have d1 : decide ((l.length : Int) ≤ i) = true := by simp; omega
      go_wp2_with fail
      refine bodyPost_ret (refres_child ((k1.set 0 _).set 1 _) rfl rfl) rfl ?_
      rw [HO.out]
      exact ⟨rfl, below_set2 hB (by omega)⟩
  obtain ⟨h1, h2⟩ := hin
  obtain ⟨q, rfl⟩ := Int.eq_ofNat_of_zero_le h1
  have hq : q < l.length := by omega
  have HO := Lib.hid (child_in HF.out hq)
  have d0 : decide ((q : Int) < 0) = false := by simp
  have d1 : decide ((l.length : Int) ≤ (q : Int)) = false := by simp; omega
  rcases hl1 with ⟨_, _, _, h3, _⟩ | ⟨b, off, cap, h3, h4, h5, h6⟩
  · omega
  simp only [Value.slice.injEq] at h3
  obtain ⟨rfl, _, rfl⟩ := h3
  obtain ⟨x, hx⟩ : ∃ x, l[q]? = some x := ⟨l[q], by simp⟩
  have hcx := h6 q (.int .i64 x) (by simp [hx])
  by_cases hlast : q + 1 = l.length
  · have dl : ((q : Int) + 1 == (l.length : Int)) = true := by simp; omega
    have hp : partAt hi l q = (x, hi) := by unfold partAt; rw [hx, hlast]; simp
    have HP := Lib.hid hp; clear hp
    have HX := Lib.hid hx; clear hx
    clear hlast h6
    go_wp2_with fail
    go_still_tail 7, (by kernel_rfl)
    change wpList _ _ _ _ _ w'.drew
    go_wp2_with fail
    have k1' : Blk (((w'.setCell ⟨w.heap.size + 1, 0, none⟩ (.int .i64 x)).setCell ⟨w.heap.size + 1, 1, none⟩ (.int .i64 hi)).drew) (w.heap.size + 1) [.int .i64 x, .int .i64 hi] 96 := (k1.set 0 _).set 1 _
    refine bodyPost_ret (refres_child k1' rfl rfl) rfl ?_
    rw [HO.out, HP.out]
    exact ⟨rfl, (below_set2 hB (by omega)).drew⟩
  · have dl : ((q : Int) + 1 == (l.length : Int)) = false := by simp; omega
    obtain ⟨y, hy⟩ : ∃ y, l[q + 1]? = some y := ⟨l[q + 1], by simp⟩
    have hcy := h6 (q + 1) (.int .i64 y) (by simp [hy])
    have hp : partAt hi l q = (x, y) := by unfold partAt; rw [hx, hy]; rfl
    have hq1 : q + 1 < l.length := by omega
    have HP := Lib.hid hp; clear hp
    have HX := Lib.hid hx; clear hx
    have HY := Lib.hid hy; clear hy
    clear hlast h6
    go_wp2_with fail
    have hw : IntKind.i64.wrap ((q : Int) + 1) = (q : Int) + 1 := IntWalk.i64_in _ (by omega)
    have hn0 : ((q : Int) + 1).toNat = q + 1 := by omega
    have hb0 : (0 : Int) ≤ (q : Int) + 1 := by omega
    have hb1 : (q : Int) + 1 < (l.length : Int) := by omega
    go_still_tail 10, (by kernel_rfl)
    change wpList _ _ _ _ _ w'.drew
    clear hw hn0 hb0 hb1
    go_wp2_with fail
    have k1' : Blk (((w'.setCell ⟨w.heap.size + 1, 0, none⟩ (.int .i64 x)).setCell ⟨w.heap.size + 1, 1, none⟩ (.int .i64 y)).drew) (w.heap.size + 1) [.int .i64 x, .int .i64 y] 96 := (k1.set 0 _).set 1 _
    refine bodyPost_ret (refres_child k1' rfl rfl) rfl ?_
    rw [HO.out, HP.out]
    exact ⟨rfl, (below_set2 hB (by omega)).drew⟩

theorem splitR_bad {lo hi : Int} {l : List Int} (h : fitsI lo hi l ≠ 0) : splitR lo hi l = [] := by simp [splitR, h]
theorem splitR_ok {lo hi : Int} {l : List Int} (h : fitsI lo hi l = 0) : splitR lo hi l = splitL hi l := by simp [splitR, h]
theorem splitL_take {hi : Int} {l : List Int} {k : Nat} (h : k < l.length) : flat2 ((splitL hi l).take (k + 1)) = flat2 ((splitL hi l).take k) ++ [.int .i64 (partAt hi l k).1, .int .i64 (partAt hi l k).2] := by
  have hs : (splitL hi l).length = l.length := by simp [splitL]
  have hg : (splitL hi l)[k]'(by omega) = partAt hi l k := by simp [splitL]
  rw [List.take_succ_eq_append_getElem (by omega), hg]
  simp [flat2]
theorem splitL_all {hi : Int} {l : List Int} : (splitL hi l).take l.length = splitL hi l := List.take_of_length_le (by simp [splitL])

end Go.Proofs.YtinegkldgjhnpaaGreatDoor
namespace Go.Proofs.YtinegkldgjhnpaaGreatDoor
open Go.RowKit Go.Extern.Stop Go.Stop Go.Extern
set_option linter.unusedVariables false
section
variable {P : Program} {fn : Func} {R : Ending → World → Prop} {w : World} {s : Zs}
/-- the blocks of results, in order -/
def BlksOf (w : World) : List (Nat × List Value) → Prop
  | [] => True
  | p :: r => (∃ t, Blk w p.1 p.2 t) ∧ BlksOf w r
noncomputable def zrlm (P : Program) (n : Nat) (kv : List (Nat × Value)) (l : List ResultVar) : List (List Value) → Option (List Nat × List Value) := List.rec (motive := fun _ => List (List Value) → Option (List Nat × List Value)) (fun _ => some ([], [])) (fun r _ ih css => match r with
  | .tmp t => match ih css with
    | some r => some (r.1, zget n kv t :: r.2)
    | none => none
  | .cell k t => match css with
    | [] => none
    | p :: css' => match zget n kv k with
      | .pointer (some ⟨b, off, sp⟩) => match sp with
        | none => match Nat.beq off 0 && (zrow P t && zsz P t p.length) with
          | true => match ih css' with
            | some r => some (b :: r.1, .agg p.toArray :: r.2)
            | none => none
          | false => none
        | some _ => none
      | _ => none) l
theorem zrlm_run (n : Nat) (kv : List (Nat × Value)) (w : World) : ∀ (l : List ResultVar) (css : List (Nat × List Value)) (vs : List Value), BlksOf w css → zrlm P n kv l (css.map Prod.snd) = some (css.map Prod.fst, vs) → (l.mapM (zrf (zact n kv).tmps)).run P w = .ok vs w
  | [], css, vs, _, h => by
    have h' : some (([] : List Nat), ([] : List Value)) = some (css.map Prod.fst, vs) := h
    simp only [Option.some.injEq, Prod.mk.injEq] at h'
    rw [← h'.2]; rfl
  | r :: l, css, vs, hb, h => by
    rw [List.mapM_cons]
    cases r with
    | tmp t =>
      have h' : (match zrlm P n kv l (css.map Prod.snd) with | some r => some (r.1, zget n kv t :: r.2) | none => none) = some (css.map Prod.fst, vs) := h
      split at h'
      · rename_i r' hv
        simp only [Option.some.injEq, Prod.mk.injEq] at h'
        obtain ⟨h1, rfl⟩ := h'
        have hv' : zrlm P n kv l (css.map Prod.snd) = some (css.map Prod.fst, r'.2) := by rw [hv, ← h1]
        simp only [zrf, Sem.run_bind, Sem.run_pure, Result.andThen_ok, zrlm_run n kv w l css r'.2 hb hv', zact_getD]
      · cases h'
    | cell k t' =>
      cases css with
      | nil => cases h
      | cons p css =>
      have h' : (match zget n kv k with
      | .pointer (some ⟨b, off, sp⟩) => match sp with
        | none => match Nat.beq off 0 && (zrow P t' && zsz P t' p.2.length) with
          | true => match zrlm P n kv l (css.map Prod.snd) with
            | some r => some (b :: r.1, .agg p.2.toArray :: r.2)
            | none => none
          | false => none
        | some _ => none
      | _ => none) = some (p.1 :: css.map Prod.fst, vs) := h
      split at h'
      · rename_i b' off sp hb'
        cases sp with
        | some _ => cases h'
        | none =>
          dsimp only at h'
          split at h'
          · rename_i hc
            simp only [Bool.and_eq_true] at hc
            split at h'
            · rename_i r' hv
              simp only [Option.some.injEq, Prod.mk.injEq, List.cons.injEq] at h'
              obtain ⟨⟨rfl, h1⟩, rfl⟩ := h'
              obtain ⟨⟨t, kb⟩, hb2⟩ := hb
              have hv' : zrlm P n kv l (css.map Prod.snd) = some (css.map Prod.fst, r'.2) := by rw [hv, ← h1]
              obtain rfl : off = 0 := Nat.eq_of_beq_eq_true hc.1
              have hu := hc.2.1
              unfold zrow at hu
              split at hu
              · rename_i d hd
                have hl := run_loadVar_mid (P := P) w p.1 0 t' p.2 d kb.whole hd hu (zsz_eq hc.2.2)
                have e : (zact n kv).tmps.getD k undef = .pointer (some ⟨p.1, 0, none⟩) := by rw [zact_getD]; exact hb'
                simp only [zrf, e, asAddr, Sem.run_bind, Sem.run_pure, Result.andThen_ok, hl, zrlm_run n kv w l css r'.2 hb2 hv']
              · cases hu
            · cases h'
          · cases h'
      · cases h'
noncomputable def zresm (P : Program) (s : Zs) (fn : Func) (css : List (List Value)) : Option (List Nat × Value) := match zfin s with
  | true => match zrlm P s.n s.kv fn.results.toList css with
    | some r => some (r.1, zvs r.2)
    | none => none
  | false => none
theorem xecm (q : Zq) (css : List (Nat × List Value)) (hb : BlksOf w css) (v : Value) (hR : R (.returned v) w) (h : zresm P (zq P q s) fn (css.map Prod.snd) = some (css.map Prod.fst, v) := by kernel_rfl) : Go P fn R s w := by
  refine zq_sound q s ?_
  unfold zresm at h
  split at h
  · rename_i hf
    split at h
    · rename_i r hv
      simp only [Option.some.injEq, Prod.mk.injEq] at h
      obtain ⟨h1, rfl⟩ := h
      have hv : zrlm P (zq P q s).n (zq P q s).kv fn.results.toList (css.map Prod.snd) = some (css.map Prod.fst, r.2) := by rw [hv, ← h1]
      exact zfin_go hf (results_run (zrlm_run _ _ _ _ _ _ hb hv)) hR
    · cases h
  · cases h
end
end Go.Proofs.YtinegkldgjhnpaaGreatDoor
namespace Go.Proofs.YtinegkldgjhnpaaGreatDoor
open Go.RowKit Go.Extern.Stop Go.Stop Go.Extern
set_option linter.unusedVariables false
attribute [local irreducible] wpList wpAnyH Code.wp Oper.wp Go

set_option maxRecDepth 100000 in
set_option maxHeartbeats 1000000 in
theorem ref08_inB (n lo hi : Int) (w : World) :
    Calls Tryz.prog 129 #[.int .i64 n, .int .i64 lo, .int .i64 hi] w (Ret (.bool (decide (lo ≤ n ∧ n ≤ hi))) w) := by
 refine zin 15 Tryz.func129 ?_
 refine xg 11 [9, 10] (decide (n ≥ lo)) (fun hc1 => ?_) (fun hc1 => ?_)
 · have hc1 := of_decide_eq_true hc1
   exact xe 8 (.bool (decide (n ≤ hi))) ⟨by rw [show decide (lo ≤ n ∧ n ≤ hi) = decide (n ≤ hi) from by simp; omega], (Below.refl w.heap.size _)⟩
 have hc1 := of_decide_eq_false hc1
 exact xe 8 (.bool false) ⟨by rw [show decide (lo ≤ n ∧ n ≤ hi) = false from decide_eq_false (by omega)], (Below.refl w.heap.size _)⟩
set_option maxRecDepth 100000 in
set_option maxHeartbeats 1000000 in
theorem ref08_four (s : List UInt8) (lo hi : Int) (w : World) (hs : s.length ≤ 1000) :
    Calls Tryz.prog 87 #[.string ⟨s.toArray⟩, .int .i64 lo, .int .i64 hi] w (Ret (.tuple #[.int .i64 (if s.length = 4 ∧ lo ≤ (rawN s 0 4 : Int) ∧ (rawN s 0 4 : Int) ≤ hi then (rawN s 0 4 : Int) else 0), .int .i64 (if s.length = 4 then (if lo ≤ (rawN s 0 4 : Int) ∧ (rawN s 0 4 : Int) ≤ hi then 0 else 2) else 7)]) w) := by
 refine zin 25 Tryz.func87 ?_
 refine xin 14 (↑s.length : Int) (4 : Int) (fun hc1 => ?_) (fun hc1 => ?_)
 · refine xe 8 (.tuple #[.int .i64 0, .int .i64 7]) ?_
   rw [if_neg (by omega), if_neg (by omega)]; exact ⟨rfl, (Below.refl w.heap.size _)⟩
 refine xcf 5 fun _ _ _ zJ zQ zo zx zK => op_strBytes s zo zx Tryz.underlying9 Tryz.underlying22 Tryz.underlying5 (by omega) ?_
 intro bz cz W2 hb2 hbz
 refine zK _ _ ?_
 refine xr 0 (args := #[.slice (some ⟨bz, 0, none⟩) s.length cz, .int .i64 0, .int .i64 4]) (ref_GetN (some ⟨bz, 0, none⟩) s.length cz 0 4 0 4 s _ rfl rfl rfl (by decide) (by omega) (by omega) hbz) fun W3 hb3 => ?_
 refine xr 13 (args := #[.int .i64 (↑(rawN s 0 4) : Int), .int .i64 lo, .int .i64 hi]) (ref08_inB (↑(rawN s 0 4) : Int) lo hi _) fun W4 hb4 => ?_
 refine xi 3 (!(decide (lo ≤ (rawN s 0 4 : Int) ∧ (rawN s 0 4 : Int) ≤ hi))) (fun hc5 => ?_) (fun hc5 => ?_)
 · have hin : ¬ (lo ≤ (rawN s 0 4 : Int) ∧ (rawN s 0 4 : Int) ≤ hi) := fun q => absurd hc5 (by rw [decide_eq_true q]; decide)
   have hB := Bl.next (Bl.next hb2 hb3) hb4
   refine xe 8 (.tuple #[.int .i64 0, .int .i64 2]) ?_
   rw [if_neg fun q => hin q.2, if_pos (by omega), if_neg hin]; exact ⟨rfl, hB⟩
 have hin : lo ≤ (rawN s 0 4 : Int) ∧ (rawN s 0 4 : Int) ≤ hi := Decidable.byContradiction fun q => absurd hc5 (by rw [decide_eq_false q]; decide)
 have hB := Bl.next (Bl.next hb2 hb3) hb4
 refine xe 10 (.tuple #[.int .i64 (↑(rawN s 0 4) : Int), .int .i64 0]) ?_
 rw [if_pos ⟨by omega, hin⟩, if_pos (by omega), if_pos hin]; exact ⟨rfl, hB⟩
theorem ref08_ReadRoot (s : List UInt8) (w : World) (hs : s.length ≤ 1000) :
    Calls Tryz.prog 87 #[.string ⟨s.toArray⟩, .int .i64 1, .int .i64 14399] w (Ret (.tuple #[.int .i64 (rootN s : Int), .int .i64 (rootE s)]) w) := by
  refine (ref08_four s 1 14399 w hs).mono ?_
  rintro e W ⟨rfl, hb⟩
  refine ⟨?_, hb⟩
  have e1 : (if s.length = 4 then (if (1 : Int) ≤ (rawN s 0 4 : Int) ∧ (rawN s 0 4 : Int) ≤ 14399 then (0 : Int) else 2) else 7) = rootE s := by
    unfold rootE
    by_cases h : s.length = 4
    · rw [if_pos h, if_pos h]
      by_cases q : 1 ≤ rawN s 0 4 ∧ rawN s 0 4 ≤ 14399
      · rw [if_pos q, if_pos ⟨by omega, by omega⟩]
      · rw [if_neg q, if_neg (by omega)]
    · rw [if_neg h, if_neg h]
  have e2 : (if s.length = 4 ∧ (1 : Int) ≤ (rawN s 0 4 : Int) ∧ (rawN s 0 4 : Int) ≤ 14399 then (rawN s 0 4 : Int) else 0) = (rootN s : Int) := by
    unfold rootN
    rw [← e1]
    by_cases h : s.length = 4
    · rw [if_pos h]
      by_cases q : (1 : Int) ≤ (rawN s 0 4 : Int) ∧ (rawN s 0 4 : Int) ≤ 14399
      · rw [if_pos ⟨h, q⟩, if_pos q, if_pos rfl]
      · rw [if_neg fun x => q x.2, if_neg q, if_neg (by decide)]; rfl
    · rw [if_neg fun x => h x.1, if_neg h, if_neg (by decide)]; rfl
  rw [e1, e2]
set_option maxRecDepth 100000 in
set_option maxHeartbeats 1000000 in
theorem ref08_Root (s : List UInt8) (w : World) (hs : s.length ≤ 1000) :
    Calls Tryz.prog 43 #[.string ⟨s.toArray⟩] w (Ret (.tuple #[.int .i64 (rootN s : Int), .int .i64 (rootE s)]) w) := by
 refine zin 8 Tryz.func43 ?_
 refine xr 9 (args := #[.string ⟨s.toArray⟩, .int .i64 1, .int .i64 14399]) (ref08_ReadRoot s _ hs) fun W1 hb1 => ?_
 exact xe 7 (.tuple #[.int .i64 (↑(rootN s) : Int), .int .i64 (rootE s)]) ⟨rfl, hb1⟩
/-- an error of the document's at its blocks: a row of the call's own -/

def FltR (B : Nat) (w : World) (a : Option Addr) (n c : Nat) (l : List Int) : Prop := w.ownsRow B 3 1 (.slice a n c) n (l.map (Value.int .i64))
theorem ref11_AtN (no er : Int) (w : World) (he : er ≠ 0) : Calls Tryz.prog 41 #[.int .i64 no, .int .i64 er] w (RetS (fun w' r => ∃ a c, r = .agg #[.slice a 1 c, .int .i64 er] ∧ w'.ownsRow w.heap.size 3 1 (.slice a 1 c) 1 [.int .i64 no]) w) := by
  refine (ref11_At no er w).mono ?_
  rintro e W ⟨a, c, rfl, hb, ho⟩
  rw [fltL_nz he] at ho ⊢
  exact ⟨_, rfl, hb, a, c, rfl, ho⟩
theorem ints_one (L : List Int) : ∀ u ∈ L.map (Value.int .i64), u.oneCell' = true := by intro u hu; obtain ⟨x, _, rfl⟩ := List.mem_map.1 hu; rfl
set_option maxRecDepth 100000 in
set_option maxHeartbeats 1000000 in
theorem ref05_AtG (no er : Int) (a : Option Addr) (n c : Nat) (L : List Int) (w : World) (he : er ≠ 0) (hL : L.length = n) (hn : n ≤ 1000000) (hS : Sl w (.slice a n c) n (L.map (Value.int .i64))) :
    Calls Tryz.prog 84 #[.int .i64 no, .agg #[.slice a n c, .int .i64 er]] w (RetS (fun w' r => ∃ p c2, r = .agg #[.slice p (n + 1) c2, .int .i64 er] ∧ w'.ownsRow w.heap.size 3 1 (.slice p (n + 1) c2) (n + 1) ((no :: L).map (Value.int .i64))) w) := by
 refine zin 17 Tryz.func84 ?_
 refine xa 2 [.slice a n c, .int .i64 er] 45 fun b1 W1 n1 => ?_
 refine xa 0 [.slice none 0 0, .int .i64 0] 45 fun b2 W2 n2 => ?_
 have d2_b1 := n2.ne n1.blk
 have k1'1 := n1.blk.below n2.below
 refine xb 6 1 k1'1 ?_
 refine xk 3 (show ((er == (0 : Int)) : Bool) = false from beq_false_of_ne he) ?_
 refine xd 3 (.t w.heap.size [3, 45]) ?_
 refine xm3 (.b [0, 2, 5]) 1 3 6 ?_ ?_ ?_
 · refine xbs 0 1 [.int .i64 no] 3 fun b3 W3 n3 => ?_
   refine xm2 0 3 6 ?_ ?_
   · have k1'2 := (k1'1.below (below_drew W2)).below n3.below
     refine xb 0 0 k1'2 ?_
     refine xm2 0 4 6 ?_ ?_
     · have g3 := n3.ge (Bl.next (Bl.next n1.below n2.below) (below_drew W2))
       have o4 := own_of_blk (size := 1) (n := 1) n3.blk g3 rfl (by decide)
       have hB := Bl.next (Bl.next (Bl.next n1.below n2.below) (below_drew W2)) n3.below
       refine ybi 0 (.t w.heap.size [3, 45]) fun _ _ _ _ zJ zQ zo zx zy zK => op_app (m := n) (news := (L.map (Value.int .i64))) (.int .i64 0) 1 8 ((n + 1)) (((no :: L).map (Value.int .i64))) zo Tryz.underlying26 (by kernel_rfl) rfl (by decide) zx o4 zy (hS.below hB) (by simp [hL]) (ints_one L) (by unfold maxLen; omega) (by omega) hB.size (by omega) (by rfl) fun px5 cx5 W5 o5 hg5 hb5 => ?_
       refine zK _ _ (sft_grown hb5 hg5 o4 (by decide)) ?_
       have k1'3 := k1'2.grown hg5 o4 (by decide)
       refine xb (.o [] 6) 1 k1'3 ?_
       have k2 := ((n2.blk.below (below_drew W2)).below n3.below).grown hg5 o4 (by decide)
       have g2 := n2.ge n1.below
       refine ysv (.o [7] 8) k2 [.slice px5 (n + 1) cx5, .int .i64 er] (.t w.heap.size [3, 45]) fun W6 u6 k6 => ⟨(sft_upd u6 k2 g2 (by decide)), ?_⟩
       have hB'1 := u6.below (hB.trans hb5) g2
       have o5'1 := u6.own2 o5 k2 (by decide)
       exact xec 3 k6 (.agg #[.slice px5 (n + 1) cx5, .int .i64 er]) ⟨_, rfl, hB'1, _, _, rfl, o5'1⟩
     refine xb 0 1 k1'2 ?_
     have g3 := n3.ge (Bl.next (Bl.next n1.below n2.below) (below_drew W2))
     have o7 := own_of_blk (size := 1) (n := 1) n3.blk g3 rfl (by decide)
     have hB := Bl.next (Bl.next (Bl.next n1.below n2.below) (below_drew W2)) n3.below
     refine ybi (.o [] 4) (.t w.heap.size [3, 45]) fun _ _ _ _ zJ zQ zo zx zy zK => op_app (m := n) (news := (L.map (Value.int .i64))) (.int .i64 0) 1 8 ((n + 1)) (((no :: L).map (Value.int .i64))) zo Tryz.underlying26 (by kernel_rfl) rfl (by decide) zx o7 zy (hS.below hB) (by simp [hL]) (ints_one L) (by unfold maxLen; omega) (by omega) hB.size (by omega) (by rfl) fun px8 cx8 W8 o8 hg8 hb8 => ?_
     refine zK _ _ (sft_grown hb8 hg8 o7 (by decide)) ?_
     have k2 := ((n2.blk.below (below_drew W2)).below n3.below).grown hg8 o7 (by decide)
     have g2 := n2.ge n1.below
     refine ysv (.o [7] 8) k2 [.slice px8 (n + 1) cx8, .int .i64 er] (.t w.heap.size [3, 45]) fun W9 u9 k9 => ⟨(sft_upd u9 k2 g2 (by decide)), ?_⟩
     have hB'2 := u9.below (hB.trans hb8) g2
     have o8'1 := u9.own2 o8 k2 (by decide)
     exact xec 3 k9 (.agg #[.slice px8 (n + 1) cx8, .int .i64 er]) ⟨_, rfl, hB'2, _, _, rfl, o8'1⟩
   have k1'4 := (k1'1.below (below_drew W2)).below n3.below
   refine xb 0 1 k1'4 ?_
   refine xb (.o [] 3) 0 k1'4 ?_
   have g3 := n3.ge (Bl.next (Bl.next n1.below n2.below) (below_drew W2))
   have o10 := own_of_blk (size := 1) (n := 1) n3.blk g3 rfl (by decide)
   have hB := Bl.next (Bl.next (Bl.next n1.below n2.below) (below_drew W2)) n3.below
   refine ybi (.o [] 4) (.t w.heap.size [3, 45]) fun _ _ _ _ zJ zQ zo zx zy zK => op_app (m := n) (news := (L.map (Value.int .i64))) (.int .i64 0) 1 8 ((n + 1)) (((no :: L).map (Value.int .i64))) zo Tryz.underlying26 (by kernel_rfl) rfl (by decide) zx o10 zy (hS.below hB) (by simp [hL]) (ints_one L) (by unfold maxLen; omega) (by omega) hB.size (by omega) (by rfl) fun px11 cx11 W11 o11 hg11 hb11 => ?_
   refine zK _ _ (sft_grown hb11 hg11 o10 (by decide)) ?_
   have k2 := ((n2.blk.below (below_drew W2)).below n3.below).grown hg11 o10 (by decide)
   have g2 := n2.ge n1.below
   refine ysv (.o [7] 8) k2 [.slice px11 (n + 1) cx11, .int .i64 er] (.t w.heap.size [3, 45]) fun W12 u12 k12 => ⟨(sft_upd u12 k2 g2 (by decide)), ?_⟩
   have hB'3 := u12.below (hB.trans hb11) g2
   have o11'1 := u12.own2 o11 k2 (by decide)
   exact xec 3 k12 (.agg #[.slice px11 (n + 1) cx11, .int .i64 er]) ⟨_, rfl, hB'3, _, _, rfl, o11'1⟩
 · have k1'5 := k1'1.below (below_drew W2)
   refine xb 0 0 k1'5 ?_
   refine xm2 0 1 6 ?_ ?_
   · refine xbs 0 1 [.int .i64 no] 3 fun b13 W13 n13 => ?_
     refine xm2 0 4 6 ?_ ?_
     · have g13 := n13.ge (Bl.next (Bl.next n1.below n2.below) (below_drew W2))
       have o14 := own_of_blk (size := 1) (n := 1) n13.blk g13 rfl (by decide)
       have hB := Bl.next (Bl.next (Bl.next n1.below n2.below) (below_drew W2)) n13.below
       refine ybi 0 (.t w.heap.size [3, 45]) fun _ _ _ _ zJ zQ zo zx zy zK => op_app (m := n) (news := (L.map (Value.int .i64))) (.int .i64 0) 1 8 ((n + 1)) (((no :: L).map (Value.int .i64))) zo Tryz.underlying26 (by kernel_rfl) rfl (by decide) zx o14 zy (hS.below hB) (by simp [hL]) (ints_one L) (by unfold maxLen; omega) (by omega) hB.size (by omega) (by rfl) fun px15 cx15 W15 o15 hg15 hb15 => ?_
       refine zK _ _ (sft_grown hb15 hg15 o14 (by decide)) ?_
       have k1'6 := (k1'5.below n13.below).grown hg15 o14 (by decide)
       refine xb (.o [] 6) 1 k1'6 ?_
       have k2 := ((n2.blk.below (below_drew W2)).below n13.below).grown hg15 o14 (by decide)
       have g2 := n2.ge n1.below
       refine ysv (.o [7] 8) k2 [.slice px15 (n + 1) cx15, .int .i64 er] (.t w.heap.size [3, 45]) fun W16 u16 k16 => ⟨(sft_upd u16 k2 g2 (by decide)), ?_⟩
       have hB'4 := u16.below (hB.trans hb15) g2
       have o15'1 := u16.own2 o15 k2 (by decide)
       exact xec 3 k16 (.agg #[.slice px15 (n + 1) cx15, .int .i64 er]) ⟨_, rfl, hB'4, _, _, rfl, o15'1⟩
     have k1'7 := k1'5.below n13.below
     refine xb 0 1 k1'7 ?_
     have g13 := n13.ge (Bl.next (Bl.next n1.below n2.below) (below_drew W2))
     have o17 := own_of_blk (size := 1) (n := 1) n13.blk g13 rfl (by decide)
     have hB := Bl.next (Bl.next (Bl.next n1.below n2.below) (below_drew W2)) n13.below
     refine ybi (.o [] 4) (.t w.heap.size [3, 45]) fun _ _ _ _ zJ zQ zo zx zy zK => op_app (m := n) (news := (L.map (Value.int .i64))) (.int .i64 0) 1 8 ((n + 1)) (((no :: L).map (Value.int .i64))) zo Tryz.underlying26 (by kernel_rfl) rfl (by decide) zx o17 zy (hS.below hB) (by simp [hL]) (ints_one L) (by unfold maxLen; omega) (by omega) hB.size (by omega) (by rfl) fun px18 cx18 W18 o18 hg18 hb18 => ?_
     refine zK _ _ (sft_grown hb18 hg18 o17 (by decide)) ?_
     have k2 := ((n2.blk.below (below_drew W2)).below n13.below).grown hg18 o17 (by decide)
     have g2 := n2.ge n1.below
     refine ysv (.o [7] 8) k2 [.slice px18 (n + 1) cx18, .int .i64 er] (.t w.heap.size [3, 45]) fun W19 u19 k19 => ⟨(sft_upd u19 k2 g2 (by decide)), ?_⟩
     have hB'5 := u19.below (hB.trans hb18) g2
     have o18'1 := u19.own2 o18 k2 (by decide)
     exact xec 3 k19 (.agg #[.slice px18 (n + 1) cx18, .int .i64 er]) ⟨_, rfl, hB'5, _, _, rfl, o18'1⟩
   refine xb 0 1 k1'5 ?_
   refine xbs (.o [] 1) 1 [.int .i64 no] 3 fun b20 W20 n20 => ?_
   have g20 := n20.ge (Bl.next (Bl.next n1.below n2.below) (below_drew W2))
   have o21 := own_of_blk (size := 1) (n := 1) n20.blk g20 rfl (by decide)
   have hB := Bl.next (Bl.next (Bl.next n1.below n2.below) (below_drew W2)) n20.below
   refine ybi (.o [] 4) (.t w.heap.size [3, 45]) fun _ _ _ _ zJ zQ zo zx zy zK => op_app (m := n) (news := (L.map (Value.int .i64))) (.int .i64 0) 1 8 ((n + 1)) (((no :: L).map (Value.int .i64))) zo Tryz.underlying26 (by kernel_rfl) rfl (by decide) zx o21 zy (hS.below hB) (by simp [hL]) (ints_one L) (by unfold maxLen; omega) (by omega) hB.size (by omega) (by rfl) fun px22 cx22 W22 o22 hg22 hb22 => ?_
   refine zK _ _ (sft_grown hb22 hg22 o21 (by decide)) ?_
   have k2 := ((n2.blk.below (below_drew W2)).below n20.below).grown hg22 o21 (by decide)
   have g2 := n2.ge n1.below
   refine ysv (.o [7] 8) k2 [.slice px22 (n + 1) cx22, .int .i64 er] (.t w.heap.size [3, 45]) fun W23 u23 k23 => ⟨(sft_upd u23 k2 g2 (by decide)), ?_⟩
   have hB'6 := u23.below (hB.trans hb22) g2
   have o22'1 := u23.own2 o22 k2 (by decide)
   exact xec 3 k23 (.agg #[.slice px22 (n + 1) cx22, .int .i64 er]) ⟨_, rfl, hB'6, _, _, rfl, o22'1⟩
 have k1'8 := k1'1.below (below_drew W2)
 refine xb 0 1 k1'8 ?_
 refine xm2 0 1 3 ?_ ?_
 · refine xbs 0 1 [.int .i64 no] 3 fun b24 W24 n24 => ?_
   have k1'9 := k1'8.below n24.below
   refine xb (.o [] 3) 0 k1'9 ?_
   have g24 := n24.ge (Bl.next (Bl.next n1.below n2.below) (below_drew W2))
   have o25 := own_of_blk (size := 1) (n := 1) n24.blk g24 rfl (by decide)
   have hB := Bl.next (Bl.next (Bl.next n1.below n2.below) (below_drew W2)) n24.below
   refine ybi (.o [] 4) (.t w.heap.size [3, 45]) fun _ _ _ _ zJ zQ zo zx zy zK => op_app (m := n) (news := (L.map (Value.int .i64))) (.int .i64 0) 1 8 ((n + 1)) (((no :: L).map (Value.int .i64))) zo Tryz.underlying26 (by kernel_rfl) rfl (by decide) zx o25 zy (hS.below hB) (by simp [hL]) (ints_one L) (by unfold maxLen; omega) (by omega) hB.size (by omega) (by rfl) fun px26 cx26 W26 o26 hg26 hb26 => ?_
   refine zK _ _ (sft_grown hb26 hg26 o25 (by decide)) ?_
   have k2 := ((n2.blk.below (below_drew W2)).below n24.below).grown hg26 o25 (by decide)
   have g2 := n2.ge n1.below
   refine ysv (.o [7] 8) k2 [.slice px26 (n + 1) cx26, .int .i64 er] (.t w.heap.size [3, 45]) fun W27 u27 k27 => ⟨(sft_upd u27 k2 g2 (by decide)), ?_⟩
   have hB'7 := u27.below (hB.trans hb26) g2
   have o26'1 := u27.own2 o26 k2 (by decide)
   exact xec 3 k27 (.agg #[.slice px26 (n + 1) cx26, .int .i64 er]) ⟨_, rfl, hB'7, _, _, rfl, o26'1⟩
 refine xb 0 0 k1'8 ?_
 refine xbs (.o [] 1) 1 [.int .i64 no] 3 fun b28 W28 n28 => ?_
 have g28 := n28.ge (Bl.next (Bl.next n1.below n2.below) (below_drew W2))
 have o29 := own_of_blk (size := 1) (n := 1) n28.blk g28 rfl (by decide)
 have hB := Bl.next (Bl.next (Bl.next n1.below n2.below) (below_drew W2)) n28.below
 refine ybi (.o [] 4) (.t w.heap.size [3, 45]) fun _ _ _ _ zJ zQ zo zx zy zK => op_app (m := n) (news := (L.map (Value.int .i64))) (.int .i64 0) 1 8 ((n + 1)) (((no :: L).map (Value.int .i64))) zo Tryz.underlying26 (by kernel_rfl) rfl (by decide) zx o29 zy (hS.below hB) (by simp [hL]) (ints_one L) (by unfold maxLen; omega) (by omega) hB.size (by omega) (by rfl) fun px30 cx30 W30 o30 hg30 hb30 => ?_
 refine zK _ _ (sft_grown hb30 hg30 o29 (by decide)) ?_
 have k2 := ((n2.blk.below (below_drew W2)).below n28.below).grown hg30 o29 (by decide)
 have g2 := n2.ge n1.below
 refine ysv (.o [7] 8) k2 [.slice px30 (n + 1) cx30, .int .i64 er] (.t w.heap.size [3, 45]) fun W31 u31 k31 => ⟨(sft_upd u31 k2 g2 (by decide)), ?_⟩
 have hB'8 := u31.below (hB.trans hb30) g2
 have o30'1 := u31.own2 o30 k2 (by decide)
 exact xec 3 k31 (.agg #[.slice px30 (n + 1) cx30, .int .i64 er]) ⟨_, rfl, hB'8, _, _, rfl, o30'1⟩
theorem drop_pred {way : List Int} {i : Nat} (h : 0 < i ∧ i ≤ way.length) : way.getD (i - 1) 0 :: way.drop i = way.drop (i - 1) := by
  obtain ⟨j, rfl⟩ : ∃ j, i = j + 1 := ⟨i - 1, by omega⟩
  rw [show j + 1 - 1 = j by omega, List.drop_eq_getElem_cons (show j < way.length by omega)]
  simp [List.getD, show j < way.length by omega]
set_option maxRecDepth 100000 in
set_option maxHeartbeats 1000000 in
theorem ref14_wrap (B : Nat) (wa : Option Addr) (wc : Nat) (way : List Int) (er : Int) (a0 : Option Addr) (n0 c0 : Nat) (L : List Int) (w : World) (hBw : B ≤ w.heap.size) (he : er ≠ 0) (hw : Ints w (.slice wa way.length wc) way) (hwl : way.length ≤ 100000) (hL : L.length = n0) (hn : n0 ≤ 100000) (h0 : w.ownsRow B 3 1 (.slice a0 n0 c0) n0 (L.map (Value.int .i64))) :
    Calls Tryz.prog 40 #[.slice wa way.length wc, .agg #[.slice a0 n0 c0, .int .i64 er]] w (RetS (fun w' r => ∃ a n c, r = .agg #[.slice a n c, .int .i64 er] ∧ n = way.length + n0 ∧ w'.ownsRow B 3 1 (.slice a n c) n ((way ++ L).map (Value.int .i64))) w) := by
 refine zin 20 Tryz.func40 ?_
 refine xa 2 [.slice a0 n0 c0, .int .i64 er] 45 fun b1 W1 n1 => ?_
 refine xa 0 [.slice none 0 0, .int .i64 0] 45 fun b2 W2 n2 => ?_
 have d2_b1 := n2.ne n1.blk
 refine xw 7 ((↑way.length : Int) - 1) ?_
 have h0'1 := own_below (own_below h0 n1.below) n2.below
 have hB := Bl.next n1.below n2.below
 have k1'1 := n1.blk.below n2.below
 refine zl 4 20 (fun zm zkv V => ∃ (i nf : Nat) (af : Option Addr) (cf : Nat), zkv = [(0, .slice wa way.length wc), (3, .pointer (some ⟨b1, 0, none⟩)), (4, .pointer (some ⟨b2, 0, none⟩)), (5, .int .i64 ((↑i : Int) - 1))] ∧ zm = (((↑i : Int) - 1) + 1).toNat ∧ Below w.heap.size w V ∧ Blk V b1 ([.slice af nf cf, .int .i64 er]) 45 ∧ Blk V b2 ([.slice none 0 0, .int .i64 0]) 45 ∧ V.ownsRow B 3 1 (.slice af nf cf) nf ((way.drop i ++ L).map (Value.int .i64)) ∧ i ≤ way.length ∧ nf = way.length - i + L.length) ⟨way.length, n0, a0, c0, rfl, rfl, hB, k1'1, n2.blk, by rw [List.drop_length, List.nil_append]; exact h0'1, Nat.le_refl _, by omega⟩ ?_
 rintro _ _ W3 ⟨i, nf, af, cf, rfl, rfl, hB_3, k3_b1, k3_b2, hf, hi, hnf⟩ J3 hJ3 r3
 refine xid 7 ((↑i : Int) - 1 ≥ (0 : Int)) (fun hc4 => ?_) (fun hc4 => ?_)
 · refine xd 4 (.t w.heap.size [45]) ?_
   refine xia (.e [0, 1] 2) (fun _ _ _ _ zo zx zy V => run_indexA (size := 1) (k := (i - 1)) (b := wa) (n := way.length) (c := wc) (i := ((↑i : Int) - 1)) (ki := .i64) zo zx zy (by omega) (by omega) (Ints.elem hw (k := (i - 1)) (by omega)).1 Tryz.underlying26 (by kernel_rfl) V) ?_
   have hB'1 := Bl.next hB_3 (below_drew W3)
   refine xlt (.e [] 3) (.t w.heap.size [45]) (fun V hV => (Ints.elem (hw.below (sft_keep hB'1 hV (Nat.le_refl _))) (k := (i - 1)) (by omega)).2) ?_
   have k3_b1'1 := k3_b1.below (below_drew W3)
   refine xlv (.o [] 4) k3_b1'1.rp ?_
   have hf'1 := own_below hf (below_drew W3)
   refine yc (.o [] 5) (args := #[.int .i64 (way.getD (i - 1) 0), .agg #[.slice af nf cf, .int .i64 er]]) (.t w.heap.size [45]) (ref05_AtG (way.getD (i - 1) 0) er af nf cf (way.drop i ++ L) _ he (by simp; omega) (by omega) (own_sl hf'1)) ?_
   rintro _ W5 ⟨_, rfl, hb5, p5, c5, rfl, ho5⟩
   refine ⟨(SF.of_below _ hb5), ?_⟩
   have k3_b1'2 := k3_b1'1.below hb5
   have g1 := n1.ge (Below.refl w.heap.size _)
   refine ysv (.o [] 6) k3_b1'2 [.slice p5 (nf + 1) c5, .int .i64 er] (.t w.heap.size [45]) fun W6 u6 k6 => ⟨(sft_upd u6 k3_b1'2 g1 (by decide)), ?_⟩
   refine xq 5 (congrArg (Value.int .i64) (show IntKind.i64.wrap ((↑i : Int) - 1 - 1) = ((↑(i - 1 : Nat) : Int) - 1) from (show IntKind.i64.wrap ((↑i : Int) - 1 - 1) = ((↑i : Int) - 1 - 1) from by first | exact IntWalk.i64_in _ (by omega) | (simp only [IntKind.wrap]; omega)).trans (by omega))) ?_
   have ho5'1 := u6.own2 (own_mono ho5 hB'1.size) k3_b1'2 (by decide)
   have hB'2 := u6.below (Bl.next hB'1 hb5) g1
   have k3_b2'1 := u6.blk ((k3_b2.below (below_drew W3)).below hb5) (Ne.symm d2_b1)
   exact ze 2 (hJ3 _ _ _ ⟨i - 1, _, _, _, rfl, rfl, hB'2, k6, k3_b2'1, (by have q := own_mono ho5'1 hBw; rw [show way.getD (i - 1) 0 :: (way.drop i ++ L) = way.drop (i - 1) ++ L from by rw [← List.cons_append, drop_pred (by omega)]] at q; exact q), by omega, by omega⟩ (by omega))
 refine xlv 7 k3_b1.rp ?_
 refine xsv 0 k3_b2 [.slice af nf cf, .int .i64 er] fun W7 u7 k7 => ?_
 have g2 := n2.ge n1.below
 have hB'3 := u7.below hB_3 g2
 have hf'2 := u7.own2 hf k3_b2 (by decide)
 refine xec 3 k7 (.agg #[.slice af nf cf, .int .i64 er]) ?_
 obtain rfl : i = 0 := by omega
 exact ⟨_, rfl, hB'3, _, _, _, rfl, by omega, hf'2⟩
end Go.Proofs.YtinegkldgjhnpaaGreatDoor
namespace Go.Proofs.YtinegkldgjhnpaaGreatDoor
open Go.RowKit Go.Extern.Stop Go.Stop Go.Extern
set_option linter.unusedVariables false
attribute [local irreducible] wpList wpAnyH Code.wp Oper.wp Go

def RBlkNodeP (l : List UInt8) (no tree : Int) (w : World) (e : Ending) (w' : World) : Prop :=
  (nodeErr l no tree ≠ 0 ∧ ∃ a c, e = .returned (.tuple #[.agg #[.int .i64 0, .bool false, .slice none 0 0, .slice none 0 0], .agg #[.slice a 1 c, .int .i64 (nodeErr l no tree)]]) ∧ Below w.heap.size w w' ∧ w'.ownsRow w.heap.size 3 1 (.slice a 1 c) 1 [.int .i64 no]) ∨
  (nodeErr l no tree = 0 ∧ ∃ kp kc vp vc, e = .returned (.tuple #[.agg #[.int .i64 (nodT (inB l no)), .bool (nodL (inB l no)), .slice kp (nodC (inB l no)) kc, .slice vp (nodC (inB l no)) vc], .agg #[.slice none 0 0, .int .i64 0]]) ∧ Below w.heap.size w w' ∧ w'.ownsRow w.heap.size 3 1 (.slice kp (nodC (inB l no)) kc) (nodC (inB l no)) ((keysI (inB l no) (nodC (inB l no))).map (Value.int .i64)) ∧ w'.ownsRow w.heap.size 9 1 (.slice vp (nodC (inB l no)) vc) (nodC (inB l no)) ((valsL (inB l no) (nodC (inB l no))).map sv))
set_option maxRecDepth 100000 in
set_option maxHeartbeats 1000000 in
theorem ref11_Node (B bm : Nat) (p : Option Addr) (k c : Nat) (l : List UInt8) (no tree : Int) (w : World) (hI : RefI B bm p k c l w) :
    Calls Tryz.prog 29 #[.pointer (some ⟨bm, 0, none⟩), .int .i64 no, .int .i64 tree] w (RBlkNodeP l no tree w) := by
 refine zin 48 Tryz.func29 ?_
 refine xa 2 [.int .i64 0, .bool false, .slice none 0 0, .slice none 0 0] 52 fun b1 W1 n1 => ?_
 refine xa 0 [.slice none 0 0, .int .i64 0] 45 fun b2 W2 n2 => ?_
 have hI'1 := (hI.below n1.below).below n2.below
 refine xc 6 (args := #[.pointer (some ⟨bm, 0, none⟩), .int .i64 no, .int .i64 2]) (ref11_in B bm p k c l _ hI'1 no 2) ?_
 rintro e W3 hq3
 rcases hq3 with ⟨hse, rfl, hb3⟩ | ⟨hse, hil, p3, c3, rfl, hb3, h3⟩
 · refine xk 14 (show (((inE l 2 no) != (0 : Int)) : Bool) = true from bne_iff_ne.2 hse) ?_
   refine xc 5 (args := #[.int .i64 no, .int .i64 (inE l 2 no)]) (ref11_AtN no (inE l 2 no) _ hse) ?_
   rintro _ W4 ⟨_, rfl, hb4, a5, c5, rfl, hs5⟩
   have hs4 := (Bl.next (Bl.next n1.below n2.below) hb3).size
   have k1 := ((n1.blk.below n2.below).below hb3).below hb4
   refine xsv 0 k1 [.int .i64 0, .bool false, .slice none 0 0, .slice none 0 0] fun W5 u5 k5 => ?_
   have g1 := n1.ge (Below.refl w.heap.size _)
   have k2 := u5.blkT ((n2.blk.below hb3).below hb4) k1 (by decide)
   refine xsv 0 k2 [.slice a5 1 c5, .int .i64 (inE l 2 no)] fun W6 u6 k6 => ?_
   have g2 := n2.ge n1.below
   have hB := u6.below (u5.below (Bl.next (Bl.next (Bl.next n1.below n2.below) hb3) hb4) g1) g2
   have hs5'1 := u6.own2 (u5.own2 (own_mono hs5 hs4) k1 (by decide)) k2 (by decide)
   have k5'1 := u6.blkT k5 k2 (by decide)
   refine xecm 4 [(b1, [.int .i64 0, .bool false, .slice none 0 0, .slice none 0 0]), (b2, [.slice a5 1 c5, .int .i64 (inE l 2 no)])] ⟨⟨_, k5'1⟩, ⟨_, k6⟩, trivial⟩ (.tuple #[.agg #[.int .i64 0, .bool false, .slice none 0 0, .slice none 0 0], .agg #[.slice a5 1 c5, .int .i64 (inE l 2 no)]]) ?_
   have he : nodeErr l no tree = (inE l 2 no) := by unfold nodeErr; rw [if_neg hse]
   exact .inl ⟨by rw [he]; exact hse, _, _, by rw [he], hB, hs5'1⟩
 have hs3 := (Bl.next n1.below n2.below).size
 have h3'1 := own_mono h3 hs3
 refine xc 20 (args := #[.slice p3 244 c3]) (ref07_Read p3 c3 (inB l no) _ hil (bys_of (own_sl h3'1) hil)) ?_
 rintro e W7 hq7
 rcases hq7 with ⟨hz, rfl, hb7⟩ | ⟨hz, kp, kc, vp, vc, rfl, hb7, hk, hv_⟩
 · refine xa 3 [.int .i64 0, .bool false, .slice none 0 0, .slice none 0 0] 52 fun b8 W8 n8 => ?_
   have k1 := ((n1.blk.below n2.below).below hb3).below hb7
   have d8_b1 := n8.ne k1
   refine xsv 0 n8.blk [.int .i64 0, .bool false, .slice none 0 0, .slice none 0 0] fun W9 u9 k9 => ?_
   have g8 := n8.ge (Bl.next (Bl.next (Bl.next n1.below n2.below) hb3) hb7)
   refine xk 10 (show (((nodeE (inB l no)) != (0 : Int)) : Bool) = true from bne_iff_ne.2 hz) ?_
   refine xc 5 (args := #[.int .i64 no, .int .i64 (nodeE (inB l no))]) (ref11_AtN no (nodeE (inB l no)) _ hz) ?_
   rintro _ W10 ⟨_, rfl, hb10, a5, c5, rfl, hs5⟩
   have hs10 := (u9.below (Bl.next (Bl.next (Bl.next (Bl.next n1.below n2.below) hb3) hb7) n8.below) g8).size
   have k1'1 := (u9.blk (k1.below n8.below) (Ne.symm (Ne.symm d8_b1))).below hb10
   refine xsv 0 k1'1 [.int .i64 0, .bool false, .slice none 0 0, .slice none 0 0] fun W11 u11 k11 => ?_
   have g1 := n1.ge (Below.refl w.heap.size _)
   have k2 := u11.blkT ((u9.blkT (((n2.blk.below hb3).below hb7).below n8.below) n8.blk (by decide)).below hb10) k1'1 (by decide)
   refine xsv 0 k2 [.slice a5 1 c5, .int .i64 (nodeE (inB l no))] fun W12 u12 k12 => ?_
   have g2 := n2.ge n1.below
   have hB := u12.below (u11.below (Bl.next (u9.below (Bl.next (Bl.next (Bl.next (Bl.next n1.below n2.below) hb3) hb7) n8.below) g8) hb10) g1) g2
   have hs5'2 := u12.own2 (u11.own2 (own_mono hs5 hs10) k1'1 (by decide)) k2 (by decide)
   have k11'1 := u12.blkT k11 k2 (by decide)
   refine xecm 4 [(b1, [.int .i64 0, .bool false, .slice none 0 0, .slice none 0 0]), (b2, [.slice a5 1 c5, .int .i64 (nodeE (inB l no))])] ⟨⟨_, k11'1⟩, ⟨_, k12⟩, trivial⟩ (.tuple #[.agg #[.int .i64 0, .bool false, .slice none 0 0, .slice none 0 0], .agg #[.slice a5 1 c5, .int .i64 (nodeE (inB l no))]]) ?_
   have he : nodeErr l no tree = (nodeE (inB l no)) := by unfold nodeErr nodeTE; rw [if_pos hse, if_neg hz]
   exact .inl ⟨by rw [he]; exact hz, _, _, by rw [he], hB, hs5'2⟩
 have hs7 := (Bl.next (Bl.next n1.below n2.below) hb3).size
 refine xa 3 [.int .i64 0, .bool false, .slice none 0 0, .slice none 0 0] 52 fun b13 W13 n13 => ?_
 have k1 := ((n1.blk.below n2.below).below hb3).below hb7
 have d13_b1 := n13.ne k1
 refine xsv 0 n13.blk [.int .i64 (nodT (inB l no)), .bool (nodL (inB l no)), .slice kp (nodC (inB l no)) kc, .slice vp (nodC (inB l no)) vc] fun W14 u14 k14 => ?_
 have g13 := n13.ge (Bl.next (Bl.next (Bl.next n1.below n2.below) hb3) hb7)
 refine xg 19 [36, 37] (tree != (0 : Int)) (fun hc15 => ?_) (fun hc15 => ?_)
 · have hc15 := ne_of_bne hc15
   refine xb 1 0 k14 ?_
   refine xin 5 (nodT (inB l no)) tree (fun hc16 => ?_) (fun hc16 => ?_)
   · refine xc 4 (args := #[.int .i64 no, .int .i64 6]) (ref11_AtN no 6 _ (by decide)) ?_
     rintro _ W17 ⟨_, rfl, hb17, a5, c5, rfl, hs5⟩
     have hs17 := (u14.below (Bl.next (Bl.next (Bl.next (Bl.next n1.below n2.below) hb3) hb7) n13.below) g13).size
     have k1'2 := (u14.blk (k1.below n13.below) (Ne.symm (Ne.symm d13_b1))).below hb17
     refine xsv 0 k1'2 [.int .i64 0, .bool false, .slice none 0 0, .slice none 0 0] fun W18 u18 k18 => ?_
     have g1 := n1.ge (Below.refl w.heap.size _)
     have k2 := u18.blkT ((u14.blkT (((n2.blk.below hb3).below hb7).below n13.below) n13.blk (by decide)).below hb17) k1'2 (by decide)
     refine xsv 0 k2 [.slice a5 1 c5, .int .i64 6] fun W19 u19 k19 => ?_
     have g2 := n2.ge n1.below
     have hB := u19.below (u18.below (Bl.next (u14.below (Bl.next (Bl.next (Bl.next (Bl.next n1.below n2.below) hb3) hb7) n13.below) g13) hb17) g1) g2
     have hs5'3 := u19.own2 (u18.own2 (own_mono hs5 hs17) k1'2 (by decide)) k2 (by decide)
     have k18'1 := u19.blkT k18 k2 (by decide)
     refine xecm 4 [(b1, [.int .i64 0, .bool false, .slice none 0 0, .slice none 0 0]), (b2, [.slice a5 1 c5, .int .i64 6])] ⟨⟨_, k18'1⟩, ⟨_, k19⟩, trivial⟩ (.tuple #[.agg #[.int .i64 0, .bool false, .slice none 0 0, .slice none 0 0], .agg #[.slice a5 1 c5, .int .i64 6]]) ?_
     have he : nodeErr l no tree = 6 := by unfold nodeErr nodeTE; rw [if_pos hse, if_pos hz, if_neg (by omega)]
     exact .inl ⟨by rw [he]; decide, _, _, by rw [he], hB, hs5'3⟩
   refine xlv 4 k14.rp ?_
   have k1'3 := u14.blk (k1.below n13.below) (Ne.symm (Ne.symm d13_b1))
   refine xsv 1 k1'3 [.int .i64 (nodT (inB l no)), .bool (nodL (inB l no)), .slice kp (nodC (inB l no)) kc, .slice vp (nodC (inB l no)) vc] fun W20 u20 k20 => ?_
   have g1 := n1.ge (Below.refl w.heap.size _)
   have k2 := u20.blkT (u14.blkT (((n2.blk.below hb3).below hb7).below n13.below) n13.blk (by decide)) k1'3 (by decide)
   refine xsv 0 k2 [.slice none 0 0, .int .i64 0] fun W21 u21 k21 => ?_
   have g2 := n2.ge n1.below
   have hB := u21.below (u20.below (u14.below (Bl.next (Bl.next (Bl.next (Bl.next n1.below n2.below) hb3) hb7) n13.below) g13) g1) g2
   have hk'1 := u21.own2 (u20.own2 (u14.own2 (own_below (own_mono hk hs7) n13.below) n13.blk (by decide)) k1'3 (by decide)) k2 (by decide)
   have hv_'1 := u21.own2 (u20.own2 (u14.own2 (own_below (own_mono hv_ hs7) n13.below) n13.blk (by decide)) k1'3 (by decide)) k2 (by decide)
   have k20'1 := u21.blkT k20 k2 (by decide)
   exact xecm 3 [(b1, [.int .i64 (nodT (inB l no)), .bool (nodL (inB l no)), .slice kp (nodC (inB l no)) kc, .slice vp (nodC (inB l no)) vc]), (b2, [.slice none 0 0, .int .i64 0])] ⟨⟨_, k20'1⟩, ⟨_, k21⟩, trivial⟩ (.tuple #[.agg #[.int .i64 (nodT (inB l no)), .bool (nodL (inB l no)), .slice kp (nodC (inB l no)) kc, .slice vp (nodC (inB l no)) vc], .agg #[.slice none 0 0, .int .i64 0]]) (.inr ⟨by unfold nodeErr nodeTE; rw [if_pos hse, if_pos hz, if_pos (by omega)], _, _, _, _, rfl, hB, hk'1, hv_'1⟩)
 have hc15 := eq_of_bne_false hc15
 refine xlv 12 k14.rp ?_
 have k1'4 := u14.blk (k1.below n13.below) (Ne.symm (Ne.symm d13_b1))
 refine xsv 1 k1'4 [.int .i64 (nodT (inB l no)), .bool (nodL (inB l no)), .slice kp (nodC (inB l no)) kc, .slice vp (nodC (inB l no)) vc] fun W22 u22 k22 => ?_
 have g1 := n1.ge (Below.refl w.heap.size _)
 have k2 := u22.blkT (u14.blkT (((n2.blk.below hb3).below hb7).below n13.below) n13.blk (by decide)) k1'4 (by decide)
 refine xsv 0 k2 [.slice none 0 0, .int .i64 0] fun W23 u23 k23 => ?_
 have g2 := n2.ge n1.below
 have hB := u23.below (u22.below (u14.below (Bl.next (Bl.next (Bl.next (Bl.next n1.below n2.below) hb3) hb7) n13.below) g13) g1) g2
 have hk'2 := u23.own2 (u22.own2 (u14.own2 (own_below (own_mono hk hs7) n13.below) n13.blk (by decide)) k1'4 (by decide)) k2 (by decide)
 have hv_'2 := u23.own2 (u22.own2 (u14.own2 (own_below (own_mono hv_ hs7) n13.below) n13.blk (by decide)) k1'4 (by decide)) k2 (by decide)
 have k22'1 := u23.blkT k22 k2 (by decide)
 exact xecm 3 [(b1, [.int .i64 (nodT (inB l no)), .bool (nodL (inB l no)), .slice kp (nodC (inB l no)) kc, .slice vp (nodC (inB l no)) vc]), (b2, [.slice none 0 0, .int .i64 0])] ⟨⟨_, k22'1⟩, ⟨_, k23⟩, trivial⟩ (.tuple #[.agg #[.int .i64 (nodT (inB l no)), .bool (nodL (inB l no)), .slice kp (nodC (inB l no)) kc, .slice vp (nodC (inB l no)) vc], .agg #[.slice none 0 0, .int .i64 0]]) (.inr ⟨by unfold nodeErr nodeTE; rw [if_pos hse, if_pos hz, if_pos (by omega)], _, _, _, _, rfl, hB, hk'2, hv_'2⟩)
set_option maxRecDepth 100000 in
set_option maxHeartbeats 1000000 in
theorem ref14_has (a : Option Addr) (c : Nat) (l : List Int) (x : Int) (w : World) (h : Ints w (.slice a l.length c) l) (hln : l.length ≤ 1000000) :
    Calls Tryz.prog 85 #[.slice a l.length c, .int .i64 x] w (Ret (.bool (hasI l x)) w) := by
 refine zin 18 Tryz.func85 ?_
 have hB := Below.refl w.heap.size w
 refine zl 12 18 (fun zm zkv V => ∃ (i : Nat), zkv = [(0, .slice a l.length c), (1, .int .i64 x), (5, .int .i64 (↑i : Int))] ∧ zm = l.length - ((↑i : Int)).toNat ∧ Below w.heap.size w V ∧ i ≤ l.length ∧ (∀ j, j < i → x ≠ l.getD j 0)) ⟨0, rfl, rfl, hB, Nat.zero_le _, ?_⟩ ?_
 · exact fun j hj => absurd hj (by omega)
 rintro _ _ W1 ⟨i, rfl, rfl, hB_1, hi, hz⟩ J1 hJ1 r1
 refine xid 9 ((↑i : Int) < (↑l.length : Int)) (fun hc2 => ?_) (fun hc2 => ?_)
 · refine xx 8 _ l.length i 1 (Ints.elem h (k := i) (by omega)).1 ?_
   refine xl 0 ((Ints.elem (h.below hB_1) (k := i) (by omega)).2) ?_
   refine xie 4 (l.getD i 0) x (fun hc3 => ?_) (fun hc3 => ?_)
   · refine xe 11 (.bool true) ?_
     rw [hasI_true (i := i) (by omega) (by omega)]; exact ⟨rfl, hB_1⟩
   refine xwm 5 ((↑i : Int) + 1) (↑(i + 1) : Int) ?_
   exact ze 2 (hJ1 _ _ _ ⟨i + 1, rfl, rfl, hB_1, by omega, fun j hj => (Nat.lt_or_ge j i).elim (hz j) (fun q => by obtain rfl : j = i := (by omega); omega)⟩ (by omega))
 refine xe 11 (.bool false) ?_
 rw [hasI_false (fun j hj => hz j (by omega))]; exact ⟨rfl, hB_1⟩
def RLookP (l : List UInt8) (way : List Int) (no tree lo hi deep : Int) (w : World) (e : Ending) (w' : World) : Prop :=
  (lookE l way no tree lo hi deep ≠ 0 ∧ ∃ a4 b4 k4 n4 c4 v4 m4 d4 a c, e = .returned (.tuple #[.agg #[.int .i64 a4, .bool b4, .slice k4 n4 c4, .slice v4 m4 d4], .agg #[.slice a 1 c, .int .i64 (lookE l way no tree lo hi deep)]]) ∧ Below w.heap.size w w' ∧ w'.ownsRow w.heap.size 3 1 (.slice a 1 c) 1 [.int .i64 no]) ∨
  (lookE l way no tree lo hi deep = 0 ∧ ∃ kp kc vp vc, e = .returned (.tuple #[.agg #[.int .i64 (nodT (inB l no)), .bool (nodL (inB l no)), .slice kp (nodC (inB l no)) kc, .slice vp (nodC (inB l no)) vc], .agg #[.slice none 0 0, .int .i64 0]]) ∧ Below w.heap.size w w' ∧ w'.ownsRow w.heap.size 3 1 (.slice kp (nodC (inB l no)) kc) (nodC (inB l no)) ((keysI (inB l no) (nodC (inB l no))).map (Value.int .i64)) ∧ w'.ownsRow w.heap.size 9 1 (.slice vp (nodC (inB l no)) vc) (nodC (inB l no)) ((valsL (inB l no) (nodC (inB l no))).map sv))
set_option maxRecDepth 100000 in
set_option maxHeartbeats 4000000 in
theorem ref14_look (B bm : Nat) (p : Option Addr) (k c : Nat) (l : List UInt8) (no tree : Int) (lo hi deep : Int) (way : List Int) (wa : Option Addr) (wc : Nat) (ft : Value) (w : World) (hI : RefI B bm p k c l w) (hw : Ints w (.slice wa way.length wc) way) (hwl : way.length ≤ 100000) (hr : rightB lo hi = true) :
    Calls Tryz.prog 42 #[.pointer (some ⟨bm, 0, none⟩), .agg #[.int .i64 no, .int .i64 lo, .int .i64 hi, .slice wa way.length wc, ft], .int .i64 tree, .int .i64 deep] w (RLookP l way no tree lo hi deep w) := by
 refine zin 84 Tryz.func42 ?_
 refine xa 2 [.int .i64 no, .int .i64 lo, .int .i64 hi, .slice wa way.length wc, ft] 102 fun b1 W1 n1 => ?_
 refine xa 0 [.int .i64 0, .bool false, .slice none 0 0, .slice none 0 0] 52 fun b2 W2 n2 => ?_
 refine xa 0 [.slice none 0 0, .int .i64 0] 45 fun b3 W3 n3 => ?_
 have k1 := (n1.blk.below n2.below).below n3.below
 refine xb 6 3 k1 ?_
 refine xb 1 0 k1 ?_
 have hB := Bl.next (Bl.next n1.below n2.below) n3.below
 refine xr 0 (args := #[.slice wa way.length wc, .int .i64 no]) (ref14_has wa wc way no _ (hw.below hB) (by omega)) fun W4 hb4 => ?_
 refine xi 2 (hasI way no) (fun hc5 => ?_) (fun hc5 => ?_)
 · have hh : hasI way no = true := hc5
   have k1'1 := k1.below hb4
   refine xb 4 0 k1'1 ?_
   refine xc 0 (args := #[.int .i64 no, .int .i64 11]) (ref11_AtN no 11 _ (by decide)) ?_
   rintro _ W6 ⟨_, rfl, hb6, a5, c5, rfl, hs5⟩
   have hs6 := (Bl.next hB hb4).size
   have k2 := ((n2.blk.below n3.below).below hb4).below hb6
   refine xsv 0 k2 [.int .i64 0, .bool false, .slice none 0 0, .slice none 0 0] fun W7 u7 k7 => ?_
   have g2 := n2.ge n1.below
   have k3 := u7.blkT ((n3.blk.below hb4).below hb6) k2 (by decide)
   refine xsv 0 k3 [.slice a5 1 c5, .int .i64 11] fun W8 u8 k8 => ?_
   have g3 := n3.ge (Bl.next n1.below n2.below)
   have hB'1 := u8.below (u7.below (Bl.next (Bl.next hB hb4) hb6) g2) g3
   have hs5'1 := u8.own2 (u7.own2 (own_mono hs5 hs6) k2 (by decide)) k3 (by decide)
   have k7'1 := u8.blkT k7 k3 (by decide)
   refine xecm 4 [(b2, [.int .i64 0, .bool false, .slice none 0 0, .slice none 0 0]), (b3, [.slice a5 1 c5, .int .i64 11])] ⟨⟨_, k7'1⟩, ⟨_, k8⟩, trivial⟩ (.tuple #[.agg #[.int .i64 0, .bool false, .slice none 0 0, .slice none 0 0], .agg #[.slice a5 1 c5, .int .i64 11]]) ?_
   have he : (lookE l way no tree lo hi deep) = 11 := by unfold lookE; rw [if_pos hh]
   exact .inl ⟨by rw [he]; decide, _, _, _, _, _, _, _, _, _, _, by rw [he], hB'1, hs5'1⟩
 have hh : hasI way no = false := hc5
 have k1'2 := k1.below hb4
 refine xb 6 3 k1'2 ?_
 refine xwm 1 ((↑way.length : Int) + 1) (↑(way.length + 1) : Int) ?_
 refine xid 3 ((↑(way.length + 1) : Int) > (16 : Int)) (fun hc9 => ?_) (fun hc9 => ?_)
 · refine xb 4 0 k1'2 ?_
   refine xc 0 (args := #[.int .i64 no, .int .i64 10]) (ref11_AtN no 10 _ (by decide)) ?_
   rintro _ W10 ⟨_, rfl, hb10, a5, c5, rfl, hs5⟩
   have hs10 := (Bl.next hB hb4).size
   have k2 := ((n2.blk.below n3.below).below hb4).below hb10
   refine xsv 0 k2 [.int .i64 0, .bool false, .slice none 0 0, .slice none 0 0] fun W11 u11 k11 => ?_
   have g2 := n2.ge n1.below
   have k3 := u11.blkT ((n3.blk.below hb4).below hb10) k2 (by decide)
   refine xsv 0 k3 [.slice a5 1 c5, .int .i64 10] fun W12 u12 k12 => ?_
   have g3 := n3.ge (Bl.next n1.below n2.below)
   have hB'2 := u12.below (u11.below (Bl.next (Bl.next hB hb4) hb10) g2) g3
   have hs5'2 := u12.own2 (u11.own2 (own_mono hs5 hs10) k2 (by decide)) k3 (by decide)
   have k11'1 := u12.blkT k11 k3 (by decide)
   refine xecm 4 [(b2, [.int .i64 0, .bool false, .slice none 0 0, .slice none 0 0]), (b3, [.slice a5 1 c5, .int .i64 10])] ⟨⟨_, k11'1⟩, ⟨_, k12⟩, trivial⟩ (.tuple #[.agg #[.int .i64 0, .bool false, .slice none 0 0, .slice none 0 0], .agg #[.slice a5 1 c5, .int .i64 10]]) ?_
   have he : (lookE l way no tree lo hi deep) = 10 := by unfold lookE; rw [if_neg (by rw [hh]; decide), if_pos (by omega)]
   exact .inl ⟨by rw [he]; decide, _, _, _, _, _, _, _, _, _, _, by rw [he], hB'2, hs5'2⟩
 refine xb 6 0 k1'2 ?_
 have hI'1 := (((hI.below n1.below).below n2.below).below n3.below).below hb4
 refine xc 1 (args := #[.pointer (some ⟨bm, 0, none⟩), .int .i64 no, .int .i64 tree]) (ref11_Node B bm p k c l no tree _ hI'1) ?_
 rintro e W13 hq13
 rcases hq13 with ⟨hne, a3, c3, rfl, hb13, hs3⟩ | ⟨hne, kp, kc, vp, vc, rfl, hb13, hk, hv_⟩
 · have hs13 := (Bl.next hB hb4).size
   refine xa 3 [.int .i64 0, .bool false, .slice none 0 0, .slice none 0 0] 52 fun b14 W14 n14 => ?_
   have k2 := ((n2.blk.below n3.below).below hb4).below hb13
   have d14_b2 := n14.ne k2
   have hB'3 := Bl.next (Bl.next hB hb4) hb13
   have g14 := n14.ge hB'3
   refine xa 0 [.slice none 0 0, .int .i64 0] 45 fun b15 W15 n15 => ?_
   have k3 := ((n3.blk.below hb4).below hb13).below n14.below
   have d15_b3 := n15.ne k3
   have hB'4 := Bl.next hB'3 n14.below
   have g15 := n15.ge hB'4
   have k14 := n14.blk.below n15.below
   refine xsv 0 k14 [.int .i64 0, .bool false, .slice none 0 0, .slice none 0 0] fun W16 u16 k16 => ?_
   have k15 := u16.blkT n15.blk k14 (by decide)
   refine xsv 0 k15 [.slice a3 1 c3, .int .i64 (nodeErr l no tree)] fun W17 u17 k17 => ?_
   refine xb 6 1 k17 ?_
   refine xk 3 (show (((nodeErr l no tree) != (0 : Int)) : Bool) = true from bne_iff_ne.2 hne) ?_
   refine xd 1 (.t w.heap.size [52, 45]) ?_
   refine xm2 0 0 1 ?_ ?_
   · have k16'1 := (u17.blkT k16 k15 (by decide)).below (below_drew W17)
     refine xlv 0 k16'1.rp ?_
     refine xm2 0 1 2 ?_ ?_
     · have k17'1 := k17.below (below_drew W17)
       refine xlv 0 k17'1.rp ?_
       have k2'1 := (u17.blkT (u16.blk ((k2.below n14.below).below n15.below) (Ne.symm (Ne.symm d14_b2))) k15 (by decide)).below (below_drew W17)
       have g2 := n2.ge n1.below
       refine ysv (.o [] 2) k2'1 [.int .i64 0, .bool false, .slice none 0 0, .slice none 0 0] (.t w.heap.size [52, 45]) fun W18 u18 k18 => ⟨(sft_upd u18 k2'1 g2 (by decide)), ?_⟩
       have k3'1 := u18.blkT ((u17.blk (u16.blkT (k3.below n15.below) k14 (by decide)) (Ne.symm (Ne.symm d15_b3))).below (below_drew W17)) k2'1 (by decide)
       have g3 := n3.ge (Bl.next n1.below n2.below)
       refine ysv (.o [] 3) k3'1 [.slice a3 1 c3, .int .i64 (nodeErr l no tree)] (.t w.heap.size [52, 45]) fun W19 u19 k19 => ⟨(sft_upd u19 k3'1 g3 (by decide)), ?_⟩
       have hB'5 := u19.below (u18.below (Bl.next (u17.below (u16.below (Bl.next hB'4 n15.below) g14) g15) (below_drew W17)) g2) g3
       have hs3'1 := u19.own2 (u18.own2 (own_below (u17.own2 (u16.own2 (own_below (own_below (own_mono hs3 hs13) n14.below) n15.below) k14 (by decide)) k15 (by decide)) (below_drew W17)) k2'1 (by decide)) k3'1 (by decide)
       have k18'1 := u19.blkT k18 k3'1 (by decide)
       refine xecm 4 [(b2, [.int .i64 0, .bool false, .slice none 0 0, .slice none 0 0]), (b3, [.slice a3 1 c3, .int .i64 (nodeErr l no tree)])] ⟨⟨_, k18'1⟩, ⟨_, k19⟩, trivial⟩ (.tuple #[.agg #[.int .i64 0, .bool false, .slice none 0 0, .slice none 0 0], .agg #[.slice a3 1 c3, .int .i64 (nodeErr l no tree)]]) ?_
       have he : (lookE l way no tree lo hi deep) = nodeErr l no tree := by unfold lookE; rw [if_neg (by rw [hh]; decide), if_neg (by omega), if_pos hne]
       exact .inl ⟨by rw [he]; exact hne, _, _, _, _, _, _, _, _, _, _, by rw [he], hB'5, hs3'1⟩
     have k2'2 := (u17.blkT (u16.blk ((k2.below n14.below).below n15.below) (Ne.symm (Ne.symm d14_b2))) k15 (by decide)).below (below_drew W17)
     have g2 := n2.ge n1.below
     refine ysv 0 k2'2 [.int .i64 0, .bool false, .slice none 0 0, .slice none 0 0] (.t w.heap.size [52, 45]) fun W20 u20 k20 => ⟨(sft_upd u20 k2'2 g2 (by decide)), ?_⟩
     have k17'2 := u20.blkT (k17.below (below_drew W17)) k2'2 (by decide)
     refine xlv (.o [] 1) k17'2.rp ?_
     have k3'2 := u20.blkT ((u17.blk (u16.blkT (k3.below n15.below) k14 (by decide)) (Ne.symm (Ne.symm d15_b3))).below (below_drew W17)) k2'2 (by decide)
     have g3 := n3.ge (Bl.next n1.below n2.below)
     refine ysv (.o [] 3) k3'2 [.slice a3 1 c3, .int .i64 (nodeErr l no tree)] (.t w.heap.size [52, 45]) fun W21 u21 k21 => ⟨(sft_upd u21 k3'2 g3 (by decide)), ?_⟩
     have hB'6 := u21.below (u20.below (Bl.next (u17.below (u16.below (Bl.next hB'4 n15.below) g14) g15) (below_drew W17)) g2) g3
     have hs3'2 := u21.own2 (u20.own2 (own_below (u17.own2 (u16.own2 (own_below (own_below (own_mono hs3 hs13) n14.below) n15.below) k14 (by decide)) k15 (by decide)) (below_drew W17)) k2'2 (by decide)) k3'2 (by decide)
     have k20'1 := u21.blkT k20 k3'2 (by decide)
     refine xecm 4 [(b2, [.int .i64 0, .bool false, .slice none 0 0, .slice none 0 0]), (b3, [.slice a3 1 c3, .int .i64 (nodeErr l no tree)])] ⟨⟨_, k20'1⟩, ⟨_, k21⟩, trivial⟩ (.tuple #[.agg #[.int .i64 0, .bool false, .slice none 0 0, .slice none 0 0], .agg #[.slice a3 1 c3, .int .i64 (nodeErr l no tree)]]) ?_
     have he : (lookE l way no tree lo hi deep) = nodeErr l no tree := by unfold lookE; rw [if_neg (by rw [hh]; decide), if_neg (by omega), if_pos hne]
     exact .inl ⟨by rw [he]; exact hne, _, _, _, _, _, _, _, _, _, _, by rw [he], hB'6, hs3'2⟩
   have k17'3 := k17.below (below_drew W17)
   refine xlv 0 k17'3.rp ?_
   have k16'2 := (u17.blkT k16 k15 (by decide)).below (below_drew W17)
   refine xlv (.o [] 0) k16'2.rp ?_
   have k2'3 := (u17.blkT (u16.blk ((k2.below n14.below).below n15.below) (Ne.symm (Ne.symm d14_b2))) k15 (by decide)).below (below_drew W17)
   have g2 := n2.ge n1.below
   refine ysv (.o [] 2) k2'3 [.int .i64 0, .bool false, .slice none 0 0, .slice none 0 0] (.t w.heap.size [52, 45]) fun W22 u22 k22 => ⟨(sft_upd u22 k2'3 g2 (by decide)), ?_⟩
   have k3'3 := u22.blkT ((u17.blk (u16.blkT (k3.below n15.below) k14 (by decide)) (Ne.symm (Ne.symm d15_b3))).below (below_drew W17)) k2'3 (by decide)
   have g3 := n3.ge (Bl.next n1.below n2.below)
   refine ysv (.o [] 3) k3'3 [.slice a3 1 c3, .int .i64 (nodeErr l no tree)] (.t w.heap.size [52, 45]) fun W23 u23 k23 => ⟨(sft_upd u23 k3'3 g3 (by decide)), ?_⟩
   have hB'7 := u23.below (u22.below (Bl.next (u17.below (u16.below (Bl.next hB'4 n15.below) g14) g15) (below_drew W17)) g2) g3
   have hs3'3 := u23.own2 (u22.own2 (own_below (u17.own2 (u16.own2 (own_below (own_below (own_mono hs3 hs13) n14.below) n15.below) k14 (by decide)) k15 (by decide)) (below_drew W17)) k2'3 (by decide)) k3'3 (by decide)
   have k22'1 := u23.blkT k22 k3'3 (by decide)
   refine xecm 4 [(b2, [.int .i64 0, .bool false, .slice none 0 0, .slice none 0 0]), (b3, [.slice a3 1 c3, .int .i64 (nodeErr l no tree)])] ⟨⟨_, k22'1⟩, ⟨_, k23⟩, trivial⟩ (.tuple #[.agg #[.int .i64 0, .bool false, .slice none 0 0, .slice none 0 0], .agg #[.slice a3 1 c3, .int .i64 (nodeErr l no tree)]]) ?_
   have he : (lookE l way no tree lo hi deep) = nodeErr l no tree := by unfold lookE; rw [if_neg (by rw [hh]; decide), if_neg (by omega), if_pos hne]
   exact .inl ⟨by rw [he]; exact hne, _, _, _, _, _, _, _, _, _, _, by rw [he], hB'7, hs3'3⟩
 have hs13 := (Bl.next hB hb4).size
 have hcn : nodC (inB l no) ≤ 18 := Nat.le_trans (node_shapeP (nodeE_shape (nodeTE_zero (nodeErr_TE hne).2))) (maxG_18 _ _)
 refine xa 3 [.int .i64 0, .bool false, .slice none 0 0, .slice none 0 0] 52 fun b24 W24 n24 => ?_
 have k2 := ((n2.blk.below n3.below).below hb4).below hb13
 have d24_b2 := n24.ne k2
 have hB'8 := Bl.next (Bl.next hB hb4) hb13
 have g24 := n24.ge hB'8
 refine xa 0 [.slice none 0 0, .int .i64 0] 45 fun b25 W25 n25 => ?_
 have k3 := ((n3.blk.below hb4).below hb13).below n24.below
 have d25_b3 := n25.ne k3
 have hB'9 := Bl.next hB'8 n24.below
 have g25 := n25.ge hB'9
 have k24 := n24.blk.below n25.below
 refine xsv 0 k24 [.int .i64 (nodT (inB l no)), .bool (nodL (inB l no)), .slice kp (nodC (inB l no)) kc, .slice vp (nodC (inB l no)) vc] fun W26 u26 k26 => ?_
 have k25 := u26.blkT n25.blk k24 (by decide)
 refine xsv 0 k25 [.slice none 0 0, .int .i64 0] fun W27 u27 k27 => ?_
 refine xb 6 1 k27 ?_
 have hk'1 := u27.own2 (u26.own2 (own_below (own_below (own_mono hk hs13) n24.below) n25.below) k24 (by decide)) k25 (by decide)
 have hv_'1 := u27.own2 (u26.own2 (own_below (own_below (own_mono hv_ hs13) n24.below) n25.below) k24 (by decide)) k25 (by decide)
 have hB'10 := u27.below (u26.below (Bl.next hB'9 n25.below) g24) g25
 have k1'3 := u27.blkT (u26.blkT (((k1'2.below hb13).below n24.below).below n25.below) k24 (by decide)) k25 (by decide)
 have k2'4 := u27.blkT (u26.blk ((k2.below n24.below).below n25.below) (Ne.symm (Ne.symm d24_b2))) k25 (by decide)
 have k3'4 := u27.blk (u26.blkT (k3.below n25.below) k24 (by decide)) (Ne.symm (Ne.symm d25_b3))
 have k26'1 := u27.blkT k26 k25 (by decide)
 refine zl 13 84 (fun zm zkv V => ∃ (i : Nat), zkv = [(3, .int .i64 deep), (5, .pointer (some ⟨b1, 0, none⟩)), (8, .pointer (some ⟨b2, 0, none⟩)), (9, .pointer (some ⟨b3, 0, none⟩)), (10, .pointer (some ⟨b24, 0, none⟩)), (12, .int .i64 (↑i : Int))] ∧ zm = nodC (inB l no) - ((↑i : Int)).toNat ∧ Below w.heap.size w V ∧ Blk V b1 ([.int .i64 no, .int .i64 lo, .int .i64 hi, .slice wa way.length wc, ft]) 102 ∧ Blk V b2 ([.int .i64 0, .bool false, .slice none 0 0, .slice none 0 0]) 52 ∧ Blk V b3 ([.slice none 0 0, .int .i64 0]) 45 ∧ Blk V b24 ([.int .i64 (nodT (inB l no)), .bool (nodL (inB l no)), .slice kp (nodC (inB l no)) kc, .slice vp (nodC (inB l no)) vc]) 52 ∧ Blk V b25 ([.slice none 0 0, .int .i64 0]) 45 ∧ V.ownsRow w.heap.size 3 1 (.slice kp (nodC (inB l no)) kc) (nodC (inB l no)) ((keysI (inB l no) (nodC (inB l no))).map (Value.int .i64)) ∧ V.ownsRow w.heap.size 9 1 (.slice vp (nodC (inB l no)) vc) (nodC (inB l no)) ((valsL (inB l no) (nodC (inB l no))).map sv) ∧ i ≤ nodC (inB l no) ∧ (∀ j, j < i → hasB lo hi ((nodK l no).getD j 0) = true)) ⟨0, rfl, rfl, hB'10, k1'3, k2'4, k3'4, k26'1, k27, hk'1, hv_'1, Nat.zero_le _, ?_⟩ ?_
 · exact fun j hj => absurd hj (by omega)
 rintro _ _ W28 ⟨i, rfl, rfl, hB_28, k28_b1, k28_b2, k28_b3, k28_b24, k28_b25, hk, hv_, hii, hall⟩ J28 hJ28 r28
 refine xb 5 2 k28_b24 ?_
 refine xid 4 ((↑i : Int) < (↑(nodC (inB l no)) : Int)) (fun hc29 => ?_) (fun hc29 => ?_)
 · refine xd 5 .z ?_
   have k28_b1'1 := k28_b1.below (below_drew W28)
   refine xlv (.e [0] 1) (k28_b1'1.rpp 1 2) ?_
   have k28_b24'1 := k28_b24.below (below_drew W28)
   refine xb (.e [2] 3) 2 k28_b24'1 ?_
   have hk'2 := own_below hk (below_drew W28)
   refine xx (.e [4] 5) _ (nodC (inB l no)) i 1 (IntsN.elem (l := (nodK l no)) (own_sl hk'2) (keysI_len _ _) (k := i) (by omega)).1 ?_
   refine xl (.e [] 6) ((IntsN.elem (l := (nodK l no)) (own_sl hk'2) (keysI_len _ _) (k := i) (by omega)).2) ?_
   refine xr (.o [] 7) (args := #[.agg #[.int .i64 lo, .int .i64 hi], .int .i64 ((nodK l no).getD i 0)]) (refspan_has lo hi ((nodK l no).getD i 0) _) fun W30 hb30 => ?_
   refine xi (.r [8] 2) (!(hasB lo hi ((nodK l no).getD i 0))) (fun hc31 => ?_) (fun hc31 => ?_)
   · have hna : hasB lo hi ((nodK l no).getD i 0) = false := by simpa using hc31
     refine xd 1 (.t w.heap.size [52, 45]) ?_
     have k28_b1'2 := (k28_b1'1.below hb30).below (below_drew W30)
     refine xbt (.e [1] 2) 0 w.heap.size [52, 45] k28_b1'2 ?_
     refine xm2 0 0 3 ?_ ?_
     · have k28_b24'2 := (k28_b24'1.below hb30).below (below_drew W30)
       refine xlv 0 k28_b24'2.rp ?_
       refine yc (.o [] 3) (args := #[.int .i64 no, .int .i64 9]) (.t w.heap.size [52, 45]) (ref11_AtN no 9 _ (by decide)) ?_
       rintro _ W32 ⟨_, rfl, hb32, a5, c5, rfl, hs5⟩
       have hs32 := (Bl.next (Bl.next (Bl.next hB_28 (below_drew W28)) hb30) (below_drew W30)).size
       refine ⟨(SF.of_below _ hb32), ?_⟩
       have k28_b2'1 := (((k28_b2.below (below_drew W28)).below hb30).below (below_drew W30)).below hb32
       have g2 := n2.ge n1.below
       refine ysv (.o [] 4) k28_b2'1 [.int .i64 (nodT (inB l no)), .bool (nodL (inB l no)), .slice kp (nodC (inB l no)) kc, .slice vp (nodC (inB l no)) vc] (.t w.heap.size [52, 45]) fun W33 u33 k33 => ⟨(sft_upd u33 k28_b2'1 g2 (by decide)), ?_⟩
       have k28_b3'1 := u33.blkT ((((k28_b3.below (below_drew W28)).below hb30).below (below_drew W30)).below hb32) k28_b2'1 (by decide)
       have g3 := n3.ge (Bl.next n1.below n2.below)
       refine ysv (.o [] 5) k28_b3'1 [.slice a5 1 c5, .int .i64 9] (.t w.heap.size [52, 45]) fun W34 u34 k34 => ⟨(sft_upd u34 k28_b3'1 g3 (by decide)), ?_⟩
       have hB'11 := u34.below (u33.below (Bl.next (Bl.next (Bl.next (Bl.next hB_28 (below_drew W28)) hb30) (below_drew W30)) hb32) g2) g3
       have hs5'3 := u34.own2 (u33.own2 (own_mono hs5 hs32) k28_b2'1 (by decide)) k28_b3'1 (by decide)
       have k33'1 := u34.blkT k33 k28_b3'1 (by decide)
       refine xecm 8 [(b2, [.int .i64 (nodT (inB l no)), .bool (nodL (inB l no)), .slice kp (nodC (inB l no)) kc, .slice vp (nodC (inB l no)) vc]), (b3, [.slice a5 1 c5, .int .i64 9])] ⟨⟨_, k33'1⟩, ⟨_, k34⟩, trivial⟩ (.tuple #[.agg #[.int .i64 (nodT (inB l no)), .bool (nodL (inB l no)), .slice kp (nodC (inB l no)) kc, .slice vp (nodC (inB l no)) vc], .agg #[.slice a5 1 c5, .int .i64 9]]) ?_
       have he : (lookE l way no tree lo hi deep) = 9 := by unfold lookE; rw [if_neg (by rw [hh]; decide), if_neg (by omega), if_neg (by rw [hne]; decide), if_pos (by have := nodK_out (i := i) (tree := tree) (by omega) hna; exact this)]
       exact .inl ⟨by rw [he]; decide, _, _, _, _, _, _, _, _, _, _, by rw [he], hB'11, hs5'3⟩
     refine yc 0 (args := #[.int .i64 no, .int .i64 9]) (.t w.heap.size [52, 45]) (ref11_AtN no 9 _ (by decide)) ?_
     rintro _ W35 ⟨_, rfl, hb35, a5, c5, rfl, hs5⟩
     have hs35 := (Bl.next (Bl.next (Bl.next hB_28 (below_drew W28)) hb30) (below_drew W30)).size
     refine ⟨(SF.of_below _ hb35), ?_⟩
     have k28_b24'3 := ((k28_b24'1.below hb30).below (below_drew W30)).below hb35
     refine xlv (.o [] 0) k28_b24'3.rp ?_
     have k28_b2'2 := (((k28_b2.below (below_drew W28)).below hb30).below (below_drew W30)).below hb35
     have g2 := n2.ge n1.below
     refine ysv (.o [] 4) k28_b2'2 [.int .i64 (nodT (inB l no)), .bool (nodL (inB l no)), .slice kp (nodC (inB l no)) kc, .slice vp (nodC (inB l no)) vc] (.t w.heap.size [52, 45]) fun W36 u36 k36 => ⟨(sft_upd u36 k28_b2'2 g2 (by decide)), ?_⟩
     have k28_b3'2 := u36.blkT ((((k28_b3.below (below_drew W28)).below hb30).below (below_drew W30)).below hb35) k28_b2'2 (by decide)
     have g3 := n3.ge (Bl.next n1.below n2.below)
     refine ysv (.o [] 5) k28_b3'2 [.slice a5 1 c5, .int .i64 9] (.t w.heap.size [52, 45]) fun W37 u37 k37 => ⟨(sft_upd u37 k28_b3'2 g3 (by decide)), ?_⟩
     have hB'12 := u37.below (u36.below (Bl.next (Bl.next (Bl.next (Bl.next hB_28 (below_drew W28)) hb30) (below_drew W30)) hb35) g2) g3
     have hs5'4 := u37.own2 (u36.own2 (own_mono hs5 hs35) k28_b2'2 (by decide)) k28_b3'2 (by decide)
     have k36'1 := u37.blkT k36 k28_b3'2 (by decide)
     refine xecm 8 [(b2, [.int .i64 (nodT (inB l no)), .bool (nodL (inB l no)), .slice kp (nodC (inB l no)) kc, .slice vp (nodC (inB l no)) vc]), (b3, [.slice a5 1 c5, .int .i64 9])] ⟨⟨_, k36'1⟩, ⟨_, k37⟩, trivial⟩ (.tuple #[.agg #[.int .i64 (nodT (inB l no)), .bool (nodL (inB l no)), .slice kp (nodC (inB l no)) kc, .slice vp (nodC (inB l no)) vc], .agg #[.slice a5 1 c5, .int .i64 9]]) ?_
     have he : (lookE l way no tree lo hi deep) = 9 := by unfold lookE; rw [if_neg (by rw [hh]; decide), if_neg (by omega), if_neg (by rw [hne]; decide), if_pos (by have := nodK_out (i := i) (tree := tree) (by omega) hna; exact this)]
     exact .inl ⟨by rw [he]; decide, _, _, _, _, _, _, _, _, _, _, by rw [he], hB'12, hs5'4⟩
   have hna : hasB lo hi ((nodK l no).getD i 0) = true := by simpa using hc31
   refine xwm 5 ((↑i : Int) + 1) (↑(i + 1) : Int) ?_
   have hB'13 := Bl.next (Bl.next hB_28 (below_drew W28)) hb30
   have k28_b1'3 := k28_b1'1.below hb30
   have k28_b2'3 := (k28_b2.below (below_drew W28)).below hb30
   have k28_b3'3 := (k28_b3.below (below_drew W28)).below hb30
   have k28_b24'4 := k28_b24'1.below hb30
   have k28_b25'1 := (k28_b25.below (below_drew W28)).below hb30
   have hk'3 := own_below hk'2 hb30
   have hv_'2 := own_below (own_below hv_ (below_drew W28)) hb30
   exact ze 2 (hJ28 _ _ _ ⟨i + 1, rfl, rfl, hB'13, k28_b1'3, k28_b2'3, k28_b3'3, k28_b24'4, k28_b25'1, hk'3, hv_'2, by omega, fun j hj => (Nat.lt_or_ge j i).elim (hall j) (fun q => by obtain rfl : j = i := (by omega); exact hna)⟩ (by omega))
 refine xb 9 1 k28_b24 ?_
 refine xg 1 [65, 66] (nodL (inB l no)) (fun hc38 => ?_) (fun hc38 => ?_)
 · refine xg 4 [68, 69, 70] (deep != (0 : Int)) (fun hc39 => ?_) (fun hc39 => ?_)
   · have hc39 := ne_of_bne hc39
     refine xb 1 3 k28_b1 ?_
     refine xwm 1 ((↑way.length : Int) + 1) (↑(way.length + 1) : Int) ?_
     refine xin 5 (↑(way.length + 1) : Int) deep (fun hc40 => ?_) (fun hc40 => ?_)
     · refine xd 1 (.t w.heap.size [52, 45]) ?_
       have k28_b1'4 := k28_b1.below (below_drew W28)
       refine xbt (.e [1] 2) 0 w.heap.size [52, 45] k28_b1'4 ?_
       refine xm2 0 0 3 ?_ ?_
       · have k28_b24'5 := k28_b24.below (below_drew W28)
         refine xlv 0 k28_b24'5.rp ?_
         refine yc (.o [] 3) (args := #[.int .i64 no, .int .i64 10]) (.t w.heap.size [52, 45]) (ref11_AtN no 10 _ (by decide)) ?_
         rintro _ W41 ⟨_, rfl, hb41, a5, c5, rfl, hs5⟩
         have hs41 := (Bl.next hB_28 (below_drew W28)).size
         refine ⟨(SF.of_below _ hb41), ?_⟩
         have k28_b2'4 := (k28_b2.below (below_drew W28)).below hb41
         have g2 := n2.ge n1.below
         refine ysv (.o [] 4) k28_b2'4 [.int .i64 (nodT (inB l no)), .bool (nodL (inB l no)), .slice kp (nodC (inB l no)) kc, .slice vp (nodC (inB l no)) vc] (.t w.heap.size [52, 45]) fun W42 u42 k42 => ⟨(sft_upd u42 k28_b2'4 g2 (by decide)), ?_⟩
         have k28_b3'4 := u42.blkT ((k28_b3.below (below_drew W28)).below hb41) k28_b2'4 (by decide)
         have g3 := n3.ge (Bl.next n1.below n2.below)
         refine ysv (.o [] 5) k28_b3'4 [.slice a5 1 c5, .int .i64 10] (.t w.heap.size [52, 45]) fun W43 u43 k43 => ⟨(sft_upd u43 k28_b3'4 g3 (by decide)), ?_⟩
         have hB'14 := u43.below (u42.below (Bl.next (Bl.next hB_28 (below_drew W28)) hb41) g2) g3
         have hs5'5 := u43.own2 (u42.own2 (own_mono hs5 hs41) k28_b2'4 (by decide)) k28_b3'4 (by decide)
         have k42'1 := u43.blkT k42 k28_b3'4 (by decide)
         refine xecm 4 [(b2, [.int .i64 (nodT (inB l no)), .bool (nodL (inB l no)), .slice kp (nodC (inB l no)) kc, .slice vp (nodC (inB l no)) vc]), (b3, [.slice a5 1 c5, .int .i64 10])] ⟨⟨_, k42'1⟩, ⟨_, k43⟩, trivial⟩ (.tuple #[.agg #[.int .i64 (nodT (inB l no)), .bool (nodL (inB l no)), .slice kp (nodC (inB l no)) kc, .slice vp (nodC (inB l no)) vc], .agg #[.slice a5 1 c5, .int .i64 10]]) ?_
         have he : (lookE l way no tree lo hi deep) = 10 := by unfold lookE; rw [if_neg (by rw [hh]; decide), if_neg (by omega), if_neg (by rw [hne]; decide), if_neg (by have := nodK_fits hne hr (fun j hj => hall j (by omega)); unfold nodK at this; rw [this]; decide), if_pos ⟨by assumption, by omega, by omega⟩]
         exact .inl ⟨by rw [he]; decide, _, _, _, _, _, _, _, _, _, _, by rw [he], hB'14, hs5'5⟩
       refine yc 0 (args := #[.int .i64 no, .int .i64 10]) (.t w.heap.size [52, 45]) (ref11_AtN no 10 _ (by decide)) ?_
       rintro _ W44 ⟨_, rfl, hb44, a5, c5, rfl, hs5⟩
       have hs44 := (Bl.next hB_28 (below_drew W28)).size
       refine ⟨(SF.of_below _ hb44), ?_⟩
       have k28_b24'6 := (k28_b24.below (below_drew W28)).below hb44
       refine xlv (.o [] 0) k28_b24'6.rp ?_
       have k28_b2'5 := (k28_b2.below (below_drew W28)).below hb44
       have g2 := n2.ge n1.below
       refine ysv (.o [] 4) k28_b2'5 [.int .i64 (nodT (inB l no)), .bool (nodL (inB l no)), .slice kp (nodC (inB l no)) kc, .slice vp (nodC (inB l no)) vc] (.t w.heap.size [52, 45]) fun W45 u45 k45 => ⟨(sft_upd u45 k28_b2'5 g2 (by decide)), ?_⟩
       have k28_b3'5 := u45.blkT ((k28_b3.below (below_drew W28)).below hb44) k28_b2'5 (by decide)
       have g3 := n3.ge (Bl.next n1.below n2.below)
       refine ysv (.o [] 5) k28_b3'5 [.slice a5 1 c5, .int .i64 10] (.t w.heap.size [52, 45]) fun W46 u46 k46 => ⟨(sft_upd u46 k28_b3'5 g3 (by decide)), ?_⟩
       have hB'15 := u46.below (u45.below (Bl.next (Bl.next hB_28 (below_drew W28)) hb44) g2) g3
       have hs5'6 := u46.own2 (u45.own2 (own_mono hs5 hs44) k28_b2'5 (by decide)) k28_b3'5 (by decide)
       have k45'1 := u46.blkT k45 k28_b3'5 (by decide)
       refine xecm 4 [(b2, [.int .i64 (nodT (inB l no)), .bool (nodL (inB l no)), .slice kp (nodC (inB l no)) kc, .slice vp (nodC (inB l no)) vc]), (b3, [.slice a5 1 c5, .int .i64 10])] ⟨⟨_, k45'1⟩, ⟨_, k46⟩, trivial⟩ (.tuple #[.agg #[.int .i64 (nodT (inB l no)), .bool (nodL (inB l no)), .slice kp (nodC (inB l no)) kc, .slice vp (nodC (inB l no)) vc], .agg #[.slice a5 1 c5, .int .i64 10]]) ?_
       have he : (lookE l way no tree lo hi deep) = 10 := by unfold lookE; rw [if_neg (by rw [hh]; decide), if_neg (by omega), if_neg (by rw [hne]; decide), if_neg (by have := nodK_fits hne hr (fun j hj => hall j (by omega)); unfold nodK at this; rw [this]; decide), if_pos ⟨by assumption, by omega, by omega⟩]
       exact .inl ⟨by rw [he]; decide, _, _, _, _, _, _, _, _, _, _, by rw [he], hB'15, hs5'6⟩
     refine xlv 4 k28_b24.rp ?_
     refine xsv 1 k28_b2 [.int .i64 (nodT (inB l no)), .bool (nodL (inB l no)), .slice kp (nodC (inB l no)) kc, .slice vp (nodC (inB l no)) vc] fun W47 u47 k47 => ?_
     have g2 := n2.ge n1.below
     have k28_b3'6 := u47.blkT k28_b3 k28_b2 (by decide)
     refine xsv 0 k28_b3'6 [.slice none 0 0, .int .i64 0] fun W48 u48 k48 => ?_
     have g3 := n3.ge (Bl.next n1.below n2.below)
     have hB'16 := u48.below (u47.below hB_28 g2) g3
     have hk'4 := u48.own2 (u47.own2 hk k28_b2 (by decide)) k28_b3'6 (by decide)
     have hv_'3 := u48.own2 (u47.own2 hv_ k28_b2 (by decide)) k28_b3'6 (by decide)
     have k47'1 := u48.blkT k47 k28_b3'6 (by decide)
     refine xecm 3 [(b2, [.int .i64 (nodT (inB l no)), .bool (nodL (inB l no)), .slice kp (nodC (inB l no)) kc, .slice vp (nodC (inB l no)) vc]), (b3, [.slice none 0 0, .int .i64 0])] ⟨⟨_, k47'1⟩, ⟨_, k48⟩, trivial⟩ (.tuple #[.agg #[.int .i64 (nodT (inB l no)), .bool (nodL (inB l no)), .slice kp (nodC (inB l no)) kc, .slice vp (nodC (inB l no)) vc], .agg #[.slice none 0 0, .int .i64 0]]) ?_
     have he : (lookE l way no tree lo hi deep) = 0 := by unfold lookE; rw [if_neg (by rw [hh]; decide), if_neg (by omega), if_neg (by rw [hne]; decide), if_neg (by have := nodK_fits hne hr (fun j hj => hall j (by omega)); unfold nodK at this; rw [this]; decide), if_neg]; rintro ⟨q1, q2, q3⟩; omega
     exact .inr ⟨he, _, _, _, _, rfl, hB'16, hk'4, hv_'3⟩
   have hc39 := eq_of_bne_false hc39
   refine xlv 14 k28_b24.rp ?_
   refine xsv 1 k28_b2 [.int .i64 (nodT (inB l no)), .bool (nodL (inB l no)), .slice kp (nodC (inB l no)) kc, .slice vp (nodC (inB l no)) vc] fun W49 u49 k49 => ?_
   have g2 := n2.ge n1.below
   have k28_b3'7 := u49.blkT k28_b3 k28_b2 (by decide)
   refine xsv 0 k28_b3'7 [.slice none 0 0, .int .i64 0] fun W50 u50 k50 => ?_
   have g3 := n3.ge (Bl.next n1.below n2.below)
   have hB'17 := u50.below (u49.below hB_28 g2) g3
   have hk'5 := u50.own2 (u49.own2 hk k28_b2 (by decide)) k28_b3'7 (by decide)
   have hv_'4 := u50.own2 (u49.own2 hv_ k28_b2 (by decide)) k28_b3'7 (by decide)
   have k49'1 := u50.blkT k49 k28_b3'7 (by decide)
   refine xecm 3 [(b2, [.int .i64 (nodT (inB l no)), .bool (nodL (inB l no)), .slice kp (nodC (inB l no)) kc, .slice vp (nodC (inB l no)) vc]), (b3, [.slice none 0 0, .int .i64 0])] ⟨⟨_, k49'1⟩, ⟨_, k50⟩, trivial⟩ (.tuple #[.agg #[.int .i64 (nodT (inB l no)), .bool (nodL (inB l no)), .slice kp (nodC (inB l no)) kc, .slice vp (nodC (inB l no)) vc], .agg #[.slice none 0 0, .int .i64 0]]) ?_
   have he : (lookE l way no tree lo hi deep) = 0 := by unfold lookE; rw [if_neg (by rw [hh]; decide), if_neg (by omega), if_neg (by rw [hne]; decide), if_neg (by have := nodK_fits hne hr (fun j hj => hall j (by omega)); unfold nodK at this; rw [this]; decide), if_neg]; rintro ⟨q1, q2, q3⟩; omega
   exact .inr ⟨he, _, _, _, _, rfl, hB'17, hk'5, hv_'4⟩
 refine xlv 18 k28_b24.rp ?_
 refine xsv 1 k28_b2 [.int .i64 (nodT (inB l no)), .bool (nodL (inB l no)), .slice kp (nodC (inB l no)) kc, .slice vp (nodC (inB l no)) vc] fun W51 u51 k51 => ?_
 have g2 := n2.ge n1.below
 have k28_b3'8 := u51.blkT k28_b3 k28_b2 (by decide)
 refine xsv 0 k28_b3'8 [.slice none 0 0, .int .i64 0] fun W52 u52 k52 => ?_
 have g3 := n3.ge (Bl.next n1.below n2.below)
 have hB'18 := u52.below (u51.below hB_28 g2) g3
 have hk'6 := u52.own2 (u51.own2 hk k28_b2 (by decide)) k28_b3'8 (by decide)
 have hv_'5 := u52.own2 (u51.own2 hv_ k28_b2 (by decide)) k28_b3'8 (by decide)
 have k51'1 := u52.blkT k51 k28_b3'8 (by decide)
 refine xecm 3 [(b2, [.int .i64 (nodT (inB l no)), .bool (nodL (inB l no)), .slice kp (nodC (inB l no)) kc, .slice vp (nodC (inB l no)) vc]), (b3, [.slice none 0 0, .int .i64 0])] ⟨⟨_, k51'1⟩, ⟨_, k52⟩, trivial⟩ (.tuple #[.agg #[.int .i64 (nodT (inB l no)), .bool (nodL (inB l no)), .slice kp (nodC (inB l no)) kc, .slice vp (nodC (inB l no)) vc], .agg #[.slice none 0 0, .int .i64 0]]) ?_
 have he : (lookE l way no tree lo hi deep) = 0 := by unfold lookE; rw [if_neg (by rw [hh]; decide), if_neg (by omega), if_neg (by rw [hne]; decide), if_neg (by have := nodK_fits hne hr (fun j hj => hall j (by omega)); unfold nodK at this; rw [this]; decide), if_neg]; rintro ⟨q1, q2, q3⟩; exact absurd q1 (by simp_all)
 exact .inr ⟨he, _, _, _, _, rfl, hB'18, hk'6, hv_'5⟩
end Go.Proofs.YtinegkldgjhnpaaGreatDoor
namespace Go.Proofs.YtinegkldgjhnpaaGreatDoor
open Go.RowKit Go.Extern.Stop Go.Stop Go.Extern
set_option linter.unusedVariables false
attribute [local irreducible] wpList wpAnyH Code.wp Oper.wp Go

set_option maxRecDepth 100000 in
set_option maxHeartbeats 1000000 in
theorem value_root (w : World) :
    Calls Tryz.prog 161 #[] w (RetS (fun w' r => ∃ b, r = .slice (some ⟨b, 0, none⟩) 1 1 ∧ w.heap.size ≤ b ∧ Blk w' b [.int .i64 4, .int .i64 1, .int .i64 14399] 266) w) := by
 refine zin 3 Tryz.func161 ?_
 refine xbs 8 1 [.int .i64 4, .int .i64 1, .int .i64 14399] 266 fun b1 W1 n1 => ?_
 have g1 := n1.ge (Below.refl w.heap.size _)
 exact xe 4 (.slice (some ⟨b1, 0, none⟩) 1 1) ⟨_, rfl, n1.below, _, rfl, g1, n1.blk⟩
set_option maxRecDepth 100000 in
set_option maxHeartbeats 1000000 in
theorem value_put1 (gl gn : Nat) (n : Int) (h1 : 1 ≤ n) (h2 : n ≤ 14399) (w : World) (hl : Blk w gl [.int .i64 4, .int .i64 1, .int .i64 14399] 266) (hn : Blk w gn [.int .i64 n] 3) :
    Calls Tryz.prog 164 #[.slice (some ⟨gl, 0, none⟩) 1 1, .slice (some ⟨gn, 0, none⟩) 1 1] w (Ret (.string ⟨(leB n 4).toArray⟩) w) := by
 have hlo := h1
 have hhi := h2
 clear h2
 refine zin 51 Tryz.func164 ?_
 refine xu 19 2 ?_
 refine xlv 15 hl.rp ?_
 refine xa 0 [.int .i64 0, .int .i64 0, .int .i64 0] 266 fun b1 W1 n1 => ?_
 have d1_gl := n1.ne hl
 refine xsv 1 n1.blk [.int .i64 4, .int .i64 1, .int .i64 14399] fun W2 u2 k2 => ?_
 have g1 := n1.ge (Below.refl w.heap.size _)
 refine xd 4 .z ?_
 have hn'1 := (u2.blkT (hn.below n1.below) n1.blk (by decide)).below (below_drew W2)
 refine xb (.e [0, 1, 2] 3) 0 hn'1 ?_
 have k2'1 := k2.below (below_drew W2)
 refine xb (.e [4] 5) 1 k2'1 ?_
 refine xgk (.b [6, 7]) [23, 24] (show (decide (n < (1 : Int)) : Bool) = false from decide_eq_false (by omega)) ?_
 refine xb (.e [8, 9, 10] 11) 0 hn'1 ?_
 refine xb (.e [12] 13) 2 k2'1 ?_
 refine xk (.r [14, 15] 2) (show (decide (n > (14399 : Int)) : Bool) = false from decide_eq_false (by omega)) ?_
 refine xd 3 .z ?_
 have k2'2 := k2'1.below (below_drew W2.drew)
 refine xb (.e [0] 1) 0 k2'2 ?_
 have hn'2 := hn'1.below (below_drew W2.drew)
 refine xb (.e [2, 3, 4] 5) 0 hn'2 ?_
 refine xbs (.o [6] 7) 1 [.int .i64 4, .int .i64 n] 122 fun b4 W4 n4 => ?_
 refine yc (.o [] 8) (args := #[.slice (some ⟨b4, 0, none⟩) 1 1]) .z (Pack_4 b4 n (by omega) (by omega) _ n4.blk) ?_
 rintro _ W5 ⟨_, rfl, hb5, p2, c2, rfl, h2⟩
 have hs5 := (Bl.next (Bl.next (Bl.next (u2.below n1.below g1) (below_drew W2)) (below_drew W2.drew)) n4.below).size
 refine ⟨hb5, ?_⟩
 have o6 := World.ownsRow_nil W5 w.heap.size 5 1
 have h2'1 := own_mono h2 hs5
 have hB := Bl.next (Bl.next (Bl.next (Bl.next (u2.below n1.below g1) (below_drew W2)) (below_drew W2.drew)) n4.below) hb5
 refine xbi (.r [9, 10, 11, 12, 13] 5) fun _ _ _ _ zJ zQ zo zx zy zK => op_app (m := 4) (news := (leB n 4).map bv) (.int .u8 0) 1 1 (4) ((leB n 4).map bv) zo Tryz.underlying22 (by kernel_rfl) rfl (by decide) zx o6 zy (own_sl h2'1) (by simp [leB_len]) (bv_one _) (by unfold maxLen; omega) (by omega) hB.size (by rfl) (by simp) fun p7 c7 W7 o7 hg7 hb7 => ?_
 refine zK _ _ ?_
 refine xcv0 24 (fun _ _ _ zo zx => run_bstr zo zx (bys_of (own_sl o7) (leB_len _ _)) (leB_len _ _) Tryz.underlying22 Tryz.underlying5 Tryz.underlying9) ?_
 have hB'1 := hB.trans hb7
 exact xe 4 (.string ⟨(leB n 4).toArray⟩) ⟨rfl, hB'1⟩
end Go.Proofs.YtinegkldgjhnpaaGreatDoor
namespace Go.Proofs.YtinegkldgjhnpaaGreatDoor
open Go.RowKit Go.Extern.Stop Go.Stop Go.Extern
set_option linter.unusedVariables false
attribute [local irreducible] wpList wpAnyH Code.wp Oper.wp Go

theorem Sts.cut {α : Type} {f : α → List Value} {m : Nat} {w : World} {b : Option Addr} {c : Nat} {l : List α} (hm : ∀ x, (f x).length = m) (h : Sts f w (.slice b l.length c) l) (k : Nat) (hk : k ≤ l.length) : Sts f w (.slice (cutA b k c m) (l.drop k).length (c - k)) (l.drop k) := by
  have hlen : (l.drop k).length = l.length - k := by simp
  have hcap := Sl.cap h
  by_cases hkn : k = l.length
  · refine .inl ⟨cutA b k c m, c - k, by rw [show (l.drop k).length = 0 by omega], by omega, ?_⟩
    rw [List.drop_eq_nil_of_le (by omega)]; rfl
  rcases h with ⟨a', c', h1, h2, h3⟩ | ⟨g, off, cap, h1, h2, h3, h4⟩
  · omega
  · simp only [Value.slice.injEq] at h1
    obtain ⟨rfl, _, rfl⟩ := h1
    refine .inr ⟨g, off + k * m, c - k, ?_, by omega, by omega, fun j x hj => ?_⟩
    · rw [cutA, if_neg (by omega)]; simp [Addr.add]
    · have hfl : (l.drop k).flatMap f = (l.flatMap f).drop (k * m) := by
        conv => rhs; rw [← List.take_append_drop k l, List.flatMap_append]
        rw [List.drop_left' (by rw [flat_length hm, List.length_take, Nat.min_eq_left hk])]
      rw [hfl, List.getElem?_drop] at hj
      have := h4 _ _ hj
      rwa [← Nat.add_assoc] at this
/-- the entries of node i -/
def chunkE (l : List Ent) (m i : Nat) : List Ent := (l.drop (i * m)).take m
def keysE (c : List Ent) : List Int := c.map (·.1)
def valsE (c : List Ent) : List (List UInt8) := c.map (·.2.1)
/-- the bytes of a node -/
def nodB (t : Int) (leaf : Bool) (m v : Nat) (c : List Ent) : List UInt8 := nodeP m v (headB t leaf c.length m v) (keysE c) (valsE c) c.length
/-- a level's nodes laid from number q on -/
def levB (t : Int) (leaf : Bool) (m v : Nat) (l : List Ent) (q : Nat) (bs : List UInt8) : Nat → List UInt8
  | 0 => bs
  | i + 1 => putB (levB t leaf m v l q bs i) ((q + i) * 256) (sealB 2 ((q + i : Nat) : Int) (nodB t leaf m v (chunkE l m i)))
def upX (l : List Ent) (m q i : Nat) : Ent := (((chunkE l m i).getD 0 entD).1, leB ((q + i : Nat) : Int) 4, ((q + i : Nat) : Int))
/-- the entries of the level above -/
def upE (l : List Ent) (m q j : Nat) : List Ent := (List.range j).map (upX l m q)
theorem upE_succ (l : List Ent) (m q j : Nat) : upE l m q (j + 1) = upE l m q j ++ [upX l m q j] := by simp [upE, List.range_succ]
theorem upE_len (l : List Ent) (m q j : Nat) : (upE l m q j).length = j := by simp [upE]
theorem upE_get {l : List Ent} {m q j i : Nat} (h : i < j) : (upE l m q j).getD i entD = upX l m q i := by simp [upE, List.getD, List.getElem?_range h]
theorem chunk_len (l : List Ent) (m i : Nat) : (chunkE l m i).length = sizN l.length m i := by simp [chunkE, sizN]
theorem chunk_get {l : List Ent} {m i j : Nat} (h : j < sizN l.length m i) : (chunkE l m i).getD j entD = l.getD (i * m + j) entD := by
  unfold sizN at h
  simp [chunkE, List.getD, List.getElem?_take_of_lt (show j < m by omega), List.getElem?_drop]
theorem keysE_get {c : List Ent} {j : Nat} (h : j < c.length) : (keysE c).getD j 0 = (c.getD j entD).1 := by simp [keysE, List.getD, h]
theorem valsE_get {c : List Ent} {j : Nat} (h : j < c.length) : (valsE c).getD j [] = (c.getD j entD).2.1 := by simp [valsE, List.getD, h]
theorem keysE_len (c : List Ent) : (keysE c).length = c.length := by simp [keysE]
theorem valsE_len (c : List Ent) : (valsE c).length = c.length := by simp [valsE]
theorem siz_lt {n m i : Nat} (hm : 1 ≤ m) (hn : 1 ≤ n) (h : i < ovN n m) : i * m < n := by
  unfold ovN at h
  rcases Nat.eq_zero_or_pos i with rfl | hi
  · omega
  have h2 : i < (n + m - 1) / m := by omega
  have h3 := (Nat.lt_div_iff_mul_lt (by omega)).1 h2
  omega
theorem chunk_ok {t : Int} {leaf : Bool} {m v : Nat} {l : List Ent} (E : EntsOk v l) (h1 : 1 ≤ t) (h2 : t ≤ 5) (hm : maxN t leaf = m) (hv : widN t leaf = v) (hl : leaf = false → 1 ≤ l.length) {i : Nat} (hi : i < ovN l.length m) : NodeOk t leaf (chunkE l m i).length m v (keysE (chunkE l m i)) (valsE (chunkE l m i)) := by
  have hm1 := (maxN_pos t leaf).1
  rw [hm] at hm1
  have hlen := chunk_len l m i
  have hile := siz_le hm1 hi
  have hle : (chunkE l m i).length ≤ l.length - i * m := by rw [hlen]; unfold sizN; omega
  have key : ∀ j, j < (chunkE l m i).length → i * m + j < l.length ∧ (keysE (chunkE l m i)).getD j 0 = (l.getD (i * m + j) entD).1 ∧ (valsE (chunkE l m i)).getD j [] = (l.getD (i * m + j) entD).2.1 := fun j hj => by
    refine ⟨by omega, ?_, ?_⟩
    · rw [keysE_get hj, chunk_get (by omega)]
    · rw [valsE_get hj, chunk_get (by omega)]
  refine ⟨h1, h2, hm, hv, keysE_len _, valsE_len _, by rw [hlen]; unfold sizN; omega, fun h => ?_, fun j hj => ?_, fun j hj => ?_, fun j hj => ?_⟩
  · have := siz_lt hm1 (hl h) hi
    rw [hlen]; unfold sizN; omega
  · obtain ⟨a1, a2, _⟩ := key j hj
    rw [a2]; exact E.hk _ a1
  · obtain ⟨a1, a2, _⟩ := key j (by omega)
    obtain ⟨b1, b2, _⟩ := key (j + 1) hj
    rw [a2, b2]; exact E.hs _ (by omega)
  · obtain ⟨a1, _, a3⟩ := key j hj
    rw [a3]; exact E.hw _ a1
theorem nodB_len {t : Int} {leaf : Bool} {m v : Nat} {c : List Ent} (N : NodeOk t leaf c.length m v (keysE c) (valsE c)) : (nodB t leaf m v c).length = 244 := by
  have hf := fitN t leaf
  rw [N.hm, N.hv] at hf
  exact nodeP_len (headB_len _ _ _ _ _) hf N.hn (fun j hj => N.hw j hj)
theorem siz_elem {w : World} {b : Option Addr} {n m c : Nat} (h : Sl w (.slice b (ovN n m) c) (ovN n m) ((sizL n m).map nv)) {k : Nat} (hk : k < ovN n m) : b.isSome = true ∧ w.cell? (elemAddr b (k * 1)) = some (.int .i64 ((sizN n m k : Nat) : Int)) := by
  have := nv_elem h (sizL_len n m) hk
  rwa [show (sizL n m).getD k 0 = sizN n m k from by simp [sizL, List.getD, List.getElem?_range hk]] at this
theorem keys_take {l : List Ent} {j : Nat} (h : j < l.length) : ((keysE l).take (j + 1)).map (Value.int .i64) = ((keysE l).take j).map (Value.int .i64) ++ [.int .i64 (l.getD j entD).1] := by
  rw [List.take_succ_eq_append_getElem (by rw [keysE_len]; exact h)]
  simp [keysE, List.getD, h]
theorem vals_take {l : List Ent} {j : Nat} (h : j < l.length) : ((valsE l).take (j + 1)).map sv = ((valsE l).take j).map sv ++ [.string ⟨(l.getD j entD).2.1.toArray⟩] := by
  rw [List.take_succ_eq_append_getElem (by rw [valsE_len]; exact h)]
  simp [valsE, List.getD, h, sv]
theorem keys_chunk {l : List Ent} {m i s : Nat} (hs : sizN l.length m i = s) : (keysE (l.drop (i * m))).take s = keysE (chunkE l m i) := by
  subst hs
  unfold keysE chunkE sizN
  rw [← List.map_take]
  congr 1
  rw [List.take_eq_take_iff]; simp
theorem vals_chunk {l : List Ent} {m i s : Nat} (hs : sizN l.length m i = s) : (valsE (l.drop (i * m))).take s = valsE (chunkE l m i) := by
  subst hs
  unfold valsE chunkE sizN
  rw [← List.map_take]
  congr 1
  rw [List.take_eq_take_iff]; simp
theorem EntsOk.mono {v : Nat} {l : List Ent} (E : EntsOk v l) : ∀ {a b : Nat}, a < b → b < l.length → (l.getD a entD).1 < (l.getD b entD).1 := by
  intro a b h hb
  induction b with
  | zero => omega
  | succ b ih =>
    have h1 := E.hs b (by omega)
    rcases Nat.lt_or_ge a b with h2 | h2
    · have := ih h2 (by omega); omega
    · obtain rfl : a = b := by omega
      exact h1
theorem up_key {v : Nat} {l : List Ent} {m : Nat} (hm : 1 ≤ m) (hl : 1 ≤ l.length) {i q : Nat} (hi : i < ovN l.length m) : (upX l m q i).1 = (l.getD (i * m) entD).1 ∧ i * m < l.length := by
  have h := siz_lt hm hl hi
  refine ⟨?_, h⟩
  unfold upX
  rw [chunk_get (by unfold sizN; omega)]; rfl
theorem up_ok {v : Nat} {l : List Ent} (E : EntsOk v l) {m q : Nat} (hm : 1 ≤ m) : EntsOk 4 (upE l m q (ovN l.length m)) := by
  rcases Nat.eq_zero_or_pos l.length with h0 | hl
  · have h1 : ovN l.length m = 1 := by
      rw [h0]; unfold ovN
      have : (0 + m - 1) / m = 0 := Nat.div_eq_of_lt (by omega)
      omega
    have hnil : l = [] := List.eq_nil_of_length_eq_zero h0
    subst hnil
    constructor
    · intro i hi; rw [upE_len, h1] at hi; rw [upE_get (by omega)]; simp [upX, chunkE, entD]
    · intro j hj; rw [upE_len, h1] at hj; omega
    · intro i hi; rw [upE_len, h1] at hi; rw [upE_get (by omega)]; simp [upX, leB_len]
  constructor
  · intro i hi
    rw [upE_len] at hi
    obtain ⟨h1, h2⟩ := up_key (v := v) (q := q) hm hl hi
    rw [upE_get hi, h1]; exact E.hk _ h2
  · intro j hj
    rw [upE_len] at hj
    obtain ⟨h1, h2⟩ := up_key (v := v) (q := q) hm hl hj
    obtain ⟨h3, h4⟩ := up_key (v := v) (q := q) hm hl (show j < ovN l.length m by omega)
    rw [upE_get hj, upE_get (by omega), h1, h3]
    refine E.mono ?_ h2
    rw [Nat.add_mul]; omega
  · intro i hi
    rw [upE_len] at hi
    rw [upE_get hi]; simp [upX, leB_len]
/-- the levels above: the root's number, and the bytes -/
def treeUp (t : Int) (u : List Ent) (q : Nat) (bs : List UInt8) : Int × List UInt8 :=
  if h : u.length ≤ 1 then ((u.getD 0 entD).2.2, bs)
  else treeUp t (upE u 18 q (ovN u.length 18)) (q + ovN u.length 18) (levB t false 18 4 u q bs (ovN u.length 18))
termination_by u.length
decreasing_by rw [upE_len]; have := ov18 (x := u.length) (by omega); omega
theorem treeUp_one {t : Int} {u : List Ent} {q : Nat} {bs : List UInt8} (h : u.length ≤ 1) : treeUp t u q bs = ((u.getD 0 entD).2.2, bs) := by rw [treeUp]; simp [h]
theorem treeUp_more {t : Int} {u : List Ent} {q : Nat} {bs : List UInt8} (h : ¬ u.length ≤ 1) : treeUp t u q bs = treeUp t (upE u 18 q (ovN u.length 18)) (q + ovN u.length 18) (levB t false 18 4 u q bs (ovN u.length 18)) := by rw [treeUp]; simp [h]
/-- a packed tree laid from number q on -/
def treeB (t : Int) (l : List Ent) (q : Nat) (bs : List UInt8) : Int × List UInt8 :=
  treeUp t (upE l (maxN t true) q (ovN l.length (maxN t true))) (q + ovN l.length (maxN t true)) (levB t true (maxN t true) (widN t true) l q bs (ovN l.length (maxN t true)))
/-- the root is the last number -/
theorem treeUp_root {t : Int} {u : List Ent} {q : Nat} {bs : List UInt8} (h1 : 1 ≤ u.length) (hu : (u.getD (u.length - 1) entD).2.2 = ((q - 1 : Nat) : Int)) (hq : 1 ≤ q) : (treeUp t u q bs).1 = ((q - 1 + ((levs u.length).sum - u.length) : Nat) : Int) := by
  induction hx : u.length using Nat.strongRecOn generalizing u q bs with
  | _ x ih =>
    subst hx
    by_cases h : u.length ≤ 1
    · rw [treeUp_one h, levs_one h]
      rw [show u.length - 1 = 0 by omega] at hu
      show (u.getD 0 entD).2.2 = _
      rw [hu]; simp
    · have h18 := ov18 (x := u.length) (by omega)
      have hp := ovN_pos u.length 18
      rw [treeUp_more h, ih (ovN u.length 18) (by omega) (u := upE u 18 q (ovN u.length 18)) (q := q + ovN u.length 18) (by rw [upE_len]; exact hp) ?_ (by omega) (upE_len _ _ _ _), levs_more h]
      · have hge := levs_ge (ovN u.length 18)
        simp only [List.sum_cons]
        congr 1
        omega
      · rw [upE_len, upE_get (by omega)]
        simp only [upX]
        congr 1
        omega
theorem up_row {l : List Ent} {m q i : Nat} {key : Int} (hk : key = ((chunkE l m i).getD 0 entD).1) : (upE l m q i).flatMap entC ++ [.int .i64 key, .string ⟨(leB ((q + i : Nat) : Int) 4).toArray⟩, .int .i64 ((q + i : Nat) : Int)] = (upE l m q (i + 1)).flatMap entC := by
  subst hk; rw [upE_succ]; simp [entC, upX]
theorem chunk_key {l : List Ent} {m i j : Nat} (hs : sizN l.length m i = j) (hj : 0 < j) : ((keysE (chunkE l m i))).getD 0 0 = ((chunkE l m i).getD 0 entD).1 := keysE_get (by rw [chunk_len]; omega)
theorem chunk_nokey {l : List Ent} {m i j : Nat} (hs : sizN l.length m i = j) (hj : j = 0) : (0 : Int) = ((chunkE l m i).getD 0 entD).1 := by
  have : chunkE l m i = [] := List.eq_nil_of_length_eq_zero (by rw [chunk_len]; omega)
  rw [this]; rfl
end Go.Proofs.YtinegkldgjhnpaaGreatDoor
namespace Go.Proofs.YtinegkldgjhnpaaGreatDoor
open Go.RowKit Go.Extern.Stop Go.Stop Go.Extern
set_option linter.unusedVariables false
/-- a fault of the document's, and where its blocks lie -/
structure Ft where
  bl : List Int
  c : Int
  fa : Option Addr
  fc : Nat
def fltC (f : Ft) : List Value := [.slice f.fa f.bl.length f.fc, .int .i64 f.c]
theorem fltC_len (f : Ft) : (fltC f).length = 2 := rfl
def fltP (f : Ft) : List Int × Int := (f.bl, f.c)
def wtC (t : Wt) : List Value := [.int .i64 t.no, .int .i64 t.lo, .int .i64 t.hi, .slice t.wa t.way.length t.wc, .int .i64 t.ft]
theorem wtC_len (t : Wt) : (wtC t).length = 5 := rfl
/-- a row of numbers of the call's own -/
def IntsAt (B : Nat) (w : World) (a : Option Addr) (c : Nat) (l : List Int) : Prop := w.ownsRow B 3 1 (.slice a l.length c) l.length (l.map (Value.int .i64))
theorem IntsAt.below {B : Nat} {w W : World} {a : Option Addr} {c : Nat} {l : List Int} (h : IntsAt B w a c l) (hb : Below w.heap.size w W) : IntsAt B W a c l := own_below h hb
theorem IntsAt.only {B : Nat} {w W : World} {a : Option Addr} {c : Nat} {l : List Int} {T : List TypeId} (h : IntsAt B w a c l) (hO : Only T w W) (hT : T.contains 3 = false) : IntsAt B W a c l := own_only h hO hT
theorem IntsAt.mono {B B' : Nat} {w : World} {a : Option Addr} {c : Nat} {l : List Int} (h : IntsAt B w a c l) (hB : B' ≤ B) : IntsAt B' w a c l := own_mono h hB
theorem IntsAt.ints {B : Nat} {w : World} {a : Option Addr} {c : Nat} {l : List Int} (h : IntsAt B w a c l) : Ints w (.slice a l.length c) l := own_sl h
theorem own_size {w : World} {base e size n : Nat} {v : Value} {xs : List Value} (h : w.ownsRow base e size v n xs) (hn : 0 < n) : base ≤ w.heap.size := by
  rcases h.2 with ⟨_, h0⟩ | ⟨g, cap, cur, hv, hb, hh, _⟩
  · omega
  · have := (Array.getElem?_eq_some_iff.1 hh).1
    omega
abbrev RowK := List Int × Option Addr × Nat
def wayK (t : Wt) : RowK := (t.way, t.wa, t.wc)
def fltK (f : Ft) : RowK := (f.bl, f.fa, f.fc)
/-- rows of numbers that lie apart from a row u -/
def KeptI (B : Nat) (w : World) (u : Value) (L : List RowK) : Prop := ∀ x ∈ L, IntsAt B w x.2.1 x.2.2 x.1 ∧ Apart (.slice x.2.1 x.1.length x.2.2) u
theorem KeptI.below {B : Nat} {w W : World} {u : Value} {L : List RowK} (h : KeptI B w u L) (hb : Below w.heap.size w W) : KeptI B W u L := fun x hx => ⟨(h x hx).1.below hb, (h x hx).2⟩
theorem KeptI.only {B : Nat} {w W : World} {u : Value} {L : List RowK} {T : List TypeId} (h : KeptI B w u L) (hO : Only T w W) (hT : T.contains 3 = false) : KeptI B W u L := fun x hx => ⟨(h x hx).1.only hO hT, (h x hx).2⟩
theorem KeptI.grow {B base e size n : Nat} {w W : World} {u u' : Value} {xs : List Value} {L : List RowK} (h : KeptI B w u L) (k : w.ownsRow base e size u n xs) (hg : w.grownBy W u.ownBlock) (ha : u'.ownBlock = u.ownBlock ∨ u'.ownBlock = some w.heap.size) : KeptI B W u' L :=
  fun x hx => ⟨(h x hx).2.symm.row (h x hx).1 hg, ((h x hx).2.symm.grow (h x hx).1 ha).symm⟩
theorem KeptI.sub {B : Nat} {w : World} {u : Value} {L L' : List RowK} (h : KeptI B w u L) (hs : ∀ x ∈ L', x ∈ L) : KeptI B w u L' := fun x hx => h x (hs x hx)
theorem KeptI.snoc {B : Nat} {w : World} {u : Value} {L : List RowK} {x : RowK} (h : KeptI B w u L) (k : IntsAt B w x.2.1 x.2.2 x.1) (ha : Apart (.slice x.2.1 x.1.length x.2.2) u) : KeptI B w u (L ++ [x]) := fun y hy => by
  rcases List.mem_append.1 hy with hy | hy
  · exact h y hy
  · rw [List.mem_singleton.1 hy]; exact ⟨k, ha⟩
/-- the visits that wait, as a part of a row of the call's own -/
def SufV (B : Nat) (w : World) (a : Option Addr) (c : Nat) (ts : List Wt) : Prop := ∃ v0 n0 xs0, w.ownsRow B 102 5 v0 n0 xs0 ∧ ∀ W, W.ownsRow B 102 5 v0 n0 xs0 → Sts wtC W (.slice a ts.length c) ts
theorem SufV.below {B : Nat} {w W : World} {a : Option Addr} {c : Nat} {ts : List Wt} (h : SufV B w a c ts) (hb : Below w.heap.size w W) : SufV B W a c ts := by
  obtain ⟨v0, n0, xs0, h1, h2⟩ := h
  exact ⟨v0, n0, xs0, own_below h1 hb, h2⟩
theorem SufV.only {B : Nat} {w W : World} {a : Option Addr} {c : Nat} {ts : List Wt} {T : List TypeId} (h : SufV B w a c ts) (hO : Only T w W) (hT : T.contains 102 = false) : SufV B W a c ts := by
  obtain ⟨v0, n0, xs0, h1, h2⟩ := h
  exact ⟨v0, n0, xs0, own_only h1 hO hT, h2⟩
theorem SufV.sts {B : Nat} {w : World} {a : Option Addr} {c : Nat} {ts : List Wt} (h : SufV B w a c ts) : Sts wtC w (.slice a ts.length c) ts := by
  obtain ⟨v0, n0, xs0, h1, h2⟩ := h
  exact h2 w h1
theorem SufV.of {B : Nat} {w : World} {a : Option Addr} {n c : Nat} {ts : List Wt} (h : w.ownsRow B 102 5 (.slice a n c) n (ts.flatMap wtC)) (hn : n = ts.length) : SufV B w a c ts := by
  subst hn
  exact ⟨_, _, _, h, fun W k => own_sl k⟩
theorem SufV.tail {B : Nat} {w : World} {a : Option Addr} {c : Nat} {t : Wt} {ts : List Wt} (h : SufV B w a c (t :: ts)) : SufV B w (cutA a 1 c 5) (c - 1) ts := by
  obtain ⟨v0, n0, xs0, h1, h2⟩ := h
  exact ⟨v0, n0, xs0, h1, fun W k => Sts.cut wtC_len (h2 W k) 1 (by simp)⟩
theorem sts_eq {w : World} {a : Option Addr} {c : Nat} {ts us : List Wt} (h : Sts wtC w (.slice a ts.length c) ts) (e : ts = us) : Sts wtC w (.slice a us.length c) us := by subst e; exact h
/-- the look's two ways, with what lies apart from a row -/
theorem RLookP.or {base e size n : Nat} {u : Value} {xs : List Value} {l : List UInt8} {way : List Int} {no tree lo hi deep : Int} {w : World} {e' : Ending} {w' : World} (k : w.ownsRow base e size u n xs) (h : RLookP l way no tree lo hi deep w e' w') :
    (lookE l way no tree lo hi deep ≠ 0 ∧ ∃ a4 b4 k4 n4 c4 v4 m4 d4 a c, e' = .returned (.tuple #[.agg #[.int .i64 a4, .bool b4, .slice k4 n4 c4, .slice v4 m4 d4], .agg #[.slice a 1 c, .int .i64 (lookE l way no tree lo hi deep)]]) ∧ Below w.heap.size w w' ∧ IntsAt w.heap.size w' a c [no]) ∨
    (lookE l way no tree lo hi deep = 0 ∧ ∃ kp kc vp vc, e' = .returned (.tuple #[.agg #[.int .i64 (nodT (inB l no)), .bool (nodL (inB l no)), .slice kp (nodC (inB l no)) kc, .slice vp (nodC (inB l no)) vc], .agg #[.slice none 0 0, .int .i64 0]]) ∧ Below w.heap.size w w' ∧
      w'.ownsRow w.heap.size 3 1 (.slice kp (nodC (inB l no)) kc) (nodC (inB l no)) ((nodK l no).map (Value.int .i64)) ∧ Apart u (.slice kp (nodC (inB l no)) kc) ∧ w'.ownsRow w.heap.size 9 1 (.slice vp (nodC (inB l no)) vc) (nodC (inB l no)) ((nodV l no).map sv)) := by
  rcases h with ⟨h0, a4, b4, k4, n4, c4, v4, m4, d4, a, c, h1, h2, h3⟩ | ⟨h0, kp, kc, vp, vc, h1, h2, h3, h4⟩
  · exact .inl ⟨h0, a4, b4, k4, n4, c4, v4, m4, d4, a, c, h1, h2, h3⟩
  · exact .inr ⟨h0, kp, kc, vp, vc, h1, h2, h3, Apart.of_lt k h3 (Nat.le_refl _), h4⟩
theorem ref14_wrapK (wa : Option Addr) (wc : Nat) (way : List Int) (er : Int) (B : Nat) (a0 : Option Addr) (c0 : Nat) (no : Int) (w : World) (he : er ≠ 0) (hw : Ints w (.slice wa way.length wc) way) (hwl : way.length ≤ 100000) (h0 : IntsAt B w a0 c0 [no]) :
    Calls Tryz.prog 40 #[.slice wa way.length wc, .agg #[.slice a0 1 c0, .int .i64 er]] w (fun e w' => ∃ a c, e = .returned (.agg #[.slice a (way ++ [no]).length c, .int .i64 er]) ∧ Below w.heap.size w w' ∧ IntsAt B w' a c (way ++ [no])) := by
  refine (ref14_wrap B wa wc way er a0 1 c0 [no] w (own_size h0 (by simp)) he hw hwl rfl (by decide) h0).mono ?_
  rintro e W ⟨_, rfl, hb, a, n, c, rfl, hn, ho⟩
  obtain rfl : n = (way ++ [no]).length := by simp [hn]
  exact ⟨a, c, rfl, hb, ho⟩
theorem ref11_AtK (no er : Int) (w : World) (he : er ≠ 0) : Calls Tryz.prog 41 #[.int .i64 no, .int .i64 er] w (fun e w' => ∃ a c, e = .returned (.agg #[.slice a 1 c, .int .i64 er]) ∧ Below w.heap.size w w' ∧ IntsAt w.heap.size w' a c [no]) := by
  refine (ref11_AtN no er w he).mono ?_
  rintro e W ⟨_, rfl, hb, a, c, rfl, ho⟩
  exact ⟨a, c, rfl, hb, ho⟩
/-- what the document's scan hands back -/
def RScanP (S : WS) (w : World) (e : Ending) (w' : World) : Prop :=
  ∃ (pe pb pf : Option Addr) (ce cb cf : Nat) (fv : List Ft), e = .returned (.agg #[.slice pe S.es.length ce, .slice pb S.bs.length cb, .int .i64 S.deep, .int .i64 (S.looked : Int), .slice pf fv.length cf]) ∧ Below w.heap.size w w' ∧
    w'.ownsRow w.heap.size 108 3 (.slice pe S.es.length ce) S.es.length (S.es.flatMap entC) ∧ w'.ownsRow w.heap.size 3 1 (.slice pb S.bs.length cb) S.bs.length (S.bs.map (Value.int .i64)) ∧
    w'.ownsRow w.heap.size 45 2 (.slice pf fv.length cf) fv.length (fv.flatMap fltC) ∧ fv.map fltP = S.fs ∧ KeptI w.heap.size w' (.slice pb S.bs.length cb) (fv.map fltK)
/-- what is known of the visits that wait -/
structure WaitOk (l : List UInt8) (tree fuel : Int) (G : WS) (ts : List Wt) (s : WS) : Prop where
  dry : s.dry = false
  all : doneW l tree fuel ts s = G
  way : ∀ t ∈ ts, t.way.length ≤ 16
  right : ∀ t ∈ ts, t.ft = 0 → rightB t.lo t.hi = true
  few : ts.length + 20 * (fuel.toNat - s.looked) ≤ 20 * fuel.toNat + 1
theorem WaitOk.grow {l : List UInt8} {tree fuel : Int} {G : WS} {ts : List Wt} {s : WS} (h : WaitOk l tree fuel G ts s) : Grow s G := h.all ▸ doneW_grow l tree fuel ts s
theorem WaitOk.nil {l : List UInt8} {tree fuel : Int} {G : WS} {s : WS} (h : WaitOk l tree fuel G [] s) : G = s := h.all.symm
theorem WaitOk.fault {l : List UInt8} {tree fuel : Int} {G : WS} {t : Wt} {ts : List Wt} {s : WS} (h : WaitOk l tree fuel G (t :: ts) s) (hf : t.ft ≠ 0) : WaitOk l tree fuel G ts (noteW t.way [t.no] t.ft s) :=
  ⟨h.dry, by rw [← one_fault h.dry hf]; exact h.all, fun x hx => h.way x (List.mem_cons_of_mem _ hx), fun x hx => h.right x (List.mem_cons_of_mem _ hx), by have q := h.few; simp only [List.length_cons] at q; show ts.length + 20 * (fuel.toNat - s.looked) ≤ _; omega⟩
theorem WaitOk.fuel {l : List UInt8} {tree fuel : Int} {G : WS} {t : Wt} {ts : List Wt} {s : WS} (h : WaitOk l tree fuel G (t :: ts) s) (hf : t.ft = 0) (hs : fuel ≤ s.looked) : G = { noteW t.way [t.no] 12 s with dry := true } := by
  rw [← h.all, doneW_cons, one_fuel h.dry hf (h.way t List.mem_cons_self) hs, doneW_dry _ _ _ _ _ rfl]
theorem WaitOk.err {l : List UInt8} {tree fuel : Int} {G : WS} {t : Wt} {ts : List Wt} {s : WS} (h : WaitOk l tree fuel G (t :: ts) s) (hf : t.ft = 0) (hs : ¬ fuel ≤ s.looked) (he : lookE l t.way t.no tree t.lo t.hi s.deep ≠ 0) :
    WaitOk l tree fuel G ts (noteW t.way [t.no] (lookE l t.way t.no tree t.lo t.hi s.deep) { s with looked := s.looked + 1 }) :=
  ⟨h.dry, by rw [← one_err h.dry hf (h.way t List.mem_cons_self) hs he]; exact h.all, fun x hx => h.way x (List.mem_cons_of_mem _ hx), fun x hx => h.right x (List.mem_cons_of_mem _ hx), by have q := h.few; simp only [List.length_cons] at q; show ts.length + 20 * (fuel.toNat - (s.looked + 1)) ≤ _; omega⟩
theorem WaitOk.leaf {l : List UInt8} {tree fuel : Int} {G : WS} {t : Wt} {ts : List Wt} {s : WS} (h : WaitOk l tree fuel G (t :: ts) s) (hf : t.ft = 0) (hs : ¬ fuel ≤ s.looked) (he : lookE l t.way t.no tree t.lo t.hi s.deep = 0) (hl : nodL (inB l t.no) = true) :
    WaitOk l tree fuel G ts { s with looked := s.looked + 1, bs := s.bs ++ [t.no], deep := ((t.way.length + 1 : Nat) : Int), es := s.es ++ leafL (nodK l t.no) (nodV l t.no) t.no (nodC (inB l t.no)) } :=
  ⟨h.dry, by rw [← one_leaf h.dry hf hs he hl]; exact h.all, fun x hx => h.way x (List.mem_cons_of_mem _ hx), fun x hx => h.right x (List.mem_cons_of_mem _ hx), by have q := h.few; simp only [List.length_cons] at q; show ts.length + 20 * (fuel.toNat - (s.looked + 1)) ≤ _; omega⟩
theorem belowW_ok {l : List UInt8} {t : Wt} {p : Option Addr} {c i : Nat} (hw : t.way.length ≤ 15) (hf : fitsI t.lo t.hi (nodK l t.no) = 0) (hi : i < nodC (inB l t.no)) : (belowW l t p c i).way.length ≤ 16 ∧ ((belowW l t p c i).ft = 0 → rightB (belowW l t p c i).lo (belowW l t p c i).hi = true) := by
  unfold belowW
  split
  · exact ⟨by simp; omega, fun _ => part_right hf (by simp [nodK, keysI]; exact hi)⟩
  · rename_i h
    refine ⟨by show t.way.length ≤ 16; omega, fun q => ?_⟩
    dsimp only at q
    exact absurd q h
theorem WaitOk.inner {l : List UInt8} {tree fuel : Int} {G : WS} {t : Wt} {ts : List Wt} {s : WS} (p : Option Addr) (c : Nat) (h : WaitOk l tree fuel G (t :: ts) s) (hf : t.ft = 0) (hs : ¬ fuel ≤ s.looked) (he : lookE l t.way t.no tree t.lo t.hi s.deep = 0) (hl : nodL (inB l t.no) = false) :
    WaitOk l tree fuel G (belowL l t p c (nodC (inB l t.no)) ++ ts) { s with looked := s.looked + 1, bs := s.bs ++ [t.no] } := by
  have hw := look_deep he
  obtain ⟨hn, hfi, hc⟩ := look_node he
  have hb : ∀ x ∈ belowL l t p c (nodC (inB l t.no)), x.way.length ≤ 16 ∧ (x.ft = 0 → rightB x.lo x.hi = true) := by
    intro x hx
    obtain ⟨i, hi, rfl⟩ := List.mem_map.1 hx
    exact belowW_ok (by omega) hfi (List.mem_range.1 hi)
  refine ⟨h.dry, by rw [doneW_app, ← one_inner p c h.dry hf hs he hl]; exact h.all, fun x hx => ?_, fun x hx => ?_, ?_⟩
  · rcases List.mem_append.1 hx with hx | hx
    · exact (hb x hx).1
    · exact h.way x (List.mem_cons_of_mem _ hx)
  · rcases List.mem_append.1 hx with hx | hx
    · exact (hb x hx).2
    · exact h.right x (List.mem_cons_of_mem _ hx)
  · have q := h.few
    simp only [List.length_cons] at q
    rw [List.length_append, belowL_len]
    show nodC (inB l t.no) + ts.length + 20 * (fuel.toNat - (s.looked + 1)) ≤ _
    omega
theorem wait0 (l : List UInt8) (root tree fuel : Int) : WaitOk l tree fuel (scanW l root tree fuel) [⟨root, 0, 281474976710656, [], 0, none, 0⟩] ws0 :=
  ⟨rfl, by rw [doneW_cons, doneW_nil, one_visit (show ws0.dry = false from rfl) (show (0 : Int) = 0 from rfl)]; unfold scanW; rw [show 17 - ([] : List Int).length = 17 from rfl], fun t ht => by rw [List.mem_singleton.1 ht]; exact Nat.zero_le _, fun t ht _ => by rw [List.mem_singleton.1 ht]; rfl, by show 1 + 20 * (fuel.toNat - 0) ≤ 20 * fuel.toNat + 1; omega⟩
/-- the rows of the visits below, kept -/
theorem KeptI.below_visits {B : Nat} {w : World} {u : Value} {l : List UInt8} {t : Wt} {ts : List Wt} {fv : List Ft} {p : Option Addr} {c n : Nat} (h : KeptI B w u ((t :: ts).map wayK ++ fv.map fltK)) (k : IntsAt B w p c (t.way ++ [t.no])) (ha : Apart (.slice p (t.way ++ [t.no]).length c) u) :
    KeptI B w u ((belowL l t p c n ++ ts).map wayK ++ fv.map fltK) := by
  intro x hx
  rcases List.mem_append.1 hx with hx | hx
  · obtain ⟨y, hy, rfl⟩ := List.mem_map.1 hx
    rcases List.mem_append.1 hy with hy | hy
    · obtain ⟨i, _, rfl⟩ := List.mem_map.1 hy
      unfold belowW
      split
      · exact ⟨k, ha⟩
      · exact h (wayK t) (by simp)
    · exact h (wayK y) (List.mem_append.2 (.inl (List.mem_map.2 ⟨y, List.mem_cons_of_mem _ hy, rfl⟩)))
  · exact h x (List.mem_append.2 (.inr hx))
theorem KeptI.note {B : Nat} {w : World} {u : Value} {t : Wt} {ts : List Wt} {fv : List Ft} {f : Ft} (h : KeptI B w u ((t :: ts).map wayK ++ fv.map fltK)) (k : IntsAt B w f.fa f.fc f.bl) (ha : Apart (.slice f.fa f.bl.length f.fc) u) :
    KeptI B w u (ts.map wayK ++ (fv ++ [f]).map fltK) := by
  intro x hx
  rcases List.mem_append.1 hx with hx | hx
  · exact h x (List.mem_append.2 (.inl (by rw [List.map_cons]; exact List.mem_cons_of_mem _ hx)))
  · rw [List.map_append] at hx
    rcases List.mem_append.1 hx with hx | hx
    · exact h x (List.mem_append.2 (.inr hx))
    · rw [List.map_cons, List.map_nil, List.mem_singleton] at hx; rw [hx]; exact ⟨k, ha⟩
theorem KeptI.drop1 {B : Nat} {w : World} {u : Value} {t : Wt} {ts : List Wt} {fv : List Ft} (h : KeptI B w u ((t :: ts).map wayK ++ fv.map fltK)) : KeptI B w u (ts.map wayK ++ fv.map fltK) := h.sub fun x hx => by
  rcases List.mem_append.1 hx with hx | hx
  · exact List.mem_append.2 (.inl (by rw [List.map_cons]; exact List.mem_cons_of_mem _ hx))
  · exact List.mem_append.2 (.inr hx)
theorem map_fltP_snoc {fv : List Ft} {fs : List (List Int × Int)} {f : Ft} (h : fv.map fltP = fs) : (fv ++ [f]).map fltP = fs ++ [(f.bl, f.c)] := by rw [List.map_append, h]; rfl
theorem IntsAt.apart {B base e size n c : Nat} {w W : World} {u : Value} {xs : List Value} {a : Option Addr} {l : List Int} (q : IntsAt B W a c l) (k : w.ownsRow base e size u n xs) (h : w.heap.size ≤ B) : Apart (.slice a l.length c) u := (Apart.of_lt k q h).symm
theorem KeptI.hd {B : Nat} {w : World} {u : Value} {t : Wt} {ts : List Wt} {L : List RowK} (h : KeptI B w u ((t :: ts).map wayK ++ L)) : IntsAt B w t.wa t.wc t.way := (h (wayK t) (by simp)).1
/-- the visits that wait, their row ahead of block N -/
def SufN (B N : Nat) (w : World) (a : Option Addr) (c : Nat) (ts : List Wt) : Prop := ∃ v0 n0 xs0, w.ownsRow B 102 5 v0 n0 xs0 ∧ (∀ j, v0.ownBlock = some j → j < N) ∧ ∀ W, W.ownsRow B 102 5 v0 n0 xs0 → Sts wtC W (.slice a ts.length c) ts
theorem SufV.at_ {B : Nat} {w : World} {a : Option Addr} {c : Nat} {ts : List Wt} (h : SufV B w a c ts) : SufN B w.heap.size w a c ts := by
  obtain ⟨v0, n0, xs0, h1, h2⟩ := h
  exact ⟨v0, n0, xs0, h1, fun j hj => (h1.lt j hj).2, h2⟩
theorem SufN.un {B N : Nat} {w : World} {a : Option Addr} {c : Nat} {ts : List Wt} (h : SufN B N w a c ts) : SufV B w a c ts := by
  obtain ⟨v0, n0, xs0, h1, _, h2⟩ := h
  exact ⟨v0, n0, xs0, h1, h2⟩
theorem SufN.below {B N : Nat} {w W : World} {a : Option Addr} {c : Nat} {ts : List Wt} (h : SufN B N w a c ts) (hb : Below w.heap.size w W) : SufN B N W a c ts := by
  obtain ⟨v0, n0, xs0, h1, h3, h2⟩ := h
  exact ⟨v0, n0, xs0, own_below h1 hb, h3, h2⟩
theorem SufN.only {B N : Nat} {w W : World} {a : Option Addr} {c : Nat} {ts : List Wt} {T : List TypeId} (h : SufN B N w a c ts) (hO : Only T w W) (hT : T.contains 102 = false) : SufN B N W a c ts := by
  obtain ⟨v0, n0, xs0, h1, h3, h2⟩ := h
  exact ⟨v0, n0, xs0, own_only h1 hO hT, h3, h2⟩
theorem SufN.updN {B N : Nat} {w w0 W W2 : World} {b : Nat} {cs : List Value} {e : TypeId} {a : Option Addr} {c : Nat} {ts : List Wt} (h : SufN B N w a c ts) (u : Upd w b W) (n : New w0 b cs e W2) (hN : N = w0.heap.size) : SufN B N W a c ts := by
  obtain ⟨v0, n0, xs0, h1, h3, h2⟩ := h
  exact ⟨v0, n0, xs0, u.own3 h1 (fun j hj => by have := h3 j hj; have := n.at_; omega), h3, h2⟩
theorem SufN.sts {B N : Nat} {w : World} {a : Option Addr} {c : Nat} {ts us : List Wt} (h : SufN B N w a c ts) (e : ts = us) : Sts wtC w (.slice a us.length c) us := sts_eq h.un.sts e
theorem SufN.tail {B N : Nat} {w : World} {a : Option Addr} {c : Nat} {ts us : List Wt} {t : Wt} (h : SufN B N w a c ts) (e : ts = t :: us) : SufV B w (cutA a 1 c 5) (c - 1) us := by subst e; exact h.un.tail
theorem SufN.slN {B N : Nat} {w : World} {a : Option Addr} {c : Nat} {ts us : List Wt} {t : Wt} (h : SufN B N w a c ts) (e : ts = t :: us) : Sl w (.slice (cutA a 1 c 5) (ts.length - 1) (c - 1)) (ts.length - 1) (us.flatMap wtC) := by subst e; exact h.un.tail.sts
theorem wt_one (ts : List Wt) : ∀ u ∈ ts.flatMap wtC, u.oneCell' = true := by
  intro u hu
  obtain ⟨t, _, h⟩ := List.mem_flatMap.1 hu
  simp only [wtC, List.mem_cons, List.not_mem_nil, or_false] at h
  rcases h with rfl | rfl | rfl | rfl | rfl <;> rfl
end Go.Proofs.YtinegkldgjhnpaaGreatDoor
