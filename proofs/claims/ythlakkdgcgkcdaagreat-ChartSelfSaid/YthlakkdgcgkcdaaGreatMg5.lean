/- (*walker).visit, given what a visit one deeper does. The plain law of a scan: what visitF finds, in plain Lean. walk.Scan. The document's answer for the layers 8, 11 and 14, read: ReadRoot, Node, has, look, At, wrap. image.Of and block.Write at an image in a row of its own. The statement WalkRises, walked. What is found of a tree is as the document has it: SameEntries, Same, same. Whole, the program's and the document's; the statements WalkScans and WalkWhole, walked. A string cut at its head or its end. No program is named here. value.ReadSlot, slots.Read and block.Index, whatever the bytes. block.Bits, whatever lies in the image. The document's answer for the layers 9 and 11: Read of a block of counts, Bits. The document's answer for the layers 10 and 11: Read of an index, Same, Bits, Index. Space maps read, plainly. Counts read, the program and the document; how many blocks of counts any number needs. Maps of the call's own, from numbers to truths, all of them true: made, written, asked, shortened, counted. tally.flat of rows that are formed so. tally.Join of rows that are formed so. chart.placed.counts. chart.all: the counts of slots, and what is above them. chart.Data and chart.Meta, whatever the bytes. build.right at any entries; build.Tree at any entries and with any room. Package alloc at any numbers: New and From with their errors, Next, Lay, Left, Used, Ahead. Package alloc at any numbers: Next, Lay, Ahead. The document's answer for layers 9 and 22: Free, bad, lay. The document's answer for layer 22: Data. slots.Put and ref10.Put: an index of slots as bytes. Counts with one more at some numbers; scantlinglaw22.free. The document's answer for layer 22: Meta with room. plot.Meta$1: a slot noted; plot.lay with that closure. plot.lay with the closure of plot.Meta: blocks of counts laid, their slots noted. The document's answer for layer 22: Meta with room, walked. -/
import Derived.Laws.StructEq
import Derived.Maps.Own
import Derived.Test.YthlakkdgcgkcdaaGreatMg4
namespace Go.Proofs.YthlakkdgcgkcdaaGreat
open Go.RowKit Go.Extern.Stop Go.Stop Go.Extern
set_option linter.unusedVariables false
attribute [local irreducible] wpList wpAnyH Code.wp Oper.wp Go

theorem LookP.or {B bw : Nat} {cs : List Value} {l : List UInt8} {way : List Int} {no tree lo hi deep : Int} {w : World} {e : Ending} {w' : World} (h : LookP B bw cs l way no tree lo hi deep w e w') :
    (lookE l way no tree lo hi deep ≠ 0 ∧ ∃ a4 b4 k4 n4 c4 v4 m4 d4 ty x, e = .returned (.tuple #[.agg #[.int .i64 a4, .bool b4, .slice k4 n4 c4, .slice v4 m4 d4], .iface ty x]) ∧ Below B w w' ∧ Only [129] w w' ∧ Blk w' bw cs 129 ∧ ErrV w' [some no] (some (lookE l way no tree lo hi deep)) (.iface ty x)) ∨
    (lookE l way no tree lo hi deep = 0 ∧ ∃ kp kc vp vc, e = .returned (.tuple #[.agg #[.int .i64 (nodT (inB l no)), .bool (nodL (inB l no)), .slice kp (nodC (inB l no)) kc, .slice vp (nodC (inB l no)) vc], .nilIface]) ∧ Below B w w' ∧ Only [129] w w' ∧ Blk w' bw cs 129 ∧
      w'.ownsRow w.heap.size 3 1 (.slice kp (nodC (inB l no)) kc) (nodC (inB l no)) ((nodK l no).map (Value.int .i64)) ∧ w'.ownsRow w.heap.size 9 1 (.slice vp (nodC (inB l no)) vc) (nodC (inB l no)) ((nodV l no).map sv)) := by
  obtain ⟨h1, h2, h3, ⟨h4, a4, b4, k4, n4, c4, v4, m4, d4, ty, x, h5, h6⟩ | ⟨h4, _, kp, kc, vp, vc, h5, h6, h7⟩⟩ := h
  · exact .inl ⟨h4, a4, b4, k4, n4, c4, v4, m4, d4, ty, x, h5, h1, h2, h3, h6⟩
  · exact .inr ⟨h4, kp, kc, vp, vc, h5, h1, h2, h3, h6, h7⟩
theorem widG_24 (t : Int) (b : Bool) : widG t b ≤ 24 := by
  unfold widG widN
  repeat' split
  all_goals omega
theorem valsL_short (l : List UInt8) (n i : Nat) : ((valsL l n).getD i []).length ≤ 1000 := by
  by_cases h : i < n
  · rw [valsL_get l h]
    unfold valN
    rw [List.length_take]
    have := widG_24 (nodT l) (nodL l)
    unfold nodW
    omega
  · simp [List.getD, List.getElem?_eq_none (show (valsL l n).length ≤ i by rw [valsL_len]; omega)]
theorem ownBlock_len (p : Option Addr) (n c n2 c2 : Nat) : (Value.slice p n c).ownBlock = (Value.slice p n2 c2).ownBlock := by
  cases p <;> rfl
theorem Apart.len {p q : Option Addr} {n c m d : Nat} (h : Apart (.slice p n c) (.slice q m d)) (n2 c2 m2 d2 : Nat) : Apart (.slice p n2 c2) (.slice q m2 d2) := fun j h1 h2 =>
  h j ((ownBlock_len _ _ _ _ _).trans h1) ((ownBlock_len _ _ _ _ _).trans h2)
def prC (p : Int × Int) : List Value := [.int .i64 p.1, .int .i64 p.2]
theorem prC_len (p : Int × Int) : (prC p).length = 2 := rfl
theorem flat2_prC (l : List (Int × Int)) : flat2 l = l.flatMap prC := by
  induction l with
  | nil => rfl
  | cons x l ih => simp only [flat2, List.flatMap_cons, prC]; rfl
theorem look_fits {l : List UInt8} {way : List Int} {no tree lo hi deep : Int} (h : lookE l way no tree lo hi deep = 0) : fitsI lo hi (nodK l no) = 0 ∧ way.length < 16 := by
  unfold lookE at h
  by_cases h1 : hasI way no = true
  · rw [if_pos h1] at h; cases h
  rw [if_neg h1] at h
  by_cases h2 : 16 ≤ way.length
  · rw [if_pos h2] at h; cases h
  rw [if_neg h2] at h
  by_cases h3 : nodeErr l no tree ≠ 0
  · rw [if_pos h3] at h; exact absurd h h3
  rw [if_neg h3] at h
  by_cases h4 : fitsI lo hi (keysI (inB l no) (nodC (inB l no))) ≠ 0
  · rw [if_pos h4] at h; cases h
  exact ⟨Decidable.not_not.1 h4, by omega⟩
theorem splitL_get (hi : Int) (l : List Int) {i : Nat} (h : i < l.length) : (splitL hi l).getD i (0, 0) = partAt hi l i := by simp [splitL, h]
theorem sts_sp {w : World} {p : Option Addr} {n c : Nat} {L : List (Int × Int)} (h : Sl w (.slice p n c) n (flat2 L)) (hL : L.length = n) : Sts prC w (.slice p L.length c) L := by
  subst hL; rw [flat2_prC] at h; exact h
theorem splitL_len (hi : Int) (l : List Int) : (splitL hi l).length = l.length := by simp [splitL]
theorem only_le {w w' : World} (h : Only [129, 45] w w') : Only [129, 45, 3, 32] w w' := h.mono fun t ht => by
  simp only [List.contains_cons, List.contains_nil, Bool.or_eq_false_iff] at ht ⊢
  exact ⟨ht.1, ht.2.1, trivial⟩
theorem only_w {w w' : World} (h : Only [129] w w') : Only [129, 45, 3, 32] w w' := h.mono fun t ht => by
  simp only [List.contains_cons, List.contains_nil, Bool.or_eq_false_iff] at ht ⊢
  exact ⟨ht.1, trivial⟩
set_option maxRecDepth 100000 in
set_option maxHeartbeats 4000000 in
theorem walker_visit (B bw Bi b : Nat) (pi : Option Addr) (ni ci : Nat) (l : List UInt8) (tree fuel : Int) (d : Nat) (hV : d ≠ 0 → VisitC B bw Bi b pi ni ci l tree fuel d) (way : List Int) (no lo hi : Int) (s : WS) (pe pb pf pw : Option Addr) (ce cb cf cw : Nat) (fv : List Value) (w : World) (hBb : B ≤ bw) (hBw : B ≤ w.heap.size) (hwd : way.length + (d + 1) = 17) (hdry : s.dry = false) (hfu : fuel ≤ 1000000) (hR : WalkR B bw Bi b pi ni ci l tree fuel way s pe pb pf pw ce cb cf cw fv w) (he : (visitF l tree fuel (d + 1) way no lo hi s).es.length ≤ 1000000) (hb_ : (visitF l tree fuel (d + 1) way no lo hi s).bs.length ≤ 1000000) (hf : (visitF l tree fuel (d + 1) way no lo hi s).fs.length ≤ 1000000) :
    Calls Tryz.prog 69 #[.pointer (some ⟨bw, 0, none⟩), .int .i64 no, .agg #[.int .i64 lo, .int .i64 hi]] w (VisitP B bw Bi b pi ni ci l tree fuel way (visitF l tree fuel (d + 1) way no lo hi s) w) := by
 obtain ⟨kW, hEn, hBl, hFl, hFv, hWy, hAp, hI⟩ := hR
 have hBl0 := hBl
 have hWy0 := hWy
 have hgr := visitF_grow l tree fuel (d + 1) way no lo hi s
 have hbs := Nat.le_trans hgr.2.1 hb_
 refine zin 106 Tryz.func69 ?_
 refine xa 2 [.int .i64 lo, .int .i64 hi] 132 fun b1 W1 n1 => ?_
 refine xd 4 .z ?_
 have kW'1 := (kW.below n1.below).below (below_drew W1)
 refine xb (.e [0, 1, 2, 3] 4) 3 kW'1 ?_
 refine xb (.e [5, 6, 7] 8) 7 kW'1 ?_
 refine xid (.r [9] 2) ((↑s.looked : Int) ≥ fuel) (fun hc2 => ?_) (fun hc2 => ?_)
 · refine xc 5 (args := #[.int .i64 no, .iface 26 (.int .i64 12)]) (fault_At no (some 12) [] _ _ rfl) ?_
   rintro _ W3 ⟨r3, rfl, hb3, hv3⟩
   rw [atL_some] at hv3
   obtain ⟨t3, x3, rfl⟩ := hv3.iface
   have hch : (visitF l tree fuel (d + 1) way no lo hi s) = { noteW way [no] 12 s with dry := true } := by unfold visitF; rw [if_pos (by omega)]
   have hB := Bl.nextB (Bl.nextB (Bl.nextB (Below.refl B w) hBw n1.below) hBw (below_drew W1)) hBw hb3
   have kW'2 := kW'1.below hb3
   have hFl'1 := own_below (own_below (own_below hFl n1.below) (below_drew W1)) hb3
   have hWy'1 := own_below (own_below (own_below hWy n1.below) (below_drew W1)) hb3
   refine xc 0 (args := #[.pointer (some ⟨bw, 0, none⟩), .iface t3 (x3)]) (walker_note B bw _ _ _ _ _ _ _ _ pf _ cf fv pw cw way [no] 12 _ _ _ hBb (Nat.le_trans hBw hB.size) kW'2 hFl'1 hWy'1 hv3 (by omega) (by have := hf; rw [hch] at this; simp [noteW] at this; omega)) ?_
   rintro _ W4 ⟨u4, pf2, cf2, t2, x2, rfl, hb4, hO4, kN, hFl2, hv2⟩
   refine xs 7 kN [.slice pe s.es.length ce, .slice pb s.bs.length cb, .int .i64 s.deep, .int .i64 (↑s.looked : Int), .slice pf2 (s.fs.length + 1) cf2, .pointer (some ⟨b, 0, none⟩), .int .i64 tree, .int .i64 fuel, .slice pw way.length cw, .bool true] fun W5 u5 k5 => ?_
   have hB'1 := u5.below (hB.trans hb4) hBb
   have hO := ((((show Only [129, 45, 3, 32] w _ from (Only.of_below n1.below)).trans (Only.of_below (below_drew W1))).trans (Only.of_below hb3)).trans (only_we hO4)).trans (Only.of_upd u5 kN (by decide))
   have hEn'1 := u5.own2 (own_only (own_below (own_below (own_below hEn n1.below) (below_drew W1)) hb3) hO4 (by decide)) kN (by decide)
   have hBl'1 := u5.own2 (own_only (own_below (own_below (own_below hBl n1.below) (below_drew W1)) hb3) hO4 (by decide)) kN (by decide)
   have hFl2'1 := u5.own2 hFl2 kN (by decide)
   have hv2'1 := hv2.upd u5 kN (by decide)
   have hFv'1 := ((((hFv.below n1.below).below (below_drew W1)).below hb3).only hO4 (by decide)).only (Only.of_upd (T := [129]) u5 kN (by decide)) (by decide)
   have hWy'2 := u5.own2 (own_only hWy'1 hO4 (by decide)) kN (by decide)
   have hI'1 := ((((hI.below n1.below).below (below_drew W1)).below hb3).only hO4 (by decide)).only (Only.of_upd (T := [129]) u5 kN (by decide)) (by decide)
   refine xe 4 (.tuple #[]) ?_
   rw [hch]
   exact ⟨_, pe, pb, pf2, pw, ce, cb, cf2, cw, _, rfl, hB'1, hO, by simpa [noteW] using k5, hEn'1, hBl'1, by simpa [noteW] using hFl2'1, FltsW.snoc hv2'1 hFv'1, hWy'2, hAp, hI'1⟩
 have k1 := n1.blk.below (below_drew W1)
 refine xlv 6 k1.rp ?_
 have hB := Bl.nextB (Bl.nextB (Below.refl B w) hBw n1.below) hBw (below_drew W1)
 have hWy'3 := own_below (own_below hWy n1.below) (below_drew W1)
 have hI'2 := (hI.below n1.below).below (below_drew W1)
 refine xc 0 (args := #[.pointer (some ⟨bw, 0, none⟩), .int .i64 no, .agg #[.int .i64 lo, .int .i64 hi]]) ((walker_look B Bi b bw pi ni ci l _ _ _ _ _ pw cw way no tree lo hi s.deep (s.looked : Int) _ hBb (Nat.le_trans hBw hB.size) kW'1 hWy'3 hI'2 (by omega) (by omega) (by omega)).mono (fun _ _ h => LookP.or h)) ?_
 rintro e W6 hq6
 rcases hq6 with ⟨hz, a4, b4, k4, n4, c4, v4, m4, d4, ty, x, rfl, hb6, hO6, kL6, hv6⟩ | ⟨hz, kp, kc, vp, vc, rfl, hb6, hO6, kL6, hk, hv_⟩
 · refine xa 3 [.int .i64 0, .bool false, .slice none 0 0, .slice none 0 0] 125 fun b7 W7 n7 => ?_
   have hB'2 := hB.trans hb6
   have g7 := n7.ge0 hB'2
   refine xsv 0 n7.blk [.int .i64 a4, .bool b4, .slice k4 n4 c4, .slice v4 m4 d4] fun W8 u8 k8 => ?_
   have hch : (visitF l tree fuel (d + 1) way no lo hi s) = noteW way [no] (lookE l way no tree lo hi s.deep) { s with looked := s.looked + 1 } := by unfold visitF; rw [if_neg (by omega), if_pos hz]
   have hB'3 := u8.below (Bl.nextB hB'2 hBw n7.below) (Nat.le_trans hBw g7)
   have kL6'1 := u8.blkT (kL6.below n7.below) n7.blk (by decide)
   have hFl'2 := u8.own2 (own_below (own_only (own_below (own_below hFl n1.below) (below_drew W1)) hO6 (by decide)) n7.below) n7.blk (by decide)
   have hWy'4 := u8.own2 (own_below (own_only hWy'3 hO6 (by decide)) n7.below) n7.blk (by decide)
   have hv6'1 := (hv6.below n7.below).upd u8 n7.blk (by decide)
   refine xc 15 (args := #[.pointer (some ⟨bw, 0, none⟩), .iface ty (x)]) (walker_note B bw _ _ _ _ _ _ _ _ pf _ cf fv pw cw way [no] (lookE l way no tree lo hi s.deep) _ _ _ hBb (Nat.le_trans hBw hB'3.size) kL6'1 hFl'2 hWy'4 hv6'1 (by omega) (by have := hf; rw [hch] at this; simp [noteW] at this; omega)) ?_
   rintro _ W9 ⟨u9, pf2, cf2, t2, x2, rfl, hb9, hO9, kN, hFl2, hv2⟩
   have hB'4 := hB'3.trans hb9
   have hO := (Only.upd_new ((((show Only [129, 45, 3, 32] w _ from (Only.of_below n1.below)).trans (Only.of_below (below_drew W1))).trans (only_w hO6)).trans (Only.of_below n7.below)) u8 g7).trans (only_we hO9)
   have hEn'2 := own_only (u8.own2 (own_below (own_only (own_below (own_below hEn n1.below) (below_drew W1)) hO6 (by decide)) n7.below) n7.blk (by decide)) hO9 (by decide)
   have hBl'2 := own_only (u8.own2 (own_below (own_only (own_below (own_below hBl n1.below) (below_drew W1)) hO6 (by decide)) n7.below) n7.blk (by decide)) hO9 (by decide)
   have hFv'2 := (((((hFv.below n1.below).below (below_drew W1)).only hO6 (by decide)).below n7.below).only (Only.of_upd (T := [125]) u8 n7.blk (by decide)) (by decide)).only hO9 (by decide)
   have hWy'5 := own_only hWy'4 hO9 (by decide)
   have hI'3 := (((hI'2.only hO6 (by decide)).below n7.below).only (Only.of_upd (T := [125]) u8 n7.blk (by decide)) (by decide)).only hO9 (by decide)
   refine xe 4 (.tuple #[]) ?_
   rw [hch]
   exact ⟨_, pe, pb, pf2, pw, ce, cb, cf2, cw, _, rfl, hB'4, hO, by simpa [noteW] using kN, hEn'2, hBl'2, by simpa [noteW] using hFl2, FltsW.snoc hv2 hFv'2, hWy'5, hAp, hI'3⟩
 have hs6 := (Bl.nextB (Bl.nextB (Below.refl B w) hBw n1.below) hBw (below_drew W1)).size
 have hk'1 := own_mono hk hs6
 have hApk := Apart.of_lt hBl0 hk'1 (Nat.le_refl _)
 have hApw := Apart.of_lt hWy0 hk'1 (Nat.le_refl _)
 refine xa 3 [.int .i64 0, .bool false, .slice none 0 0, .slice none 0 0] 125 fun b10 W10 n10 => ?_
 have hB'5 := hB.trans hb6
 have g10 := n10.ge0 hB'5
 refine xsv 0 n10.blk [.int .i64 (nodT (inB l no)), .bool (nodL (inB l no)), .slice kp (nodC (inB l no)) kc, .slice vp (nodC (inB l no)) vc] fun W11 u11 k11 => ?_
 have kL6'2 := u11.blkT (kL6.below n10.below) n10.blk (by decide)
 refine xb 20 1 kL6'2 ?_
 refine xbs 1 1 [.int .i64 no] 3 fun b12 W12 n12 => ?_
 have hB'6 := u11.below (Bl.nextB hB'5 hBw n10.below) (Nat.le_trans hBw g10)
 have g12 := n12.ge0 hB'6
 have hBl'3 := u11.own2 (own_below (own_only (own_below (own_below hBl n1.below) (below_drew W1)) hO6 (by decide)) n10.below) n10.blk (by decide)
 have r12_hBl := own_ne hBl'3 n12
 have hWy'6 := u11.own2 (own_below (own_only hWy'3 hO6 (by decide)) n10.below) n10.blk (by decide)
 have r12_hWy := own_ne hWy'6 n12
 have hk'2 := u11.own2 (own_below hk'1 n10.below) n10.blk (by decide)
 have r12_hk := own_ne hk'2 n12
 have hBl'4 := own_below hBl'3 n12.below
 have hB'7 := Bl.nextB hB'6 hBw n12.below
 refine xbi 0 fun _ _ _ _ zJ zQ zo zx zy zK => op_app_at (b := b12) (c := 1) (m := 1) (news := [.int .i64 no]) (.int .i64 0) 1 8 ((s.bs ++ [no]).length) (((s.bs ++ [no]).map (Value.int .i64))) zo Tryz.underlying22 (by kernel_rfl) rfl (by decide) zx hBl'4 zy n12.blk rfl (by simp [Value.oneCell']) (by unfold maxLen; omega) (by omega) (Nat.le_trans hBw hB'7.size) (by simp) (by simp) fun px13 cx13 W13 o13 hg13 hb13 ha13 => ?_
 have hWy'7 := own_below hWy'6 n12.below
 have q13_hWy := hAp.row hWy'7 hg13
 replace hAp := (hAp.grow hWy'7 ha13)
 have hk'3 := own_below hk'2 n12.below
 have q13_hk := hApk.row hk'3 hg13
 replace hApk := (hApk.grow hk'3 ha13)
 have hWyq13 := q13_hWy
 have hkq13 := q13_hk
 refine zK _ _ ?_
 have kL6'3 := (kL6'2.below n12.below).grown hg13 hBl'4 (by decide)
 refine xs 3 kL6'3 [.slice pe s.es.length ce, .slice px13 ((s.bs ++ [no]).length) cx13, .int .i64 s.deep, .int .i64 ((s.looked : Int) + 1), .slice pf s.fs.length cf, .pointer (some ⟨b, 0, none⟩), .int .i64 tree, .int .i64 fuel, .slice pw way.length cw, .bool s.dry] fun W14 u14 k14 => ?_
 have k11'1 := u14.blkT ((k11.below n12.below).grown hg13 hBl'4 (by decide)) kL6'3 (by decide)
 refine xb 6 1 k11'1 ?_
 refine xi 2 (nodL (inB l no)) (fun hc15 => ?_) (fun hc15 => ?_)
 · refine xlv 4 k11'1.rp ?_
   have hch : (visitF l tree fuel (d + 1) way no lo hi s) = { s with looked := s.looked + 1, bs := s.bs ++ [no], deep := ((way.length + 1 : Nat) : Int), es := s.es ++ leafL (nodK l no) (nodV l no) no (nodC (inB l no)) } := by unfold visitF; rw [if_neg (by omega), if_neg (by omega), if_pos (by assumption)]
   have hB'8 := u14.below (hB'7.trans hb13) hBb
   have hEn'3 := u14.own2 (own_grown (own_below (u11.own2 (own_below (own_only (own_below (own_below hEn n1.below) (below_drew W1)) hO6 (by decide)) n10.below) n10.blk (by decide)) n12.below) hg13 hBl'4 (by decide)) kL6'3 (by decide)
   have hk'4 := u14.own2 hkq13 kL6'3 (by decide)
   have hv_'1 := u14.own2 (own_grown (own_below (u11.own2 (own_below (own_mono hv_ hs6) n10.below) n10.blk (by decide)) n12.below) hg13 hBl'4 (by decide)) kL6'3 (by decide)
   refine xc 0 (args := #[.pointer (some ⟨bw, 0, none⟩), .int .i64 no, .agg #[.int .i64 (nodT (inB l no)), .bool (nodL (inB l no)), .slice kp (nodC (inB l no)) kc, .slice vp (nodC (inB l no)) vc]]) (walker_leaf B bw _ _ _ _ _ _ _ _ pe ce s.es pw cw way no _ _ kp vp _ kc vc (nodK l no) (nodV l no) _ hBb (Nat.le_trans hBw hB'8.size) k14 hEn'3 (fun W _ q => own_sl (own_only hk'4 q (by decide))) (fun W _ q => own_sl (own_only hv_'1 q (by decide))) (by simp [nodK, keysI]) (by simp [nodV, valsL]) (by omega) (by have := he; rw [hch] at this; simp [leafL_len] at this; omega)) ?_
   rintro _ W16 ⟨u16, pe2, ce2, rfl, hb16, hO16, kE, hE2⟩
   have hB'9 := hB'8.trans hb16
   have hO := ((((Only.upd_new ((((show Only [129, 45, 3, 32] w _ from (Only.of_below n1.below)).trans (Only.of_below (below_drew W1))).trans (only_w hO6)).trans (Only.of_below n10.below)) u11 g10).trans (Only.of_below n12.below)).trans (Only.of_grown hg13 hBl'4 (by decide))).trans (Only.of_upd u14 kL6'3 (by decide))).trans (only_le hO16)
   have o13'1 := own_only (u14.own2 o13 kL6'3 (by decide)) hO16 (by decide)
   have hFl'3 := own_only (u14.own2 (own_grown (own_below (u11.own2 (own_below (own_only (own_below (own_below hFl n1.below) (below_drew W1)) hO6 (by decide)) n10.below) n10.blk (by decide)) n12.below) hg13 hBl'4 (by decide)) kL6'3 (by decide)) hO16 (by decide)
   have hFv'3 := ((((((((hFv.below n1.below).below (below_drew W1)).only hO6 (by decide)).below n10.below).only (Only.of_upd (T := [125]) u11 n10.blk (by decide)) (by decide)).below n12.below).only (Only.of_grown (T := [3]) hg13 hBl'4 (by decide)) (by decide)).only (Only.of_upd (T := [129]) u14 kL6'3 (by decide)) (by decide)).only hO16 (by decide)
   have hWy'8 := own_only (u14.own2 hWyq13 kL6'3 (by decide)) hO16 (by decide)
   have hI'4 := ((((((hI'2.only hO6 (by decide)).below n10.below).only (Only.of_upd (T := [125]) u11 n10.blk (by decide)) (by decide)).below n12.below).only (Only.of_grown (T := [3]) hg13 hBl'4 (by decide)) (by decide)).only (Only.of_upd (T := [129]) u14 kL6'3 (by decide)) (by decide)).only hO16 (by decide)
   refine xe 4 (.tuple #[]) ?_
   rw [hch]
   exact ⟨_, pe2, _, pf, pw, ce2, _, cf, cw, fv, rfl, hB'9, hO, by simpa [leafL_len] using kE, by simpa [leafL_len] using hE2, by simpa using o13'1, hFl'3, hFv'3, hWy'8, by simpa using hAp, hI'4⟩
 refine xb 8 8 k14 ?_
 refine xbs 1 1 [.int .i64 no] 3 fun b17 W17 n17 => ?_
 have hB'10 := u14.below (hB'7.trans hb13) hBb
 have g17 := n17.ge0 hB'10
 have hWy'9 := u14.own2 hWyq13 kL6'3 (by decide)
 have r17_hWy := own_ne hWy'9 n17
 have hk'5 := u14.own2 hkq13 kL6'3 (by decide)
 have r17_hk := own_ne hk'5 n17
 have o13'2 := u14.own2 o13 kL6'3 (by decide)
 have r17_o13 := own_ne o13'2 n17
 have hWy'10 := own_below hWy'9 n17.below
 have hB'11 := Bl.nextB hB'10 hBw n17.below
 refine xbi 0 fun _ _ _ _ zJ zQ zo zx zy zK => op_app_at (b := b17) (c := 1) (m := 1) (news := [.int .i64 no]) (.int .i64 0) 1 8 ((way ++ [no]).length) (((way ++ [no]).map (Value.int .i64))) zo Tryz.underlying22 (by kernel_rfl) rfl (by decide) zx hWy'10 zy n17.blk rfl (by simp [Value.oneCell']) (by unfold maxLen; omega) (by omega) (Nat.le_trans hBw hB'11.size) (by simp) (by simp) fun px18 cx18 W18 o18 hg18 hb18 ha18 => ?_
 have o13'3 := own_below o13'2 n17.below
 have q18_o13 := hAp.symm.row o13'3 hg18
 replace hAp := (hAp.symm.grow o13'3 ha18).symm
 have hk'6 := own_below hk'5 n17.below
 have q18_hk := hApw.row hk'6 hg18
 replace hApw := (hApw.grow hk'6 ha18)
 have o13q18 := q18_o13
 have hkq18 := q18_hk
 refine zK _ _ ?_
 have k14'1 := (k14.below n17.below).grown hg18 hWy'10 (by decide)
 refine xs 2 k14'1 [.slice pe s.es.length ce, .slice px13 ((s.bs ++ [no]).length) cx13, .int .i64 s.deep, .int .i64 ((s.looked : Int) + 1), .slice pf s.fs.length cf, .pointer (some ⟨b, 0, none⟩), .int .i64 tree, .int .i64 fuel, .slice px18 ((way ++ [no]).length) cx18, .bool s.dry] fun W19 u19 k19 => ?_
 have k1'1 := u19.blkT (((u14.blkT (((u11.blkT ((k1.only hO6 (by decide)).below n10.below) n10.blk (by decide)).below n12.below).grown hg13 hBl'4 (by decide)) kL6'3 (by decide)).below n17.below).grown hg18 hWy'10 (by decide)) k14'1 (by decide)
 refine xlv 5 k1'1.rp ?_
 have k11'2 := u19.blkT ((k11'1.below n17.below).grown hg18 hWy'10 (by decide)) k14'1 (by decide)
 refine xb 1 2 k11'2 ?_
 have hB'12 := u19.below (hB'11.trans hb18) hBb
 have hsp0 := hB'12.size
 obtain ⟨hfit, hw16⟩ := look_fits hz
 have hkl : (nodK l no).length = nodC (inB l no) := by simp [nodK, keysI]
 have hnc : nodC (inB l no) < 65536 := rawN_lt _ 2 2
 have hk'7 := u19.own2 hkq18 k14'1 (by decide)
 refine xc 0 (args := #[.agg #[.int .i64 lo, .int .i64 hi], .slice kp (nodC (inB l no)) kc]) (span_split2 lo hi _ (nodK l no) _ (by rw [hkl]; omega) (intsN_of (own_sl hk'7) hkl)) ?_
 rintro _ W20 ⟨r20, rfl, hb20, _, hg20⟩
 obtain ⟨gs, rfl, hgs, kS⟩ := hg20 hfit
 rw [hkl]
 have hSp := own_of_blk (size := 2) (n := nodC (inB l no)) kS (Nat.le_trans hsp0 hgs) (by rw [flat2_length, splitL_len, hkl]) (by unfold maxLen; omega)
 have hch : (visitF l tree fuel (d + 1) way no lo hi s) = (loopW (visitF l tree fuel d) l way no hi (nodC (inB l no)) { s with looked := s.looked + 1, bs := s.bs ++ [no] }) := by unfold visitF; rw [if_neg (by omega), if_neg (by omega), if_neg (by simp; assumption)]
 have hspl : (splitL hi (nodK l no)).length = (nodC (inB l no)) := by rw [splitL_len, hkl]
 have hvl : (nodV l no).length = (nodC (inB l no)) := by simp [nodV, valsL]
 have k19'1 := k19.below hb20
 have hEn'4 := own_below (u19.own2 (own_grown (own_below (u14.own2 (own_grown (own_below (u11.own2 (own_below (own_only (own_below (own_below hEn n1.below) (below_drew W1)) hO6 (by decide)) n10.below) n10.blk (by decide)) n12.below) hg13 hBl'4 (by decide)) kL6'3 (by decide)) n17.below) hg18 hWy'10 (by decide)) k14'1 (by decide)) hb20
 have o13'4 := own_below (u19.own2 o13q18 k14'1 (by decide)) hb20
 have hFl'4 := own_below (u19.own2 (own_grown (own_below (u14.own2 (own_grown (own_below (u11.own2 (own_below (own_only (own_below (own_below hFl n1.below) (below_drew W1)) hO6 (by decide)) n10.below) n10.blk (by decide)) n12.below) hg13 hBl'4 (by decide)) kL6'3 (by decide)) n17.below) hg18 hWy'10 (by decide)) k14'1 (by decide)) hb20
 have hFv'4 := (((((((((((hFv.below n1.below).below (below_drew W1)).only hO6 (by decide)).below n10.below).only (Only.of_upd (T := [125]) u11 n10.blk (by decide)) (by decide)).below n12.below).only (Only.of_grown (T := [3]) hg13 hBl'4 (by decide)) (by decide)).only (Only.of_upd (T := [129]) u14 kL6'3 (by decide)) (by decide)).below n17.below).only (Only.of_grown (T := [3]) hg18 hWy'10 (by decide)) (by decide)).only (Only.of_upd (T := [129]) u19 k14'1 (by decide)) (by decide)).below hb20
 have o18'1 := own_below (u19.own2 o18 k14'1 (by decide)) hb20
 have hI'5 := (((((((((hI'2.only hO6 (by decide)).below n10.below).only (Only.of_upd (T := [125]) u11 n10.blk (by decide)) (by decide)).below n12.below).only (Only.of_grown (T := [3]) hg13 hBl'4 (by decide)) (by decide)).only (Only.of_upd (T := [129]) u14 kL6'3 (by decide)) (by decide)).below n17.below).only (Only.of_grown (T := [3]) hg18 hWy'10 (by decide)) (by decide)).only (Only.of_upd (T := [129]) u19 k14'1 (by decide)) (by decide)).below hb20
 have hR : WalkR B bw Bi b pi ni ci l tree fuel (way ++ [no]) (loopW (visitF l tree fuel d) l way no hi 0 { s with looked := s.looked + 1, bs := s.bs ++ [no] }) pe _ pf _ ce _ cf _ fv W20 := ⟨k19'1, hEn'4, o13'4, hFl'4, hFv'4, o18'1, hAp, hI'5⟩
 have hv_'2 := own_below (u19.own2 (own_grown (own_below (u14.own2 (own_grown (own_below (u11.own2 (own_below (own_mono hv_ hs6) n10.below) n10.blk (by decide)) n12.below) hg13 hBl'4 (by decide)) kL6'3 (by decide)) n17.below) hg18 hWy'10 (by decide)) k14'1 (by decide)) hb20
 have hB'13 := Bl.nextB hB'12 hBw hb20
 have hO := (((((((Only.upd_new ((((show Only [129, 45, 3, 32] w _ from (Only.of_below n1.below)).trans (Only.of_below (below_drew W1))).trans (only_w hO6)).trans (Only.of_below n10.below)) u11 g10).trans (Only.of_below n12.below)).trans (Only.of_grown hg13 hBl'4 (by decide))).trans (Only.of_upd u14 kL6'3 (by decide))).trans (Only.of_below n17.below)).trans (Only.of_grown hg18 hWy'10 (by decide))).trans (Only.of_upd u19 k14'1 (by decide))).trans (Only.of_below hb20)
 have k1'2 := k1'1.below hb20
 have k11'3 := k11'2.below hb20
 refine zl 5 106 (fun zm zkv V => ∃ (i : Nat) (pe5 pb5 pf5 pw5 : Option Addr) (ce5 cb5 cf5 cw5 : Nat) (fv5 : List Value), zkv = [(0, .pointer (some ⟨bw, 0, none⟩)), (1, .int .i64 no), (6, .pointer (some ⟨b10, 0, none⟩)), (71, .slice (some ⟨gs, 0, none⟩) (nodC (inB l no)) (nodC (inB l no))), (72, .int .i64 (↑(nodC (inB l no)) : Int)), (73, .int .i64 (↑i : Int))] ∧ zm = (nodC (inB l no)) - ((↑i : Int)).toNat ∧ Below B w V ∧ Only [129, 45, 3, 32] w V ∧ Blk V b1 ([.int .i64 lo, .int .i64 hi]) 132 ∧ Blk V b10 ([.int .i64 (nodT (inB l no)), .bool (nodL (inB l no)), .slice kp (nodC (inB l no)) kc, .slice vp (nodC (inB l no)) vc]) 125 ∧ WalkR B bw Bi b pi ni ci l tree fuel (way ++ [no]) (loopW (visitF l tree fuel d) l way no hi i { s with looked := s.looked + 1, bs := s.bs ++ [no] }) pe5 pb5 pf5 pw5 ce5 cb5 cf5 cw5 fv5 V ∧ V.ownsRow w.heap.size 9 1 (.slice vp (nodC (inB l no)) vc) (nodC (inB l no)) ((nodV l no).map sv) ∧ V.ownsRow w.heap.size 132 2 (.slice (some ⟨gs, 0, none⟩) (nodC (inB l no)) (nodC (inB l no))) (nodC (inB l no)) (flat2 (splitL hi (nodK l no))) ∧ i ≤ (nodC (inB l no)) ∧ (loopW (visitF l tree fuel d) l way no hi i { s with looked := s.looked + 1, bs := s.bs ++ [no] }).dry = false) ⟨0, _, _, _, _, _, _, _, _, _, rfl, rfl, hB'13, hO, k1'2, k11'3, hR, hv_'2, hSp, Nat.zero_le _, hdry⟩ ?_
 rintro _ _ W21 ⟨i, pe5, pb5, pf5, pw5, ce5, cb5, cf5, cw5, fv5, rfl, rfl, hB_21, hO_21, k21_b1, k21_b10, hR, hv_, hSp, hi_, hdr⟩ J21 hJ21 r21
 have kW3 := hR.blk
 refine xid 6 ((↑i : Int) < (↑(nodC (inB l no)) : Int)) (fun hc22 => ?_) (fun hc22 => ?_)
 · refine xx 7 _ (nodC (inB l no)) i 2 (Sts.cell (sts_sp (own_sl hSp) hspl) prC_len (0, 0) (k := i) (i := 0) (show i < (splitL hi (nodK l no)).length by omega) rfl).1 ?_
   refine xlv 0 (Sts.rp (k := i) (sts_sp (own_sl hSp) hspl) prC_len (0, 0) (by omega) (by decide)) ?_
   refine xa 0 [.int .i64 0, .int .i64 0] 132 fun b23 W23 n23 => ?_
   have d23_b1 := n23.ne k21_b1
   have g23 := n23.ge0 hB_21
   have r23_hSp := own_ne hSp n23
   refine xsv 1 n23.blk [.int .i64 (((splitL hi (nodK l no)).getD i (0, 0)).1), .int .i64 (((splitL hi (nodK l no)).getD i (0, 0)).2)] fun W24 u24 k24 => ?_
   refine xd 3 (.t B [129, 45, 3, 32]) ?_
   have k21_b10'1 := (u24.blkT (k21_b10.below n23.below) n23.blk (by decide)).below (below_drew W24)
   refine xbt (.e [0, 1, 2] 3) 3 B [129, 45, 3, 32] k21_b10'1 ?_
   have hv_'3 := own_below (u24.own2 (own_below hv_ n23.below) n23.blk (by decide)) (below_drew W24)
   refine xx (.e [4] 5) _ (nodC (inB l no)) i 1 (Strs.elem (own_sl hv_'3) hvl (k := i) (by omega)).1 ?_
   refine xlt (.e [] 6) (.t B [129, 45, 3, 32]) (fun V hV => (Strs.elem (own_sl (own_only hv_'3 hV.2 (by decide))) hvl (k := i) (by omega)).2) ?_
   have k24'1 := k24.below (below_drew W24)
   refine xlvt (.e [] 7) (.t B [129, 45, 3, 32]) (fun V hV => (k24'1.only hV.2 (by decide)).rp) ?_
   have hxi := splitL_get hi (nodK l no) (i := i) (by omega)
   have hch2 : childW (visitF l tree fuel d) way no ((nodV l no).getD i []) (((splitL hi (nodK l no)).getD i (0, 0)).1, ((splitL hi (nodK l no)).getD i (0, 0)).2) (loopW (visitF l tree fuel d) l way no hi i { s with looked := s.looked + 1, bs := s.bs ++ [no] }) = (loopW (visitF l tree fuel d) l way no hi (i + 1) { s with looked := s.looked + 1, bs := s.bs ++ [no] }) := by rw [loopW_succ]; unfold roundW; rw [if_neg (by rw [hdr]; decide), hxi]
   have hgi := loopW_grow (visitF_grow l tree fuel d) l way no hi { s with looked := s.looked + 1, bs := s.bs ++ [no] } (show i + 1 ≤ (nodC (inB l no)) by omega)
   rw [hch] at he hb_ hf
   have hB'14 := Bl.nextB (u24.below (Bl.nextB hB_21 hBw n23.below) (Nat.le_trans hBw g23)) hBw (below_drew W24)
   have hR'1 := ((hR.below n23.below).only (Only.of_upd (T := [132]) u24 n23.blk (by decide)) (by decide)).below (below_drew W24)
   refine yc (.o [] 8) (args := #[.pointer (some ⟨bw, 0, none⟩), .int .i64 no, .string ⟨((nodV l no).getD i []).toArray⟩, .agg #[.int .i64 (((splitL hi (nodK l no)).getD i (0, 0)).1), .int .i64 (((splitL hi (nodK l no)).getD i (0, 0)).2)]]) (.t B [129, 45, 3, 32]) (walker_child B bw Bi b pi ni ci l tree fuel d (hV (by omega)) way no _ _ ((nodV l no).getD i []) _ pe5 pb5 pf5 pw5 ce5 cb5 cf5 cw5 fv5 _ hBb (Nat.le_trans hBw hB'14.size) (by omega) hdr (valsL_short _ _ _) hR'1 (by rw [hch2]; exact Nat.le_trans hgi.1 he) (by rw [hch2]; exact Nat.le_trans hgi.2.1 hb_) (by rw [hch2]; exact Nat.le_trans hgi.2.2 hf)) ?_
   rintro _ W25 ⟨u25, pe3, pb3, pf3, pw3, ce3, cb3, cf3, cw3, fv3, rfl, hb25, hO25, hR3⟩
   have kW3'1 := (u24.blkT (kW3.below n23.below) n23.blk (by decide)).below (below_drew W24)
   refine ⟨(sft_only hb25 hO25), ?_⟩
   rw [hch2] at hR3
   have kW3 := hR3.blk
   refine xb 7 9 kW3 ?_
   refine xi 2 ((loopW (visitF l tree fuel d) l way no hi (i + 1) { s with looked := s.looked + 1, bs := s.bs ++ [no] }).dry) (fun hc26 => ?_) (fun hc26 => ?_)
   · obtain ⟨_, hEn, hBl, hFl, hFv, hWy, hAp, hI⟩ := hR3
     have hwc := (own_some hWy (by simp)).2
     have hwl : (way ++ [no]).length = way.length + 1 := by simp
     have hend : (loopW (visitF l tree fuel d) l way no hi (nodC (inB l no)) { s with looked := s.looked + 1, bs := s.bs ++ [no] }) = (loopW (visitF l tree fuel d) l way no hi (i + 1) { s with looked := s.looked + 1, bs := s.bs ++ [no] }) := loopW_dry _ _ _ _ _ _ (by omega) hc26
     refine xd 6 (.t B [129]) ?_
     refine xm2 (.b [0, 1, 2, 3, 5, 6, 7]) 4 8 ?_ ?_
     · have kW3'2 := kW3.below (below_drew W25)
       refine xb 0 8 kW3'2 ?_
       refine xb (.o [] 8) 8 kW3'2 ?_
       refine xwm (.e [9] 10) ((↑((way ++ [no]).length) : Int) - 1) (↑(((way ++ [no]).length) - 1) : Int) ?_
       refine xsH (.e [] 11) (fun _ _ _ _ zo zx zy V => run_sliceH (k := (((way ++ [no]).length) - 1)) (b := pw3) (n := (way ++ [no]).length) (c := cw3) (i := (↑(((way ++ [no]).length) - 1) : Int)) (ki := .i64) zo zx zy rfl (by omega) Tryz.underlying22 (by kernel_rfl) V) ?_
       refine ys (.o [12, 13] 14) kW3'2 [.slice pe3 ((loopW (visitF l tree fuel d) l way no hi (i + 1) { s with looked := s.looked + 1, bs := s.bs ++ [no] }).es.length) ce3, .slice pb3 ((loopW (visitF l tree fuel d) l way no hi (i + 1) { s with looked := s.looked + 1, bs := s.bs ++ [no] }).bs.length) cb3, .int .i64 (loopW (visitF l tree fuel d) l way no hi (i + 1) { s with looked := s.looked + 1, bs := s.bs ++ [no] }).deep, .int .i64 ((loopW (visitF l tree fuel d) l way no hi (i + 1) { s with looked := s.looked + 1, bs := s.bs ++ [no] }).looked : Int), .slice pf3 ((loopW (visitF l tree fuel d) l way no hi (i + 1) { s with looked := s.looked + 1, bs := s.bs ++ [no] }).fs.length) cf3, .pointer (some ⟨b, 0, none⟩), .int .i64 tree, .int .i64 fuel, .slice pw3 (((way ++ [no]).length) - 1) cw3, .bool ((loopW (visitF l tree fuel d) l way no hi (i + 1) { s with looked := s.looked + 1, bs := s.bs ++ [no] }).dry)] (.t B [129]) fun W27 u27 k27 => ⟨(sft_upd u27 kW3'2 hBb (by decide)), ?_⟩
       have k21_b1'1 := (((u24.blk (k21_b1.below n23.below) (Ne.symm (Ne.symm d23_b1))).below (below_drew W24)).only hO25 (by decide)).below (below_drew W25)
       have k21_b10'2 := (k21_b10'1.only hO25 (by decide)).below (below_drew W25)
       have hB'15 := u27.below (Bl.nextB (hB'14.trans hb25) hBw (below_drew W25)) hBb
       have hO'1 := ((((Only.upd_new (hO_21.trans (Only.of_below n23.below)) u24 g23).trans (Only.of_below (below_drew W24))).trans hO25).trans (Only.of_below (below_drew W25))).trans (Only.of_upd u27 kW3'2 (by decide))
       have hEn'5 := u27.own2 (own_below hEn (below_drew W25)) kW3'2 (by decide)
       have hBl'5 := u27.own2 (own_below hBl (below_drew W25)) kW3'2 (by decide)
       have hFl'5 := u27.own2 (own_below hFl (below_drew W25)) kW3'2 (by decide)
       have hFv'5 := (hFv.below (below_drew W25)).only (Only.of_upd (T := [129]) u27 kW3'2 (by decide)) (by decide)
       have hWy'11 := u27.own2 (own_below hWy (below_drew W25)) kW3'2 (by decide)
       have hI'6 := (hI.below (below_drew W25)).only (Only.of_upd (T := [129]) u27 kW3'2 (by decide)) (by decide)
       refine xe 1 (.tuple #[]) ?_
       rw [hch, hend]
       rw [show (way ++ [no]).length - 1 = way.length by simp] at k27
       exact ⟨_, pe3, pb3, pf3, pw3, ce3, cb3, cf3, cw3, fv3, rfl, hB'15, hO'1, k27, hEn'5, hBl'5, hFl'5, hFv'5, way_cut hWy'11, hAp.len _ _ _ _, hI'6⟩
     have kW3'3 := kW3.below (below_drew W25)
     refine xb 0 8 kW3'3 ?_
     refine xwm (.e [9] 10) ((↑((way ++ [no]).length) : Int) - 1) (↑(((way ++ [no]).length) - 1) : Int) ?_
     refine xb (.o [] 4) 8 kW3'3 ?_
     refine xsH (.e [] 11) (fun _ _ _ _ zo zx zy V => run_sliceH (k := (((way ++ [no]).length) - 1)) (b := pw3) (n := (way ++ [no]).length) (c := cw3) (i := (↑(((way ++ [no]).length) - 1) : Int)) (ki := .i64) zo zx zy rfl (by omega) Tryz.underlying22 (by kernel_rfl) V) ?_
     refine ys (.o [12, 13] 14) kW3'3 [.slice pe3 ((loopW (visitF l tree fuel d) l way no hi (i + 1) { s with looked := s.looked + 1, bs := s.bs ++ [no] }).es.length) ce3, .slice pb3 ((loopW (visitF l tree fuel d) l way no hi (i + 1) { s with looked := s.looked + 1, bs := s.bs ++ [no] }).bs.length) cb3, .int .i64 (loopW (visitF l tree fuel d) l way no hi (i + 1) { s with looked := s.looked + 1, bs := s.bs ++ [no] }).deep, .int .i64 ((loopW (visitF l tree fuel d) l way no hi (i + 1) { s with looked := s.looked + 1, bs := s.bs ++ [no] }).looked : Int), .slice pf3 ((loopW (visitF l tree fuel d) l way no hi (i + 1) { s with looked := s.looked + 1, bs := s.bs ++ [no] }).fs.length) cf3, .pointer (some ⟨b, 0, none⟩), .int .i64 tree, .int .i64 fuel, .slice pw3 (((way ++ [no]).length) - 1) cw3, .bool ((loopW (visitF l tree fuel d) l way no hi (i + 1) { s with looked := s.looked + 1, bs := s.bs ++ [no] }).dry)] (.t B [129]) fun W28 u28 k28 => ⟨(sft_upd u28 kW3'3 hBb (by decide)), ?_⟩
     have k21_b1'2 := (((u24.blk (k21_b1.below n23.below) (Ne.symm (Ne.symm d23_b1))).below (below_drew W24)).only hO25 (by decide)).below (below_drew W25)
     have k21_b10'3 := (k21_b10'1.only hO25 (by decide)).below (below_drew W25)
     have hB'16 := u28.below (Bl.nextB (hB'14.trans hb25) hBw (below_drew W25)) hBb
     have hO'2 := ((((Only.upd_new (hO_21.trans (Only.of_below n23.below)) u24 g23).trans (Only.of_below (below_drew W24))).trans hO25).trans (Only.of_below (below_drew W25))).trans (Only.of_upd u28 kW3'3 (by decide))
     have hEn'6 := u28.own2 (own_below hEn (below_drew W25)) kW3'3 (by decide)
     have hBl'6 := u28.own2 (own_below hBl (below_drew W25)) kW3'3 (by decide)
     have hFl'6 := u28.own2 (own_below hFl (below_drew W25)) kW3'3 (by decide)
     have hFv'6 := (hFv.below (below_drew W25)).only (Only.of_upd (T := [129]) u28 kW3'3 (by decide)) (by decide)
     have hWy'12 := u28.own2 (own_below hWy (below_drew W25)) kW3'3 (by decide)
     have hI'7 := (hI.below (below_drew W25)).only (Only.of_upd (T := [129]) u28 kW3'3 (by decide)) (by decide)
     refine xe 1 (.tuple #[]) ?_
     rw [hch, hend]
     rw [show (way ++ [no]).length - 1 = way.length by simp] at k28
     exact ⟨_, pe3, pb3, pf3, pw3, ce3, cb3, cf3, cw3, fv3, rfl, hB'16, hO'2, k28, hEn'6, hBl'6, hFl'6, hFv'6, way_cut hWy'12, hAp.len _ _ _ _, hI'7⟩
   refine xwm 4 ((↑i : Int) + 1) (↑(i + 1) : Int) ?_
   have hB'17 := hB'14.trans hb25
   have hO'3 := ((Only.upd_new (hO_21.trans (Only.of_below n23.below)) u24 g23).trans (Only.of_below (below_drew W24))).trans hO25
   have k21_b1'3 := ((u24.blk (k21_b1.below n23.below) (Ne.symm (Ne.symm d23_b1))).below (below_drew W24)).only hO25 (by decide)
   have k21_b10'4 := k21_b10'1.only hO25 (by decide)
   have hv_'4 := own_only hv_'3 hO25 (by decide)
   have hSp'1 := own_only (own_below (u24.own3 (own_below hSp n23.below) r23_hSp) (below_drew W24)) hO25 (by decide)
   exact ze 2 (hJ21 _ _ _ ⟨i + 1, _, _, _, _, _, _, _, _, _, rfl, rfl, hB'17, hO'3, k21_b1'3, k21_b10'4, hR3, hv_'4, hSp'1, by omega, by assumption⟩ (by omega))
 obtain ⟨_, hEn, hBl, hFl, hFv, hWy, hAp, hI⟩ := hR
 have hwc := (own_some hWy (by simp)).2
 have hwl : (way ++ [no]).length = way.length + 1 := by simp
 have hend : (loopW (visitF l tree fuel d) l way no hi (nodC (inB l no)) { s with looked := s.looked + 1, bs := s.bs ++ [no] }) = (loopW (visitF l tree fuel d) l way no hi i { s with looked := s.looked + 1, bs := s.bs ++ [no] }) := by rw [show i = (nodC (inB l no)) by omega]
 refine xd 5 (.t B [129]) ?_
 refine xm2 (.b [0, 1, 2, 3, 5, 6, 7]) 4 8 ?_ ?_
 · have kW3'4 := kW3.below (below_drew W21)
   refine xb 0 8 kW3'4 ?_
   refine xb (.o [] 8) 8 kW3'4 ?_
   refine xwm (.e [9] 10) ((↑((way ++ [no]).length) : Int) - 1) (↑(((way ++ [no]).length) - 1) : Int) ?_
   refine xsH (.e [] 11) (fun _ _ _ _ zo zx zy V => run_sliceH (k := (((way ++ [no]).length) - 1)) (b := pw5) (n := (way ++ [no]).length) (c := cw5) (i := (↑(((way ++ [no]).length) - 1) : Int)) (ki := .i64) zo zx zy rfl (by omega) Tryz.underlying22 (by kernel_rfl) V) ?_
   refine ys (.o [12, 13] 14) kW3'4 [.slice pe5 ((loopW (visitF l tree fuel d) l way no hi i { s with looked := s.looked + 1, bs := s.bs ++ [no] }).es.length) ce5, .slice pb5 ((loopW (visitF l tree fuel d) l way no hi i { s with looked := s.looked + 1, bs := s.bs ++ [no] }).bs.length) cb5, .int .i64 (loopW (visitF l tree fuel d) l way no hi i { s with looked := s.looked + 1, bs := s.bs ++ [no] }).deep, .int .i64 ((loopW (visitF l tree fuel d) l way no hi i { s with looked := s.looked + 1, bs := s.bs ++ [no] }).looked : Int), .slice pf5 ((loopW (visitF l tree fuel d) l way no hi i { s with looked := s.looked + 1, bs := s.bs ++ [no] }).fs.length) cf5, .pointer (some ⟨b, 0, none⟩), .int .i64 tree, .int .i64 fuel, .slice pw5 (((way ++ [no]).length) - 1) cw5, .bool ((loopW (visitF l tree fuel d) l way no hi i { s with looked := s.looked + 1, bs := s.bs ++ [no] }).dry)] (.t B [129]) fun W29 u29 k29 => ⟨(sft_upd u29 kW3'4 hBb (by decide)), ?_⟩
   have k21_b1'4 := k21_b1.below (below_drew W21)
   have k21_b10'5 := k21_b10.below (below_drew W21)
   have hB'18 := u29.below (Bl.nextB hB_21 hBw (below_drew W21)) hBb
   have hO'4 := (hO_21.trans (Only.of_below (below_drew W21))).trans (Only.of_upd u29 kW3'4 (by decide))
   have hEn'7 := u29.own2 (own_below hEn (below_drew W21)) kW3'4 (by decide)
   have hBl'7 := u29.own2 (own_below hBl (below_drew W21)) kW3'4 (by decide)
   have hFl'7 := u29.own2 (own_below hFl (below_drew W21)) kW3'4 (by decide)
   have hFv'7 := (hFv.below (below_drew W21)).only (Only.of_upd (T := [129]) u29 kW3'4 (by decide)) (by decide)
   have hWy'13 := u29.own2 (own_below hWy (below_drew W21)) kW3'4 (by decide)
   have hI'8 := (hI.below (below_drew W21)).only (Only.of_upd (T := [129]) u29 kW3'4 (by decide)) (by decide)
   refine xe 1 (.tuple #[]) ?_
   rw [hch, hend]
   rw [show (way ++ [no]).length - 1 = way.length by simp] at k29
   exact ⟨_, pe5, pb5, pf5, pw5, ce5, cb5, cf5, cw5, fv5, rfl, hB'18, hO'4, k29, hEn'7, hBl'7, hFl'7, hFv'7, way_cut hWy'13, hAp.len _ _ _ _, hI'8⟩
 have kW3'5 := kW3.below (below_drew W21)
 refine xb 0 8 kW3'5 ?_
 refine xwm (.e [9] 10) ((↑((way ++ [no]).length) : Int) - 1) (↑(((way ++ [no]).length) - 1) : Int) ?_
 refine xb (.o [] 4) 8 kW3'5 ?_
 refine xsH (.e [] 11) (fun _ _ _ _ zo zx zy V => run_sliceH (k := (((way ++ [no]).length) - 1)) (b := pw5) (n := (way ++ [no]).length) (c := cw5) (i := (↑(((way ++ [no]).length) - 1) : Int)) (ki := .i64) zo zx zy rfl (by omega) Tryz.underlying22 (by kernel_rfl) V) ?_
 refine ys (.o [12, 13] 14) kW3'5 [.slice pe5 ((loopW (visitF l tree fuel d) l way no hi i { s with looked := s.looked + 1, bs := s.bs ++ [no] }).es.length) ce5, .slice pb5 ((loopW (visitF l tree fuel d) l way no hi i { s with looked := s.looked + 1, bs := s.bs ++ [no] }).bs.length) cb5, .int .i64 (loopW (visitF l tree fuel d) l way no hi i { s with looked := s.looked + 1, bs := s.bs ++ [no] }).deep, .int .i64 ((loopW (visitF l tree fuel d) l way no hi i { s with looked := s.looked + 1, bs := s.bs ++ [no] }).looked : Int), .slice pf5 ((loopW (visitF l tree fuel d) l way no hi i { s with looked := s.looked + 1, bs := s.bs ++ [no] }).fs.length) cf5, .pointer (some ⟨b, 0, none⟩), .int .i64 tree, .int .i64 fuel, .slice pw5 (((way ++ [no]).length) - 1) cw5, .bool ((loopW (visitF l tree fuel d) l way no hi i { s with looked := s.looked + 1, bs := s.bs ++ [no] }).dry)] (.t B [129]) fun W30 u30 k30 => ⟨(sft_upd u30 kW3'5 hBb (by decide)), ?_⟩
 have k21_b1'5 := k21_b1.below (below_drew W21)
 have k21_b10'6 := k21_b10.below (below_drew W21)
 have hB'19 := u30.below (Bl.nextB hB_21 hBw (below_drew W21)) hBb
 have hO'5 := (hO_21.trans (Only.of_below (below_drew W21))).trans (Only.of_upd u30 kW3'5 (by decide))
 have hEn'8 := u30.own2 (own_below hEn (below_drew W21)) kW3'5 (by decide)
 have hBl'8 := u30.own2 (own_below hBl (below_drew W21)) kW3'5 (by decide)
 have hFl'8 := u30.own2 (own_below hFl (below_drew W21)) kW3'5 (by decide)
 have hFv'8 := (hFv.below (below_drew W21)).only (Only.of_upd (T := [129]) u30 kW3'5 (by decide)) (by decide)
 have hWy'14 := u30.own2 (own_below hWy (below_drew W21)) kW3'5 (by decide)
 have hI'9 := (hI.below (below_drew W21)).only (Only.of_upd (T := [129]) u30 kW3'5 (by decide)) (by decide)
 refine xe 1 (.tuple #[]) ?_
 rw [hch, hend]
 rw [show (way ++ [no]).length - 1 = way.length by simp] at k30
 exact ⟨_, pe5, pb5, pf5, pw5, ce5, cb5, cf5, cw5, fv5, rfl, hB'19, hO'5, k30, hEn'8, hBl'8, hFl'8, hFv'8, way_cut hWy'14, hAp.len _ _ _ _, hI'9⟩
end Go.Proofs.YthlakkdgcgkcdaaGreat
namespace Go.Proofs.YthlakkdgcgkcdaaGreat
open Go.RowKit Go.Extern.Stop Go.Stop Go.Extern
set_option linter.unusedVariables false
theorem loopW_ind {V : List Int → Int → Int → Int → WS → WS} {l : List UInt8} {way : List Int} {no hi : Int} {s : WS} (P : Nat → WS → Prop) (h0 : P 0 s) :
    ∀ n, (∀ i t, i < n → t.dry = false → P i t → P (i + 1) (childW V way no ((nodV l no).getD i []) (partAt hi (nodK l no) i) t)) → (∀ i t, i < n → t.dry = true → P i t → P (i + 1) t) → P n (loopW V l way no hi n s)
  | 0, _, _ => h0
  | n + 1, hs, hd => by
    have ih := loopW_ind P h0 n (fun i t hi => hs i t (by omega)) (fun i t hi => hd i t (by omega))
    rw [loopW_succ]
    unfold roundW
    split
    · rename_i h; exact hd n _ (by omega) h ih
    · rename_i h; exact hs n _ (by omega) (by simpa using h) ih
theorem rootE_no (v : List UInt8) : rootE v = 0 ∨ rootE v = 2 ∨ rootE v = 7 := by
  unfold rootE; split
  · split <;> simp
  · simp
theorem keysErr_no (l : List UInt8) : ∀ n, keysErr l n = 0 ∨ keysErr l n = 2 ∨ keysErr l n = 8
  | 0 => .inl rfl
  | n + 1 => by
    rw [keysErr]
    split
    · exact keysErr_no l n
    · unfold keyE; split
      · simp
      · split <;> simp
theorem nodeErr_no (l : List UInt8) (no tree : Int) : nodeErr l no tree ≠ 12 := by
  unfold nodeErr
  split
  · unfold nodeTE
    split
    · split <;> decide
    · unfold nodeE
      split
      · split
        · rcases keysErr_no (inB l no) (nodC (inB l no)) with h | h | h <;> rw [h] <;> decide
        · decide
      · decide
  · unfold inE
    split
    · unfold openE
      repeat' split
      all_goals decide
    · decide
theorem lookE_no (l : List UInt8) (way : List Int) (no tree lo hi deep : Int) : lookE l way no tree lo hi deep ≠ 12 := by
  unfold lookE
  split
  · decide
  · split
    · decide
    · split
      · exact nodeErr_no _ _ _
      · split
        · decide
        · split <;> decide
theorem maxG_18 (t : Int) (b : Bool) : maxG t b ≤ 18 := by
  unfold maxG maxN
  repeat' split
  all_goals omega
theorem nodeE_shape {l : List UInt8} (h : nodeE l = 0) : shapeB l = true := by
  unfold nodeE at h
  split at h
  · assumption
  · cases h
theorem nodeTE_zero {l : List UInt8} {tree : Int} (h : nodeTE l tree = 0) : nodeE l = 0 := by
  unfold nodeTE at h
  split at h
  · assumption
  · assumption
theorem nodeErr_TE {l : List UInt8} {no tree : Int} (h : nodeErr l no tree = 0) : inE l 2 no = 0 ∧ nodeTE (inB l no) tree = 0 := by
  unfold nodeErr at h
  split at h
  · exact ⟨by assumption, h⟩
  · rename_i q; exact absurd h q
theorem look_node {l : List UInt8} {way : List Int} {no tree lo hi deep : Int} (h : lookE l way no tree lo hi deep = 0) : nodeErr l no tree = 0 ∧ fitsI lo hi (nodK l no) = 0 ∧ nodC (inB l no) ≤ 18 := by
  unfold lookE at h
  split at h
  · cases h
  · split at h
    · cases h
    · split at h
      · rename_i q; exact absurd h q
      · rename_i q
        split at h
        · cases h
        · rename_i q2
          have q1 : nodeErr l no tree = 0 := Decidable.not_not.1 q
          exact ⟨q1, Decidable.not_not.1 q2, Nat.le_trans (node_shapeP (nodeE_shape (nodeTE_zero (nodeErr_TE q1).2))) (maxG_18 _ _)⟩
theorem fits_sort {lo hi : Int} {L : List Int} (h : fitsI lo hi L = 0) : rightB lo hi = true ∧ SortP L ∧ ∀ k ∈ L, lo ≤ k ∧ k < hi := by
  unfold fitsI at h
  split at h
  · split at h
    · split at h
      · exact ⟨by assumption, by assumption, by assumption⟩
      · cases h
    · cases h
  · cases h
/-- an entry stands in its block: at the first place of its key -/
def InBlk (l : List UInt8) (tree : Int) (x : Ent) : Prop :=
  nodeErr l x.2.2 tree = 0 ∧ nodL (inB l x.2.2) = true ∧ ∃ k, k < nodC (inB l x.2.2) ∧ (nodK l x.2.2).getD k 0 = x.1 ∧ (nodV l x.2.2).getD k [] = x.2.1 ∧ ∀ j, j < k → (nodK l x.2.2).getD j 0 ≠ x.1
/-- keys that rise, all within a span -/
def Rise (lo hi : Int) (es : List Ent) : Prop := es.Pairwise (fun x y => x.1 < y.1) ∧ ∀ x ∈ es, lo ≤ x.1 ∧ x.1 < hi
theorem Rise.nil (lo hi : Int) : Rise lo hi [] := ⟨.nil, fun _ h => by cases h⟩
theorem Rise.app {lo mi hi : Int} {a b : List Ent} (h : Rise lo mi a) (k : Rise mi hi b) (h1 : lo ≤ mi) (h2 : mi ≤ hi) : Rise lo hi (a ++ b) := by
  refine ⟨List.pairwise_append.2 ⟨h.1, k.1, fun x hx y hy => ?_⟩, fun x hx => ?_⟩
  · have := (h.2 x hx).2; have := (k.2 y hy).1; omega
  · rcases List.mem_append.1 hx with q | q
    · have := h.2 x q; omega
    · have := k.2 x q; omega
/-- what came between the states s and t of a visit of no below way, of the span lo hi -/
structure Went (l : List UInt8) (tree fuel : Int) (hd : Option Int) (lo hi : Int) (s t : WS) (es : List Ent) (fs : List (List Int × Int)) : Prop where
  esE : t.es = s.es ++ es
  fsE : t.fs = s.fs ++ fs
  rise : Rise lo hi es
  inb : ∀ x ∈ es, InBlk l tree x
  flt : ∀ f ∈ fs, f.1.head? = hd ∧ f.1 ≠ [] ∧ f.2 ≠ 0
  dry : t.dry = true ↔ s.dry = true ∨ ∃ f ∈ fs, f.2 = 12
  fuelE : t.dry = true → s.dry = true ∨ fuel ≤ t.looked
  look : s.looked ≤ fuel.toNat → t.looked ≤ fuel.toNat
  more : s.looked ≤ t.looked
  blks : t.bs.length + s.looked ≤ s.bs.length + t.looked
theorem Went.refl (l : List UInt8) (tree fuel : Int) (hd : Option Int) (lo hi : Int) (s : WS) : Went l tree fuel hd lo hi s s [] [] :=
  ⟨by simp, by simp, Rise.nil _ _, by simp, by simp, by simp, fun h => .inl h, fun h => h, Nat.le_refl _, Nat.le_refl _⟩
theorem Went.trans {l : List UInt8} {tree fuel : Int} {hd : Option Int} {lo mi hi : Int} {s t u : WS} {es es2 : List Ent} {fs fs2 : List (List Int × Int)} (h : Went l tree fuel hd lo mi s t es fs) (k : Went l tree fuel hd mi hi t u es2 fs2) (h1 : lo ≤ mi) (h2 : mi ≤ hi) :
    Went l tree fuel hd lo hi s u (es ++ es2) (fs ++ fs2) where
  esE := by rw [k.esE, h.esE, List.append_assoc]
  fsE := by rw [k.fsE, h.fsE, List.append_assoc]
  rise := h.rise.app k.rise h1 h2
  inb x hx := by
    rcases List.mem_append.1 hx with q | q
    · exact h.inb x q
    · exact k.inb x q
  flt f hf := by
    rcases List.mem_append.1 hf with q | q
    · exact h.flt f q
    · exact k.flt f q
  dry := by
    rw [k.dry, h.dry]
    constructor
    · rintro ((q | ⟨f, q1, q2⟩) | ⟨f, q1, q2⟩)
      · exact .inl q
      · exact .inr ⟨f, List.mem_append_left _ q1, q2⟩
      · exact .inr ⟨f, List.mem_append_right _ q1, q2⟩
    · rintro (q | ⟨f, q1, q2⟩)
      · exact .inl (.inl q)
      · rcases List.mem_append.1 q1 with q | q
        · exact .inl (.inr ⟨f, q, q2⟩)
        · exact .inr ⟨f, q, q2⟩
  fuelE h0 := by
    rcases k.fuelE h0 with q | q
    · rcases h.fuelE q with q | q
      · exact .inl q
      · exact .inr (by have := k.more; omega)
    · exact .inr q
  look h0 := k.look (h.look h0)
  more := Nat.le_trans h.more k.more
  blks := by have := h.blks; have := k.blks; omega
theorem Went.wide {l : List UInt8} {tree fuel : Int} {hd : Option Int} {lo hi lo2 hi2 : Int} {s t : WS} {es : List Ent} {fs : List (List Int × Int)} (h : Went l tree fuel hd lo hi s t es fs) (h1 : lo2 ≤ lo) (h2 : hi ≤ hi2) : Went l tree fuel hd lo2 hi2 s t es fs :=
  { h with rise := ⟨h.rise.1, fun x hx => by have := h.rise.2 x hx; omega⟩ }
theorem Went.note (l : List UInt8) (tree fuel : Int) {hd : Option Int} (lo hi : Int) (way : List Int) (no c : Int) (s : WS) (hc : c ≠ 0) (hc2 : c ≠ 12) (hh : (way ++ [no]).head? = hd) : Went l tree fuel hd lo hi s (noteW way [no] c s) [] [(way ++ [no], c)] :=
  ⟨by simp [noteW], by simp [noteW], Rise.nil _ _, by simp, (fun f hf => by rw [List.mem_singleton.1 hf]; exact ⟨hh, by simp, hc⟩), by simp [noteW, hc2], fun h => .inl (by simpa [noteW] using h), fun h => by simpa [noteW] using h, Nat.le_refl _, Nat.le_refl _⟩
theorem partAt_le {lo hi : Int} {L : List Int} (hf : fitsI lo hi L = 0) {i : Nat} (h : i < L.length) : lo ≤ (partAt hi L i).1 ∧ (partAt hi L i).1 ≤ (partAt hi L i).2 ∧ (partAt hi L i).2 ≤ hi ∧ (i + 1 < L.length → (partAt hi L i).2 = (partAt hi L (i + 1)).1) := by
  obtain ⟨h1, h2, h3⟩ := fits_sort hf
  have h4 := h3 L[i] (List.getElem_mem _)
  unfold partAt
  simp only [List.getElem?_eq_getElem h, Option.getD_some]
  by_cases hn : i + 1 < L.length
  · have h5 := h3 L[i + 1] (List.getElem_mem _)
    have h6 := SortP.lt h2 (i + 1) i (by omega) hn
    simp only [List.getElem?_eq_getElem h, List.getElem?_eq_getElem hn, Option.getD_some] at h6 ⊢
    exact ⟨h4.1, by omega, by omega, fun _ => trivial⟩
  · rw [List.getElem?_eq_none (by omega)]
    simp only [Option.getD_none]
    exact ⟨h4.1, by omega, Int.le_refl _, fun h => absurd h hn⟩
theorem leaf_rise {lo hi : Int} {l : List UInt8} {no : Int} (hf : fitsI lo hi (nodK l no) = 0) (Vs : List (List UInt8)) : Rise lo hi (leafL (nodK l no) Vs no (nodC (inB l no))) := by
  obtain ⟨h1, h2, h3⟩ := fits_sort hf
  have hl : (nodK l no).length = nodC (inB l no) := by simp [nodK, keysI]
  refine ⟨?_, ?_⟩
  · unfold leafL
    rw [List.pairwise_map]
    refine List.Pairwise.imp_of_mem (R := fun a b => a < b) ?_ List.pairwise_lt_range
    intro a b ha hb hab
    have := SortP.lt h2 b a hab (by rw [hl]; simpa using hb)
    simpa [List.getD] using this
  · intro x hx
    unfold leafL at hx
    obtain ⟨j, hj, rfl⟩ := List.mem_map.1 hx
    have hj : j < (nodK l no).length := by rw [hl]; simpa using hj
    have := h3 (nodK l no)[j] (List.getElem_mem _)
    simpa [List.getD, hj] using this
theorem leaf_inb {lo hi : Int} {l : List UInt8} {no tree : Int} (hn : nodeErr l no tree = 0) (hl : nodL (inB l no) = true) (hf : fitsI lo hi (nodK l no) = 0) : ∀ x ∈ leafL (nodK l no) (nodV l no) no (nodC (inB l no)), InBlk l tree x := by
  intro x hx
  obtain ⟨h1, h2, h3⟩ := fits_sort hf
  have hk : (nodK l no).length = nodC (inB l no) := by simp [nodK, keysI]
  unfold leafL at hx
  obtain ⟨j, hj, rfl⟩ := List.mem_map.1 hx
  have hj : j < nodC (inB l no) := by simpa using hj
  refine ⟨hn, hl, j, hj, rfl, rfl, fun i hi => ?_⟩
  have := SortP.lt h2 j i hi (by rw [hk]; exact hj)
  simp only [List.getD] 
  omega
theorem visitF_went (l : List UInt8) (tree fuel : Int) : ∀ (d : Nat) (way : List Int) (no lo hi : Int) (s : WS), s.dry = false → ∃ es fs, Went l tree fuel (way ++ [no]).head? lo hi s (visitF l tree fuel d way no lo hi s) es fs
  | 0, way, no, lo, hi, s, _ => ⟨[], [], Went.refl _ _ _ _ _ _ _⟩
  | d + 1, way, no, lo, hi, s, hs => by
    unfold visitF
    split
    · rename_i hf
      exact ⟨[], [(way ++ [no], 12)], by simp [noteW], by simp [noteW], Rise.nil _ _, by simp, by simp, by simp, fun _ => .inr hf, fun h => h, Nat.le_refl _, Nat.le_refl _⟩
    · rename_i hf
      have hlk : s.looked + 1 ≤ fuel.toNat := by omega
      split
      · rename_i he
        have := Went.note l tree fuel lo hi way no _ { s with looked := s.looked + 1 } he (lookE_no _ _ _ _ _ _ _) rfl
        exact ⟨_, _, this.esE, this.fsE, this.rise, this.inb, this.flt, this.dry, fun h => by simp [noteW, hs] at h, fun _ => hlk, by simp [noteW], by simp [noteW]⟩
      · rename_i he
        have he : lookE l way no tree lo hi s.deep = 0 := Decidable.not_not.1 he
        obtain ⟨hn, hft, hc⟩ := look_node he
        split
        · rename_i hl
          exact ⟨_, [], rfl, by simp, leaf_rise hft _, leaf_inb hn hl hft, by simp, by simp [hs], fun h => by simp [hs] at h, fun _ => hlk, by simp, by simp; omega⟩
        · have hk : (nodK l no).length = nodC (inB l no) := by simp [nodK, keysI]
          have hfs := fits_sort hft
          have hrt : lo ≤ hi := by have := hfs.1; unfold rightB at this; simp at this; omega
          have hloop := loopW_ind (V := visitF l tree fuel d) (l := l) (way := way) (no := no) (hi := hi) (s := { s with looked := s.looked + 1, bs := s.bs ++ [no] })
            (fun i t => ∃ es fs, Went l tree fuel (way ++ [no]).head? lo (if i = 0 then lo else (partAt hi (nodK l no) (i - 1)).2) { s with looked := s.looked + 1, bs := s.bs ++ [no] } t es fs)
            ⟨[], [], Went.refl _ _ _ _ _ _ _⟩ (nodC (inB l no)) ?_ ?_
          · obtain ⟨es, fs, q⟩ := hloop
            refine ⟨es, fs, q.esE, q.fsE, ?_, q.inb, q.flt, q.dry, fun h => ?_, fun _ => q.look hlk, by have := q.more; simp only at this; omega, by have := q.blks; simp at this; omega⟩
            · refine ⟨q.rise.1, fun x hx => ?_⟩
              have := q.rise.2 x hx
              split at this
              · omega
              · rename_i h0
                have := (partAt_le hft (i := nodC (inB l no) - 1) (by rw [hk]; omega)).2.2.1
                omega
            · rcases q.fuelE h with q2 | q2
              · exact .inl q2
              · exact .inr q2
          · rintro i t hi0 htd ⟨es, fs, q⟩
            have hp := partAt_le hft (i := i) (by rw [hk]; exact hi0)
            have hmid : lo ≤ (if i = 0 then lo else (partAt hi (nodK l no) (i - 1)).2) ∧ (if i = 0 then lo else (partAt hi (nodK l no) (i - 1)).2) ≤ (partAt hi (nodK l no) i).1 := by
              split
              · exact ⟨Int.le_refl _, hp.1⟩
              · rename_i h0
                have hp2 := partAt_le hft (i := i - 1) (by rw [hk]; omega)
                have := hp2.2.2.2 (by rw [hk]; omega)
                rw [show i - 1 + 1 = i by omega] at this
                omega
            have q' := q.wide (Int.le_refl lo) hmid.2
            rw [if_neg (by omega), Nat.add_sub_cancel]
            unfold childW
            split
            · obtain ⟨es2, fs2, r⟩ := visitF_went l tree fuel d (way ++ [no]) (rootN ((nodV l no).getD i []) : Int) (partAt hi (nodK l no) i).1 (partAt hi (nodK l no) i).2 t htd
              have hh : ((way ++ [no]) ++ [(rootN ((nodV l no).getD i []) : Int)]).head? = (way ++ [no]).head? := by cases way <;> rfl
              rw [hh] at r
              exact ⟨_, _, q'.trans r (by omega) hp.2.1⟩
            · rename_i hre
              have r := Went.note l tree fuel (partAt hi (nodK l no) i).1 (partAt hi (nodK l no) i).2 way no (rootE ((nodV l no).getD i [])) t hre (by rcases rootE_no ((nodV l no).getD i []) with h | h | h <;> rw [h] <;> decide) rfl
              exact ⟨_, _, q'.trans r (by omega) hp.2.1⟩
          · rintro i t hi0 htd ⟨es, fs, q⟩
            have hp := partAt_le hft (i := i) (by rw [hk]; exact hi0)
            rw [if_neg (by omega), Nat.add_sub_cancel]
            refine ⟨es, fs, q.wide (Int.le_refl _) ?_⟩
            split
            · omega
            · rename_i h0
              have hp2 := partAt_le hft (i := i - 1) (by rw [hk]; omega)
              have := hp2.2.2.2 (by rw [hk]; omega)
              rw [show i - 1 + 1 = i by omega] at this
              omega
/-- how much is found, by the nodes looked at -/
theorem visitF_count (l : List UInt8) (tree fuel : Int) : ∀ (d : Nat) (way : List Int) (no lo hi : Int) (s : WS), s.dry = false →
    (visitF l tree fuel d way no lo hi s).fs.length + (visitF l tree fuel d way no lo hi s).es.length + 18 * s.looked ≤ s.fs.length + s.es.length + 18 * (visitF l tree fuel d way no lo hi s).looked + (if (visitF l tree fuel d way no lo hi s).dry = true then 1 else 0)
  | 0, way, no, lo, hi, s, hs => by simp [visitF, hs]
  | d + 1, way, no, lo, hi, s, hs => by
    unfold visitF
    split
    · simp [noteW]; omega
    · split
      · simp [noteW, hs]; omega
      · rename_i he
        have he : lookE l way no tree lo hi s.deep = 0 := Decidable.not_not.1 he
        obtain ⟨hn, hft, hc⟩ := look_node he
        split
        · simp [leafL_len, hs]; omega
        · have hloop := loopW_ind (V := visitF l tree fuel d) (l := l) (way := way) (no := no) (hi := hi) (s := { s with looked := s.looked + 1, bs := s.bs ++ [no] })
            (fun i t => t.fs.length + t.es.length + 18 * (s.looked + 1) ≤ s.fs.length + s.es.length + i + 18 * t.looked + (if t.dry = true then 1 else 0)) (by simp [hs]) (nodC (inB l no)) ?_ ?_
          · omega
          · intro i t hi0 htd q
            rw [htd] at q
            unfold childW
            split
            · have := visitF_count l tree fuel d (way ++ [no]) (rootN ((nodV l no).getD i []) : Int) (partAt hi (nodK l no) i).1 (partAt hi (nodK l no) i).2 t htd
              simp at q
              omega
            · simp [noteW, htd] at q ⊢; omega
          · intro i t hi0 htd q; omega
end Go.Proofs.YthlakkdgcgkcdaaGreat
namespace Go.Proofs.YthlakkdgcgkcdaaGreat
open Go.RowKit Go.Extern.Stop Go.Stop Go.Extern
set_option linter.unusedVariables false
attribute [local irreducible] wpList wpAnyH Code.wp Oper.wp Go

theorem visit_all {B bw Bi b : Nat} {pi : Option Addr} {ni ci : Nat} {l : List UInt8} {tree fuel : Int} (hBb : B ≤ bw) (hfu : fuel ≤ 1000000) : ∀ d, VisitC B bw Bi b pi ni ci l tree fuel (d + 1)
  | 0 => fun way no lo hi s pe pb pf pw ce cb cf cw fv w h1 h2 h3 h4 h5 h6 h7 => walker_visit B bw Bi b pi ni ci l tree fuel 0 (fun h => absurd rfl h) way no lo hi s pe pb pf pw ce cb cf cw fv w hBb h2 h1 h3 hfu h4 h5 h6 h7
  | d + 1 => fun way no lo hi s pe pb pf pw ce cb cf cw fv w h1 h2 h3 h4 h5 h6 h7 => walker_visit B bw Bi b pi ni ci l tree fuel (d + 1) (fun _ => visit_all hBb hfu d) way no lo hi s pe pb pf pw ce cb cf cw fv w hBb h2 h1 h3 hfu h4 h5 h6 h7
def ws0 : WS := ⟨[], [], 0, 0, [], false⟩
/-- what a scan finds -/
def scanW (l : List UInt8) (root tree fuel : Int) : WS := visitF l tree fuel 17 [] root 0 281474976710656 ws0
theorem scanW_went (l : List UInt8) (root tree fuel : Int) : ∃ es fs, Went l tree fuel (some root) 0 281474976710656 ws0 (scanW l root tree fuel) es fs := visitF_went l tree fuel 17 [] root 0 281474976710656 ws0 rfl
theorem scanW_looked (l : List UInt8) (root tree fuel : Int) : (scanW l root tree fuel).looked ≤ fuel.toNat := by
  obtain ⟨_, _, h⟩ := scanW_went l root tree fuel
  exact h.look (Nat.zero_le _)
theorem scanW_few (l : List UInt8) (root tree fuel : Int) (hf : fuel ≤ 1000) : (scanW l root tree fuel).es.length ≤ 1000000 ∧ (scanW l root tree fuel).bs.length ≤ 1000000 ∧ (scanW l root tree fuel).fs.length ≤ 1000000 := by
  have h1 := visitF_count l tree fuel 17 [] root 0 281474976710656 ws0 rfl
  have h2 := scanW_looked l root tree fuel
  obtain ⟨_, _, h3⟩ := scanW_went l root tree fuel
  have h4 := h3.blks
  simp only [ws0, List.length_nil] at h4
  change (scanW l root tree fuel).fs.length + (scanW l root tree fuel).es.length + 18 * 0 ≤ 0 + 0 + 18 * (scanW l root tree fuel).looked + (if (scanW l root tree fuel).dry = true then 1 else 0) at h1
  have h5 : (if (scanW l root tree fuel).dry = true then 1 else 0) ≤ 1 := by split <;> omega
  have h6 : fuel.toNat ≤ 1000 := by omega
  generalize (if (scanW l root tree fuel).dry = true then 1 else 0) = q at h1 h5
  omega
/-- a scan's finding in memory: the five cells of a Walked -/
def walkC (t : WS) (pe pb pf : Option Addr) (ce cb cf : Nat) : List Value := [.slice pe t.es.length ce, .slice pb t.bs.length cb, .int .i64 t.deep, .int .i64 (t.looked : Int), .slice pf t.fs.length cf]
structure WalkV (B : Nat) (t : WS) (pe pb pf : Option Addr) (ce cb cf : Nat) (fv : List Value) (w : World) : Prop where
  ents : w.ownsRow B 45 3 (.slice pe t.es.length ce) t.es.length (t.es.flatMap entC)
  blks : w.ownsRow B 3 1 (.slice pb t.bs.length cb) t.bs.length (t.bs.map (Value.int .i64))
  flts : w.ownsRow B 32 1 (.slice pf t.fs.length cf) t.fs.length fv
  fltv : FltsW w t.fs fv
def ScanP (l : List UInt8) (root tree fuel : Int) (w : World) (e : Ending) (w' : World) : Prop :=
  ∃ pe pb pf ce cb cf fv, e = .returned (.agg (walkC (scanW l root tree fuel) pe pb pf ce cb cf).toArray) ∧ Below w.heap.size w w' ∧ WalkV w.heap.size (scanW l root tree fuel) pe pb pf ce cb cf fv w'
set_option maxRecDepth 100000 in
set_option maxHeartbeats 4000000 in
theorem walk_Scan (Bi b : Nat) (pi : Option Addr) (ni ci : Nat) (l : List UInt8) (root tree fuel : Int) (w : World) (hfu : fuel ≤ 1000) (hI : ImgR Bi b pi ni ci l w) :
    Calls Tryz.prog 50 #[.pointer (some ⟨b, 0, none⟩), .int .i64 root, .int .i64 tree, .int .i64 fuel] w (ScanP l root tree fuel w) := by
 refine zin 23 Tryz.func50 ?_
 refine xa 2 [.slice none 0 0, .slice none 0 0, .int .i64 0, .int .i64 0, .slice none 0 0] 64 fun b1 W1 n1 => ?_
 refine xa 8 [.slice none 0 0, .slice none 0 0, .int .i64 0, .int .i64 0, .slice none 0 0, .pointer (some ⟨b, 0, none⟩), .int .i64 tree, .int .i64 fuel, .slice none 0 0, .bool false] 129 fun b2 W2 n2 => ?_
 refine xr 7 (args := #[]) (span_all _) fun W3 hb3 => ?_
 have hfew := scanW_few l root tree fuel hfu
 have g2 := n2.ge n1.below
 have hB := Bl.next (Bl.next n1.below n2.below) hb3
 have k2 := n2.blk.below hb3
 have hI'1 := ((hI.below n1.below).below n2.below).below hb3
 refine xc 0 (args := #[.pointer (some ⟨b2, 0, none⟩), .int .i64 root, .agg #[.int .i64 0, .int .i64 281474976710656]]) (visit_all (B := w.heap.size) (bw := b2) (Bi := Bi) (b := b) (pi := pi) (ni := ni) (ci := ci) (l := l) (tree := tree) (fuel := fuel) g2 (by omega) 16 [] root 0 281474976710656 ws0 none none none none 0 0 0 0 [] _ rfl hB.size rfl ⟨k2, World.ownsRow_nil _ _ _ _, World.ownsRow_nil _ _ _ _, World.ownsRow_nil _ _ _ _, trivial, World.ownsRow_nil _ _ _ _, Apart.nil _, hI'1⟩ hfew.1 hfew.2.1 hfew.2.2) ?_
 rintro _ W4 ⟨u4, pe, pb, pf, pw, ce, cb, cf, cw, fv, rfl, hb4, hO4, hR⟩
 change WalkR _ _ _ _ _ _ _ _ _ _ _ (scanW l root tree fuel) _ _ _ _ _ _ _ _ _ _ at hR
 obtain ⟨kW, hEn, hBl, hFl, hFv, hWy, hAp, hI⟩ := hR
 refine xlv 7 (kW.rpp 0 5) ?_
 have k1 := ((n1.blk.below n2.below).below hb3).only hO4 (by decide)
 refine xsv 0 k1 [.slice pe ((scanW l root tree fuel).es.length) ce, .slice pb ((scanW l root tree fuel).bs.length) cb, .int .i64 (scanW l root tree fuel).deep, .int .i64 ((scanW l root tree fuel).looked : Int), .slice pf ((scanW l root tree fuel).fs.length) cf] fun W5 u5 k5 => ?_
 have g1 := n1.ge (Below.refl w.heap.size _)
 have hB'1 := u5.below (hB.trans hb4) g1
 have hEn'1 := u5.own2 hEn k1 (by decide)
 have hBl'1 := u5.own2 hBl k1 (by decide)
 have hFl'1 := u5.own2 hFl k1 (by decide)
 have hFv'1 := hFv.only (Only.of_upd (T := [64]) u5 k1 (by decide)) (by decide)
 exact xec 3 k5 (.agg #[.slice pe ((scanW l root tree fuel).es.length) ce, .slice pb ((scanW l root tree fuel).bs.length) cb, .int .i64 (scanW l root tree fuel).deep, .int .i64 ((scanW l root tree fuel).looked : Int), .slice pf ((scanW l root tree fuel).fs.length) cf]) ⟨_, _, _, _, _, _, _, rfl, hB'1, ⟨hEn'1, hBl'1, hFl'1, hFv'1⟩⟩
end Go.Proofs.YthlakkdgcgkcdaaGreat
namespace Go.Proofs.YthlakkdgcgkcdaaGreat
open Go.RowKit Go.Extern.Stop Go.Stop Go.Extern
set_option linter.unusedVariables false
attribute [local irreducible] wpList wpAnyH Code.wp Oper.wp Go

/-- an error of the document's at its blocks: a row of the call's own -/

theorem ints_one (L : List Int) : ∀ u ∈ L.map (Value.int .i64), u.oneCell' = true := by intro u hu; obtain ⟨x, _, rfl⟩ := List.mem_map.1 hu; rfl
end Go.Proofs.YthlakkdgcgkcdaaGreat
namespace Go.Proofs.YthlakkdgcgkcdaaGreat
open Go.RowKit Go.Extern.Stop Go.Stop Go.Extern
set_option linter.unusedVariables false
attribute [local irreducible] wpList wpAnyH Code.wp Oper.wp Go

theorem ImgR.mono {B B' b : Nat} {p : Option Addr} {n c : Nat} {l : List UInt8} {w : World} (h : ImgR B b p n c l w) (hB : B' ≤ B) : ImgR B' b p n c l w := ⟨h.blk, own_mono h.row hB, h.hn⟩
end Go.Proofs.YthlakkdgcgkcdaaGreat
namespace Go.Proofs.YthlakkdgcgkcdaaGreat
open Go.RowKit Go.Extern.Stop Go.Stop Go.Extern
set_option linter.unusedVariables false
attribute [local irreducible] wpList wpAnyH Code.wp Oper.wp Go

theorem FltsW.at {w : World} : ∀ {fs : List (List Int × Int)} {vs : List Value}, FltsW w fs vs → ∀ {j : Nat}, j < fs.length → ∃ ty x, vs[j]? = some (.iface ty x) ∧ ErrV w ((fs.getD j ([], 0)).1.map some) (some (fs.getD j ([], 0)).2) (.iface ty x)
  | f :: r, v :: q, h, 0, _ => by
    obtain ⟨ty, x, rfl⟩ := h.1.iface
    exact ⟨ty, x, rfl, h.1⟩
  | f :: r, v :: q, h, j + 1, hj => by
    obtain ⟨ty, x, h1, h2⟩ := h.2.at (j := j) (by simpa using hj)
    exact ⟨ty, x, by simpa using h1, by simpa using h2⟩
  | [], _, _, j, hj => absurd hj (by simp)
  | _ :: _, [], h, _, _ => h.elim
theorem Sl.elem1 {w : World} {b : Option Addr} {n c : Nat} {xs : List Value} (h : Sl w (.slice b n c) n xs) {j : Nat} {x : Value} (hj : xs[j]? = some x) : b.isSome = true ∧ w.cell? (elemAddr b (j * 1)) = some x := by rw [Nat.mul_one]; exact Sl.elem h hj
/-- what the law asks of a scan -/
theorem scan_law (l : List UInt8) (root tree fuel : Int) : (scanW l root tree fuel).looked ≤ fuel.toNat ∧ (scanW l root tree fuel).bs.length ≤ (scanW l root tree fuel).looked ∧ (∀ x ∈ (scanW l root tree fuel).es, InBlk l tree x) ∧
    (scanW l root tree fuel).es.Pairwise (fun x y => x.1 < y.1) ∧ ∀ f ∈ (scanW l root tree fuel).fs, f.1 ≠ [] ∧ f.1.getD 0 0 = root := by
  obtain ⟨es, fs, h⟩ := scanW_went l root tree fuel
  have h1 : (scanW l root tree fuel).es = es := by rw [h.esE]; rfl
  have h2 : (scanW l root tree fuel).fs = fs := by rw [h.fsE]; rfl
  have h3 := h.blks
  refine ⟨scanW_looked _ _ _ _, by simpa [ws0] using h3, fun x hx => h.inb x (h1 ▸ hx), by rw [h1]; exact h.rise.1, fun f hf => ?_⟩
  obtain ⟨q1, q2, _⟩ := h.flt f (h2 ▸ hf)
  refine ⟨q2, ?_⟩
  cases e : f.1 with
  | nil => exact absurd e q2
  | cons a r => rw [e] at q1; simpa using q1
end Go.Proofs.YthlakkdgcgkcdaaGreat
namespace Go.Proofs.YthlakkdgcgkcdaaGreat
open Go.RowKit Go.Extern.Stop Go.Stop Go.Extern
set_option linter.unusedVariables false
attribute [local irreducible] wpList wpAnyH Code.wp Oper.wp Go

/-- what the program has found, in any world: rows as they are read -/
structure WalkS (t : WS) (pe pb pf : Option Addr) (ce cb cf : Nat) (fv : List Value) (w : World) : Prop where
  ents : Sts entC w (.slice pe t.es.length ce) t.es
  blks : Ints w (.slice pb t.bs.length cb) t.bs
  flts : Sl w (.slice pf t.fs.length cf) t.fs.length fv
  fltv : FltsW w t.fs fv
theorem WalkS.below {t : WS} {pe pb pf : Option Addr} {ce cb cf : Nat} {fv : List Value} {w W : World} (h : WalkS t pe pb pf ce cb cf fv w) (hb : Below w.heap.size w W) : WalkS t pe pb pf ce cb cf fv W :=
  ⟨Sl.below h.ents hb, Sl.below h.blks hb, Sl.below h.flts hb, h.fltv.below hb⟩
end Go.Proofs.YthlakkdgcgkcdaaGreat
namespace Go.Proofs.YthlakkdgcgkcdaaGreat
open Go.RowKit Go.Extern.Stop Go.Stop Go.Extern
set_option linter.unusedVariables false
attribute [local irreducible] wpList wpAnyH Code.wp Oper.wp Go

def eL (S : WS) : List (Option Int) := if S.fs = [] then [] else (S.fs.getD 0 ([], 0)).1.map some
def eT (S : WS) : Option Int := if S.fs = [] then none else some (S.fs.getD 0 ([], 0)).2
def wholeT (S : WS) : WS := if S.fs = [] then S else ws0
def wholeF (S : WS) : List Int × Int := if S.fs = [] then ([], 0) else S.fs.getD 0 ([], 0)
def FirstP (fs : List (List Int × Int)) (w : World) (e : Ending) (w' : World) : Prop :=
  (fs = [] ∧ e = .returned .nilIface ∧ Below w.heap.size w w') ∨ (fs ≠ [] ∧ ∃ ty x, e = .returned (.iface ty x) ∧ Below w.heap.size w w' ∧ ErrV w' ((fs.getD 0 ([], 0)).1.map some) (some (fs.getD 0 ([], 0)).2) (.iface ty x))
set_option maxRecDepth 100000 in
set_option maxHeartbeats 1000000 in
theorem fault_First_some (p : Option Addr) (n c : Nat) (fv : List Value) (ty : TypeId) (x : Value) (w : World) (hn : 0 < n) (hS : Sl w (.slice p n c) n fv) (hx : fv[0]? = some (.iface ty x)) :
    Calls Tryz.prog 51 #[.slice p n c] w (Ret (.iface ty x) w) := by
 refine zin 15 Tryz.func51 ?_
 refine xu 14 1 ?_
 refine xk 6 (show (decide ((0 : Int) < (↑n : Int)) : Bool) = true from decide_eq_true (by omega)) ?_
 refine xx 6 _ n 0 1 (Sl.elem1 hS hx).1 ?_
 refine xl 0 ((Sl.elem1 hS hx).2) ?_
 exact xe 22 (.iface ty (x)) ⟨rfl, (Below.refl w.heap.size _)⟩
set_option maxRecDepth 100000 in
set_option maxHeartbeats 1000000 in
theorem fault_First_none (p : Option Addr) (c : Nat) (w : World) :
    Calls Tryz.prog 51 #[.slice p 0 c] w (Ret .nilIface w) := by
 refine zin 15 Tryz.func51 ?_
 refine xu 14 1 ?_
 exact xe 18 .nilIface ⟨rfl, (Below.refl w.heap.size _)⟩
theorem fault_FirstP (p : Option Addr) (n c : Nat) (fs : List (List Int × Int)) (fv : List Value) (w : World) (hn : fs.length = n) (hS : Sl w (.slice p n c) n fv) (hF : FltsW w fs fv) : Calls Tryz.prog 51 #[.slice p n c] w (FirstP fs w) := by
  subst hn
  match fs, hS, hF with
  | [], hS, hF =>
    refine (fault_First_none p c w).mono ?_
    rintro e W ⟨rfl, hb⟩
    exact .inl ⟨rfl, rfl, hb⟩
  | f :: r, hS, hF =>
    obtain ⟨ty, x, h1, h2⟩ := hF.at (j := 0) (by simp)
    refine (fault_First_some p _ c fv ty x w (by simp) hS h1).mono ?_
    rintro e W ⟨rfl, hb⟩
    exact .inr ⟨by simp, ty, x, rfl, hb, h2.below hb⟩
theorem WalkV.mono {B B' : Nat} {t : WS} {pe pb pf : Option Addr} {ce cb cf : Nat} {fv : List Value} {w : World} (h : WalkV B t pe pb pf ce cb cf fv w) (hB : B' ≤ B) : WalkV B' t pe pb pf ce cb cf fv w := ⟨own_mono h.ents hB, own_mono h.blks hB, own_mono h.flts hB, h.fltv⟩
theorem WalkV.below {B : Nat} {t : WS} {pe pb pf : Option Addr} {ce cb cf : Nat} {fv : List Value} {w W : World} (h : WalkV B t pe pb pf ce cb cf fv w) (hb : Below w.heap.size w W) : WalkV B t pe pb pf ce cb cf fv W := ⟨own_below h.ents hb, own_below h.blks hb, own_below h.flts hb, h.fltv.below hb⟩
theorem WalkV.only {B : Nat} {T : List TypeId} {t : WS} {pe pb pf : Option Addr} {ce cb cf : Nat} {fv : List Value} {w W : World} (h : WalkV B t pe pb pf ce cb cf fv w) (hO : Only T w W) (hT : T.contains 45 = false ∧ T.contains 3 = false ∧ T.contains 32 = false ∧ T.contains 105 = false) : WalkV B t pe pb pf ce cb cf fv W := ⟨own_only h.ents hO hT.1, own_only h.blks hO hT.2.1, own_only h.flts hO hT.2.2.1, h.fltv.only hO hT.2.2.2⟩
theorem WalkV.s {B : Nat} {t : WS} {pe pb pf : Option Addr} {ce cb cf : Nat} {fv : List Value} {w : World} (h : WalkV B t pe pb pf ce cb cf fv w) : WalkS t pe pb pf ce cb cf fv w := ⟨own_sl h.ents, own_sl h.blks, own_sl h.flts, h.fltv⟩
theorem WalkV.zero (B : Nat) (w : World) : WalkV B ws0 none none none 0 0 0 [] w := ⟨World.ownsRow_nil _ _ _ _, World.ownsRow_nil _ _ _ _, World.ownsRow_nil _ _ _ _, trivial⟩
theorem whole_ok {S : WS} (h : S.fs = []) : wholeT S = S ∧ wholeF S = ([], 0) ∧ eL S = [] ∧ eT S = none := by unfold wholeT wholeF eL eT; simp [h]
theorem whole_bad {S : WS} (h : S.fs ≠ []) : wholeT S = ws0 ∧ wholeF S = S.fs.getD 0 ([], 0) ∧ eL S = (S.fs.getD 0 ([], 0)).1.map some ∧ eT S = some (S.fs.getD 0 ([], 0)).2 := by unfold wholeT wholeF eL eT; simp [h]
def WholeP (S : WS) (w : World) (e : Ending) (w' : World) : Prop := ∃ t pe pb pf ce cb cf fv v, t = wholeT S ∧ e = .returned (.tuple #[.agg (walkC t pe pb pf ce cb cf).toArray, v]) ∧ Below w.heap.size w w' ∧ WalkV w.heap.size t pe pb pf ce cb cf fv w' ∧ ErrV w' (eL S) (eT S) v
set_option maxRecDepth 100000 in
set_option maxHeartbeats 1000000 in
theorem walk_WholeP (Bi b : Nat) (pi : Option Addr) (ni ci : Nat) (l : List UInt8) (root tree fuel : Int) (w : World) (hfu : fuel ≤ 1000) (hI : ImgR Bi b pi ni ci l w) :
    Calls Tryz.prog 26 #[.pointer (some ⟨b, 0, none⟩), .int .i64 root, .int .i64 tree, .int .i64 fuel] w (WholeP (scanW l root tree fuel) w) := by
 refine zin 25 Tryz.func26 ?_
 refine xa 2 [.slice none 0 0, .slice none 0 0, .int .i64 0, .int .i64 0, .slice none 0 0] 64 fun b1 W1 n1 => ?_
 have hsz := n1.below.size
 refine xc 9 (args := #[.pointer (some ⟨b, 0, none⟩), .int .i64 root, .int .i64 tree, .int .i64 fuel]) (walk_Scan Bi b pi ni ci l root tree fuel _ hfu (hI.below n1.below)) ?_
 rintro _ W2 ⟨pe, pb, pf, ce, cb, cf, fv, rfl, hb2, hW0⟩
 have hW := hW0.mono hsz
 refine xa 0 [.slice none 0 0, .slice none 0 0, .int .i64 0, .int .i64 0, .slice none 0 0] 64 fun b3 W3 n3 => ?_
 have k1 := n1.blk.below hb2
 have d3_b1 := n3.ne k1
 have hB'1 := Bl.next n1.below hb2
 have g3 := n3.ge hB'1
 refine xsv 0 n3.blk [.slice pe ((scanW l root tree fuel).es.length) ce, .slice pb ((scanW l root tree fuel).bs.length) cb, .int .i64 ((scanW l root tree fuel).deep), .int .i64 (↑(scanW l root tree fuel).looked : Int), .slice pf ((scanW l root tree fuel).fs.length) cf] fun W4 u4 k4 => ?_
 refine xb 6 4 k4 ?_
 have hW'1 := (hW.below n3.below).only (Only.of_upd (T := [64]) u4 n3.blk (by decide)) (by decide)
 refine xc 0 (args := #[.slice pf ((scanW l root tree fuel).fs.length) cf]) (fault_FirstP pf _ cf (scanW l root tree fuel).fs fv _ rfl (own_sl hW'1.flts) hW'1.fltv) ?_
 rintro e W5 hq5
 rcases hq5 with ⟨hz, rfl, hb5⟩ | ⟨hz, ty, x, rfl, hb5, hv⟩
 · have hwo := whole_ok hz
   have k4'1 := k4.below hb5
   refine xlv 14 k4'1.rp ?_
   have k1'1 := (u4.blk (k1.below n3.below) (Ne.symm (Ne.symm d3_b1))).below hb5
   refine xsv 0 k1'1 [.slice pe ((scanW l root tree fuel).es.length) ce, .slice pb ((scanW l root tree fuel).bs.length) cb, .int .i64 ((scanW l root tree fuel).deep), .int .i64 (↑(scanW l root tree fuel).looked : Int), .slice pf ((scanW l root tree fuel).fs.length) cf] fun W6 u6 k6 => ?_
   have g1 := n1.ge (Below.refl w.heap.size _)
   have hB'2 := u6.below (Bl.next (u4.below (Bl.next hB'1 n3.below) g3) hb5) g1
   have hW'2 := (hW'1.below hb5).only (Only.of_upd (T := [64]) u6 k1'1 (by decide)) (by decide)
   exact xec 4 k6 (.tuple #[.agg #[.slice pe ((scanW l root tree fuel).es.length) ce, .slice pb ((scanW l root tree fuel).bs.length) cb, .int .i64 ((scanW l root tree fuel).deep), .int .i64 (↑(scanW l root tree fuel).looked : Int), .slice pf ((scanW l root tree fuel).fs.length) cf], .nilIface]) ⟨_, pe, pb, pf, ce, cb, cf, fv, _, rfl, by rw [hwo.1]; rfl, hB'2, by rw [hwo.1]; exact hW'2, by rw [hwo.2.2.1, hwo.2.2.2]; rfl⟩
 have hwo := whole_bad hz
 have k1'2 := (u4.blk (k1.below n3.below) (Ne.symm (Ne.symm d3_b1))).below hb5
 refine xsv 14 k1'2 [.slice none 0 0, .slice none 0 0, .int .i64 0, .int .i64 0, .slice none 0 0] fun W7 u7 k7 => ?_
 have g1 := n1.ge (Below.refl w.heap.size _)
 have hB'3 := u7.below (Bl.next (u4.below (Bl.next hB'1 n3.below) g3) hb5) g1
 have hv'1 := hv.upd u7 k1'2 (by decide)
 exact xec 5 k7 (.tuple #[.agg #[.slice none 0 0, .slice none 0 0, .int .i64 0, .int .i64 0, .slice none 0 0], .iface ty (x)]) ⟨_, none, none, none, 0, 0, 0, [], _, rfl, by rw [hwo.1]; rfl, hB'3, by rw [hwo.1]; exact WalkV.zero _ _, by rw [hwo.2.2.1, hwo.2.2.2]; exact hv'1⟩
end Go.Proofs.YthlakkdgcgkcdaaGreat
namespace Go.Proofs.YthlakkdgcgkcdaaGreat
open Go.RowKit
set_option linter.unusedVariables false
section
variable {P : Program} {a : Act}
theorem str_ext (l : List UInt8) (b c : Nat) : (ByteArray.mk l.toArray).extract b c = ByteArray.mk ((l.drop b).take (c - b)).toArray := ByteArray.extract_mk l b c
theorem run_strH {o : Oper} {t : TypeId} {x y : Operand} {l : List UInt8} {k : Nat} {j : Int} {kj : IntKind} (ho : o.op = .slice t x none (some y) none) (hx : a.eval x = .string ⟨l.toArray⟩) (hy : a.eval y = .int kj j) (hj : j = (k : Int)) (hk : k ≤ l.length)
    (ht : P.underlying t = some .string) (w : World) : (execOp a.eval o).run P w = .ok (.value (.string ⟨(l.take k).toArray⟩)) w := by
  subst hj
  have hs : ((k : Int)) ≤ ((⟨l.toArray⟩ : ByteArray).size : Int) := by simp [ByteArray.size]; omega
  have h := run_slice_string_h (P := P) (w := w) (t := t) (s := ⟨l.toArray⟩) ht kj (k : Int) (by omega) hs
  rw [str_ext, List.drop_zero, Int.toNat_natCast, Nat.sub_zero] at h
  simp only [execOp, ho, hx, Option.map_some, Option.map_none, hy]
  simp [run_sliceAt_string, ht, h]
theorem run_strL {o : Oper} {t : TypeId} {x y : Operand} {l : List UInt8} {k : Nat} {j : Int} {kj : IntKind} (ho : o.op = .slice t x (some y) none none) (hx : a.eval x = .string ⟨l.toArray⟩) (hy : a.eval y = .int kj j) (hj : j = (k : Int)) (hk : k ≤ l.length)
    (ht : P.underlying t = some .string) (w : World) : (execOp a.eval o).run P w = .ok (.value (.string ⟨(l.drop k).toArray⟩)) w := by
  subst hj
  have hs : ((k : Int)) ≤ ((⟨l.toArray⟩ : ByteArray).size : Int) := by simp [ByteArray.size]; omega
  have h := run_slice_string_l (P := P) (w := w) (t := t) (s := ⟨l.toArray⟩) ht kj (k : Int) (by omega) hs
  rw [str_ext, Int.toNat_natCast, show (⟨l.toArray⟩ : ByteArray).size = l.length by simp [ByteArray.size], List.take_of_length_le (by simp)] at h
  simp only [execOp, ho, hx, Option.map_some, Option.map_none, hy]
  simp [run_sliceAt_string, ht, h]
end
end Go.Proofs.YthlakkdgcgkcdaaGreat
namespace Go.Proofs.YthlakkdgcgkcdaaGreat
open Go.RowKit Go.Extern.Stop Go.Stop Go.Extern
set_option linter.unusedVariables false
attribute [local irreducible] wpList wpAnyH Code.wp Oper.wp Go

def slotP : List Part := [(8, 1, 14399), (4, 0, 960), (4, 0, 960)]
theorem slotP_ok : PartsOk slotP := by
  refine ⟨by decide, fun i hi => ?_⟩
  have hi' : i < 3 := hi
  obtain rfl | rfl | rfl : i = 0 ∨ i = 1 ∨ i = 2 := by omega
  all_goals simp [slotP, List.getD]
/-- a slot of an index: the number of bytes before it -/
def slotS (l : List UInt8) (i : Nat) : List UInt8 := (l.drop (4 + i * 16)).take 16
def slotK (l : List UInt8) (i k : Nat) : Nat := (readV slotP (slotS l i)).getD k 0
def sltC (x : Nat × Nat × Nat) : List Value := [.int .i64 (x.1 : Int), .int .i64 (x.2.1 : Int), .int .i64 (x.2.2 : Int)]
theorem sltC_len (x : Nat × Nat × Nat) : (sltC x).length = 3 := rfl
def sltX (l : List UInt8) (i : Nat) : Nat × Nat × Nat := (slotK l i 0, slotK l i 1, slotK l i 2)
def sltsL (l : List UInt8) (n : Nat) : List (Nat × Nat × Nat) := (List.range n).map (sltX l)
theorem sltsL_snoc (l : List UInt8) (n : Nat) : sltsL l (n + 1) = sltsL l n ++ [sltX l n] := by simp [sltsL, List.range_succ]
theorem sltsL_len (l : List UInt8) (n : Nat) : (sltsL l n).length = n := by simp [sltsL]
/-- the first number that is wrong -/
def sltsE (l : List UInt8) : Nat → Int
  | 0 => 0
  | i + 1 => if sltsE l i ≠ 0 then sltsE l i else readE slotP (slotS l i)
theorem sltsE_stop {l : List UInt8} {i : Nat} (h : sltsE l i ≠ 0) : ∀ n, i ≤ n → sltsE l n = sltsE l i
  | 0, h2 => by obtain rfl : i = 0 := by omega
                rfl
  | n + 1, h2 => by
    by_cases e : i = n + 1
    · rw [e]
    · have ih := sltsE_stop h n (by omega)
      rw [sltsE, if_pos (by rw [ih]; exact h), ih]
theorem sltsE_at {l : List UInt8} {i n : Nat} (h : sltsE l i = 0) (he : readE slotP (slotS l i) ≠ 0) (hi : i < n) : sltsE l n = readE slotP (slotS l i) := by
  have e : sltsE l (i + 1) = readE slotP (slotS l i) := by rw [sltsE, if_neg (by rw [h]; decide)]
  rw [sltsE_stop (by rw [e]; exact he) n hi, e]
theorem sltsE_next {l : List UInt8} {i : Nat} (h : sltsE l i = 0) (he : readE slotP (slotS l i) = 0) : sltsE l (i + 1) = 0 := by rw [sltsE, if_neg (by rw [h]; decide), he]
theorem slotS_len {l : List UInt8} {i : Nat} (hl : l.length = 244) (hi : i < 15) : (slotS l i).length = 16 := by simp [slotS]; omega
/-- whether bytes are an index's, but for its slots -/
def idxOk (l : List UInt8) : Bool := decide (rawN l 0 4 ≤ 15) && zeroB (l.drop (4 + rawN l 0 4 * 16))
def idxE (l : List UInt8) : Int := if idxOk l then sltsE l (rawN l 0 4) else 7
def SlotsP (l : List UInt8) (w : World) (e : Ending) (w' : World) : Prop :=
  (idxE l ≠ 0 ∧ e = .returned (.tuple #[.slice none 0 0, .int .i64 (idxE l)]) ∧ Below w.heap.size w w') ∨
  (idxE l = 0 ∧ ∃ p c, e = .returned (.tuple #[.slice p (rawN l 0 4) c, .int .i64 0]) ∧ Below w.heap.size w w' ∧ w'.ownsRow w.heap.size 57 3 (.slice p (rawN l 0 4) c) (rawN l 0 4) ((sltsL l (rawN l 0 4)).flatMap sltC))
set_option maxRecDepth 100000 in
set_option maxHeartbeats 1000000 in
theorem value_slotR (w : World) :
    Calls Tryz.prog 46 #[] w (RetS (fun w' r => ∃ b, r = .slice (some ⟨b, 0, none⟩) 3 3 ∧ w.heap.size ≤ b ∧ Blk w' b [.int .i64 8, .int .i64 1, .int .i64 14399, .int .i64 4, .int .i64 0, .int .i64 960, .int .i64 4, .int .i64 0, .int .i64 960] 118) w) := by
 refine zin 5 Tryz.func46 ?_
 refine xbs 10 3 [.int .i64 8, .int .i64 1, .int .i64 14399, .int .i64 4, .int .i64 0, .int .i64 960, .int .i64 4, .int .i64 0, .int .i64 960] 118 fun b1 W1 n1 => ?_
 have g1 := n1.ge (Below.refl w.heap.size _)
 exact xe 4 (.slice (some ⟨b1, 0, none⟩) 3 3) ⟨_, rfl, n1.below, _, rfl, g1, n1.blk⟩
set_option maxRecDepth 100000 in
set_option maxHeartbeats 1000000 in
theorem value_ReadSlot (s : List UInt8) (w : World) (hs : s.length ≤ 1000) :
    Calls Tryz.prog 29 #[.string ⟨s.toArray⟩] w (Ret (.tuple #[.agg #[.int .i64 (↑((readV slotP s).getD 0 0) : Int), .int .i64 (↑((readV slotP s).getD 1 0) : Int), .int .i64 (↑((readV slotP s).getD 2 0) : Int)], .int .i64 (readE slotP s)]) w) := by
 refine zin 23 Tryz.func29 ?_
 refine xa 2 [.int .i64 0, .int .i64 0, .int .i64 0] 57 fun b1 W1 n1 => ?_
 refine xc 5 (args := #[]) (value_slotR _) ?_
 rintro _ W2 ⟨_, rfl, hb2, gl, rfl, gg, kl⟩
 refine xc 1 (args := #[.slice (some ⟨gl, 0, none⟩) 3 3, .string ⟨s.toArray⟩]) (value_readG slotP s (some ⟨gl, 0, none⟩) 3 _ slotP_ok (by decide) (by omega) (kl.sl 3 3 (by decide) (by decide))) ?_
 rintro _ W3 ⟨_, rfl, hb3, p5, c5, rfl, h5⟩
 have hs3 := (Bl.next n1.below hb2).size
 refine xd 8 (.t w.heap.size [57]) ?_
 have h5'1 := own_below (own_mono h5 hs3) (below_drew W3)
 refine xx (.e [0] 1) _ 3 0 1 (nv_elem (l := readV slotP s) (own_sl h5'1) (readV_len _ _) (k := 0) (by decide)).1 ?_
 refine xlt (.e [] 2) (.t w.heap.size [57]) (fun V hV => (nv_elem (l := readV slotP s) (own_sl (own_only h5'1 hV.2 (by decide))) (readV_len _ _) (k := 0) (by decide)).2) ?_
 refine xx (.e [3] 4) _ 3 1 1 (nv_elem (l := readV slotP s) (own_sl h5'1) (readV_len _ _) (k := 1) (by decide)).1 ?_
 refine xlt (.e [] 5) (.t w.heap.size [57]) (fun V hV => (nv_elem (l := readV slotP s) (own_sl (own_only h5'1 hV.2 (by decide))) (readV_len _ _) (k := 1) (by decide)).2) ?_
 refine xx (.e [6] 7) _ 3 2 1 (nv_elem (l := readV slotP s) (own_sl h5'1) (readV_len _ _) (k := 2) (by decide)).1 ?_
 refine xlt (.e [] 8) (.t w.heap.size [57]) (fun V hV => (nv_elem (l := readV slotP s) (own_sl (own_only h5'1 hV.2 (by decide))) (readV_len _ _) (k := 2) (by decide)).2) ?_
 have k1 := ((n1.blk.below hb2).below hb3).below (below_drew W3)
 have g1 := n1.ge (Below.refl w.heap.size _)
 refine ysv (.o [9, 10] 11) k1 [.int .i64 (↑((readV slotP s).getD 0 0) : Int), .int .i64 (↑((readV slotP s).getD 1 0) : Int), .int .i64 (↑((readV slotP s).getD 2 0) : Int)] (.t w.heap.size [57]) fun W4 u4 k4 => ⟨(sft_upd u4 k1 g1 (by decide)), ?_⟩
 have hB := u4.below (Bl.next (Bl.next (Bl.next n1.below hb2) hb3) (below_drew W3)) g1
 exact xec (.r [12] 3) k4 (.tuple #[.agg #[.int .i64 (↑((readV slotP s).getD 0 0) : Int), .int .i64 (↑((readV slotP s).getD 1 0) : Int), .int .i64 (↑((readV slotP s).getD 2 0) : Int)], .int .i64 (readE slotP s)]) ⟨rfl, hB⟩
set_option maxRecDepth 100000 in
set_option maxHeartbeats 1000000 in
theorem slots_next (B bt : Nat) (x : List UInt8) (w : World) (hBw : B ≤ w.heap.size) (hBt : B ≤ bt) (kt : Blk w bt [.string ⟨x.toArray⟩] 9) (hx : 16 ≤ x.length) :
    Calls Tryz.prog 86 #[.pointer (some ⟨bt, 0, none⟩)] w ((fun e w' => e = .returned (.string ⟨(x.take 16).toArray⟩) ∧ Below B w w' ∧ Only [9] w w' ∧ Blk w' bt [.string ⟨(x.drop 16).toArray⟩] 9)) := by
 refine zin 8 Tryz.func86 ?_
 refine xb 7 0 kt ?_
 refine xsH 0 (fun _ _ _ _ zo zx zy V => run_strH (k := 16) (j := 16) (kj := .i64) zo zx zy rfl hx Tryz.underlying9 V) ?_
 refine xb 5 0 kt ?_
 refine xsL 0 (fun _ _ _ _ zo zx zy V => run_strL (k := 16) (j := 16) (kj := .i64) zo zx zy rfl hx Tryz.underlying9 V) ?_
 refine xs 0 kt [.string ⟨(x.drop 16).toArray⟩] fun W1 u1 k1 => ?_
 have hB := u1.below (Below.refl B w) hBt
 have hO := (show Only [9] w _ from (Only.of_upd u1 kt (by decide)))
 exact xe 9 (.string ⟨(x.take 16).toArray⟩) ⟨rfl, hB, hO, k1⟩
theorem value_ReadSlotP (l : List UInt8) (i : Nat) (w : World) (hs : (slotS l i).length ≤ 1000) : Calls Tryz.prog 29 #[.string ⟨(slotS l i).toArray⟩] w (fun e w' =>
    (readE slotP (slotS l i) = 0 ∧ e = .returned (.tuple #[.agg #[.int .i64 (slotK l i 0 : Int), .int .i64 (slotK l i 1 : Int), .int .i64 (slotK l i 2 : Int)], .int .i64 0]) ∧ Below w.heap.size w w') ∨
    (readE slotP (slotS l i) ≠ 0 ∧ e = .returned (.tuple #[.agg #[.int .i64 (slotK l i 0 : Int), .int .i64 (slotK l i 1 : Int), .int .i64 (slotK l i 2 : Int)], .int .i64 (readE slotP (slotS l i))]) ∧ Below w.heap.size w w')) := by
  refine (value_ReadSlot (slotS l i) w hs).mono ?_
  rintro e W ⟨rfl, hb⟩
  by_cases h : readE slotP (slotS l i) = 0
  · exact .inl ⟨h, by rw [h]; rfl, hb⟩
  · exact .inr ⟨h, rfl, hb⟩
theorem bysK {w : World} {a : Option Addr} {c k : Nat} {l : List UInt8} (h : Bys w (.slice a 244 c) l) (hl : l.length = 244) (hk : k ≤ 244) : Bys w (.slice (cutA a k c 1) (244 - k) (c - k)) (l.drop k) := by
  have := Bys.cut h hl k 244 hk (by decide)
  rwa [List.take_of_length_le (by simp; omega)] at this
set_option maxRecDepth 100000 in
set_option maxHeartbeats 4000000 in
theorem slots_Read (a : Option Addr) (c : Nat) (l : List UInt8) (w : World) (hl : l.length = 244) (h : Bys w (.slice a 244 c) l) :
    Calls Tryz.prog 60 #[.slice a 244 c] w (SlotsP l w) := by
 have hcap := Bys.cap h hl
 refine zin 52 Tryz.func60 ?_
 refine xr 20 (args := #[.slice a 244 c, .int .i64 0, .int .i64 4]) (Get_okN a 244 c 0 4 0 4 l _ hl rfl rfl (by decide) (by decide) (by decide) (h.below (Below.refl w.heap.size _))) fun W1 hb1 => ?_
 refine xg 13 [20, 21] (decide ((↑(rawN l 0 4) : Int) > (15 : Int))) (fun hc2 => ?_) (fun hc2 => ?_)
 · have hc2 := of_decide_eq_true hc2
   refine xe 19 (.tuple #[.slice none 0 0, .int .i64 7]) ?_
   have he : idxE l = 7 := by unfold idxE idxOk; rw [decide_eq_false (by omega), Bool.false_and, if_neg (by decide)]
   exact .inl ⟨by rw [he]; decide, by rw [he], hb1⟩
 have hc2 := of_decide_eq_false hc2
 refine xwm 2 ((↑(rawN l 0 4) : Int) * 16) (↑((rawN l 0 4) * 16) : Int) ?_
 refine xwm 0 (4 + (↑((rawN l 0 4) * 16) : Int)) (↑(4 + ((rawN l 0 4) * 16)) : Int) ?_
 refine xsL 0 (fun _ _ _ _ zo zx zy V => run_sliceLA (k := (4 + ((rawN l 0 4) * 16))) (b := a) (n := 244) (c := c) (i := (↑(4 + ((rawN l 0 4) * 16)) : Int)) (ki := .i64) 1 zo zx zy rfl (by omega) Tryz.underlying53 (by kernel_rfl) V) ?_
 refine xr 0 (args := #[.slice (cutA a (4 + ((rawN l 0 4) * 16)) c 1) (244 - (4 + ((rawN l 0 4) * 16))) (c - (4 + ((rawN l 0 4) * 16)))]) (code_ZeroN (cutA a (4 + ((rawN l 0 4) * 16)) c 1) (244 - (4 + ((rawN l 0 4) * 16))) (c - (4 + ((rawN l 0 4) * 16))) (l.drop (4 + rawN l 0 4 * 16)) _ (by simp; omega) (by omega) ((bysK (k := 4 + rawN l 0 4 * 16) h hl (by omega)).below hb1)) fun W3 hb3 => ?_
 refine xi 4 (!(zeroB (l.drop (4 + rawN l 0 4 * 16)))) (fun hc4 => ?_) (fun hc4 => ?_)
 · have hze : zeroB (l.drop (4 + rawN l 0 4 * 16)) = false := not_t hc4
   have hB'1 := Bl.next hb1 hb3
   refine xe 8 (.tuple #[.slice none 0 0, .int .i64 7]) ?_
   have he : idxE l = 7 := by unfold idxE idxOk; rw [hze, Bool.and_false, if_neg (by decide)]
   exact .inl ⟨by rw [he]; decide, by rw [he], hB'1⟩
 have hze : zeroB (l.drop (4 + rawN l 0 4 * 16)) = true := not_f hc4
 refine xsL 5 (fun _ _ _ _ zo zx zy V => run_sliceLA (k := 4) (b := a) (n := 244) (c := c) (i := 4) (ki := .i64) 1 zo zx zy rfl (by omega) Tryz.underlying53 (by kernel_rfl) V) ?_
 have hB'2 := Bl.next hb1 hb3
 refine xcv0 0 (fun _ _ _ zo zx => run_bstr zo zx ((bysK (k := 4) h hl (by decide)).below hB'2) (by simp; omega) Tryz.underlying53 Tryz.underlying5 Tryz.underlying9) ?_
 refine xa 0 [.string ⟨#[]⟩] 9 fun b5 W5 n5 => ?_
 have g5 := n5.ge hB'2
 refine xs 0 n5.blk [.string ⟨(l.drop 4).toArray⟩] fun W6 u6 k6 => ?_
 have kt0 : Blk _ _ [.string ⟨((l.drop (4 + 0 * 16))).toArray⟩] _ := k6
 have hB'3 := u6.below (Bl.next hB'2 n5.below) g5
 refine zl 21 52 (fun zm zkv V => ∃ (i : Nat) (q : Option Addr) (d : Nat), zkv = [(7, .func (.func 86) #[] #[.pointer (some ⟨b5, 0, none⟩)]), (8, .slice q i d), (34, .int .i64 (↑(rawN l 0 4) : Int)), (35, .int .i64 (↑i : Int))] ∧ zm = (rawN l 0 4) - ((↑i : Int)).toNat ∧ Below w.heap.size w V ∧ Blk V b5 ([.string ⟨(l.drop (4 + i * 16)).toArray⟩]) 9 ∧ V.ownsRow w.heap.size 57 3 (.slice q i d) i ((sltsL l i).flatMap sltC) ∧ i ≤ (rawN l 0 4) ∧ sltsE l i = 0) ⟨0, _, _, rfl, rfl, hB'3, kt0, World.ownsRow_nil _ _ _ _, Nat.zero_le _, rfl⟩ ?_
 rintro _ _ W7 ⟨i, q, d, rfl, rfl, hB_7, k7_b5, ho, hi, hz⟩ J7 hJ7 r7
 refine xid 6 ((↑i : Int) < (↑(rawN l 0 4) : Int)) (fun hc8 => ?_) (fun hc8 => ?_)
 · refine xc 7 (args := #[.pointer (some ⟨b5, 0, none⟩)]) (slots_next w.heap.size b5 (l.drop (4 + i * 16)) _ hB_7.size g5 k7_b5 (by simp; omega)) ?_
   rintro _ W9 ⟨rfl, hb9, hO9, kN9⟩
   rw [List.drop_drop, show 4 + i * 16 + 16 = 4 + (i + 1) * 16 by omega] at kN9
   refine xc 0 (args := #[.string ⟨(slotS l i).toArray⟩]) (value_ReadSlotP l i _ (by rw [slotS_len hl (by omega)]; decide)) ?_
   rintro e W10 hq10
   rcases hq10 with ⟨hz0, rfl, hb10⟩ | ⟨hz0, rfl, hb10⟩
   · refine xa 3 [.int .i64 0, .int .i64 0, .int .i64 0] 57 fun b11 W11 n11 => ?_
     have hB'4 := Bl.next (hB_7.trans hb9) hb10
     have g11 := n11.ge hB'4
     have ho'1 := own_below (own_only ho hO9 (by decide)) hb10
     have r11_ho := own_ne ho'1 n11
     refine xsv 0 n11.blk [.int .i64 (↑(slotK l i 0) : Int), .int .i64 (↑(slotK l i 1) : Int), .int .i64 (↑(slotK l i 2) : Int)] fun W12 u12 k12 => ?_
     refine xlv 15 k12.rp ?_
     refine xbs 0 1 [.int .i64 (↑(slotK l i 0) : Int), .int .i64 (↑(slotK l i 1) : Int), .int .i64 (↑(slotK l i 2) : Int)] 57 fun b13 W13 n13 => ?_
     have d13_b11 := n13.ne k12
     have hB'5 := u12.below (Bl.next hB'4 n11.below) g11
     have g13 := n13.ge hB'5
     have ho'2 := u12.own3 (own_below ho'1 n11.below) r11_ho
     have r13_ho := own_ne ho'2 n13
     have ho'3 := own_below ho'2 n13.below
     have hB'6 := Bl.next hB'5 n13.below
     refine xbi 0 fun _ _ _ _ zJ zQ zo zx zy zK => op_app (m := 1) (news := [.int .i64 (↑(slotK l i 0) : Int), .int .i64 (↑(slotK l i 1) : Int), .int .i64 (↑(slotK l i 2) : Int)]) (.agg #[.int .i64 0, .int .i64 0, .int .i64 0]) 3 24 (i + 1) (((sltsL l (i + 1)).flatMap sltC)) zo Tryz.underlying80 (by kernel_rfl) rfl (by decide) zx ho'3 zy (n13.blk.sl 1 1 (by decide) (by decide)) rfl (by simp [Value.oneCell']) (by unfold maxLen; omega) (by omega) hB'6.size (by rfl) (by rw [sltsL_snoc, List.flatMap_append]; rfl) fun px14 cx14 W14 o14 hg14 hb14 => ?_
     refine zK _ _ ?_
     refine xwm 5 ((↑i : Int) + 1) (↑(i + 1) : Int) ?_
     have hB'7 := hB'6.trans hb14
     have kN9'1 := ((u12.blkT ((kN9.below hb10).below n11.below) n11.blk (by decide)).below n13.below).grown hg14 ho'3 (by decide)
     exact ze 2 (hJ7 _ _ _ ⟨i + 1, _, _, rfl, rfl, hB'7, kN9'1, o14, by omega, sltsE_next hz hz0⟩ (by omega))
   refine xa 3 [.int .i64 0, .int .i64 0, .int .i64 0] 57 fun b15 W15 n15 => ?_
   have hB'8 := Bl.next (hB_7.trans hb9) hb10
   have g15 := n15.ge hB'8
   have ho'4 := own_below (own_only ho hO9 (by decide)) hb10
   have r15_ho := own_ne ho'4 n15
   refine xsv 0 n15.blk [.int .i64 (↑(slotK l i 0) : Int), .int .i64 (↑(slotK l i 1) : Int), .int .i64 (↑(slotK l i 2) : Int)] fun W16 u16 k16 => ?_
   refine xk 10 (show (((readE slotP (slotS l i)) != (0 : Int)) : Bool) = true from bne_iff_ne.2 hz0) ?_
   have hB'9 := u16.below (Bl.next hB'8 n15.below) g15
   refine xe 14 (.tuple #[.slice none 0 0, .int .i64 (readE slotP (slotS l i))]) ?_
   have hok : idxOk l = true := by unfold idxOk; rw [hze, decide_eq_true (by omega)]; rfl
   have he : idxE l = readE slotP (slotS l i) := by unfold idxE; rw [if_pos hok, sltsE_at hz hz0 (by omega)]
   exact .inl ⟨by rw [he]; exact hz0, by rw [he], hB'9⟩
 refine xe 13 (.tuple #[.slice q i d, .int .i64 0]) ?_
 have hok : idxOk l = true := by unfold idxOk; rw [hze, decide_eq_true (by omega)]; rfl
 obtain rfl : i = rawN l 0 4 := by omega
 exact .inr ⟨by unfold idxE; rw [if_pos hok, hz], _, _, rfl, hB_7, ho⟩
def idxErr (l : List UInt8) (no : Int) : Int := if inE l 4 no = 0 then idxE (inB l no) else inE l 4 no
def BlkIdxP (l : List UInt8) (no : Int) (w : World) (e : Ending) (w' : World) : Prop :=
  (idxErr l no ≠ 0 ∧ ∃ b, e = .returned (.tuple #[.slice none 0 0, .iface 103 (.pointer (some ⟨b, 0, none⟩))]) ∧ Below w.heap.size w w' ∧ ErrV w' [some no] (some (idxErr l no)) (.iface 103 (.pointer (some ⟨b, 0, none⟩)))) ∨
  (idxErr l no = 0 ∧ ∃ p c, e = .returned (.tuple #[.slice p (rawN (inB l no) 0 4) c, .nilIface]) ∧ Below w.heap.size w w' ∧ w'.ownsRow w.heap.size 57 3 (.slice p (rawN (inB l no) 0 4) c) (rawN (inB l no) 0 4) ((sltsL (inB l no) (rawN (inB l no) 0 4)).flatMap sltC))
set_option maxRecDepth 100000 in
set_option maxHeartbeats 1000000 in
theorem readIdx (B b : Nat) (p : Option Addr) (n c : Nat) (l : List UInt8) (no : Int) (w : World) (hI : ImgR B b p n c l w) :
    Calls Tryz.prog 59 #[.pointer (some ⟨b, 0, none⟩), .int .i64 no, .int .i64 4, .func (.func 60) #[] #[]] w (BlkIdxP l no w) := by
 refine zin 56 Tryz.func59 ?_
 refine xc 15 (args := #[.pointer (some ⟨b, 0, none⟩), .int .i64 no]) (image_Read B b p n c l no _ (hI.below (Below.refl w.heap.size _))) ?_
 rintro e W1 hq1
 rcases hq1 with ⟨ho, vr, rfl, hb1⟩ | ⟨j, hk, hj, p2, c2, rfl, hb1, ho⟩
 · refine xc 21 (args := #[.int .i64 no, .iface 26 (.int .i64 3)]) (block_told no 3 _) ?_
   rintro _ W2 ⟨_, rfl, hb2, hv2⟩
   rw [if_neg (by decide), if_neg (by decide)] at hv2
   have hq2 := hv2
   obtain ⟨bf2, vf2, rfl, _, _⟩ := hq2
   have hB := Bl.next hb1 hb2
   refine xe 6 (.tuple #[.slice none 0 0, .iface 103 (.pointer (some ⟨bf2, 0, none⟩))]) ?_
   have he : idxErr l no = 3 := by unfold idxErr; rw [inE_out hI.len ho]; rfl
   exact .inl ⟨by rw [he]; decide, _, rfl, hB, by rw [he]; exact hv2⟩
 have hs1 := Nat.le_refl w.heap.size
 have hj2 : j < l.length / 256 := by rw [hI.len]; exact hj
 have hlj := blkB_len hj2
 have he2 := inE_in (l := l) (kind := 4) hI.len hk hj
 have ho'1 := own_mono ho hs1
 refine xc 22 (args := #[.slice p2 256 c2, .int .i64 4, .int .i64 no]) (seal_OpenN 4 no p2 256 c2 (blkB l j) _ hlj (bys_of (own_sl ho'1) hlj)) ?_
 rintro e W3 hq3
 rcases hq3 with ⟨hs, rfl, hb3⟩ | ⟨hs, p3, c3, rfl, hb3, h3⟩
 · refine xk 14 (show (((openE 4 no (blkB l j)) != (0 : Int)) : Bool) = true from bne_iff_ne.2 hs) ?_
   refine xc 6 (args := #[.int .i64 no, .iface 26 (.int .i64 (openE 4 no (blkB l j)))]) (block_told no (openE 4 no (blkB l j)) _) ?_
   rintro _ W4 ⟨_, rfl, hb4, hv4⟩
   rw [if_neg hs, if_neg hs] at hv4
   have hq4 := hv4
   obtain ⟨bf4, vf4, rfl, _, _⟩ := hq4
   have hB := Bl.next (Bl.next hb1 hb3) hb4
   refine xe 6 (.tuple #[.slice none 0 0, .iface 103 (.pointer (some ⟨bf4, 0, none⟩))]) ?_
   have he : idxErr l no = openE 4 no (blkB l j) := by unfold idxErr; rw [he2, if_neg hs]
   exact .inl ⟨by rw [he]; exact hs, _, rfl, hB, by rw [he]; exact hv4⟩
 have h3'1 := own_mono h3 hb1.size
 have hin : ((blkB l j).drop 8).take 244 = inB l no := (inB_in hk).symm
 have hil := inB_len hI.len hk hj
 rw [hin] at h3'1
 refine xc 21 (args := #[.slice p3 244 c3]) (slots_Read p3 c3 (inB l no) _ hil (bys_of (own_sl h3'1) hil)) ?_
 rintro e W5 hq5
 rcases hq5 with ⟨hz, rfl, hb5⟩ | ⟨hz, p4, c4, rfl, hb5, h4⟩
 · refine xk 14 (show (((idxE (inB l no)) != (0 : Int)) : Bool) = true from bne_iff_ne.2 hz) ?_
   refine xc 6 (args := #[.int .i64 no, .iface 26 (.int .i64 (idxE (inB l no)))]) (block_told no (idxE (inB l no)) _) ?_
   rintro _ W6 ⟨_, rfl, hb6, hv6⟩
   rw [if_neg hz, if_neg hz] at hv6
   have hq6 := hv6
   obtain ⟨bf6, vf6, rfl, _, _⟩ := hq6
   have hB := Bl.next (Bl.next (Bl.next hb1 hb3) hb5) hb6
   refine xe 6 (.tuple #[.slice none 0 0, .iface 103 (.pointer (some ⟨bf6, 0, none⟩))]) ?_
   have he : idxErr l no = idxE (inB l no) := by unfold idxErr; rw [he2, if_pos hs]
   exact .inl ⟨by rw [he]; exact hz, _, rfl, hB, by rw [he]; exact hv6⟩
 have hs5 := (Bl.next hb1 hb3).size
 have hB := Bl.next (Bl.next hb1 hb3) hb5
 have h4'1 := own_mono h4 hs5
 exact xe 25 (.tuple #[.slice p4 (rawN (inB l no) 0 4) c4, .nilIface]) (.inr ⟨by unfold idxErr; rw [he2, if_pos hs, hz], _, _, rfl, hB, h4'1⟩)
set_option maxRecDepth 100000 in
set_option maxHeartbeats 1000000 in
theorem block_Index (B b : Nat) (p : Option Addr) (n c : Nat) (l : List UInt8) (no : Int) (w : World) (hI : ImgR B b p n c l w) :
    Calls Tryz.prog 37 #[.pointer (some ⟨b, 0, none⟩), .int .i64 no] w (BlkIdxP l no w) := by
 refine zin 11 Tryz.func37 ?_
 refine xc 10 (args := #[.pointer (some ⟨b, 0, none⟩), .int .i64 no, .int .i64 4, .func (.func 60) #[] #[]]) (readIdx B b p n c l no _ (hI.below (Below.refl w.heap.size _))) ?_
 rintro e W1 hq1
 rcases hq1 with ⟨he, bf, rfl, hb1, hv⟩ | ⟨he, p4, c4, rfl, hb1, h4⟩
 · exact xe 7 (.tuple #[.slice none 0 0, .iface 103 (.pointer (some ⟨bf, 0, none⟩))]) (.inl ⟨he, _, rfl, hb1, hv⟩)
 have hs1 := Nat.le_refl w.heap.size
 have h4'1 := own_mono h4 hs1
 exact xe 7 (.tuple #[.slice p4 (rawN (inB l no) 0 4) c4, .nilIface]) (.inr ⟨he, _, _, rfl, hb1, h4'1⟩)
end Go.Proofs.YthlakkdgcgkcdaaGreat
namespace Go.Proofs.YthlakkdgcgkcdaaGreat
open Go.RowKit Go.Extern.Stop Go.Stop Go.Extern
set_option linter.unusedVariables false
attribute [local irreducible] wpList wpAnyH Code.wp Oper.wp Go

theorem seal_OpenNb (kind no : Int) (a : Option Addr) (n c : Nat) (l : List UInt8) (w : World) (hn : l.length = n) (h : Bys w (.slice a n c) l) : Calls Tryz.prog 83 #[.slice a n c, .int .i64 kind, .int .i64 no] w (OpenP kind no l w) := by
  subst hn; exact seal_Open kind no a c l w h
theorem bits_ReadN (a : Option Addr) (n c : Nat) (l : List UInt8) (w : World) (hn : l.length = n) (hl : n ≤ 100000000) (h : Bys w (.slice a n c) l) : Calls Tryz.prog 97 #[.slice a n c] w (BitsP l w) := by
  subst hn; exact bits_Read a c l w hl h
def bitsOkB (l : List UInt8) : Bool := decide (l.length = 244) && decide (rawN l 0 4 ≤ 960) && (List.range 960).all fun i => decide (i < rawN l 0 4) || bitN l i == 0
theorem bitsOkB_iff (l : List UInt8) : bitsOkB l = true ↔ bitsOk l := by
  unfold bitsOkB bitsOk
  simp only [Bool.and_eq_true, decide_eq_true_eq, List.all_eq_true, List.mem_range, Bool.or_eq_true, beq_iff_eq]
  constructor
  · rintro ⟨⟨h1, h2⟩, h3⟩
    exact ⟨h1, h2, fun i hi hc => (h3 i hi).resolve_left (by omega)⟩
  · rintro ⟨h1, h2, h3⟩
    exact ⟨⟨h1, h2⟩, fun i hi => by by_cases h : i < rawN l 0 4; exact .inl h; exact .inr (h3 i hi (by omega))⟩
/-- the number of Bits' error -/
def bitsErr (l : List UInt8) (no : Int) : Int := if inE l 3 no = 0 then (if bitsOkB (inB l no) then 0 else 7) else inE l 3 no
def BlkBitsP (l : List UInt8) (no : Int) (w : World) (e : Ending) (w' : World) : Prop :=
  (bitsErr l no ≠ 0 ∧ ∃ b, e = .returned (.tuple #[.slice none 0 0, .iface 103 (.pointer (some ⟨b, 0, none⟩))]) ∧ Below w.heap.size w w' ∧ ErrV w' [some no] (some (bitsErr l no)) (.iface 103 (.pointer (some ⟨b, 0, none⟩)))) ∨
  (bitsErr l no = 0 ∧ ∃ p c, e = .returned (.tuple #[.slice p (rawN (inB l no) 0 4) c, .nilIface]) ∧ Below w.heap.size w w' ∧ w'.ownsRow w.heap.size 3 1 (.slice p (rawN (inB l no) 0 4) c) (rawN (inB l no) 0 4) ((bitsL (inB l no) (rawN (inB l no) 0 4)).map nv))
set_option maxRecDepth 100000 in
set_option maxHeartbeats 1000000 in
theorem readB (B b : Nat) (p : Option Addr) (n c : Nat) (l : List UInt8) (no : Int) (w : World) (hI : ImgR B b p n c l w) :
    Calls Tryz.prog 96 #[.pointer (some ⟨b, 0, none⟩), .int .i64 no, .int .i64 3, .func (.func 97) #[] #[]] w (BlkBitsP l no w) := by
 refine zin 56 Tryz.func96 ?_
 refine xc 15 (args := #[.pointer (some ⟨b, 0, none⟩), .int .i64 no]) (image_Read B b p n c l no _ (hI.below (Below.refl w.heap.size _))) ?_
 rintro e W1 hq1
 rcases hq1 with ⟨ho, vr, rfl, hb1⟩ | ⟨j, hk, hj, p2, c2, rfl, hb1, ho⟩
 · refine xc 21 (args := #[.int .i64 no, .iface 26 (.int .i64 3)]) (block_told no 3 _) ?_
   rintro _ W2 ⟨_, rfl, hb2, hv2⟩
   rw [if_neg (by decide), if_neg (by decide)] at hv2
   have hq2 := hv2
   obtain ⟨bf2, vf2, rfl, _, _⟩ := hq2
   have hB := Bl.next hb1 hb2
   refine xe 6 (.tuple #[.slice none 0 0, .iface 103 (.pointer (some ⟨bf2, 0, none⟩))]) ?_
   have he : bitsErr l no = 3 := by unfold bitsErr; rw [inE_out hI.len ho]; rfl
   exact .inl ⟨by rw [he]; decide, _, rfl, hB, by rw [he]; exact hv2⟩
 have hs1 := Nat.le_refl w.heap.size
 have hj2 : j < l.length / 256 := by rw [hI.len]; exact hj
 have hlj := blkB_len hj2
 have he2 := inE_in (l := l) (kind := 3) hI.len hk hj
 have ho'1 := own_mono ho hs1
 refine xc 22 (args := #[.slice p2 256 c2, .int .i64 3, .int .i64 no]) (seal_OpenNb 3 no p2 256 c2 (blkB l j) _ hlj (bys_of (own_sl ho'1) hlj)) ?_
 rintro e W3 hq3
 rcases hq3 with ⟨hs, rfl, hb3⟩ | ⟨hs, p3, c3, rfl, hb3, h3⟩
 · refine xk 14 (show (((openE 3 no (blkB l j)) != (0 : Int)) : Bool) = true from bne_iff_ne.2 hs) ?_
   refine xc 6 (args := #[.int .i64 no, .iface 26 (.int .i64 (openE 3 no (blkB l j)))]) (block_told no (openE 3 no (blkB l j)) _) ?_
   rintro _ W4 ⟨_, rfl, hb4, hv4⟩
   rw [if_neg hs, if_neg hs] at hv4
   have hq4 := hv4
   obtain ⟨bf4, vf4, rfl, _, _⟩ := hq4
   have hB := Bl.next (Bl.next hb1 hb3) hb4
   refine xe 6 (.tuple #[.slice none 0 0, .iface 103 (.pointer (some ⟨bf4, 0, none⟩))]) ?_
   have he : bitsErr l no = openE 3 no (blkB l j) := by unfold bitsErr; rw [he2, if_neg hs]
   exact .inl ⟨by rw [he]; exact hs, _, rfl, hB, by rw [he]; exact hv4⟩
 have h3'1 := own_mono h3 hb1.size
 have hin : ((blkB l j).drop 8).take 244 = inB l no := (inB_in hk).symm
 have hil := inB_len hI.len hk hj
 rw [hin] at h3'1
 refine xc 21 (args := #[.slice p3 244 c3]) (bits_ReadN p3 244 c3 (inB l no) _ hil (by decide) (bys_of (own_sl h3'1) hil)) ?_
 rintro e W5 hq5
 rcases hq5 with ⟨hb0, rfl, hb5⟩ | ⟨hb0, p4, c4, rfl, hb5, h4⟩
 · refine xc 21 (args := #[.int .i64 no, .iface 26 (.int .i64 7)]) (block_told no 7 _) ?_
   rintro _ W6 ⟨_, rfl, hb6, hv6⟩
   rw [if_neg (by decide), if_neg (by decide)] at hv6
   have hq6 := hv6
   obtain ⟨bf6, vf6, rfl, _, _⟩ := hq6
   have hB := Bl.next (Bl.next (Bl.next hb1 hb3) hb5) hb6
   refine xe 6 (.tuple #[.slice none 0 0, .iface 103 (.pointer (some ⟨bf6, 0, none⟩))]) ?_
   have he : bitsErr l no = 7 := by unfold bitsErr; rw [he2, if_pos hs, if_neg (by rw [bitsOkB_iff]; exact hb0)]
   exact .inl ⟨by rw [he]; decide, _, rfl, hB, by rw [he]; exact hv6⟩
 have hs5 := (Bl.next hb1 hb3).size
 have hB := Bl.next (Bl.next hb1 hb3) hb5
 have h4'1 := own_mono h4 hs5
 exact xe 25 (.tuple #[.slice p4 (rawN (inB l no) 0 4) c4, .nilIface]) (.inr ⟨by unfold bitsErr; rw [he2, if_pos hs, if_pos ((bitsOkB_iff _).2 hb0)], _, _, rfl, hB, h4'1⟩)
set_option maxRecDepth 100000 in
set_option maxHeartbeats 1000000 in
theorem block_Bits (B b : Nat) (p : Option Addr) (n c : Nat) (l : List UInt8) (no : Int) (w : World) (hI : ImgR B b p n c l w) :
    Calls Tryz.prog 72 #[.pointer (some ⟨b, 0, none⟩), .int .i64 no] w (BlkBitsP l no w) := by
 refine zin 11 Tryz.func72 ?_
 refine xc 10 (args := #[.pointer (some ⟨b, 0, none⟩), .int .i64 no, .int .i64 3, .func (.func 97) #[] #[]]) (readB B b p n c l no _ (hI.below (Below.refl w.heap.size _))) ?_
 rintro e W1 hq1
 rcases hq1 with ⟨he, bf, rfl, hb1, hv⟩ | ⟨he, p4, c4, rfl, hb1, h4⟩
 · exact xe 7 (.tuple #[.slice none 0 0, .iface 103 (.pointer (some ⟨bf, 0, none⟩))]) (.inl ⟨he, _, rfl, hb1, hv⟩)
 have hs1 := Nat.le_refl w.heap.size
 have h4'1 := own_mono h4 hs1
 exact xe 7 (.tuple #[.slice p4 (rawN (inB l no) 0 4) c4, .nilIface]) (.inr ⟨he, _, _, rfl, hb1, h4'1⟩)
end Go.Proofs.YthlakkdgcgkcdaaGreat
namespace Go.Proofs.YthlakkdgcgkcdaaGreat
open Go.RowKit Go.Extern.Stop Go.Stop Go.Extern
set_option linter.unusedVariables false
attribute [local irreducible] wpList wpAnyH Code.wp Oper.wp Go

def bitI (l : List UInt8) (n : Nat) : List Int := (bitsL l n).map fun x : Nat => (x : Int)
theorem bitI_len (l : List UInt8) (n : Nat) : (bitI l n).length = n := by simp [bitI, bitsL]
theorem bitN_lt (l : List UInt8) (i : Nat) : bitN l i < 4 := Nat.mod_lt _ (by decide)
theorem bitI_small (l : List UInt8) (n : Nat) : Small (bitI l n) := by
  intro x hx
  obtain ⟨y, hy, rfl⟩ := List.mem_map.1 hx
  obtain ⟨i, _, rfl⟩ := List.mem_map.1 hy
  have := bitN_lt l i
  omega
end Go.Proofs.YthlakkdgcgkcdaaGreat
namespace Go.Proofs.YthlakkdgcgkcdaaGreat
open Go.RowKit Go.Extern.Stop Go.Stop Go.Extern
set_option linter.unusedVariables false
attribute [local irreducible] wpList wpAnyH Code.wp Oper.wp Go

def bitR (l : List UInt8) (no : Int) : List Int := if bitsErr l no = 0 then bitI (inB l no) (rawN (inB l no) 0 4) else []
def idxR (l : List UInt8) (no : Int) : List (Nat × Nat × Nat) := if idxErr l no = 0 then sltsL (inB l no) (rawN (inB l no) 0 4) else []
theorem bitR_ok {l : List UInt8} {no : Int} (h : bitsErr l no = 0) : bitR l no = bitI (inB l no) (rawN (inB l no) 0 4) ∧ (bitR l no).length = rawN (inB l no) 0 4 := by unfold bitR; rw [if_pos h]; exact ⟨rfl, bitI_len _ _⟩
theorem bitR_bad {l : List UInt8} {no : Int} (h : bitsErr l no ≠ 0) : bitR l no = [] := if_neg h
theorem idxR_ok {l : List UInt8} {no : Int} (h : idxErr l no = 0) : idxR l no = sltsL (inB l no) (rawN (inB l no) 0 4) ∧ (idxR l no).length = rawN (inB l no) 0 4 := by unfold idxR; rw [if_pos h]; exact ⟨rfl, sltsL_len _ _⟩
theorem bitI_map (l : List UInt8) (n : Nat) : (bitI l n).map (Value.int .i64) = (bitsL l n).map nv := by simp [bitI, nv]
end Go.Proofs.YthlakkdgcgkcdaaGreat
namespace Go.Proofs.YthlakkdgcgkcdaaGreat
open Go.RowKit Go.Extern.Stop Go.Stop Go.Extern
set_option linter.unusedVariables false
attribute [local irreducible] wpList wpAnyH Code.wp Oper.wp Go

/-- how many blocks of counts: of any number -/
def bmI (n : Int) : Nat := bmN n.toNat
/-- a slot, the block in which it stands, and why it is none -/
abbrev Plc := (Nat × Nat × Nat) × Int × Int
def plc0 : Plc := ((0, 0, 0), 0, 0)
def plcC (x : Plc) : List Value := [.int .i64 (x.1.1 : Int), .int .i64 (x.1.2.1 : Int), .int .i64 (x.1.2.2 : Int), .int .i64 x.2.1, .int .i64 x.2.2]
theorem plcC_len (x : Plc) : (plcC x).length = 5 := rfl
/-- the blocks, the number, and the counts that a slot tells -/
def oneO (l : List UInt8) (x : Plc) (want : Int) : List Int × Int × List Int :=
  if x.2.2 ≠ 0 then ([x.2.1], x.2.2, [])
  else if bitsErr l (x.1.1 : Int) ≠ 0 then ([x.2.1, (x.1.1 : Int)], bitsErr l (x.1.1 : Int), [])
  else if ((bitR l (x.1.1 : Int)).length : Int) ≠ want then ([x.2.1], 7, [])
  else if freeN (bitR l (x.1.1 : Int)) = x.1.2.1 ∧ firstN (bitR l (x.1.1 : Int)) = x.1.2.2 then ([], 0, bitR l (x.1.1 : Int))
  else ([x.2.1], 13, [])
theorem oneO_ok {l : List UInt8} {x : Plc} {want : Int} (h : (oneO l x want).2.1 = 0) : oneO l x want = ([], 0, bitR l (x.1.1 : Int)) ∧ ((bitR l (x.1.1 : Int)).length : Int) = want := by
  unfold oneO at h ⊢
  by_cases h1 : x.2.2 = 0
  · rw [if_neg (fun q => q h1)] at h ⊢
    by_cases h2 : bitsErr l (x.1.1 : Int) = 0
    · rw [if_neg (fun q => q h2)] at h ⊢
      by_cases h3 : ((bitR l (x.1.1 : Int)).length : Int) = want
      · rw [if_neg (fun q => q h3)] at h ⊢
        by_cases h4 : freeN (bitR l (x.1.1 : Int)) = x.1.2.1 ∧ firstN (bitR l (x.1.1 : Int)) = x.1.2.2
        · rw [if_pos h4]; exact ⟨rfl, h3⟩
        · rw [if_neg h4] at h; simp at h
      · rw [if_pos h3] at h; simp at h
    · rw [if_pos h2] at h; exact absurd h h2
  · rw [if_pos h1] at h; exact absurd h h1
def wantI (n : Int) (i : Nat) : Int := if n - 960 * i < 960 then n - 960 * i else 960
def oneI (l : List UInt8) (X : List Plc) (n : Int) (i : Nat) : List Int × Int × List Int := oneO l (X.getD i plc0) (wantI n i)
def allL (l : List UInt8) (X : List Plc) (n : Int) (i : Nat) : List (List Int) := (List.range i).map fun j => bitR l ((X.getD j plc0).1.1 : Int)
theorem allL_len (l : List UInt8) (X : List Plc) (n : Int) (i : Nat) : (allL l X n i).length = i := by simp [allL]
theorem allL_get {l : List UInt8} {X : List Plc} {n : Int} {i j : Nat} (h : j < i) : (allL l X n i).getD j [] = bitR l ((X.getD j plc0).1.1 : Int) := by simp [allL, List.getD, List.getElem?_range h]
theorem allL_next (l : List UInt8) (X : List Plc) (n : Int) (i : Nat) : allL l X n (i + 1) = allL l X n i ++ [bitR l ((X.getD i plc0).1.1 : Int)] := by simp [allL, List.range_succ]
def allK (l : List UInt8) (X : List Plc) (n : Int) (i : Nat) : Prop := ∀ j, j < i → (oneI l X n j).2.1 = 0
theorem allK_next {l : List UInt8} {X : List Plc} {n : Int} {i : Nat} (h : allK l X n i) (h2 : (oneI l X n i).2.1 = 0) : allK l X n (i + 1) := fun j hj => by
  by_cases e : j = i
  · subst e; exact h2
  · exact h j (by omega)
theorem bitR_small (l : List UInt8) (no : Int) : Small (bitR l no) := by
  unfold bitR; split
  · exact bitI_small _ _
  · intro n hn; cases hn
/-- all that the lists need, where there are as many as the counts want -/
theorem allL_form {l : List UInt8} {X : List Plc} {n : Int} (h : allK l X n X.length) (hX : X.length = bmI n) : FormOk (allL l X n X.length) := by
  have hw : ∀ i, i < X.length → ((bitR l ((X.getD i plc0).1.1 : Int)).length : Int) = wantI n i := fun i hi => (oneO_ok (h i hi)).2
  constructor
  · intro i hi
    rw [allL_len] at hi ⊢
    rw [allL_get hi]
    have h1 := hw i hi
    unfold wantI at h1
    unfold bmI bmN at hX
    split at h1 <;> refine ⟨by omega, by omega, fun h2 => by omega⟩
  · intro i hi
    rw [allL_len] at hi
    rw [allL_get hi]
    exact bitR_small _ _
/-- what is told above lists -/
def restO (l : List UInt8) (L : List (List Int)) (over fuel : Int) : List Int × Int × List Int :=
  if (scanW l over 5 fuel).fs ≠ [] then ((wholeF (scanW l over 5 fuel)).1, (wholeF (scanW l over 5 fuel)).2, [])
  else if (joinO L.flatten (scanW l over 5 fuel).es).1 ≠ 0 then ([over], (joinO L.flatten (scanW l over 5 fuel).es).1, [])
  else ([], 0, (joinO L.flatten (scanW l over 5 fuel).es).2)
theorem restO_flt {l : List UInt8} {L : List (List Int)} {over fuel : Int} (h : (scanW l over 5 fuel).fs ≠ []) : restO l L over fuel = ((wholeF (scanW l over 5 fuel)).1, (wholeF (scanW l over 5 fuel)).2, []) := if_pos h
theorem restO_join {l : List UInt8} {L : List (List Int)} {over fuel : Int} (h : (scanW l over 5 fuel).fs = []) (h2 : (joinO L.flatten (scanW l over 5 fuel).es).1 ≠ 0) : restO l L over fuel = ([over], (joinO L.flatten (scanW l over 5 fuel).es).1, []) := by
  unfold restO; rw [if_neg (fun q => q h), if_pos h2]
theorem restO_ok {l : List UInt8} {L : List (List Int)} {over fuel : Int} (h : (scanW l over 5 fuel).fs = []) (h2 : (joinO L.flatten (scanW l over 5 fuel).es).1 = 0) : restO l L over fuel = ([], 0, (joinO L.flatten (scanW l over 5 fuel).es).2) := by
  unfold restO; rw [if_neg (fun q => q h), if_neg (fun q => q h2)]
def allO (l : List UInt8) (X : List Plc) (over n fuel : Int) : List Int × Int × List Int :=
  match (List.range X.length).find? (fun i => (oneI l X n i).2.1 != 0) with
  | some i => ((oneI l X n i).1, (oneI l X n i).2.1, [])
  | none => restO l (allL l X n X.length) over fuel
theorem allO_bad {l : List UInt8} {X : List Plc} {over n fuel : Int} {i : Nat} (hi : i < X.length) (h : allK l X n i) (hb : (oneI l X n i).2.1 ≠ 0) : allO l X over n fuel = ((oneI l X n i).1, (oneI l X n i).2.1, []) := by
  unfold allO
  rw [show (List.range X.length).find? (fun i => (oneI l X n i).2.1 != 0) = some i from by
    rw [List.find?_range_eq_some]
    exact ⟨by simpa using hb, List.mem_range.2 hi, fun m hm => by simpa using h m hm⟩]
theorem allO_ok {l : List UInt8} {X : List Plc} {over n fuel : Int} (h : allK l X n X.length) : allO l X over n fuel = restO l (allL l X n X.length) over fuel := by
  unfold allO
  rw [show (List.range X.length).find? (fun i => (oneI l X n i).2.1 != 0) = none from by
    rw [List.find?_eq_none]
    intro i hi
    have := h i (List.mem_range.1 hi)
    simp [this]]
def slotT (v : List UInt8) : Nat × Nat × Nat := ((readV slotP v).getD 0 0, (readV slotP v).getD 1 0, (readV slotP v).getD 2 0)
def plcE (x : Ent) : Plc := (slotT x.2.1, x.2.2, readE slotP x.2.1)
def plcS (index : Int) (x : Nat × Nat × Nat) : Plc := (x, index, 0)
def keysOk (es : List Ent) : Bool := (List.range es.length).all fun i => (es.getD i entD).1 == (i : Int)
/-- what chart.Data tells: blocks, number, counts -/
def dataO (l : List UInt8) (index over n fuel : Int) : List Int × Int × List Int :=
  if (scanW l index 4 fuel).fs ≠ [] then ((wholeF (scanW l index 4 fuel)).1, (wholeF (scanW l index 4 fuel)).2, [])
  else if (scanW l index 4 fuel).es.length ≠ bmI n then ([index], 7, [])
  else if keysOk (scanW l index 4 fuel).es = false then ([index], 7, [])
  else allO l ((scanW l index 4 fuel).es.map plcE) over n fuel
def metaO (l : List UInt8) (index over n fuel : Int) : List Int × Int × List Int :=
  if idxErr l index ≠ 0 then ([index], idxErr l index, [])
  else if (idxR l index).length ≠ bmI n then ([index], 7, [])
  else allO l ((idxR l index).map (plcS index)) over n fuel
theorem keysOk_bad {es : List Ent} {i : Nat} (hi : i < es.length) (h : (es.getD i entD).1 ≠ (i : Int)) : keysOk es = false := by
  unfold keysOk
  rw [List.all_eq_false]
  exact ⟨i, List.mem_range.2 hi, by simpa using h⟩
theorem keysOk_ok {es : List Ent} (h : ∀ i, i < es.length → (es.getD i entD).1 = (i : Int)) : keysOk es = true := by
  unfold keysOk
  rw [List.all_eq_true]
  intro i hi
  simpa using h i (List.mem_range.1 hi)
theorem wholeF_ne {l : List UInt8} {root tree fuel : Int} (h : (scanW l root tree fuel).fs ≠ []) : (wholeF (scanW l root tree fuel)).2 ≠ 0 := by
  obtain ⟨es, fs, hw⟩ := scanW_went l root tree fuel
  have h2 : (scanW l root tree fuel).fs = fs := by rw [hw.fsE]; rfl
  rw [(whole_bad h).2.1]
  rw [h2] at h ⊢
  cases fs with
  | nil => exact absurd rfl h
  | cons f r => exact (hw.flt f (by simp)).2.2
end Go.Proofs.YthlakkdgcgkcdaaGreat
namespace Go.Proofs.YthlakkdgcgkcdaaGreat
open Go.RowKit Go.Extern.Stop Go.Stop Go.Extern
set_option linter.unusedVariables false
attribute [local irreducible] wpList wpAnyH Code.wp Oper.wp Go

set_option maxRecDepth 100000 in
set_option maxHeartbeats 1000000 in
theorem value_ReadCount (s : List UInt8) (w : World) (hs : s.length ≤ 1000) :
    Calls Tryz.prog 74 #[.string ⟨s.toArray⟩] w (Ret (.tuple #[.int .i64 (↑((readV cntP s).getD 0 0) : Int), .int .i64 (readE cntP s)]) w) := by
 refine zin 16 Tryz.func74 ?_
 refine xc 8 (args := #[]) (value_count _) ?_
 rintro _ W1 ⟨_, rfl, hb1, gl, rfl, gg, kl⟩
 refine xc 1 (args := #[.slice (some ⟨gl, 0, none⟩) 1 1, .string ⟨s.toArray⟩]) (value_readG cntP s (some ⟨gl, 0, none⟩) 1 _ cntP_ok (by decide) (by omega) (kl.sl 1 1 (by decide) (by decide))) ?_
 rintro _ W2 ⟨_, rfl, hb2, p5, c5, rfl, h5⟩
 have h5'1 := own_mono h5 hb1.size
 refine xx 10 _ 1 0 1 (nv_elem (l := readV cntP s) (own_sl h5'1) (readV_len _ _) (k := 0) (by decide)).1 ?_
 refine xl 0 ((nv_elem (l := readV cntP s) (own_sl h5'1) (readV_len _ _) (k := 0) (by decide)).2) ?_
 have hB := Bl.next hb1 hb2
 exact xe 6 (.tuple #[.int .i64 (↑((readV cntP s).getD 0 0) : Int), .int .i64 (readE cntP s)]) ⟨rfl, hB⟩
set_option maxRecDepth 100000 in
set_option maxHeartbeats 1000000 in
theorem size_BitmapsLP (m : Nat) (w : World) (hm : 1 ≤ m) (hn : m ≤ 1099511627776) :
    Calls Tryz.prog 27 #[.int .i64 (↑m : Int)] w (Ret (.int .i64 (↑(bmN m) : Int)) w) := by
 refine zin 9 Tryz.func27 ?_
 refine xk 12 (show (decide ((↑m : Int) < (1 : Int)) : Bool) = false from decide_eq_false (by omega)) ?_
 refine xwm 5 ((↑m : Int) - 1) (↑(m - 1) : Int) ?_
 refine xq 0 (congrArg (Value.int .i64) (show (IntKind.i64.wrap (Int.tdiv (↑(m - 1) : Int) 960) : Int) = (↑((m - 1) / 960) : Int) from quo_natB (m - 1) 960 (by omega) (by decide))) ?_
 refine xw 0 ((↑((m - 1) / 960) : Int) + 1) ?_
 exact xe 4 (.int .i64 ((↑((m - 1) / 960) : Int) + 1)) ⟨by rw [show bmN m = (m - 1) / 960 + 1 from by unfold bmN; omega, Int.natCast_add]; rfl, (Below.refl w.heap.size _)⟩
set_option maxRecDepth 100000 in
set_option maxHeartbeats 1000000 in
theorem size_BitmapsLN (n : Int) (w : World) (hn : n < 1) :
    Calls Tryz.prog 27 #[.int .i64 n] w (Ret (.int .i64 0) w) := by
 refine zin 9 Tryz.func27 ?_
 refine xk 12 (show (decide (n < (1 : Int)) : Bool) = true from decide_eq_true hn) ?_
 exact xe 7 (.int .i64 0) ⟨rfl, (Below.refl w.heap.size _)⟩
theorem size_BitmapsL (n : Int) (w : World) (hn : n ≤ 1099511627776) : Calls Tryz.prog 27 #[.int .i64 n] w (Ret (.int .i64 (↑(bmI n) : Int)) w) := by
  by_cases h : n < 1
  · have := size_BitmapsLN n w h
    rwa [show (0 : Int) = ((bmI n : Nat) : Int) from by unfold bmI bmN; omega] at this
  · obtain ⟨m, rfl⟩ : ∃ m : Nat, n = (m : Int) := ⟨n.toNat, by omega⟩
    exact size_BitmapsLP m w (by omega) (by omega)
end Go.Proofs.YthlakkdgcgkcdaaGreat
namespace Go.Proofs.YthlakkdgcgkcdaaGreat
open Go.RowKit Go.Extern.Stop Go.Stop Go.Extern
open Go.ChangeMaps (setBlock heap_setBlock_same heap_setBlock_other)
set_option linter.unusedVariables false
attribute [local irreducible] wpList wpAnyH Code.wp Oper.wp Go

def mapE (ks : List Int) : List (Value × Value) := ks.map fun k => (Value.int .i64 k, Value.bool true)
/-- block r is the map of these keys, each true -/
def MapI (W : World) (r : Nat) (ks : List Int) : Prop := ∃ es clock, W.heap[r]? = some (.map es clock) ∧ es.toList.map (fun e => (e.key, e.val)) = mapE ks
theorem MapI.lt {W : World} {r : Nat} {ks : List Int} (h : MapI W r ks) : r < W.heap.size := by
  obtain ⟨es, clock, h1, _⟩ := h
  exact (Array.getElem?_eq_some_iff.1 h1).1
theorem MapI.kept {w W : World} {r : Nat} {ks : List Int} (h : MapI w r ks) (hb : W.heap[r]? = w.heap[r]?) : MapI W r ks := by
  obtain ⟨es, clock, h1, h2⟩ := h
  exact ⟨es, clock, hb.trans h1, h2⟩
theorem MapI.below {w W : World} {r : Nat} {ks : List Int} (h : MapI w r ks) (hb : Below w.heap.size w W) : MapI W r ks := h.kept (hb.block r h.lt)
theorem MapI.ne_blk {w : World} {r b : Nat} {ks : List Int} {cs : List Value} {t : TypeId} (h : MapI w r ks) (k : Blk w b cs t) : r ≠ b := fun e => by
  subst e
  obtain ⟨es, clock, h1, _⟩ := h
  have : w.heap[r]? = some (.cells cs.toArray t (0, 0)) := k
  rw [h1] at this; cases this
theorem MapI.ne_own {w : World} {r base size n : Nat} {ks : List Int} {e : TypeId} {v : Value} {xs : List Value} (h : MapI w r ks) (k : w.ownsRow base e size v n xs) : some r ≠ v.ownBlock := fun q => by
  rcases k.2 with ⟨h2, _⟩ | ⟨g, cap, cur, hv, hg, hh, _⟩
  · subst h2; simp [Value.ownBlock] at q
  · subst hv
    simp only [Value.ownBlock, Option.some.injEq] at q
    subst q
    obtain ⟨es, clock, h1, _⟩ := h
    rw [h1] at hh; cases hh
theorem MapI.grown {w W : World} {r base size n : Nat} {ks : List Int} {e : TypeId} {v : Value} {xs : List Value} (h : MapI w r ks) (hg : w.grownBy W v.ownBlock) (k : w.ownsRow base e size v n xs) : MapI W r ks := h.kept (hg.block r h.lt (h.ne_own k))
theorem MapI.updRow {w W : World} {r b base size n c : Nat} {ks : List Int} {e : TypeId} {xs : List Value} (h : MapI w r ks) (u : Upd w b W) (k : w.ownsRow base e size (.slice (some ⟨b, 0, none⟩) n c) n xs) : MapI W r ks := h.kept (u.block r fun q => h.ne_own k (by simp [Value.ownBlock, q]))
theorem MapI.updBlk {w W : World} {r b : Nat} {ks : List Int} {cs : List Value} {t : TypeId} (h : MapI w r ks) (u : Upd w b W) (k : Blk w b cs t) : MapI W r ks := h.kept (u.block r (h.ne_blk k))
theorem own_map {w W : World} {r base size n : Nat} {ks : List Int} {e : TypeId} {v : Value} {xs : List Value} (k : w.ownsRow base e size v n xs) (h : MapI w r ks) (u : Upd w r W) : W.ownsRow base e size v n xs := u.own3 k fun j hj q => h.ne_own k (by rw [hj, q])
theorem blk_map {w W : World} {r b : Nat} {ks : List Int} {cs : List Value} {t : TypeId} (k : Blk w b cs t) (h : MapI w r ks) (u : Upd w r W) : Blk W b cs t := u.blk k (fun q => h.ne_blk k q.symm)
structure NewM (w : World) (r : Nat) (W : World) : Prop where
  at_ : r = w.heap.size
  below : Below w.heap.size w W
  map : MapI W r []
theorem NewM.ge {w W A : World} {r : Nat} (h : NewM w r W) (k : Below A.heap.size A w) : A.heap.size ≤ r := by have := k.size; have := h.at_; omega
theorem NewM.mk' (w : World) : NewM w w.heap.size (w.alloc (.map #[] 0)) := ⟨rfl, Bl.box _ _, #[], 0, World.alloc_heap_new w _, rfl⟩
/-- where a key stands -/
theorem findNow_int (k : Int) : ∀ (es : List MapEntry) (ks : List Int) (i : Nat), es.map (fun e => (e.key, e.val)) = mapE ks → Instr.findNow (.int .i64) (.int .i64 k) es i = some (if k ∈ ks then some (i + ks.idxOf k, .bool true) else none)
  | [], ks, i, h => by
    have : ks = [] := by simpa [mapE] using h.symm
    subst this; rfl
  | e :: es, [], i, h => by simp [mapE] at h
  | e :: es, k0 :: ks, i, h => by
    simp only [mapE, List.map_cons, List.cons.injEq, Prod.mk.injEq] at h
    obtain ⟨⟨h1, h2⟩, h3⟩ := h
    have ih := findNow_int k es ks (i + 1) h3
    by_cases q : k = k0
    · subst q
      simp [Instr.findNow, h1, h2, Instr.sameNow]
    · have hq : (k == k0) = false := by simpa using q
      simp only [Instr.findNow, h1, Instr.sameNow, if_true, hq, ih]
      by_cases m : k ∈ ks
      · rw [if_pos m, if_pos (List.mem_cons_of_mem _ m), List.idxOf_cons, show (k0 == k) = false from by simpa using fun z => q z.symm]
        simp; omega
      · rw [if_neg m, if_neg (by simp [q, m])]
theorem run_findKey {P : Program} {kt : TypeId} (hk : P.underlying kt = some (.int .i64)) (k : Int) {es : List MapEntry} {ks : List Int} (h : es.map (fun e => (e.key, e.val)) = mapE ks) (w : World) :
    (Instr.findKey kt (.int .i64 k) es).run P w = .ok (if k ∈ ks then some (ks.idxOf k, .bool true) else none) w := by
  simp only [Instr.findKey, Sem.run_bind, run_underlying hk, Result.andThen_ok, findNow_int k es ks 0 h, Nat.zero_add]
  rfl
theorem run_keyN {P : Program} {kt : TypeId} (hk : P.underlying kt = some (.int .i64)) (k : Int) (b : Bool) (n : Nat) (w : World) : (Instr.checkKey b (n + 1) kt (.int .i64 k)).run P w = .ok () w := by
  simp only [Instr.checkKey, Sem.run_bind, run_underlying hk, Result.andThen_ok]
  rfl
theorem run_keyOk {P : Program} {kt : TypeId} (hk : P.underlying kt = some (.int .i64)) (k : Int) (b : Bool) (w : World) : (Instr.checkKey b 10000 kt (.int .i64 k)).run P w = .ok () w := run_keyN hk k b 9999 w
variable {P : Program} {w : World}
theorem run_mapLook {t kt et : TypeId} {r : Nat} {ks : List Int} (ht : P.underlying t = some (.map kt et)) (hk : P.underlying kt = some (.int .i64)) (hz : (zeroValue et).run P w = .ok (.bool false) w) (h : MapI w r ks) (k : Int) :
    (Instr.lookup t (.map (some r)) (.int .i64 k) false).run P w = .ok (.bool (decide (k ∈ ks))) w := by
  obtain ⟨es, clock, h1, h2⟩ := h
  have hf := run_findKey (P := P) hk k h2 w
  by_cases m : k ∈ ks
  · rw [if_pos m] at hf
    simp [Instr.lookup, run_underlying ht, MapKept.run_getObj_map h1, run_keyOk hk, hf, Result.andThen, m]
  · rw [if_neg m] at hf
    simp [Instr.lookup, run_underlying ht, MapKept.run_getObj_map h1, run_keyOk hk, hf, hz, Result.andThen, m]
theorem upd_setBlock {r : Nat} {es : Array MapEntry} {c : Nat} (hb : w.heap[r]? = some (.map es c)) (o : Obj) : Upd w r (setBlock w r o) := ⟨rfl, rfl, rfl, by simp [setBlock], fun k hk => heap_setBlock_other hb _ hk⟩
theorem run_mapPut {t kt et : TypeId} {r : Nat} {ks : List Int} (ht : P.underlying t = some (.map kt et)) (hk : P.underlying kt = some (.int .i64)) (h : MapI w r ks) {k : Int} (hn : k ∉ ks) :
    ∃ W, (Instr.mapUpdate t (.map (some r)) (.int .i64 k) (.bool true)).run P w = .ok () W ∧ Upd w r W ∧ MapI W r (ks ++ [k]) := by
  obtain ⟨es, clock, h1, h2⟩ := h
  have hf := run_findKey (P := P) hk k h2 w
  rw [if_neg hn] at hf
  refine ⟨setBlock w r (.map (es.push ⟨.int .i64 k, .bool true, clock⟩) (clock + 1)), ?_, upd_setBlock h1 _, _, _, heap_setBlock_same h1 _, ?_⟩
  · simp [Instr.mapUpdate, run_underlying ht, MapKept.run_getObj_map h1, run_keyOk hk, hf, MapKept.run_setObj_map _ h1, Result.andThen, setBlock]
  · rw [Array.toList_push, List.map_append, h2]; simp [mapE]
theorem map_eraseIdxL {α β : Type} (f : α → β) : ∀ (l : List α) (i : Nat), (l.eraseIdx i).map f = (l.map f).eraseIdx i
  | [], i => by simp
  | a :: l, 0 => by simp
  | a :: l, i + 1 => by simp [map_eraseIdxL f l i]
theorem eraseIdx_erase (k : Int) (ks : List Int) (h : k ∈ ks) : ks.eraseIdx (ks.idxOf k) = ks.erase k := (List.erase_eq_eraseIdx_of_idxOf (w := rfl)).symm
theorem run_mapDel {t kt et ty : TypeId} {r : Nat} {ks : List Int} (ht : P.underlying t = some (.map kt et)) (hk : P.underlying kt = some (.int .i64)) (h : MapI w r ks) {k : Int} (hm : k ∈ ks) :
    ∃ W, (Builtin.delete_ #[t, kt] ty #[.map (some r), .int .i64 k]).run P w = .ok (.tuple #[]) W ∧ Upd w r W ∧ MapI W r (ks.erase k) := by
  obtain ⟨es, clock, h1, h2⟩ := h
  have hf := run_findKey (P := P) hk k h2 w
  rw [if_pos hm] at hf
  have hl : es.toList.length = ks.length := by have := congrArg List.length h2; simpa [mapE] using this
  have hlt : ks.idxOf k < es.size := by have := List.idxOf_lt_length_iff.2 hm; simp at hl; omega
  refine ⟨setBlock w r (.map (es.eraseIdxIfInBounds (ks.idxOf k)) clock), ?_, upd_setBlock h1 _, _, _, heap_setBlock_same h1 _, ?_⟩
  · simp [Builtin.delete_, run_underlying ht, MapKept.run_getObj_map h1, run_keyOk hk, hf, MapKept.run_setObj_map _ h1, Result.andThen, setBlock]
  · rw [← eraseIdx_erase k ks hm]
    have e : (es.eraseIdxIfInBounds (ks.idxOf k)).toList = es.toList.eraseIdx (ks.idxOf k) := by
      unfold Array.eraseIdxIfInBounds
      rw [dif_pos hlt]
      simp
    rw [e, map_eraseIdxL, h2]
    unfold mapE
    rw [map_eraseIdxL]
theorem run_mapLen {t kt et ty : TypeId} {r : Nat} {ks : List Int} (ht : P.underlying t = some (.map kt et)) (h : MapI w r ks) : (Builtin.len_ #[t] ty #[.map (some r)]).run P w = .ok (.int .i64 (ks.length : Int)) w := by
  obtain ⟨es, clock, h1, h2⟩ := h
  have hl : es.size = ks.length := by have := congrArg List.length h2; simpa [mapE] using this
  simp [Builtin.len_, run_underlying ht, MapKept.run_getObj_map h1, Result.andThen, goInt, hl]
/-! ### in a walk -/
inductive Zm
  | mm (t : TypeId)
  | lk (t : TypeId) (m k : Value)
  | mu (t : TypeId) (m k v : Value)
  | b1 (b : Builtin) (t : TypeId) (u : Value)
  | b2 (b : Builtin) (t t2 : TypeId) (u v : Value)
noncomputable def zmf (n : Nat) (kv : List (Nat × Value)) (o : Oper) : Option Zm := match o.op with
  | .makeMap t none => some (.mm t)
  | .lookup t x y false => some (.lk t (zev n kv x) (zev n kv y))
  | .mapUpdate t x y z => some (.mu t (zev n kv x) (zev n kv y) (zev n kv z))
  | .call c => match c.callee with
    | .builtin b => match c.args.toList, c.argTypes.toList with
      | [x], [t] => some (.b1 b t (zev n kv x))
      | [x, y], [t, t2] => some (.b2 b t t2 (zev n kv x) (zev n kv y))
      | _, _ => none
    | _ => none
  | _ => none
noncomputable def zm (s : Zs) : Option Zm := match zop s with
  | some o => zmf s.n s.kv o
  | none => none
def ZmOk (a : Act) (o : Oper) : Zm → Prop
  | .mm t => o.op = .makeMap t none
  | .lk t m k => ∃ x y, o.op = .lookup t x y false ∧ a.eval x = m ∧ a.eval y = k
  | .mu t m k v => ∃ x y z, o.op = .mapUpdate t x y z ∧ a.eval x = m ∧ a.eval y = k ∧ a.eval z = v
  | .b1 b t u => ∃ x, o.op = .call { callee := .builtin b, args := #[x], argTypes := #[t] } ∧ a.eval x = u
  | .b2 b t t2 u v => ∃ x y, o.op = .call { callee := .builtin b, args := #[x, y], argTypes := #[t, t2] } ∧ a.eval x = u ∧ a.eval y = v
theorem zmf_ok {n : Nat} {kv : List (Nat × Value)} {o : Oper} {k : Zm} (h : zmf n kv o = some k) : ZmOk (zact n kv) o k := by
  unfold zmf at h
  split at h
  · rename_i hop; cases h; exact hop
  · rename_i hop; cases h; exact ⟨_, _, hop, by rw [zact_eval], by rw [zact_eval]⟩
  · rename_i hop; cases h; exact ⟨_, _, _, hop, by rw [zact_eval], by rw [zact_eval], by rw [zact_eval]⟩
  · rename_i c hop
    split at h
    · rename_i b hb
      obtain ⟨cal, args, ts⟩ := c
      dsimp only at hb h
      subst hb
      split at h
      · rename_i x t h1 h2
        cases h
        have e1 : args = #[x] := by rw [← Array.toArray_toList (xs := args), h1]
        have e2 : ts = #[t] := by rw [← Array.toArray_toList (xs := ts), h2]
        subst e1 e2
        exact ⟨x, hop, by rw [zact_eval]⟩
      · rename_i x y t t2 h1 h2
        cases h
        have e1 : args = #[x, y] := by rw [← Array.toArray_toList (xs := args), h1]
        have e2 : ts = #[t, t2] := by rw [← Array.toArray_toList (xs := ts), h2]
        subst e1 e2
        exact ⟨x, y, hop, by rw [zact_eval], by rw [zact_eval]⟩
      · cases h
    · cases h
  · cases h
section
variable {P : Program} {fn : Func} {R : Ending → World → Prop} {w : World} {s : Zs}
theorem xmm (q : Zq) (t : TypeId) (k : ∀ r W, NewM w r W → Go P fn R (znx (zq P q s) (.map (some r))) W) (h : zm (zq P q s) = some (.mm t) := by kernel_rfl) (hz : zisops (zq P q s) = true := by kernel_rfl) : Go P fn R s w := by
  obtain ⟨o, ho, h⟩ := zop_of h
  have hop : o.op = .makeMap t none := zmf_ok h
  exact zq_sound q s (zgo ho (zisops_eff hz) fun K hK => op_val (v := .map (some w.heap.size)) (w' := w.alloc (.map #[] 0)) (by simp [execOp, hop, Instr.makeMap, newObj, Sem.run, Result.andThen]) (hK _ _ (zisops_rel hz) (k _ _ (NewM.mk' w))))
theorem xlk (q : Zq) {t kt et : TypeId} {r : Nat} {ks : List Int} {k : Int} (ht : P.underlying t = some (.map kt et)) (hk : P.underlying kt = some (.int .i64)) (hz0 : ∀ V, (zeroValue et).run P V = .ok (.bool false) V) (hM : MapI w r ks) (g : Go P fn R (znx (zq P q s) (.bool (decide (k ∈ ks)))) w)
    (h : zm (zq P q s) = some (.lk t (.map (some r)) (.int .i64 k)) := by kernel_rfl) (hz : zplain (zq P q s) = true := by kernel_rfl) : Go P fn R s w := by
  obtain ⟨o, ho, h⟩ := zop_of h
  obtain ⟨x, y, h1, h2, h3⟩ := zmf_ok h
  exact zq_sound q s (zgov ho (fun V hV => by
    have hr := run_mapLook (P := P) ht hk (hz0 V) (hM.below (zplain_rel hz hV)) k
    simp [execOp, h1, h2, h3, hr, Result.andThen]) g)
theorem xml (q : Zq) {t kt et : TypeId} {r : Nat} {ks : List Int} (ht : P.underlying t = some (.map kt et)) (hM : MapI w r ks) (g : Go P fn R (znx (zq P q s) (.int .i64 (ks.length : Int))) w)
    (h : zm (zq P q s) = some (.b1 .len t (.map (some r))) := by kernel_rfl) (hz : zplain (zq P q s) = true := by kernel_rfl) : Go P fn R s w := by
  obtain ⟨o, ho, h⟩ := zop_of h
  obtain ⟨x, h1, h2⟩ := zmf_ok h
  exact zq_sound q s (zgov ho (fun V hV => by
    have hr := run_mapLen (P := P) (ty := o.type) ht (hM.below (zplain_rel hz hV))
    simp [execOp, h1, resolve, invoke, builtin, h2, hr, Result.andThen]) g)
theorem op_skip {a : Act} {o : Oper} {K : Act → World → Prop} {Q : Exit → Act → World → Prop} {w' : World} (hv : (execOp a.eval o).run P w = .ok .skip w') (k : K (a.put o.dst undef) w') : o.wp P a w K Q := by
  simp only [Oper.wp, hv, Oper.upon]; exact k
theorem xmu (q : Zq) {t kt et : TypeId} {r : Nat} {ks : List Int} {k : Int} (ht : P.underlying t = some (.map kt et)) (hk : P.underlying kt = some (.int .i64)) (hM : MapI w r ks) (hn : k ∉ ks) (g : ∀ W, Upd w r W → MapI W r (ks ++ [k]) → Go P fn R (znx (zq P q s) undef) W)
    (h : zm (zq P q s) = some (.mu t (.map (some r)) (.int .i64 k) (.bool true)) := by kernel_rfl) (hz : zisops (zq P q s) = true := by kernel_rfl) : Go P fn R s w := by
  obtain ⟨o, ho, h⟩ := zop_of h
  obtain ⟨x, y, z, h1, h2, h3, h4⟩ := zmf_ok h
  obtain ⟨W, hr, hu, hm⟩ := run_mapPut (P := P) ht hk hM hn
  exact zq_sound q s (zgo ho (zisops_eff hz) fun K hK => op_skip (w' := W) (by simp [execOp, h1, h2, h3, h4, hr, Result.andThen]) (hK _ _ (zisops_rel hz) (g W hu hm)))
theorem xmd (q : Zq) {t kt et : TypeId} {r : Nat} {ks : List Int} {k : Int} (ht : P.underlying t = some (.map kt et)) (hk : P.underlying kt = some (.int .i64)) (hM : MapI w r ks) (hn : k ∈ ks) (g : ∀ W, Upd w r W → MapI W r (ks.erase k) → Go P fn R (znx (zq P q s) (.tuple #[])) W)
    (h : zm (zq P q s) = some (.b2 .delete t kt (.map (some r)) (.int .i64 k)) := by kernel_rfl) (hz : zisops (zq P q s) = true := by kernel_rfl) : Go P fn R s w := by
  obtain ⟨o, ho, h⟩ := zop_of h
  obtain ⟨x, y, h1, h2, h3⟩ := zmf_ok h
  obtain ⟨W, hr, hu, hm⟩ := run_mapDel (P := P) (ty := o.type) ht hk hM hn
  exact zq_sound q s (zgo ho (zisops_eff hz) fun K hK => op_val (v := .tuple #[]) (w' := W) (by simp [execOp, h1, resolve, invoke, builtin, h2, h3, hr, Result.andThen]) (hK _ _ (zisops_rel hz) (g W hu hm)))
end
end Go.Proofs.YthlakkdgcgkcdaaGreat
namespace Go.Proofs.YthlakkdgcgkcdaaGreat
open Go.RowKit Go.Extern.Stop Go.Stop Go.Extern
set_option linter.unusedVariables false
attribute [local irreducible] wpList wpAnyH Code.wp Oper.wp Go

theorem cell_mid {w : World} {g o j : Nat} {v : Value} (h : w.cell? (elemAddr (some ⟨g, o, none⟩) j) = some v) : w.cell? ⟨g, o + j, none⟩ = some v := by simpa [elemAddr, Addr.add_mid] using h
theorem threes_new {F : List Int} {m : Nat} (h : m = F.length) : (m : Int) ∉ threes F := fun q => by
  have := (threes_mem.1 q).2
  rw [show F.getD ((m : Int)).toNat 0 = 0 from by simp [List.getD, h]] at this
  omega
theorem takeI_snoc {l : List Int} {k : Nat} (h : k < l.length) : l.take (k + 1) = l.take k ++ [l.getD k 0] := by rw [List.take_succ_eq_append_getElem h]; simp [List.getD, h]
theorem flat_three {A l : List Int} {k m : Nat} (h : k < l.length) (h3 : l.getD k 0 = 3) (hm : m = A.length + k) : threes (A ++ l.take k) ++ [(m : Int)] = threes (A ++ l.take (k + 1)) := by
  rw [takeI_snoc h, ← List.append_assoc, threes_snoc, if_pos h3, hm, List.length_append, List.length_take, Nat.min_eq_left (by omega)]
theorem flat_other {A l : List Int} {k : Nat} (h : k < l.length) (h3 : l.getD k 0 ≠ 3) : threes (A ++ l.take k) = threes (A ++ l.take (k + 1)) := by
  rw [takeI_snoc h, ← List.append_assoc, threes_snoc, if_neg h3, List.append_nil]
theorem flat_done {L : List (List Int)} {i k : Nat} (hi : i < L.length) (hk : (L.getD i []).length ≤ k) : flatL L i ++ (L.getD i []).take k = flatL L (i + 1) := by rw [flatL_next hi, List.take_of_length_le hk]
theorem flat_all (L : List (List Int)) : flatL L L.length = L.flatten := by unfold flatL; rw [List.take_of_length_le (Nat.le_refl _)]
set_option maxRecDepth 100000 in
set_option maxHeartbeats 4000000 in
theorem tally_flat (B2 : Nat) (pl : Option Addr) (cl : Nat) (gs : List (Nat × Nat)) (L : List (List Int)) (w : World) (hL : Lists w B2 (.slice pl L.length cl) gs L) (hF : FormOk L) (hl : L.length ≤ 1200000000) :
    Calls Tryz.prog 73 #[.slice pl L.length cl] w (RetS (fun w' r => ∃ p c rm, r = .tuple #[.slice p L.flatten.length c, .map (some rm), .bool true] ∧ w'.ownsRow w.heap.size 3 1 (.slice p L.flatten.length c) L.flatten.length (L.flatten.map (Value.int .i64)) ∧ MapI w' rm (threes L.flatten) ∧ w.heap.size ≤ rm) w) := by
 refine zin 67 Tryz.func73 ?_
 refine xmm 14 135 fun r1 W1 m1 => ?_
 refine zl 12 67 (fun zm zkv V => ∃ (i m : Nat) (p : Option Addr) (c : Nat), zkv = [(0, .slice pl L.length cl), (5, .slice p m c), (6, .map (some r1)), (13, .slice pl L.length cl), (14, .int .i64 (↑L.length : Int)), (15, .int .i64 (↑i : Int))] ∧ zm = L.length - ((↑i : Int)).toNat ∧ Below w.heap.size w V ∧ V.ownsRow w.heap.size 3 1 (.slice p m c) m ((flatL L i).map (Value.int .i64)) ∧ MapI V r1 (threes (flatL L i)) ∧ i ≤ L.length ∧ m = (flatL L i).length) ⟨0, 0, none, 0, rfl, rfl, m1.below, World.ownsRow_nil _ _ _ _, m1.map, Nat.zero_le _, rfl⟩ ?_
 rintro _ _ W2 ⟨i, m, p, c, rfl, rfl, hB_2, ho, hm, hi, hmm⟩ J2 hJ2 r2
 have hfo := fun (q : i < L.length) => hF.len i q
 have hfl := fun (q : i ≤ L.length) => flatL_len hF i q
 refine xid 6 ((↑i : Int) < (↑L.length : Int)) (fun hc3 => ?_) (fun hc3 => ?_)
 · refine xx 7 _ L.length i 1 (Lists.elem hL rfl (k := i) (by omega)).1 ?_
   refine xl 0 ((Lists.elem (hL.below hB_2) rfl (k := i) (by omega)).2) ?_
   refine xwm 9 ((↑L.length : Int) - 1) (↑(L.length - 1) : Int) ?_
   refine xgk 11 [27, 28] (show (decide ((↑((L.getD i []).length) : Int) > (960 : Int)) : Bool) = false from decide_eq_false (by have := (hfo (by omega)).2.1; omega)) ?_
   refine xgk 5 [31, 32, 33] (show (((↑((L.getD i []).length) : Int) == (0 : Int)) : Bool) = false from beq_false_of_ne (by have := (hfo (by omega)).1; omega)) ?_
   refine xg 3 [35, 36] (!((↑i : Int) == (↑(L.length - 1) : Int))) (fun hc6 => ?_) (fun hc6 => ?_)
   · have hlast : i + 1 < L.length := by simp at hc6; omega
     refine xk 7 (show (decide ((↑((L.getD i []).length) : Int) < (960 : Int)) : Bool) = false from decide_eq_false (by have := (hfo (by omega)).2.2 hlast; omega)) ?_
     refine zl 10 67 (fun zm zkv V => ∃ (k m2 : Nat) (p2 : Option Addr) (c2 : Nat), zkv = [(0, .slice pl L.length cl), (5, .slice p2 m2 c2), (6, .map (some r1)), (13, .slice pl L.length cl), (14, .int .i64 (↑L.length : Int)), (15, .int .i64 (↑i : Int)), (42, .slice (some ⟨(gs.getD i (0, 0)).1, 0, none⟩) ((L.getD i []).length) ((gs.getD i (0, 0)).2)), (43, .int .i64 (↑((L.getD i []).length) : Int)), (44, .int .i64 (↑k : Int))] ∧ zm = (L.getD i []).length - ((↑k : Int)).toNat ∧ Below w.heap.size w V ∧ V.ownsRow w.heap.size 3 1 (.slice p2 m2 c2) m2 ((flatL L i ++ (L.getD i []).take k).map (Value.int .i64)) ∧ MapI V r1 (threes (flatL L i ++ (L.getD i []).take k)) ∧ k ≤ (L.getD i []).length ∧ m2 = (flatL L i).length + k) ⟨0, m, _, _, rfl, rfl, hB_2, (by rw [List.take_zero, List.append_nil]; exact ho), (by rw [List.take_zero, List.append_nil]; exact hm), Nat.zero_le _, by omega⟩ ?_
     rintro _ _ W7 ⟨k, m2, p2, c2, rfl, rfl, hB_7, ho_7, hm_7, hk, hm2⟩ J7 hJ7 r7
     have hsm := fun (q : k < (L.getD i []).length) => getI_bd (hF.small i (by omega)) k
     refine xid 6 ((↑k : Int) < (↑((L.getD i []).length) : Int)) (fun hc8 => ?_) (fun hc8 => ?_)
     · refine xxb 6 (gs.getD i (0, 0)).1 0 ((L.getD i []).length) k 1 ?_
       refine xl 0 (cell_mid (IntsN.elem (own_sl (Lists.each (hL.below hB_7) i (by omega))) rfl (k := k) (by omega)).2) ?_
       refine xgk 9 [49, 50] (show (decide (((L.getD i []).getD k 0) < (0 : Int)) : Bool) = false from decide_eq_false (by have := (hsm (by omega)).1; omega)) ?_
       refine xk 5 (show (decide (((L.getD i []).getD k 0) > (3 : Int)) : Bool) = false from decide_eq_false (by have := (hsm (by omega)).2; omega)) ?_
       refine xie 9 ((L.getD i []).getD k 0) (3 : Int) (fun hc10 => ?_) (fun hc10 => ?_)
       · refine xmu 4 (k := (↑m2 : Int)) Tryz.underlying135 Tryz.underlying3 hm_7 (threes_new (by rw [List.length_append, List.length_take]; omega)) fun W11 u11 m11 => ?_
         rw [flat_three (A := flatL L i) (l := (L.getD i [])) (k := k) (m := m2) (by omega) (by omega) (by omega)] at m11
         have g1 := m1.ge (Below.refl w.heap.size _)
         refine xbs 5 1 [.int .i64 ((L.getD i []).getD k 0)] 3 fun b12 W12 n12 => ?_
         have hB'1 := u11.below hB_7 g1
         have g12 := n12.ge hB'1
         have ho'1 := own_map ho_7 hm_7 u11
         have r12_ho := own_ne ho'1 n12
         have ho'2 := own_below ho'1 n12.below
         have hB'2 := Bl.next hB'1 n12.below
         refine xbi 0 fun _ _ _ _ zJ zQ zo zx zy zK => op_app (m := 1) (news := [.int .i64 ((L.getD i []).getD k 0)]) (.int .i64 0) 1 8 (m2 + 1) (((flatL L i ++ (L.getD i []).take (k + 1)).map (Value.int .i64))) zo Tryz.underlying22 (by kernel_rfl) rfl (by decide) zx ho'2 zy (n12.blk.sl 1 1 (by decide) (by decide)) rfl (by simp [Value.oneCell']) (by unfold maxLen; omega) (by omega) hB'2.size (by omega) (by rw [takeI_snoc (l := (L.getD i [])) (k := k) (by omega)]; simp) fun px13 cx13 W13 o13 hg13 hb13 => ?_
         refine zK _ _ ?_
         refine xwm 5 ((↑k : Int) + 1) (↑(k + 1) : Int) ?_
         have hB'3 := hB'2.trans hb13
         have m11'1 := (m11.below n12.below).grown hg13 ho'2
         exact ze 2 (hJ7 _ _ _ ⟨k + 1, _, _, _, rfl, rfl, hB'3, o13, m11'1, by omega, by omega⟩ (by omega))
       refine xbs 5 1 [.int .i64 ((L.getD i []).getD k 0)] 3 fun b14 W14 n14 => ?_
       have g14 := n14.ge hB_7
       have r14_ho := own_ne ho_7 n14
       have ho'3 := own_below ho_7 n14.below
       have hB'4 := Bl.next hB_7 n14.below
       refine xbi 0 fun _ _ _ _ zJ zQ zo zx zy zK => op_app (m := 1) (news := [.int .i64 ((L.getD i []).getD k 0)]) (.int .i64 0) 1 8 (m2 + 1) (((flatL L i ++ (L.getD i []).take (k + 1)).map (Value.int .i64))) zo Tryz.underlying22 (by kernel_rfl) rfl (by decide) zx ho'3 zy (n14.blk.sl 1 1 (by decide) (by decide)) rfl (by simp [Value.oneCell']) (by unfold maxLen; omega) (by omega) hB'4.size (by omega) (by rw [takeI_snoc (l := (L.getD i [])) (k := k) (by omega)]; simp) fun px15 cx15 W15 o15 hg15 hb15 => ?_
       refine zK _ _ ?_
       refine xwm 5 ((↑k : Int) + 1) (↑(k + 1) : Int) ?_
       have hm'1 := (hm_7.below n14.below).grown hg15 ho'3
       have hB'5 := hB'4.trans hb15
       exact ze 2 (hJ7 _ _ _ ⟨k + 1, _, _, _, rfl, rfl, hB'5, o15, (by rw [← flat_other (A := flatL L i) (l := (L.getD i [])) (k := k) (by omega) (by omega)]; exact hm'1), by omega, by omega⟩ (by omega))
     refine xwm 7 ((↑i : Int) + 1) (↑(i + 1) : Int) ?_
     have hE := flat_done (L := L) (i := i) (k := k) (by omega) (by omega)
     exact ze 2 (hJ2 _ _ _ ⟨i + 1, _, _, _, rfl, rfl, hB_7, (by rw [← hE]; exact ho_7), (by rw [← hE]; exact hm_7), by omega, by rw [← hE, List.length_append, List.length_take]; omega⟩ (by omega))
   refine zl 18 67 (fun zm zkv V => ∃ (k m2 : Nat) (p2 : Option Addr) (c2 : Nat), zkv = [(0, .slice pl L.length cl), (5, .slice p2 m2 c2), (6, .map (some r1)), (13, .slice pl L.length cl), (14, .int .i64 (↑L.length : Int)), (15, .int .i64 (↑i : Int)), (42, .slice (some ⟨(gs.getD i (0, 0)).1, 0, none⟩) ((L.getD i []).length) ((gs.getD i (0, 0)).2)), (43, .int .i64 (↑((L.getD i []).length) : Int)), (44, .int .i64 (↑k : Int))] ∧ zm = (L.getD i []).length - ((↑k : Int)).toNat ∧ Below w.heap.size w V ∧ V.ownsRow w.heap.size 3 1 (.slice p2 m2 c2) m2 ((flatL L i ++ (L.getD i []).take k).map (Value.int .i64)) ∧ MapI V r1 (threes (flatL L i ++ (L.getD i []).take k)) ∧ k ≤ (L.getD i []).length ∧ m2 = (flatL L i).length + k) ⟨0, m, _, _, rfl, rfl, hB_2, (by rw [List.take_zero, List.append_nil]; exact ho), (by rw [List.take_zero, List.append_nil]; exact hm), Nat.zero_le _, by omega⟩ ?_
   rintro _ _ W16 ⟨k, m2, p2, c2, rfl, rfl, hB_16, ho_16, hm_16, hk, hm2⟩ J16 hJ16 r16
   have hsm := fun (q : k < (L.getD i []).length) => getI_bd (hF.small i (by omega)) k
   refine xid 6 ((↑k : Int) < (↑((L.getD i []).length) : Int)) (fun hc17 => ?_) (fun hc17 => ?_)
   · refine xxb 6 (gs.getD i (0, 0)).1 0 ((L.getD i []).length) k 1 ?_
     refine xl 0 (cell_mid (IntsN.elem (own_sl (Lists.each (hL.below hB_16) i (by omega))) rfl (k := k) (by omega)).2) ?_
     refine xgk 9 [49, 50] (show (decide (((L.getD i []).getD k 0) < (0 : Int)) : Bool) = false from decide_eq_false (by have := (hsm (by omega)).1; omega)) ?_
     refine xk 5 (show (decide (((L.getD i []).getD k 0) > (3 : Int)) : Bool) = false from decide_eq_false (by have := (hsm (by omega)).2; omega)) ?_
     refine xie 9 ((L.getD i []).getD k 0) (3 : Int) (fun hc19 => ?_) (fun hc19 => ?_)
     · refine xmu 4 (k := (↑m2 : Int)) Tryz.underlying135 Tryz.underlying3 hm_16 (threes_new (by rw [List.length_append, List.length_take]; omega)) fun W20 u20 m20 => ?_
       rw [flat_three (A := flatL L i) (l := (L.getD i [])) (k := k) (m := m2) (by omega) (by omega) (by omega)] at m20
       have g1 := m1.ge (Below.refl w.heap.size _)
       refine xbs 5 1 [.int .i64 ((L.getD i []).getD k 0)] 3 fun b21 W21 n21 => ?_
       have hB'6 := u20.below hB_16 g1
       have g21 := n21.ge hB'6
       have ho'4 := own_map ho_16 hm_16 u20
       have r21_ho := own_ne ho'4 n21
       have ho'5 := own_below ho'4 n21.below
       have hB'7 := Bl.next hB'6 n21.below
       refine xbi 0 fun _ _ _ _ zJ zQ zo zx zy zK => op_app (m := 1) (news := [.int .i64 ((L.getD i []).getD k 0)]) (.int .i64 0) 1 8 (m2 + 1) (((flatL L i ++ (L.getD i []).take (k + 1)).map (Value.int .i64))) zo Tryz.underlying22 (by kernel_rfl) rfl (by decide) zx ho'5 zy (n21.blk.sl 1 1 (by decide) (by decide)) rfl (by simp [Value.oneCell']) (by unfold maxLen; omega) (by omega) hB'7.size (by omega) (by rw [takeI_snoc (l := (L.getD i [])) (k := k) (by omega)]; simp) fun px22 cx22 W22 o22 hg22 hb22 => ?_
       refine zK _ _ ?_
       refine xwm 5 ((↑k : Int) + 1) (↑(k + 1) : Int) ?_
       have hB'8 := hB'7.trans hb22
       have m20'1 := (m20.below n21.below).grown hg22 ho'5
       exact ze 2 (hJ16 _ _ _ ⟨k + 1, _, _, _, rfl, rfl, hB'8, o22, m20'1, by omega, by omega⟩ (by omega))
     refine xbs 5 1 [.int .i64 ((L.getD i []).getD k 0)] 3 fun b23 W23 n23 => ?_
     have g23 := n23.ge hB_16
     have r23_ho := own_ne ho_16 n23
     have ho'6 := own_below ho_16 n23.below
     have hB'9 := Bl.next hB_16 n23.below
     refine xbi 0 fun _ _ _ _ zJ zQ zo zx zy zK => op_app (m := 1) (news := [.int .i64 ((L.getD i []).getD k 0)]) (.int .i64 0) 1 8 (m2 + 1) (((flatL L i ++ (L.getD i []).take (k + 1)).map (Value.int .i64))) zo Tryz.underlying22 (by kernel_rfl) rfl (by decide) zx ho'6 zy (n23.blk.sl 1 1 (by decide) (by decide)) rfl (by simp [Value.oneCell']) (by unfold maxLen; omega) (by omega) hB'9.size (by omega) (by rw [takeI_snoc (l := (L.getD i [])) (k := k) (by omega)]; simp) fun px24 cx24 W24 o24 hg24 hb24 => ?_
     refine zK _ _ ?_
     refine xwm 5 ((↑k : Int) + 1) (↑(k + 1) : Int) ?_
     have hm'2 := (hm_16.below n23.below).grown hg24 ho'6
     have hB'10 := hB'9.trans hb24
     exact ze 2 (hJ16 _ _ _ ⟨k + 1, _, _, _, rfl, rfl, hB'10, o24, (by rw [← flat_other (A := flatL L i) (l := (L.getD i [])) (k := k) (by omega) (by omega)]; exact hm'2), by omega, by omega⟩ (by omega))
   refine xwm 7 ((↑i : Int) + 1) (↑(i + 1) : Int) ?_
   have hE := flat_done (L := L) (i := i) (k := k) (by omega) (by omega)
   exact ze 2 (hJ2 _ _ _ ⟨i + 1, _, _, _, rfl, rfl, hB_16, (by rw [← hE]; exact ho_16), (by rw [← hE]; exact hm_16), by omega, by rw [← hE, List.length_append, List.length_take]; omega⟩ (by omega))
 have g1 := m1.ge (Below.refl w.heap.size _)
 refine xe 15 (.tuple #[.slice p m c, .map (some r1), .bool true]) ?_
 obtain rfl : i = L.length := by omega
 rw [flat_all] at ho hm hmm
 subst hmm
 exact ⟨_, rfl, hB_2, _, _, _, rfl, ho, hm, g1⟩
end Go.Proofs.YthlakkdgcgkcdaaGreat
namespace Go.Proofs.YthlakkdgcgkcdaaGreat
open Go.RowKit Go.Extern.Stop Go.Stop Go.Extern
set_option linter.unusedVariables false
attribute [local irreducible] wpList wpAnyH Code.wp Oper.wp Go

theorem value_ReadCountJ (E : List Ent) (i : Nat) (w : World) (hs : (E.getD i entD).2.1.length ≤ 1000) : Calls Tryz.prog 74 #[.string ⟨(E.getD i entD).2.1.toArray⟩] w (Ret (.tuple #[.int .i64 (jVal E i), .int .i64 (readE cntP (E.getD i entD).2.1)]) w) := value_ReadCount _ w hs
theorem outL_setK {F : List Int} {E : List Ent} {i kk : Nat} (h : jOk F E (i + 1)) (hk : jKey E i = (kk : Int)) : ((outL F E i).map (Value.int .i64)).set kk (.int .i64 (jVal E i)) = (outL F E (i + 1)).map (Value.int .i64) := by
  have e := outL_set h
  rwa [hk, Int.toNat_natCast] at e
theorem openL_delK {F : List Int} {E : List Ent} {i kk : Nat} (hk : jKey E i = (kk : Int)) : (openL F E i).erase ((kk : Nat) : Int) = openL F E (i + 1) := by rw [← hk]; exact openL_del F E i
theorem jLast_next (E : List Ent) (i : Nat) : jLast E (i + 1) = jKey E i := by unfold jLast; rw [if_neg (by omega), Nat.add_sub_cancel]
def JoinP (F : List Int) (E : List Ent) (w : World) (e : Ending) (w' : World) : Prop :=
  ∃ p c, e = .returned (.tuple #[.slice p (joinO F E).2.length c, .int .i64 (joinO F E).1]) ∧ Below w.heap.size w w' ∧ w'.ownsRow w.heap.size 3 1 (.slice p (joinO F E).2.length c) (joinO F E).2.length ((joinO F E).2.map (Value.int .i64))
theorem joinP_bad {F : List Int} {E : List Ent} {w W : World} {z : Int} (h : joinO F E = (z, [])) (hb : Below w.heap.size w W) : JoinP F E w (.returned (.tuple #[.slice none 0 0, .int .i64 z])) W := ⟨none, 0, by rw [h]; rfl, hb, by rw [h]; exact World.ownsRow_nil _ _ _ _⟩
theorem jBad_8 {F : List Int} {E : List Ent} {i : Nat} (h : jKey E i ≤ jLast E i) : jBad F E i = 8 := if_pos h
theorem jBad_13 {F : List Int} {E : List Ent} {i : Nat} (h : jLast E i < jKey E i) (h3 : F.getD (jKey E i).toNat 0 ≠ 3) : jBad F E i = 13 := by unfold jBad; rw [if_neg (by omega), if_pos h3]
theorem jBad_r {F : List Int} {E : List Ent} {i : Nat} (h : jLast E i < jKey E i) (h3 : F.getD (jKey E i).toNat 0 = 3) : jBad F E i = readE cntP (E.getD i entD).2.1 := by unfold jBad; rw [if_neg (by omega), if_neg (fun q => q h3)]
set_option maxRecDepth 100000 in
set_option maxHeartbeats 4000000 in
theorem tally_Join (B2 : Nat) (pl : Option Addr) (cl : Nat) (gs : List (Nat × Nat)) (L : List (List Int)) (a : Option Addr) (ce : Nat) (E : List Ent) (w : World) (hL : Lists w B2 (.slice pl L.length cl) gs L) (hF : FormOk L) (hl : L.length ≤ 1200000000) (hE : Sts entC w (.slice a E.length ce) E) (hv : ∀ i, i < E.length → (E.getD i entD).2.1.length ≤ 1000) :
    Calls Tryz.prog 54 #[.slice pl L.length cl, .slice a E.length ce] w (JoinP L.flatten E w) := by
 have hEl := Sl.len hE
 refine zin 61 Tryz.func54 ?_
 refine xc 9 (args := #[.slice pl L.length cl]) (tally_flat B2 pl cl gs L _ (hL.below (Below.refl w.heap.size _)) hF hl) ?_
 rintro _ W1 ⟨_, rfl, hb1, p, c, rm, rfl, ho0, hm0, hfr⟩
 have hs1 := Nat.le_refl w.heap.size
 have hg0 := hfr
 refine xv1 33 9 (show (.int .i64 (-1) : Value) = .int .i64 (jLast E 0) from rfl) ?_
 have ho0'1 := own_mono ho0 hs1
 refine zl 0 61 (fun zm zkv V => ∃ (i : Nat), zkv = [(6, .slice p L.flatten.length c), (7, .map (some rm)), (9, .int .i64 (jLast E i)), (22, .slice a E.length ce), (23, .int .i64 (↑E.length : Int)), (24, .int .i64 (↑i : Int))] ∧ zm = E.length - ((↑i : Int)).toNat ∧ Below w.heap.size w V ∧ V.ownsRow w.heap.size 3 1 (.slice p L.flatten.length c) L.flatten.length ((outL L.flatten E i).map (Value.int .i64)) ∧ MapI V rm (openL L.flatten E i) ∧ i ≤ E.length ∧ jOk L.flatten E i) ⟨0, rfl, rfl, hb1, (by rw [outL_zero]; exact ho0'1), (by rw [openL_zero]; exact hm0), Nat.zero_le _, (fun j hj => absurd hj (by omega))⟩ ?_
 rintro _ _ W2 ⟨i, rfl, rfl, hB_2, ho, hm, hi, hok⟩ J2 hJ2 r2
 have hjl := jOk_last hok
 refine xid 6 ((↑i : Int) < (↑E.length : Int)) (fun hc3 => ?_) (fun hc3 => ?_)
 · refine xx 6 _ E.length i 3 (Sts.cell hE entC_len entD (k := i) (i := 0) (by omega) rfl).1 ?_
   refine xlv 0 (Sts.rp (k := i) (hE.below hB_2) entC_len entD (by omega) (by decide)) ?_
   refine xa 0 [.int .i64 0, .string ⟨#[]⟩, .int .i64 0] 45 fun b4 W4 n4 => ?_
   have g4 := n4.ge hB_2
   refine xsv 0 n4.blk [.int .i64 (jKey E i), .string ⟨((E.getD i entD).2.1).toArray⟩, .int .i64 ((E.getD i entD).2.2)] fun W5 u5 k5 => ?_
   refine xb 6 0 k5 ?_
   refine xid 4 ((jKey E i) ≤ (jLast E i)) (fun hc6 => ?_) (fun hc6 => ?_)
   · have hB'1 := u5.below (Bl.next hB_2 n4.below) g4
     exact xe 13 (.tuple #[.slice none 0 0, .int .i64 8]) (joinP_bad ((joinO_bad (by omega) hok (by rw [jBad_8 (by omega)]; decide)).trans (by rw [jBad_8 (by omega)])) hB'1)
   have hlt : jLast E i < jKey E i := by omega
   refine xb 7 0 k5 ?_
   have hm'1 := (hm.below n4.below).updBlk u5 n4.blk
   refine xlk 0 (k := (jKey E i)) Tryz.underlying135 Tryz.underlying3 (fun V => by kernel_rfl) hm'1 ?_
   refine xi 3 (!(decide ((jKey E i) ∈ (openL L.flatten E i)))) (fun hc7 => ?_) (fun hc7 => ?_)
   · have hno : ¬ (jKey E i ∈ openL L.flatten E i) := by simpa using hc7
     have hB'2 := u5.below (Bl.next hB_2 n4.below) g4
     refine xe 13 (.tuple #[.slice none 0 0, .int .i64 13]) ?_
     have h13 := jBad_13 (F := L.flatten) hlt (fun q => hno ((openL_at hok hlt).2 q))
     exact joinP_bad ((joinO_bad (by omega) hok (by rw [h13]; decide)).trans (by rw [h13])) hB'2
   have hin : jKey E i ∈ openL L.flatten E i := by simpa using hc7
   have h3 := (openL_at hok hlt).1 hin
   have hjr := jBad_r (F := L.flatten) hlt h3
   refine xb 5 1 k5 ?_
   refine xr 0 (args := #[.string ⟨((E.getD i entD).2.1).toArray⟩]) (value_ReadCountJ E i _ (hv i (by omega))) fun W8 hb8 => ?_
   refine xin 14 (readE cntP (E.getD i entD).2.1) (0 : Int) (fun hc9 => ?_) (fun hc9 => ?_)
   · have hB'3 := Bl.next (u5.below (Bl.next hB_2 n4.below) g4) hb8
     exact xe 14 (.tuple #[.slice none 0 0, .int .i64 (readE cntP (E.getD i entD).2.1)]) (joinP_bad ((joinO_bad (by omega) hok (by rw [hjr]; omega)).trans (by rw [hjr])) hB'3)
   have hok2 : jOk L.flatten E (i + 1) := jOk_next hok (by rw [hjr]; omega)
   obtain ⟨kk, hkk⟩ : ∃ kk : Nat, jKey E i = (kk : Int) := ⟨(jKey E i).toNat, by have := hjl.1; omega⟩
   have hkl := jKey_lt h3
   rw [hkk, Int.toNat_natCast] at hkl
   have ho'1 := own_below (u5.own2 (own_below ho n4.below) n4.blk (by decide)) hb8
   obtain ⟨gq, rfl, _⟩ := own_someN ho'1 (by omega)
   have k5'1 := k5.below hb8
   have kq : Blk W8 b4 [.int .i64 (↑kk : Int), .string ⟨((E.getD i entD).2.1).toArray⟩, .int .i64 ((E.getD i entD).2.2)] 45 := by rw [← hkk]; exact k5'1
   refine xb 6 0 kq ?_
   refine xx 1 _ L.flatten.length kk 1 (own_some ho'1 (by omega)).1 ?_
   refine xst 0 fun _ _ _ _ zJ zQ zo zx zy zK => op_storeRow (t := 3) (k := kk) (v := .int .i64 (jVal E i)) zo zx zy (by kernel_rfl) rfl ho'1 (by omega) fun W10 u10 o10 => ?_
   rw [outL_setK (F := L.flatten) hok2 hkk] at o10
   refine zK _ _ ?_
   have kq'1 := u10.blk kq (own_blk_ne kq ho'1 (by decide))
   refine xb 6 0 kq'1 ?_
   have hm'2 := (hm'1.below hb8).updRow u10 ho'1
   refine xmd 0 (k := (↑kk : Int)) Tryz.underlying135 Tryz.underlying3 hm'2 (hkk ▸ hin) fun W11 u11 m11 => ?_
   rw [openL_delK (F := L.flatten) hkk] at m11
   have kq'2 := blk_map kq'1 hm'2 u11
   refine xb 4 0 kq'2 ?_
   refine xwm 5 ((↑i : Int) + 1) (↑(i + 1) : Int) ?_
   refine xv1 2 9 (show (.int .i64 (↑kk : Int) : Value) = .int .i64 (jLast E (i + 1)) from by rw [jLast_next, hkk]) ?_
   have hB'4 := u11.below (u10.below (Bl.next (u5.below (Bl.next hB_2 n4.below) g4) hb8) (own_ge ho'1)) hfr
   have o10'1 := own_map o10 hm'2 u11
   exact ze 0 (hJ2 _ _ _ ⟨i + 1, rfl, rfl, hB'4, o10'1, m11, by omega, hok2⟩ (by omega))
 refine xml 9 Tryz.underlying135 hm ?_
 refine xid 3 ((↑(openL L.flatten E i).length : Int) > (0 : Int)) (fun hc12 => ?_) (fun hc12 => ?_)
 · refine xe 8 (.tuple #[.slice none 0 0, .int .i64 13]) ?_
   obtain rfl : i = E.length := by omega
   exact joinP_bad ((joinO_all hok).trans (if_neg (fun q => by have h0 := congrArg List.length q; rw [List.length_nil] at h0; omega))) hB_2
 refine xe 10 (.tuple #[.slice p L.flatten.length c, .int .i64 0]) ?_
 obtain rfl : i = E.length := by omega
 have hnil : openL L.flatten E E.length = [] := List.eq_nil_of_length_eq_zero (by omega)
 have hj := (joinO_all hok).trans (if_pos hnil)
 exact ⟨p, c, by rw [hj, outL_len], hB_2, by rw [hj, outL_len]; exact ho⟩
end Go.Proofs.YthlakkdgcgkcdaaGreat
namespace Go.Proofs.YthlakkdgcgkcdaaGreat
open Go.RowKit Go.Extern.Stop Go.Stop Go.Extern
set_option linter.unusedVariables false
attribute [local irreducible] wpList wpAnyH Code.wp Oper.wp Go

/-- what the program tells: counts, or an error of these blocks and this number -/
def OutP (O : List Int × Int × List Int) (w : World) (e : Ending) (w' : World) : Prop :=
  (O.2.1 ≠ 0 ∧ ∃ ty x, e = .returned (.tuple #[.slice none 0 0, .iface ty x]) ∧ Below w.heap.size w w' ∧ ErrV w' (O.1.map some) (some O.2.1) (.iface ty x)) ∨
  (O.2.1 = 0 ∧ ∃ p c, e = .returned (.tuple #[.slice p O.2.2.length c, .nilIface]) ∧ Below w.heap.size w w' ∧ w'.ownsRow w.heap.size 3 1 (.slice p O.2.2.length c) O.2.2.length (O.2.2.map (Value.int .i64)))
theorem out_bad {O : List Int × Int × List Int} {bl : List Int} {er : Int} {w W : World} {ty : TypeId} {x : Value} (h : O = (bl, er, [])) (her : er ≠ 0) (hb : Below w.heap.size w W) (hv : ErrV W (bl.map some) (some er) (.iface ty x)) : OutP O w (.returned (.tuple #[.slice none 0 0, .iface ty x])) W := by
  subst h; exact .inl ⟨her, ty, x, rfl, hb, hv⟩
theorem out_ok {O : List Int × Int × List Int} {L : List Int} {n : Nat} {w W : World} {p : Option Addr} {c : Nat} (h : O = ([], 0, L)) (hn : L.length = n) (hb : Below w.heap.size w W) (ho : W.ownsRow w.heap.size 3 1 (.slice p n c) n (L.map (Value.int .i64))) : OutP O w (.returned (.tuple #[.slice p n c, .nilIface])) W := by
  subst h hn; exact .inr ⟨rfl, p, c, rfl, hb, ho⟩
theorem fault_AtE (no er : Int) (bl : List Int) (v : Value) (w : World) (hv : ErrV w (bl.map some) (some er) v) :
    Calls Tryz.prog 28 #[.int .i64 no, v] w (fun e w' => ∃ ty x, e = .returned (.iface ty x) ∧ Below w.heap.size w w' ∧ ErrV w' ((no :: bl).map some) (some er) (.iface ty x)) := by
  refine (fault_At no (some er) (bl.map some) v w hv).mono ?_
  rintro e W ⟨r, rfl, hb, hr⟩
  rw [show atL no (bl.map some) (some er) = (no :: bl).map some from by unfold atL noErr; simp] at hr
  have hr2 : ErrV W (some no :: bl.map some) (some er) r := hr
  obtain ⟨blk, v', rfl, h1, h2⟩ := hr2
  exact ⟨_, _, rfl, hb, blk, v', rfl, h1, h2⟩
theorem bitR_le (l : List UInt8) (no : Int) : (bitR l no).length ≤ 960 := by
  by_cases h : bitsErr l no = 0
  · rw [(bitR_ok h).2]
    unfold bitsErr at h
    by_cases h1 : inE l 3 no = 0
    · rw [if_pos h1] at h
      by_cases h2 : bitsOkB (inB l no) = true
      · exact ((bitsOkB_iff _).1 h2).2.1
      · rw [if_neg h2] at h; omega
    · rw [if_neg h1] at h; exact absurd h h1
  · rw [bitR_bad h]; exact Nat.zero_le _
theorem block_BitsO (B b : Nat) (p : Option Addr) (n c : Nat) (l : List UInt8) (no : Int) (w : World) (hI : ImgR B b p n c l w) :
    Calls Tryz.prog 72 #[.pointer (some ⟨b, 0, none⟩), .int .i64 no] w (fun e w' =>
      (bitsErr l no ≠ 0 ∧ ∃ ty x, e = .returned (.tuple #[.slice none 0 0, .iface ty x]) ∧ Below w.heap.size w w' ∧ ErrV w' (([no] : List Int).map some) (some (bitsErr l no)) (.iface ty x)) ∨
      (bitsErr l no = 0 ∧ ∃ p c, e = .returned (.tuple #[.slice p (bitR l no).length c, .nilIface]) ∧ Below w.heap.size w w' ∧ w'.ownsRow w.heap.size 3 1 (.slice p (bitR l no).length c) (bitR l no).length ((bitR l no).map (Value.int .i64)))) := by
  refine (block_Bits B b p n c l no w hI).mono ?_
  rintro e W q
  rcases q with ⟨h, b, rfl, hb, hv⟩ | ⟨h, p, c, rfl, hb, ho⟩
  · exact .inl ⟨h, _, _, rfl, hb, hv⟩
  · refine .inr ⟨h, p, c, by rw [(bitR_ok h).2], hb, ?_⟩
    rw [(bitR_ok h).2, (bitR_ok h).1, bitI_map]; exact ho
set_option maxRecDepth 100000 in
set_option maxHeartbeats 2000000 in
theorem placed_counts (Bi b : Nat) (pi : Option Addr) (ni ci : Nat) (l : List UInt8) (x : Plc) (want : Int) (w : World) (hI : ImgR Bi b pi ni ci l w) :
    Calls Tryz.prog 53 #[.agg #[.int .i64 (↑x.1.1 : Int), .int .i64 (↑x.1.2.1 : Int), .int .i64 (↑x.1.2.2 : Int), .int .i64 x.2.1, .int .i64 x.2.2], .pointer (some ⟨b, 0, none⟩), .int .i64 want] w (OutP (oneO l x want) w) := by
 refine zin 65 Tryz.func53 ?_
 refine xa 2 [.int .i64 (↑x.1.1 : Int), .int .i64 (↑x.1.2.1 : Int), .int .i64 (↑x.1.2.2 : Int), .int .i64 x.2.1, .int .i64 x.2.2] 73 fun b1 W1 n1 => ?_
 refine xb 8 4 n1.blk ?_
 refine xin 3 x.2.2 (0 : Int) (fun hc2 => ?_) (fun hc2 => ?_)
 · refine xb 3 3 n1.blk ?_
   refine xb 1 4 n1.blk ?_
   refine xc 1 (args := #[.int .i64 x.2.1, .iface 26 (.int .i64 x.2.2)]) (fault_AtE x.2.1 x.2.2 [] _ _ rfl) ?_
   rintro _ W3 ⟨ty3, v3, rfl, hb3, hva⟩
   have hB := Bl.next n1.below hb3
   exact xe 6 (.tuple #[.slice none 0 0, .iface ty3 (v3)]) (out_bad (by unfold oneO; rw [if_pos (by assumption)]) (by assumption) hB hva)
 refine xb 7 0 n1.blk ?_
 refine xc 0 (args := #[.pointer (some ⟨b, 0, none⟩), .int .i64 (↑x.1.1 : Int)]) (block_BitsO Bi b pi ni ci l (↑x.1.1 : Int) _ (hI.below n1.below)) ?_
 rintro e W4 hq4
 rcases hq4 with ⟨hbe, tyb, vb, rfl, hb4, hv9⟩ | ⟨hbe, p9, c9, rfl, hb4, ho9⟩
 · have k1'1 := n1.blk.below hb4
   refine xb 18 3 k1'1 ?_
   refine xc 1 (args := #[.int .i64 x.2.1, .iface tyb (vb)]) (fault_AtE x.2.1 (bitsErr l (↑x.1.1 : Int)) [(↑x.1.1 : Int)] _ _ hv9) ?_
   rintro _ W5 ⟨ty5, v5, rfl, hb5, hva⟩
   have hB'1 := Bl.next (Bl.next n1.below hb4) hb5
   exact xe 6 (.tuple #[.slice none 0 0, .iface ty5 (v5)]) (out_bad (by unfold oneO; rw [if_neg (by omega), if_pos hbe]) hbe hB'1 hva)
 refine xin 26 (↑((bitR l (↑x.1.1 : Int)).length) : Int) want (fun hc6 => ?_) (fun hc6 => ?_)
 · have k1'2 := n1.blk.below hb4
   refine xb 3 3 k1'2 ?_
   refine xc 1 (args := #[.int .i64 x.2.1, .iface 26 (.int .i64 7)]) (fault_AtE x.2.1 7 [] _ _ rfl) ?_
   rintro _ W7 ⟨ty7, v7, rfl, hb7, hva⟩
   have hB'2 := Bl.next (Bl.next n1.below hb4) hb7
   exact xe 6 (.tuple #[.slice none 0 0, .iface ty7 (v7)]) (out_bad (by unfold oneO; rw [if_neg (by omega), if_neg (by omega), if_pos (by assumption)]) (by decide) hB'2 hva)
 have ho9'1 := own_mono ho9 n1.below.size
 refine xr 6 (args := #[.slice p9 ((bitR l (↑x.1.1 : Int)).length) c9]) (bits_Free p9 c9 (bitR l (↑x.1.1 : Int)) _ (bitR_le _ _) (own_sl ho9'1)) fun W8 hb8 => ?_
 have k1'3 := (n1.blk.below hb4).below hb8
 refine xb 12 1 k1'3 ?_
 refine xg 2 [52, 53] ((↑(freeN (bitR l (↑x.1.1 : Int))) : Int) != (↑x.1.2.1 : Int)) (fun hc9 => ?_) (fun hc9 => ?_)
 · have hc9 := ne_of_bne hc9
   refine xb 12 3 k1'3 ?_
   refine xc 1 (args := #[.int .i64 x.2.1, .iface 26 (.int .i64 13)]) (fault_AtE x.2.1 13 [] _ _ rfl) ?_
   rintro _ W10 ⟨ty10, v10, rfl, hb10, hva⟩
   have hB'3 := Bl.next (Bl.next (Bl.next n1.below hb4) hb8) hb10
   exact xe 6 (.tuple #[.slice none 0 0, .iface ty10 (v10)]) (out_bad (by unfold oneO; rw [if_neg (by omega), if_neg (by omega), if_neg (by omega), if_neg (by omega)]) (by decide) hB'3 hva)
 have hc9 := eq_of_bne_false hc9
 refine xb 3 2 k1'3 ?_
 refine xin 4 (↑(firstN (bitR l (↑x.1.1 : Int))) : Int) (↑x.1.2.2 : Int) (fun hc11 => ?_) (fun hc11 => ?_)
 · refine xb 3 3 k1'3 ?_
   refine xc 1 (args := #[.int .i64 x.2.1, .iface 26 (.int .i64 13)]) (fault_AtE x.2.1 13 [] _ _ rfl) ?_
   rintro _ W12 ⟨ty12, v12, rfl, hb12, hva⟩
   have hB'4 := Bl.next (Bl.next (Bl.next n1.below hb4) hb8) hb12
   exact xe 6 (.tuple #[.slice none 0 0, .iface ty12 (v12)]) (out_bad (by unfold oneO; rw [if_neg (by omega), if_neg (by omega), if_neg (by omega), if_neg (by omega)]) (by decide) hB'4 hva)
 have hB'5 := Bl.next (Bl.next n1.below hb4) hb8
 have ho9'2 := own_below ho9'1 hb8
 exact xe 10 (.tuple #[.slice p9 ((bitR l (↑x.1.1 : Int)).length) c9, .nilIface]) (out_ok (by unfold oneO; rw [if_neg (by omega), if_neg (by omega), if_neg (by omega), if_pos (by omega)]) rfl hB'5 ho9'2)
end Go.Proofs.YthlakkdgcgkcdaaGreat
namespace Go.Proofs.YthlakkdgcgkcdaaGreat
open Go.RowKit Go.Extern.Stop Go.Stop Go.Extern
set_option linter.unusedVariables false
attribute [local irreducible] wpList wpAnyH Code.wp Oper.wp Go

theorem scan_short (l : List UInt8) (root tree fuel : Int) : ∀ i, i < (scanW l root tree fuel).es.length → ((scanW l root tree fuel).es.getD i entD).2.1.length ≤ 1000 := fun i hi => by
  have hx : (scanW l root tree fuel).es.getD i entD ∈ (scanW l root tree fuel).es := by rw [show (scanW l root tree fuel).es.getD i entD = (scanW l root tree fuel).es[i] from by simp [List.getD, hi]]; exact List.getElem_mem hi
  obtain ⟨_, _, k, _, _, h, _⟩ := (scan_law l root tree fuel).2.2.1 _ hx
  rw [← h]
  exact valsL_short _ _ _
def remI (n : Int) (i : Nat) : Int := if 0 < i ∧ n - 960 * i < 0 then 0 else n - 960 * i
theorem remI_zero (n : Int) : remI n 0 = n := by unfold remI; rw [if_neg (by omega)]; omega
theorem rem_in {n : Int} {i m : Nat} (hX : m = bmI n) (hi : i < m) : remI n i = n - 960 * i ∧ 1 ≤ n - 960 * i ∧ (if 960 < remI n i then 960 else remI n i) = wantI n i ∧ 1 ≤ wantI n i ∧ wantI n i ≤ 960 ∧ remI n i - wantI n i = remI n (i + 1) := by
  unfold bmI bmN at hX
  have h1 : 1 ≤ n - 960 * i := by omega
  have h2 : remI n i = n - 960 * i := by unfold remI; rw [if_neg (by omega)]
  have h3 : (if 960 < remI n i then 960 else remI n i) = wantI n i := by
    unfold wantI; rw [h2]; split <;> split <;> omega
  have h4 : 1 ≤ wantI n i ∧ wantI n i ≤ 960 := by unfold wantI; split <;> omega
  refine ⟨h2, h1, h3, h4.1, h4.2, ?_⟩
  rw [h2]
  unfold wantI remI
  split <;> split <;> omega
theorem bmI_le {n : Int} (h : n ≤ 1099511627776) : bmI n ≤ 1200000000 := by unfold bmI bmN; omega
/-- walk.Whole: the first fault, or all entries -/
theorem walk_WholeO (Bi b : Nat) (pi : Option Addr) (ni ci : Nat) (l : List UInt8) (root tree fuel : Int) (w : World) (hfu : fuel ≤ 1000) (hI : ImgR Bi b pi ni ci l w) :
    Calls Tryz.prog 26 #[.pointer (some ⟨b, 0, none⟩), .int .i64 root, .int .i64 tree, .int .i64 fuel] w (fun e w' =>
      ((scanW l root tree fuel).fs ≠ [] ∧ ∃ pe ce pb cb pf cf ty x, e = .returned (.tuple #[.agg #[.slice pe 0 ce, .slice pb 0 cb, .int .i64 0, .int .i64 0, .slice pf 0 cf], .iface ty x]) ∧ Below w.heap.size w w' ∧ ErrV w' ((wholeF (scanW l root tree fuel)).1.map some) (some (wholeF (scanW l root tree fuel)).2) (.iface ty x)) ∨
      ((scanW l root tree fuel).fs = [] ∧ ∃ pe ce pb nb cb dp lk pf cf, e = .returned (.tuple #[.agg #[.slice pe (scanW l root tree fuel).es.length ce, .slice pb nb cb, .int .i64 dp, .int .i64 lk, .slice pf 0 cf], .nilIface]) ∧ Below w.heap.size w w' ∧ w'.ownsRow w.heap.size 45 3 (.slice pe (scanW l root tree fuel).es.length ce) (scanW l root tree fuel).es.length ((scanW l root tree fuel).es.flatMap entC))) := by
  refine (walk_WholeP Bi b pi ni ci l root tree fuel w hfu hI).mono ?_
  rintro e W ⟨t, pe, pb, pf, ce, cb, cf, fv, v, ht, rfl, hb, hW, hv⟩
  by_cases h : (scanW l root tree fuel).fs = []
  · obtain ⟨h1, _, h3, h4⟩ := whole_ok h
    rw [h1] at ht
    rw [h3, h4] at hv
    subst ht
    have hv2 : v = .nilIface := hv
    subst hv2
    refine .inr ⟨h, pe, ce, pb, (scanW l root tree fuel).bs.length, cb, (scanW l root tree fuel).deep, ((scanW l root tree fuel).looked : Int), pf, cf, ?_, hb, hW.ents⟩
    unfold walkC
    rw [h]; rfl
  · obtain ⟨h1, h2, h3, h4⟩ := whole_bad h
    rw [h1] at ht
    rw [h3, h4, ← h2] at hv
    subst ht
    rcases hv.nil_or with ⟨hz, _⟩ | ⟨_, ty, x, rfl⟩
    · simp [noErr] at hz
    · exact .inl ⟨h, pe, ce, pb, cb, pf, cf, ty, x, rfl, hb, hv⟩
/-- a slot's counts, as one of many -/
theorem placed_countsI (Bi b : Nat) (pi : Option Addr) (ni ci : Nat) (l : List UInt8) (X : List Plc) (n : Int) (i : Nat) (w : World) (hI : ImgR Bi b pi ni ci l w) (hw : 1 ≤ wantI n i) :
    Calls Tryz.prog 53 #[.agg #[.int .i64 ((X.getD i plc0).1.1 : Int), .int .i64 ((X.getD i plc0).1.2.1 : Int), .int .i64 ((X.getD i plc0).1.2.2 : Int), .int .i64 (X.getD i plc0).2.1, .int .i64 (X.getD i plc0).2.2], .pointer (some ⟨b, 0, none⟩), .int .i64 (wantI n i)] w (fun e w' =>
      ((oneI l X n i).2.1 ≠ 0 ∧ ∃ ty x, e = .returned (.tuple #[.slice none 0 0, .iface ty x]) ∧ Below w.heap.size w w' ∧ ErrV w' ((oneI l X n i).1.map some) (some (oneI l X n i).2.1) (.iface ty x)) ∨
      ((oneI l X n i).2.1 = 0 ∧ ∃ g c, e = .returned (.tuple #[.slice (some ⟨g, 0, none⟩) (bitR l ((X.getD i plc0).1.1 : Int)).length c, .nilIface]) ∧ Below w.heap.size w w' ∧ w'.ownsRow w.heap.size 3 1 (.slice (some ⟨g, 0, none⟩) (bitR l ((X.getD i plc0).1.1 : Int)).length c) (bitR l ((X.getD i plc0).1.1 : Int)).length ((bitR l ((X.getD i plc0).1.1 : Int)).map (Value.int .i64)))) := by
  refine (placed_counts Bi b pi ni ci l (X.getD i plc0) (wantI n i) w hI).mono ?_
  rintro e W q
  rcases q with ⟨h, ty, x, rfl, hb, hv⟩ | ⟨h, p, c, rfl, hb, ho⟩
  · exact .inl ⟨h, ty, x, rfl, hb, hv⟩
  · obtain ⟨h1, h2⟩ := oneO_ok h
    rw [h1] at ho ⊢
    obtain ⟨g, rfl, _⟩ := own_someN ho (by show 0 < (bitR l ((X.getD i plc0).1.1 : Int)).length; omega)
    exact .inr ⟨h, g, c, rfl, hb, ho⟩
theorem rows_snoc {gs : List (Nat × Nat)} {l : List UInt8} {X : List Plc} {n : Int} {i g c : Nat} (hg : gs.length = i) :
    (List.range i).map (lstV gs (allL l X n i)) ++ [.slice (some ⟨g, 0, none⟩) (bitR l ((X.getD i plc0).1.1 : Int)).length c] = (List.range (i + 1)).map (lstV (gs ++ [(g, c)]) (allL l X n (i + 1))) := by
  have hl : gs.length = (allL l X n i).length := by rw [allL_len]; exact hg
  rw [List.range_succ, List.map_append, List.map_singleton, allL_next]
  congr 1
  · exact List.map_congr_left fun k hk => (lstV_old hl (by rw [allL_len]; exact List.mem_range.1 hk)).symm
  · have := lstV_new (c := c) (g := g) (ch := bitR l ((X.getD i plc0).1.1 : Int)) hl
    rw [allL_len] at this
    rw [this]
theorem each_snoc {W : World} {base g c i : Nat} {gs : List (Nat × Nat)} {l : List UInt8} {X : List Plc} {n : Int} (h : Each W base gs (allL l X n i)) (hg : gs.length = i) (ho : W.ownsRow base 3 1 (.slice (some ⟨g, 0, none⟩) (bitR l ((X.getD i plc0).1.1 : Int)).length c) (bitR l ((X.getD i plc0).1.1 : Int)).length ((bitR l ((X.getD i plc0).1.1 : Int)).map (Value.int .i64))) : Each W base (gs ++ [(g, c)]) (allL l X n (i + 1)) := by
  have hl : gs.length = (allL l X n i).length := by rw [allL_len]; exact hg
  intro k hk
  rw [allL_len] at hk
  rw [allL_next]
  by_cases e : k < i
  · have hk2 : k < (allL l X n i).length := by rw [allL_len]; exact e
    rw [lstV_old hl hk2, show (allL l X n i ++ [bitR l ((X.getD i plc0).1.1 : Int)]).getD k [] = (allL l X n i).getD k [] from by simp [List.getD, List.getElem?_append_left, hk2]]
    exact h k hk2
  · obtain rfl : k = i := by omega
    have h2 := lstV_new (c := c) (g := g) (ch := bitR l ((X.getD k plc0).1.1 : Int)) hl
    rw [allL_len] at h2
    rw [h2, show (allL l X n k ++ [bitR l ((X.getD k plc0).1.1 : Int)]).getD k [] = bitR l ((X.getD k plc0).1.1 : Int) from by
      have h3 := allL_len l X n k
      simp [List.getD, h3]]
    exact ho
theorem lists_all {W : World} {base m c : Nat} {p : Option Addr} {gs : List (Nat × Nat)} {l : List UInt8} {X : List Plc} {n : Int} (hr : W.ownsRow base 22 1 (.slice p m c) m ((List.range m).map (lstV gs (allL l X n m)))) (he : Each W base gs (allL l X n m)) : Lists W base (.slice p (allL l X n m).length c) gs (allL l X n m) := ⟨by rw [allL_len]; exact hr, fun i hi => he i hi⟩
theorem tally_JoinN (m : Nat) (B2 : Nat) (pl : Option Addr) (cl : Nat) (gs : List (Nat × Nat)) (L : List (List Int)) (a : Option Addr) (ce : Nat) (E : List Ent) (w : World) (hm : L.length = m) (hL : Lists w B2 (.slice pl L.length cl) gs L) (hF : FormOk L) (hl : L.length ≤ 1200000000) (hE : Sts entC w (.slice a E.length ce) E) (hv : ∀ i, i < E.length → (E.getD i entD).2.1.length ≤ 1000) :
    Calls Tryz.prog 54 #[.slice pl m cl, .slice a E.length ce] w (JoinP L.flatten E w) := by
  subst hm; exact tally_Join B2 pl cl gs L a ce E w hL hF hl hE hv
set_option maxRecDepth 100000 in
set_option maxHeartbeats 4000000 in
theorem chart_all (Bi b : Nat) (pi : Option Addr) (ni ci : Nat) (l : List UInt8) (px : Option Addr) (cx : Nat) (X : List Plc) (over n fuel : Int) (w : World) (hI : ImgR Bi b pi ni ci l w) (hX : Sts plcC w (.slice px X.length cx) X) (hXn : X.length = bmI n) (hn : n ≤ 1099511627776) (hfu : fuel ≤ 1000) :
    Calls Tryz.prog 30 #[.pointer (some ⟨b, 0, none⟩), .slice px X.length cx, .int .i64 over, .int .i64 n, .int .i64 fuel] w (OutP (allO l X over n fuel) w) := by
 have hXl := bmI_le hn
 rw [← hXn] at hXl
 refine zin 72 Tryz.func30 ?_
 refine xv1 20 3 (show (.int .i64 n : Value) = .int .i64 (remI n 0) from by rw [remI_zero]) ?_
 have hB := Below.refl w.heap.size w
 refine zl 0 72 (fun zm zkv V => ∃ (i : Nat) (gs : List (Nat × Nat)) (p : Option Addr) (c : Nat), zkv = [(0, .pointer (some ⟨b, 0, none⟩)), (2, .int .i64 over), (3, .int .i64 (remI n i)), (4, .int .i64 fuel), (12, .slice p i c), (22, .slice px X.length cx), (23, .int .i64 (↑X.length : Int)), (24, .int .i64 (↑i : Int))] ∧ zm = X.length - ((↑i : Int)).toNat ∧ Below w.heap.size w V ∧ V.ownsRow w.heap.size 22 1 (.slice p i c) i ((List.range i).map (lstV gs (allL l X n i))) ∧ Each V w.heap.size gs (allL l X n i) ∧ i ≤ X.length ∧ gs.length = i ∧ allK l X n i) ⟨0, [], none, 0, rfl, rfl, hB, World.ownsRow_nil _ _ _ _, (fun j hj => absurd hj (by rw [allL_len]; omega)), Nat.zero_le _, rfl, (fun j hj => absurd hj (by omega))⟩ ?_
 rintro _ _ W1 ⟨i, gs, p, c, rfl, rfl, hB_1, ho, hEa, hi, hgl, hok⟩ J1 hJ1 r1
 have hrm := fun (q : i < X.length) => rem_in hXn q
 refine xid 6 ((↑i : Int) < (↑X.length : Int)) (fun hc2 => ?_) (fun hc2 => ?_)
 · refine xx 6 _ X.length i 5 (Sts.cell hX plcC_len plc0 (k := i) (i := 0) (by omega) rfl).1 ?_
   refine xlv 0 (Sts.rp (k := i) (hX.below hB_1) plcC_len plc0 (by omega) (by decide)) ?_
   refine xa 0 [.int .i64 0, .int .i64 0, .int .i64 0, .int .i64 0, .int .i64 0] 73 fun b3 W3 n3 => ?_
   have g3 := n3.ge hB_1
   refine xsv 0 n3.blk [.int .i64 (↑(X.getD i plc0).1.1 : Int), .int .i64 (↑(X.getD i plc0).1.2.1 : Int), .int .i64 (↑(X.getD i plc0).1.2.2 : Int), .int .i64 ((X.getD i plc0).2.1), .int .i64 ((X.getD i plc0).2.2)] fun W4 u4 k4 => ?_
   refine xq 5 (congrArg (Value.int .i64) (show (if (960 : Int) < (remI n i) then (960 : Int) else (remI n i) : Int) = (wantI n i) from (hrm (by omega)).2.2.1)) ?_
   refine xlv 5 k4.rp ?_
   have hB'1 := u4.below (Bl.next hB_1 n3.below) g3
   refine xc 2 (args := #[.agg #[.int .i64 (↑(X.getD i plc0).1.1 : Int), .int .i64 (↑(X.getD i plc0).1.2.1 : Int), .int .i64 (↑(X.getD i plc0).1.2.2 : Int), .int .i64 ((X.getD i plc0).2.1), .int .i64 ((X.getD i plc0).2.2)], .pointer (some ⟨b, 0, none⟩), .int .i64 (wantI n i)]) (placed_countsI Bi b pi ni ci l X n i _ (hI.below hB'1) (hrm (by omega)).2.2.2.1) ?_
   rintro e W5 hq5
   rcases hq5 with ⟨hbe, tyc, vc, rfl, hb5, hv9⟩ | ⟨hbe, g9, c9, rfl, hb5, ho9⟩
   · have hB'2 := Bl.next hB'1 hb5
     exact xe 29 (.tuple #[.slice none 0 0, .iface tyc (vc)]) (out_bad (allO_bad (by omega) hok hbe) hbe hB'2 hv9)
   have hs5 := (u4.below (Bl.next hB_1 n3.below) g3).size
   refine xbs 21 1 [.slice (some ⟨g9, 0, none⟩) ((bitR l (↑(X.getD i plc0).1.1 : Int)).length) c9] 22 fun b6 W6 n6 => ?_
   have hB'3 := Bl.next hB'1 hb5
   have g6 := n6.ge hB'3
   have ho'1 := own_below (u4.own2 (own_below ho n3.below) n3.blk (by decide)) hb5
   have r6_ho := own_ne ho'1 n6
   have ho'2 := own_below ho'1 n6.below
   have hB'4 := Bl.next hB'3 n6.below
   refine xbi 0 fun _ _ _ _ zJ zQ zo zx zy zK => op_app (m := 1) (news := [.slice (some ⟨g9, 0, none⟩) ((bitR l (↑(X.getD i plc0).1.1 : Int)).length) c9]) (.slice none 0 0) 1 24 (i + 1) (((List.range (i + 1)).map (lstV (gs ++ [(g9, c9)]) (allL l X n (i + 1))))) zo Tryz.underlying24 (by kernel_rfl) rfl (by decide) zx ho'2 zy (n6.blk.sl 1 1 (by decide) (by decide)) rfl (by simp [Value.oneCell']) (by unfold maxLen; omega) (by omega) hB'4.size (rfl) (by rw [← rows_snoc hgl]) fun px7 cx7 W7 o7 hg7 hb7 => ?_
   refine zK _ _ ?_
   refine xq 6 (congrArg (Value.int .i64) (show IntKind.i64.wrap ((remI n i) - (wantI n i)) = (remI n (i + 1)) from (show IntKind.i64.wrap ((remI n i) - (wantI n i)) = ((remI n i) - (wantI n i)) from by first | exact IntWalk.i64_in _ (by omega) | (simp only [IntKind.wrap]; omega)).trans ((hrm (by omega)).2.2.2.2.2))) ?_
   refine xwm 5 ((↑i : Int) + 1) (↑(i + 1) : Int) ?_
   have hEa'1 := ((((hEa.below n3.below).only (Only.of_upd (T := [73]) u4 n3.blk (by decide)) (by decide)).below hb5).below n6.below).only (Only.of_grown (T := [22]) hg7 ho'2 (by decide)) (by decide)
   have ho9'1 := own_grown (own_below (own_mono ho9 hs5) n6.below) hg7 ho'2 (by decide)
   have hB'5 := hB'4.trans hb7
   exact ze 2 (hJ1 _ _ _ ⟨i + 1, gs ++ [(g9, c9)], _, _, rfl, rfl, hB'5, o7, (each_snoc hEa'1 hgl ho9'1), by omega, by rw [List.length_append, hgl]; rfl, allK_next hok hbe⟩ (by omega))
 obtain rfl : i = X.length := by omega
 refine xc 10 (args := #[.pointer (some ⟨b, 0, none⟩), .int .i64 over, .int .i64 5, .int .i64 fuel]) (walk_WholeO Bi b pi ni ci l over 5 fuel _ hfu (hI.below hB_1)) ?_
 rintro e W8 hq8
 rcases hq8 with ⟨hfs, pe, ce, pb, cb, pf, cf, tyw, vw, rfl, hb8, hv9⟩ | ⟨hfs, pe, ce, pb, nb, cb, dp, lk, pf, cf, rfl, hb8, hen⟩
 · refine xa 3 [.slice none 0 0, .slice none 0 0, .int .i64 0, .int .i64 0, .slice none 0 0] 64 fun b9 W9 n9 => ?_
   have hB'6 := Bl.next hB_1 hb8
   have g9 := n9.ge hB'6
   refine xsv 0 n9.blk [.slice pe 0 ce, .slice pb 0 cb, .int .i64 0, .int .i64 0, .slice pf 0 cf] fun W10 u10 k10 => ?_
   have hv9'1 := (hv9.below n9.below).only (Only.of_upd (T := [64]) u10 n9.blk (by decide)) (by decide)
   have hB'7 := u10.below (Bl.next hB'6 n9.below) g9
   exact xe 20 (.tuple #[.slice none 0 0, .iface tyw (vw)]) (out_bad ((allO_ok hok).trans (restO_flt hfs)) (wholeF_ne hfs) hB'7 hv9'1)
 refine xa 3 [.slice none 0 0, .slice none 0 0, .int .i64 0, .int .i64 0, .slice none 0 0] 64 fun b11 W11 n11 => ?_
 have hB'8 := Bl.next hB_1 hb8
 have g11 := n11.ge hB'8
 refine xsv 0 n11.blk [.slice pe ((scanW l over 5 fuel).es.length) ce, .slice pb nb cb, .int .i64 dp, .int .i64 lk, .slice pf 0 cf] fun W12 u12 k12 => ?_
 refine xb 17 0 k12 ?_
 have ho'3 := u12.own2 (own_below (own_below ho hb8) n11.below) n11.blk (by decide)
 have hEa'2 := ((hEa.below hb8).below n11.below).only (Only.of_upd (T := [64]) u12 n11.blk (by decide)) (by decide)
 have hen'1 := u12.own2 (own_below (own_mono hen hB_1.size) n11.below) n11.blk (by decide)
 refine xc 0 (args := #[.slice p X.length c, .slice pe ((scanW l over 5 fuel).es.length) ce]) (tally_JoinN X.length w.heap.size p c gs (allL l X n X.length) pe ce (scanW l over 5 fuel).es _ (allL_len _ _ _ _) (lists_all ho'3 hEa'2) (allL_form hok hXn) (by rw [allL_len, hXn]; exact bmI_le hn) (own_sl hen'1) (scan_short _ _ _ _)) ?_
 rintro _ W13 ⟨pj, cj, rfl, hb13, hoj⟩
 have hs13 := (u12.below (Bl.next hB'8 n11.below) g11).size
 refine xin 14 ((joinO (allL l X n X.length).flatten (scanW l over 5 fuel).es).1) (0 : Int) (fun hc14 => ?_) (fun hc14 => ?_)
 · refine xc 5 (args := #[.int .i64 over, .iface 26 (.int .i64 ((joinO (allL l X n X.length).flatten (scanW l over 5 fuel).es).1))]) (fault_AtE over (joinO (allL l X n X.length).flatten (scanW l over 5 fuel).es).1 [] _ _ rfl) ?_
   rintro _ W15 ⟨ty15, v15, rfl, hb15, hva⟩
   have hB'9 := Bl.next (Bl.next (u12.below (Bl.next hB'8 n11.below) g11) hb13) hb15
   exact xe 6 (.tuple #[.slice none 0 0, .iface ty15 (v15)]) (out_bad ((allO_ok hok).trans (restO_join hfs (by assumption))) (by assumption) hB'9 hva)
 have hB'10 := Bl.next (u12.below (Bl.next hB'8 n11.below) g11) hb13
 have hoj'1 := own_mono hoj hs13
 exact xe 10 (.tuple #[.slice pj ((joinO (allL l X n X.length).flatten (scanW l over 5 fuel).es).2.length) cj, .nilIface]) (out_ok ((allO_ok hok).trans (restO_ok hfs (by omega))) rfl hB'10 hoj'1)
end Go.Proofs.YthlakkdgcgkcdaaGreat
namespace Go.Proofs.YthlakkdgcgkcdaaGreat
open Go.RowKit Go.Extern.Stop Go.Stop Go.Extern
set_option linter.unusedVariables false
attribute [local irreducible] wpList wpAnyH Code.wp Oper.wp Go

def sl0 : Nat × Nat × Nat := (0, 0, 0)
theorem plcE_snoc {es : List Ent} {i : Nat} (hi : i < es.length) : ((es.take (i + 1)).map plcE).flatMap plcC = ((es.take i).map plcE).flatMap plcC ++ plcC (plcE (es.getD i entD)) := by
  rw [List.take_succ_eq_append_getElem hi, List.map_append, List.flatMap_append, show es.getD i entD = es[i] from by simp [List.getD, hi]]
  simp only [List.map_cons, List.map_nil, List.flatMap_cons, List.flatMap_nil, List.append_nil]
theorem plcS_snoc {sl : List (Nat × Nat × Nat)} {i : Nat} {at_ : Int} (hi : i < sl.length) : ((sl.take (i + 1)).map (plcS at_)).flatMap plcC = ((sl.take i).map (plcS at_)).flatMap plcC ++ plcC (plcS at_ (sl.getD i sl0)) := by
  rw [List.take_succ_eq_append_getElem hi, List.map_append, List.flatMap_append, show sl.getD i sl0 = sl[i] from by simp [List.getD, hi]]
  simp only [List.map_cons, List.map_nil, List.flatMap_cons, List.flatMap_nil, List.append_nil]
theorem dataO_flt {l : List UInt8} {index over n fuel : Int} (h : (scanW l index 4 fuel).fs ≠ []) : dataO l index over n fuel = ((wholeF (scanW l index 4 fuel)).1, (wholeF (scanW l index 4 fuel)).2, []) := if_pos h
theorem dataO_len {l : List UInt8} {index over n fuel : Int} (h : (scanW l index 4 fuel).fs = []) (h2 : (scanW l index 4 fuel).es.length ≠ bmI n) : dataO l index over n fuel = ([index], 7, []) := by unfold dataO; rw [if_neg (fun q => q h), if_pos h2]
theorem dataO_key {l : List UInt8} {index over n fuel : Int} {i : Nat} (h : (scanW l index 4 fuel).fs = []) (h2 : (scanW l index 4 fuel).es.length = bmI n) (hi : i < (scanW l index 4 fuel).es.length) (h3 : ((scanW l index 4 fuel).es.getD i entD).1 ≠ (i : Int)) : dataO l index over n fuel = ([index], 7, []) := by unfold dataO; rw [if_neg (fun q => q h), if_neg (fun q => q h2), if_pos (keysOk_bad hi h3)]
theorem dataO_all {l : List UInt8} {index over n fuel : Int} (h : (scanW l index 4 fuel).fs = []) (h2 : (scanW l index 4 fuel).es.length = bmI n) (h3 : ∀ i, i < (scanW l index 4 fuel).es.length → ((scanW l index 4 fuel).es.getD i entD).1 = (i : Int)) : dataO l index over n fuel = allO l ((scanW l index 4 fuel).es.map plcE) over n fuel := by unfold dataO; rw [if_neg (fun q => q h), if_neg (fun q => q h2), if_neg (by rw [keysOk_ok h3]; decide)]
theorem metaO_err {l : List UInt8} {index over n fuel : Int} (h : idxErr l index ≠ 0) : metaO l index over n fuel = ([index], idxErr l index, []) := if_pos h
theorem metaO_len {l : List UInt8} {index over n fuel : Int} (h : idxErr l index = 0) (h2 : (idxR l index).length ≠ bmI n) : metaO l index over n fuel = ([index], 7, []) := by unfold metaO; rw [if_neg (fun q => q h), if_pos h2]
theorem metaO_all {l : List UInt8} {index over n fuel : Int} (h : idxErr l index = 0) (h2 : (idxR l index).length = bmI n) : metaO l index over n fuel = allO l ((idxR l index).map (plcS index)) over n fuel := by unfold metaO; rw [if_neg (fun q => q h), if_neg (fun q => q h2)]
theorem chart_allN (m : Nat) (Bi b : Nat) (pi : Option Addr) (ni ci : Nat) (l : List UInt8) (px : Option Addr) (cx : Nat) (X : List Plc) (over n fuel : Int) (w : World) (hm : X.length = m) (hI : ImgR Bi b pi ni ci l w) (hX : Sl w (.slice px m cx) m (X.flatMap plcC)) (hXn : m = bmI n) (hn : n ≤ 1099511627776) (hfu : fuel ≤ 1000) :
    Calls Tryz.prog 30 #[.pointer (some ⟨b, 0, none⟩), .slice px m cx, .int .i64 over, .int .i64 n, .int .i64 fuel] w (OutP (allO l X over n fuel) w) := by
  subst hm; exact chart_all Bi b pi ni ci l px cx X over n fuel w hI hX hXn hn hfu
theorem block_IndexO (B b : Nat) (p : Option Addr) (n c : Nat) (l : List UInt8) (no : Int) (w : World) (hI : ImgR B b p n c l w) :
    Calls Tryz.prog 37 #[.pointer (some ⟨b, 0, none⟩), .int .i64 no] w (fun e w' =>
      (idxErr l no ≠ 0 ∧ ∃ ty x, e = .returned (.tuple #[.slice none 0 0, .iface ty x]) ∧ Below w.heap.size w w' ∧ ErrV w' (([no] : List Int).map some) (some (idxErr l no)) (.iface ty x)) ∨
      (idxErr l no = 0 ∧ ∃ p c, e = .returned (.tuple #[.slice p (idxR l no).length c, .nilIface]) ∧ Below w.heap.size w w' ∧ w'.ownsRow w.heap.size 57 3 (.slice p (idxR l no).length c) (idxR l no).length ((idxR l no).flatMap sltC))) := by
  refine (block_Index B b p n c l no w hI).mono ?_
  rintro e W q
  rcases q with ⟨h, b, rfl, hb, hv⟩ | ⟨h, p, c, rfl, hb, ho⟩
  · exact .inl ⟨h, _, _, rfl, hb, hv⟩
  · refine .inr ⟨h, p, c, by rw [(idxR_ok h).2], hb, ?_⟩
    rw [(idxR_ok h).2, (idxR_ok h).1]; exact ho
set_option maxRecDepth 100000 in
set_option maxHeartbeats 4000000 in
theorem chart_Data (Bi b : Nat) (pi : Option Addr) (ni ci : Nat) (l : List UInt8) (index over n fuel : Int) (w : World) (hI : ImgR Bi b pi ni ci l w) (hn : n ≤ 1099511627776) (hfu : fuel ≤ 1000) :
    Calls Tryz.prog 9 #[.pointer (some ⟨b, 0, none⟩), .int .i64 index, .int .i64 over, .int .i64 n, .int .i64 fuel] w (OutP (dataO l index over n fuel) w) := by
 have hbl := bmI_le hn
 refine zin 76 Tryz.func9 ?_
 refine xc 11 (args := #[.pointer (some ⟨b, 0, none⟩), .int .i64 index, .int .i64 4, .int .i64 fuel]) (walk_WholeO Bi b pi ni ci l index 4 fuel _ hfu (hI.below (Below.refl w.heap.size _))) ?_
 rintro e W1 hq1
 rcases hq1 with ⟨hfs, pe, ce, pb, cb, pf, cf, tyw, vw, rfl, hb1, hv9⟩ | ⟨hfs, pe, ce, pb, nb, cb, dp, lk, pf, cf, rfl, hb1, hen⟩
 · refine xa 3 [.slice none 0 0, .slice none 0 0, .int .i64 0, .int .i64 0, .slice none 0 0] 64 fun b2 W2 n2 => ?_
   refine xsv 0 n2.blk [.slice pe 0 ce, .slice pb 0 cb, .int .i64 0, .int .i64 0, .slice pf 0 cf] fun W3 u3 k3 => ?_
   have g2 := n2.ge hb1
   have hv9'1 := (hv9.below n2.below).only (Only.of_upd (T := [64]) u3 n2.blk (by decide)) (by decide)
   have hB := u3.below (Bl.next hb1 n2.below) g2
   exact xe 20 (.tuple #[.slice none 0 0, .iface tyw (vw)]) (out_bad (dataO_flt hfs) (wholeF_ne hfs) hB hv9'1)
 have hs1 := Nat.le_refl w.heap.size
 refine xa 3 [.slice none 0 0, .slice none 0 0, .int .i64 0, .int .i64 0, .slice none 0 0] 64 fun b4 W4 n4 => ?_
 refine xsv 0 n4.blk [.slice pe ((scanW l index 4 fuel).es.length) ce, .slice pb nb cb, .int .i64 dp, .int .i64 lk, .slice pf 0 cf] fun W5 u5 k5 => ?_
 have g4 := n4.ge hb1
 refine xd 15 .z ?_
 have k5'1 := k5.below (below_drew W5)
 refine xb (.e [0] 1) 0 k5'1 ?_
 refine xr (.o [2, 3] 4) (args := #[.int .i64 n]) (size_BitmapsL n _ hn) fun W6 hb6 => ?_
 refine xin (.r [5] 2) (↑((scanW l index 4 fuel).es.length) : Int) (↑(bmI n) : Int) (fun hc7 => ?_) (fun hc7 => ?_)
 · have hne : (scanW l index 4 fuel).es.length ≠ bmI n := by omega
   refine xc 4 (args := #[.int .i64 index, .iface 26 (.int .i64 7)]) (fault_AtE index 7 [] _ _ rfl) ?_
   rintro _ W8 ⟨ty8, v8, rfl, hb8, hva⟩
   have hB := Bl.next (Bl.next (Bl.next (u5.below (Bl.next hb1 n4.below) g4) (below_drew W5)) hb6) hb8
   exact xe 6 (.tuple #[.slice none 0 0, .iface ty8 (v8)]) (out_bad (dataO_len hfs hne) (by decide) hB hva)
 have hlen : (scanW l index 4 fuel).es.length = bmI n := by omega
 have k5'2 := k5'1.below hb6
 refine xb 11 0 k5'2 ?_
 have hen'1 := own_below (own_below (u5.own2 (own_below (own_mono hen hs1) n4.below) n4.blk (by decide)) (below_drew W5)) hb6
 have hB := Bl.next (Bl.next (u5.below (Bl.next hb1 n4.below) g4) (below_drew W5)) hb6
 refine zl 5 76 (fun zm zkv V => ∃ (i : Nat) (p : Option Addr) (c : Nat), zkv = [(0, .pointer (some ⟨b, 0, none⟩)), (1, .int .i64 index), (2, .int .i64 over), (3, .int .i64 n), (4, .int .i64 fuel), (14, .slice p i c), (39, .slice pe ((scanW l index 4 fuel).es.length) ce), (40, .int .i64 (↑((scanW l index 4 fuel).es.length) : Int)), (41, .int .i64 (↑i : Int))] ∧ zm = (scanW l index 4 fuel).es.length - ((↑i : Int)).toNat ∧ Below w.heap.size w V ∧ Blk V b4 ([.slice pe ((scanW l index 4 fuel).es.length) ce, .slice pb nb cb, .int .i64 dp, .int .i64 lk, .slice pf 0 cf]) 64 ∧ V.ownsRow w.heap.size 45 3 (.slice pe (scanW l index 4 fuel).es.length ce) (scanW l index 4 fuel).es.length ((scanW l index 4 fuel).es.flatMap entC) ∧ V.ownsRow w.heap.size 73 5 (.slice p i c) i ((((scanW l index 4 fuel).es.take i).map plcE).flatMap plcC) ∧ i ≤ (scanW l index 4 fuel).es.length ∧ (∀ j, j < i → ((scanW l index 4 fuel).es.getD j entD).1 = (j : Int))) ⟨0, none, 0, rfl, rfl, hB, k5'2, hen'1, World.ownsRow_nil _ _ _ _, Nat.zero_le _, ?_⟩ ?_
 · exact fun j hj => absurd hj (by omega)
 rintro _ _ W9 ⟨i, p, c, rfl, rfl, hB_9, k9_b4, hen, ho, hi, hky⟩ J9 hJ9 r9
 refine xid 6 ((↑i : Int) < (↑((scanW l index 4 fuel).es.length) : Int)) (fun hc10 => ?_) (fun hc10 => ?_)
 · refine xx 7 _ ((scanW l index 4 fuel).es.length) i 3 (Sts.cell (f := entC) (own_sl hen) entC_len entD (k := i) (i := 0) (by omega) rfl).1 ?_
   refine xlv 0 (Sts.rp (k := i) (own_sl hen) entC_len entD (by omega) (by decide)) ?_
   refine xa 0 [.int .i64 0, .string ⟨#[]⟩, .int .i64 0] 45 fun b11 W11 n11 => ?_
   have g11 := n11.ge hB_9
   have r11_hen := own_ne hen n11
   refine xsv 1 n11.blk [.int .i64 (((scanW l index 4 fuel).es.getD i entD).1), .string ⟨(((scanW l index 4 fuel).es.getD i entD).2.1).toArray⟩, .int .i64 (((scanW l index 4 fuel).es.getD i entD).2.2)] fun W12 u12 k12 => ?_
   refine xb 6 0 k12 ?_
   refine xin 4 (((scanW l index 4 fuel).es.getD i entD).1) (↑i : Int) (fun hc13 => ?_) (fun hc13 => ?_)
   · refine xc 4 (args := #[.int .i64 index, .iface 26 (.int .i64 7)]) (fault_AtE index 7 [] _ _ rfl) ?_
     rintro _ W14 ⟨ty14, v14, rfl, hb14, hva⟩
     have hB'1 := Bl.next (u12.below (Bl.next hB_9 n11.below) g11) hb14
     exact xe 11 (.tuple #[.slice none 0 0, .iface ty14 (v14)]) (out_bad (dataO_key hfs hlen (i := i) (by omega) (by assumption)) (by decide) hB'1 hva)
   refine xb 5 1 k12 ?_
   refine xr 0 (args := #[.string ⟨(((scanW l index 4 fuel).es.getD i entD).2.1).toArray⟩]) (value_ReadSlot ((scanW l index 4 fuel).es.getD i entD).2.1 _ (scan_short _ _ _ _ i (by omega))) fun W15 hb15 => ?_
   refine xa 3 [.int .i64 0, .int .i64 0, .int .i64 0] 57 fun b16 W16 n16 => ?_
   have hB'2 := Bl.next (u12.below (Bl.next hB_9 n11.below) g11) hb15
   have g16 := n16.ge hB'2
   refine xsv 0 n16.blk [.int .i64 (↑((readV slotP ((scanW l index 4 fuel).es.getD i entD).2.1).getD 0 0) : Int), .int .i64 (↑((readV slotP ((scanW l index 4 fuel).es.getD i entD).2.1).getD 1 0) : Int), .int .i64 (↑((readV slotP ((scanW l index 4 fuel).es.getD i entD).2.1).getD 2 0) : Int)] fun W17 u17 k17 => ?_
   refine xlv 5 k17.rp ?_
   have k12'1 := u17.blkT ((k12.below hb15).below n16.below) n16.blk (by decide)
   refine xb 1 2 k12'1 ?_
   refine xbs 2 1 [.int .i64 (↑((readV slotP ((scanW l index 4 fuel).es.getD i entD).2.1).getD 0 0) : Int), .int .i64 (↑((readV slotP ((scanW l index 4 fuel).es.getD i entD).2.1).getD 1 0) : Int), .int .i64 (↑((readV slotP ((scanW l index 4 fuel).es.getD i entD).2.1).getD 2 0) : Int), .int .i64 (((scanW l index 4 fuel).es.getD i entD).2.2), .int .i64 (readE slotP ((scanW l index 4 fuel).es.getD i entD).2.1)] 73 fun b18 W18 n18 => ?_
   have hB'3 := u17.below (Bl.next hB'2 n16.below) g16
   have g18 := n18.ge hB'3
   have ho'1 := u17.own2 (own_below (own_below (u12.own2 (own_below ho n11.below) n11.blk (by decide)) hb15) n16.below) n16.blk (by decide)
   have r18_ho := own_ne ho'1 n18
   have ho'2 := own_below ho'1 n18.below
   have hB'4 := Bl.next hB'3 n18.below
   refine xbi 0 fun _ _ _ _ zJ zQ zo zx zy zK => op_app (m := 1) (news := [.int .i64 (↑((readV slotP ((scanW l index 4 fuel).es.getD i entD).2.1).getD 0 0) : Int), .int .i64 (↑((readV slotP ((scanW l index 4 fuel).es.getD i entD).2.1).getD 1 0) : Int), .int .i64 (↑((readV slotP ((scanW l index 4 fuel).es.getD i entD).2.1).getD 2 0) : Int), .int .i64 (((scanW l index 4 fuel).es.getD i entD).2.2), .int .i64 (readE slotP ((scanW l index 4 fuel).es.getD i entD).2.1)]) (.agg #[.int .i64 0, .int .i64 0, .int .i64 0, .int .i64 0, .int .i64 0]) 5 40 (i + 1) (((((scanW l index 4 fuel).es.take (i + 1)).map plcE).flatMap plcC)) zo Tryz.underlying69 (by kernel_rfl) rfl (by decide) zx ho'2 zy (n18.blk.sl 1 1 (by decide) (by decide)) rfl (by simp [Value.oneCell']) (by unfold maxLen; omega) (by omega) hB'4.size (rfl) (by rw [plcE_snoc (by omega)]; rfl) fun px19 cx19 W19 o19 hg19 hb19 => ?_
   refine zK _ _ ?_
   refine xwm 5 ((↑i : Int) + 1) (↑(i + 1) : Int) ?_
   have hB'5 := hB'4.trans hb19
   have k9_b4'1 := ((u17.blkT (((u12.blkT (k9_b4.below n11.below) n11.blk (by decide)).below hb15).below n16.below) n16.blk (by decide)).below n18.below).grown hg19 ho'2 (by decide)
   have hen'2 := own_grown (own_below (u17.own2 (own_below (own_below (u12.own3 (own_below hen n11.below) r11_hen) hb15) n16.below) n16.blk (by decide)) n18.below) hg19 ho'2 (by decide)
   exact ze 2 (hJ9 _ _ _ ⟨i + 1, _, _, rfl, rfl, hB'5, k9_b4'1, hen'2, o19, by omega, fun j hj => (Nat.lt_or_ge j i).elim (hky j) (fun q => by obtain rfl : j = i := (by omega); omega)⟩ (by omega))
 have hiE : i = (scanW l index 4 fuel).es.length := by omega
 have hsr := own_sl ho
 rw [hiE, List.take_of_length_le (Nat.le_refl _)] at hsr
 rw [← hiE] at hsr
 refine xc 12 (args := #[.pointer (some ⟨b, 0, none⟩), .slice p i c, .int .i64 over, .int .i64 n, .int .i64 fuel]) (chart_allN i Bi b pi ni ci l p c ((scanW l index 4 fuel).es.map plcE) over n fuel _ (by rw [List.length_map]; exact hiE.symm) (hI.below hB_9) hsr (hiE.trans hlen) hn hfu) ?_
 rintro e W20 hq20
 rcases hq20 with ⟨hbe, tya, va, rfl, hb20, hv9⟩ | ⟨hbe, p9, c9, rfl, hb20, ho9⟩
 · have hB'6 := Bl.next hB_9 hb20
   refine xe 7 (.tuple #[.slice none 0 0, .iface tya (va)]) ?_
   rw [dataO_all hfs hlen (fun j hj => hky j (by omega))]
   exact .inl ⟨hbe, _, _, rfl, hB'6, hv9⟩
 have hB'7 := Bl.next hB_9 hb20
 have ho9'1 := own_mono ho9 hB_9.size
 refine xe 7 (.tuple #[.slice p9 ((allO l ((scanW l index 4 fuel).es.map plcE) over n fuel).2.2.length) c9, .nilIface]) ?_
 rw [dataO_all hfs hlen (fun j hj => hky j (by omega))]
 exact .inr ⟨hbe, _, _, rfl, hB'7, ho9'1⟩
set_option maxRecDepth 100000 in
set_option maxHeartbeats 4000000 in
theorem chart_Meta (Bi b : Nat) (pi : Option Addr) (ni ci : Nat) (l : List UInt8) (index over n fuel : Int) (w : World) (hI : ImgR Bi b pi ni ci l w) (hn : n ≤ 1099511627776) (hfu : fuel ≤ 1000) :
    Calls Tryz.prog 13 #[.pointer (some ⟨b, 0, none⟩), .int .i64 index, .int .i64 over, .int .i64 n, .int .i64 fuel] w (OutP (metaO l index over n fuel) w) := by
 have hbl := bmI_le hn
 refine zin 55 Tryz.func13 ?_
 refine xc 10 (args := #[.pointer (some ⟨b, 0, none⟩), .int .i64 index]) (block_IndexO Bi b pi ni ci l index _ (hI.below (Below.refl w.heap.size _))) ?_
 rintro e W1 hq1
 rcases hq1 with ⟨hie, tyw, vw, rfl, hb1, hv9⟩ | ⟨hie, ps, cs, rfl, hb1, hsl⟩
 · exact xe 24 (.tuple #[.slice none 0 0, .iface tyw (vw)]) (out_bad (metaO_err hie) hie hb1 hv9)
 have hs1 := Nat.le_refl w.heap.size
 refine xr 23 (args := #[.int .i64 n]) (size_BitmapsL n _ hn) fun W2 hb2 => ?_
 refine xin 3 (↑((idxR l index).length) : Int) (↑(bmI n) : Int) (fun hc3 => ?_) (fun hc3 => ?_)
 · have hne : (idxR l index).length ≠ bmI n := by omega
   refine xc 4 (args := #[.int .i64 index, .iface 26 (.int .i64 7)]) (fault_AtE index 7 [] _ _ rfl) ?_
   rintro _ W4 ⟨ty4, v4, rfl, hb4, hva⟩
   have hB := Bl.next (Bl.next hb1 hb2) hb4
   exact xe 6 (.tuple #[.slice none 0 0, .iface ty4 (v4)]) (out_bad (metaO_len hie hne) (by decide) hB hva)
 have hlen : (idxR l index).length = bmI n := by omega
 have hsl'1 := own_below (own_mono hsl hs1) hb2
 have hB := Bl.next hb1 hb2
 refine zl 16 55 (fun zm zkv V => ∃ (i : Nat) (p : Option Addr) (c : Nat), zkv = [(0, .pointer (some ⟨b, 0, none⟩)), (1, .int .i64 index), (2, .int .i64 over), (3, .int .i64 n), (4, .int .i64 fuel), (10, .slice none 0 0), (11, .nilIface), (14, .slice p i c), (34, .slice ps ((idxR l index).length) cs), (35, .int .i64 (↑((idxR l index).length) : Int)), (36, .int .i64 (↑i : Int))] ∧ zm = (idxR l index).length - ((↑i : Int)).toNat ∧ Below w.heap.size w V ∧ V.ownsRow w.heap.size 57 3 (.slice ps (idxR l index).length cs) (idxR l index).length ((idxR l index).flatMap sltC) ∧ V.ownsRow w.heap.size 73 5 (.slice p i c) i ((((idxR l index).take i).map (plcS index)).flatMap plcC) ∧ i ≤ (idxR l index).length) ⟨0, none, 0, rfl, rfl, hB, hsl'1, World.ownsRow_nil _ _ _ _, Nat.zero_le _⟩ ?_
 rintro _ _ W5 ⟨i, p, c, rfl, rfl, hB_5, hsl, ho, hi⟩ J5 hJ5 r5
 refine xid 6 ((↑i : Int) < (↑((idxR l index).length) : Int)) (fun hc6 => ?_) (fun hc6 => ?_)
 · refine xx 6 _ ((idxR l index).length) i 3 (Sts.cell (f := sltC) (own_sl hsl) sltC_len sl0 (k := i) (i := 0) (by omega) rfl).1 ?_
   refine xlv 0 (Sts.rp (k := i) (own_sl hsl) sltC_len sl0 (by omega) (by decide)) ?_
   refine xa 0 [.int .i64 0, .int .i64 0, .int .i64 0] 57 fun b7 W7 n7 => ?_
   have g7 := n7.ge hB_5
   have r7_hsl := own_ne hsl n7
   refine xsv 0 n7.blk [.int .i64 (↑((idxR l index).getD i sl0).1 : Int), .int .i64 (↑((idxR l index).getD i sl0).2.1 : Int), .int .i64 (↑((idxR l index).getD i sl0).2.2 : Int)] fun W8 u8 k8 => ?_
   refine xlv 4 k8.rp ?_
   refine xbs 2 1 [.int .i64 (↑((idxR l index).getD i sl0).1 : Int), .int .i64 (↑((idxR l index).getD i sl0).2.1 : Int), .int .i64 (↑((idxR l index).getD i sl0).2.2 : Int), .int .i64 index, .int .i64 0] 73 fun b9 W9 n9 => ?_
   have hB'1 := u8.below (Bl.next hB_5 n7.below) g7
   have g9 := n9.ge hB'1
   have ho'1 := u8.own2 (own_below ho n7.below) n7.blk (by decide)
   have r9_ho := own_ne ho'1 n9
   have ho'2 := own_below ho'1 n9.below
   have hB'2 := Bl.next hB'1 n9.below
   refine xbi 0 fun _ _ _ _ zJ zQ zo zx zy zK => op_app (m := 1) (news := [.int .i64 (↑((idxR l index).getD i sl0).1 : Int), .int .i64 (↑((idxR l index).getD i sl0).2.1 : Int), .int .i64 (↑((idxR l index).getD i sl0).2.2 : Int), .int .i64 index, .int .i64 0]) (.agg #[.int .i64 0, .int .i64 0, .int .i64 0, .int .i64 0, .int .i64 0]) 5 40 (i + 1) (((((idxR l index).take (i + 1)).map (plcS index)).flatMap plcC)) zo Tryz.underlying69 (by kernel_rfl) rfl (by decide) zx ho'2 zy (n9.blk.sl 1 1 (by decide) (by decide)) rfl (by simp [Value.oneCell']) (by unfold maxLen; omega) (by omega) hB'2.size (rfl) (by rw [plcS_snoc (by omega)]; rfl) fun px10 cx10 W10 o10 hg10 hb10 => ?_
   refine zK _ _ ?_
   refine xwm 5 ((↑i : Int) + 1) (↑(i + 1) : Int) ?_
   have hB'3 := hB'2.trans hb10
   have hsl'2 := own_grown (own_below (u8.own3 (own_below hsl n7.below) r7_hsl) n9.below) hg10 ho'2 (by decide)
   exact ze 2 (hJ5 _ _ _ ⟨i + 1, _, _, rfl, rfl, hB'3, hsl'2, o10, by omega⟩ (by omega))
 have hiE : i = (idxR l index).length := by omega
 have hsr := own_sl ho
 rw [hiE, List.take_of_length_le (Nat.le_refl _)] at hsr
 rw [← hiE] at hsr
 refine xc 12 (args := #[.pointer (some ⟨b, 0, none⟩), .slice p i c, .int .i64 over, .int .i64 n, .int .i64 fuel]) (chart_allN i Bi b pi ni ci l p c ((idxR l index).map (plcS index)) over n fuel _ (by rw [List.length_map]; exact hiE.symm) (hI.below hB_5) hsr (hiE.trans hlen) hn hfu) ?_
 rintro e W11 hq11
 rcases hq11 with ⟨hbe, tya, va, rfl, hb11, hv9⟩ | ⟨hbe, p9, c9, rfl, hb11, ho9⟩
 · have hB'4 := Bl.next hB_5 hb11
   refine xe 7 (.tuple #[.slice none 0 0, .iface tya (va)]) ?_
   rw [metaO_all hie hlen]
   exact .inl ⟨hbe, _, _, rfl, hB'4, hv9⟩
 have hB'5 := Bl.next hB_5 hb11
 have ho9'1 := own_mono ho9 hB_5.size
 refine xe 7 (.tuple #[.slice p9 ((allO l ((idxR l index).map (plcS index)) over n fuel).2.2.length) c9, .nilIface]) ?_
 rw [metaO_all hie hlen]
 exact .inr ⟨hbe, _, _, rfl, hB'5, ho9'1⟩
end Go.Proofs.YthlakkdgcgkcdaaGreat
namespace Go.Proofs.YthlakkdgcgkcdaaGreat
open Go.RowKit Go.Extern.Stop Go.Stop Go.Extern
set_option linter.unusedVariables false
attribute [local irreducible] wpList wpAnyH Code.wp Oper.wp Go

def entE (v : Nat) (l : List Ent) (i : Nat) : Prop := lastK l i < (l.getD i entD).1 ∧ (l.getD i entD).1 ≤ 281474976710655 ∧ (l.getD i entD).2.1.length = v
instance (v : Nat) (l : List Ent) (i : Nat) : Decidable (entE v l i) := by unfold entE; infer_instance
end Go.Proofs.YthlakkdgcgkcdaaGreat
namespace Go.Proofs.YthlakkdgcgkcdaaGreat
open Go.RowKit Go.Extern.Stop Go.Stop Go.Extern
set_option linter.unusedVariables false
attribute [local irreducible] wpList wpAnyH Code.wp Oper.wp Go

/-- an allocator of the numbers L, k of them handed out, of the image at b -/
structure AlG (B ba b : Nat) (pa : Option Addr) (N ca k : Nat) (L : List Int) (w : World) : Prop where
  blk : Blk w ba [.slice pa N ca, .int .i64 (k : Int), .pointer (some ⟨b, 0, none⟩)] 78
  nums : w.ownsRow B 3 1 (.slice pa N ca) N (L.map (Value.int .i64))
  hL : L.length = N
  hB : B ≤ ba
  hN : N ≤ 1000000
  hk : k ≤ N
theorem AlG.below {B ba b : Nat} {pa : Option Addr} {N ca k : Nat} {L : List Int} {w W : World} (h : AlG B ba b pa N ca k L w) (hb : Below w.heap.size w W) : AlG B ba b pa N ca k L W := ⟨h.blk.below hb, own_below h.nums hb, h.hL, h.hB, h.hN, h.hk⟩
theorem AlG.only {B ba b : Nat} {pa : Option Addr} {N ca k : Nat} {L : List Int} {w W : World} {T : List TypeId} (h : AlG B ba b pa N ca k L w) (hO : Only T w W) (hT : T.contains 78 = false ∧ T.contains 3 = false) : AlG B ba b pa N ca k L W := ⟨h.blk.only hO hT.1, own_only h.nums hO hT.2, h.hL, h.hB, h.hN, h.hk⟩
theorem AlG.mono {B B' ba b : Nat} {pa : Option Addr} {N ca k : Nat} {L : List Int} {w : World} (h : AlG B ba b pa N ca k L w) (hB : B' ≤ B) : AlG B' ba b pa N ca k L w := ⟨h.blk, own_mono h.nums hB, h.hL, Nat.le_trans hB h.hB, h.hN, h.hk⟩
set_option maxRecDepth 100000 in
set_option maxHeartbeats 1000000 in
theorem clone_ints (p : Addr) (N c : Nat) (xs : List Value) (w : World) (h : Sl w (.slice (some p) N c) N xs) (hl : xs.length = N) (h1 : ∀ u ∈ xs, u.oneCell' = true) (hn : N ≤ 1000000) :
    Calls Tryz.prog 17 #[.slice (some p) N c] w (RetS (fun w' r => ∃ q c2, r = .slice q N c2 ∧ w'.ownsRow w.heap.size 3 1 (.slice q N c2) N xs) w) := by
 refine zin 8 Tryz.func17 ?_
 refine xb0 17 3 fun b1 W1 n1 => ?_
 have o1 := own_of_blk (size := 1) (n := 0) n1.blk (n1.ge (Below.refl w.heap.size _)) rfl (by decide)
 refine xbi 1 fun _ _ _ _ zJ zQ zo zx zy zK => op_app (m := N) (news := xs) (.int .i64 0) 1 8 (N) (xs) zo Tryz.underlying22 (by kernel_rfl) rfl (by decide) zx o1 zy (h.below n1.below) (by rw [hl, Nat.mul_one]) h1 (by unfold maxLen; omega) (by omega) n1.below.size (by omega) (by rfl) fun px2 cx2 W2 o2 hg2 hb2 => ?_
 refine zK _ _ ?_
 have hB'1 := n1.below.trans hb2
 exact xe 4 (.slice px2 N cx2) ⟨_, rfl, hB'1, _, _, rfl, o2⟩
set_option maxRecDepth 100000 in
set_option maxHeartbeats 1000000 in
theorem clone_ints_nil (w : World) :
    Calls Tryz.prog 17 #[.slice none 0 0] w (Ret (.slice none 0 0) w) := by
 refine zin 8 Tryz.func17 ?_
 exact xe 20 (.slice none 0 0) ⟨rfl, (Below.refl w.heap.size _)⟩
theorem clone_intsG (a : Option Addr) (N c : Nat) (xs : List Value) (w : World) (h : Sl w (.slice a N c) N xs) (hc : a = none → c = 0) (hl : xs.length = N) (h1 : ∀ u ∈ xs, u.oneCell' = true) (hn : N ≤ 1000000) :
    Calls Tryz.prog 17 #[.slice a N c] w (RetS (fun w' r => ∃ q c2, r = .slice q N c2 ∧ w'.ownsRow w.heap.size 3 1 (.slice q N c2) N xs) w) := by
  cases a with
  | some p => exact clone_ints p N c xs w h hl h1 hn
  | none =>
    have hN : N = 0 ∧ xs = [] := by
      rcases h with ⟨a', c', h2, h3, h4⟩ | ⟨b', off, cap, h2, _⟩
      · simp only [Value.slice.injEq] at h2; exact ⟨h2.2.1, h4⟩
      · cases h2
    obtain ⟨rfl, rfl⟩ := hN
    obtain rfl := hc rfl
    refine (clone_ints_nil w).mono ?_
    rintro e W ⟨rfl, hb⟩
    exact ⟨_, rfl, hb, none, 0, rfl, World.ownsRow_nil _ _ _ _⟩
end Go.Proofs.YthlakkdgcgkcdaaGreat
namespace Go.Proofs.YthlakkdgcgkcdaaGreat
open Go.RowKit Go.Extern.Stop Go.Stop Go.Extern
set_option linter.unusedVariables false
attribute [local irreducible] wpList wpAnyH Code.wp Oper.wp Go

theorem sl_cut {w : World} {b : Option Addr} {n c : Nat} {xs : List Value} (h : Sl w (.slice b n c) n xs) (hl : xs.length = n) (k : Nat) (hk : k ≤ n) : Sl w (.slice (cutA b k c 1) (n - k) (c - k)) (n - k) (xs.drop k) := by
  rcases h with ⟨a', c', h1, h2, h3⟩ | ⟨g, off, cap, h1, h2, h3, h4⟩
  · obtain rfl : k = 0 := by omega
    subst h3 h2
    exact .inl ⟨cutA b 0 c 1, c - 0, rfl, rfl, rfl⟩
  · simp only [Value.slice.injEq] at h1
    obtain ⟨rfl, _, rfl⟩ := h1
    by_cases hz : n - k = 0
    · refine .inl ⟨cutA (some ⟨g, off, none⟩) k c 1, c - k, by rw [hz], by omega, ?_⟩
      exact List.drop_eq_nil_of_le (by omega)
    · refine .inr ⟨g, off + k * 1, c - k, ?_, by omega, by omega, fun j x hj => ?_⟩
      · rw [cutA, if_neg (by omega)]; simp [Addr.add]
      · rw [List.getElem?_drop] at hj
        have := h4 (k + j) x hj
        rwa [Nat.mul_one, Nat.add_assoc]
theorem sl_take {w : World} {b : Option Addr} {n c : Nat} {xs : List Value} (h : Sl w (.slice b n c) n xs) (hl : xs.length = n) (m : Nat) (hm : m ≤ n) : Sl w (.slice b m c) m (xs.take m) := Sl.head h hl m hm
theorem aheadSl {w : World} {b : Option Addr} {n c k i : Nat} {L : List Int} (h : Sl w (.slice b n c) n (L.map (Value.int .i64))) (hl : L.length = n) (hk : k ≤ n) : Sl w (.slice (cutA b k c 1) (min i (n - k)) (c - k)) (min i (n - k)) (((L.drop k).take i).map (Value.int .i64)) := by
  have h1 := sl_cut h (by simpa using hl) k hk
  have h2 := sl_take h1 (by simp [hl]) (min i (n - k)) (by omega)
  rw [← List.map_drop, ← List.map_take] at h2
  have e : (L.drop k).take (min i (n - k)) = (L.drop k).take i := by
    rcases Nat.le_total i (n - k) with q | q
    · rw [Nat.min_eq_left q]
    · rw [Nat.min_eq_right q, List.take_of_length_le (by simp [hl]), List.take_of_length_le (by simp [hl]; omega)]
  rw [e] at h2
  exact h2
theorem aheadN {w : World} {B : Nat} {b : Option Addr} {n c k : Nat} {xs : List Value} {e size : Nat} (h : w.ownsRow B e size (.slice b n c) n xs) : cutA b k c 1 = none → c - k = 0 := by
  intro hn
  have hb : b = none := by
    unfold cutA at hn
    split at hn
    · exact hn
    · simpa using hn
  subst hb
  rcases h.2 with ⟨h2, _⟩ | ⟨g, cap, cur, h2, _⟩
  · simp only [Value.slice.injEq] at h2; omega
  · cases h2
set_option maxRecDepth 100000 in
set_option maxHeartbeats 1000000 in
theorem alloc_Ahead (B ba b : Nat) (p0 : Option Addr) (N ca k i : Nat) (L : List Int) (w : World) (hA : AlG B ba b p0 N ca k L w) (hi : i ≤ 1000000) :
    Calls Tryz.prog 33 #[.pointer (some ⟨ba, 0, none⟩), .int .i64 (↑i : Int)] w (RetS (fun w' r => ∃ q c2, r = .slice q (min i (N - k)) c2 ∧ w'.ownsRow w.heap.size 3 1 (.slice q (min i (N - k)) c2) (min i (N - k)) (((L.drop k).take i).map (Value.int .i64))) w) := by
 have hk := hA.blk
 have hkN := hA.hk
 have hL := hA.hL
 have hN := hA.hN
 have hca : N ≤ ca := by
   rcases Nat.eq_zero_or_pos N with q | q
   · omega
   · exact own_cap hA.nums q
 refine zin 23 Tryz.func33 ?_
 refine xr 9 (args := #[.pointer (some ⟨ba, 0, none⟩)]) (alloc_nobody ba b _ _ _ hk) fun W1 hb1 => ?_
 refine xid 6 ((↑i : Int) < (1 : Int)) (fun hc2 => ?_) (fun hc2 => ?_)
 · refine xe 7 (.slice none 0 0) ?_
   obtain rfl : i = 0 := by omega
   exact ⟨_, rfl, hb1, none, 0, by rw [Nat.zero_min], by rw [Nat.zero_min, List.take_zero]; exact World.ownsRow_nil _ _ _ _⟩
 have hk'1 := hk.below hb1
 refine xr 7 (args := #[.pointer (some ⟨ba, 0, none⟩)]) (alloc_left ba p0 N ca k _ _ hk'1 hkN) fun W3 hb3 => ?_
 refine xq 9 (congrArg (Value.int .i64) (show (if (↑(N - k) : Int) < (↑i : Int) then (↑(N - k) : Int) else (↑i : Int) : Int) = (↑(min i (N - k)) : Int) from min_cast i (N - k))) ?_
 refine xsH 0 (fun _ _ _ _ zo zx zy V => run_sliceH (k := (min i (N - k))) (b := (cutA p0 k ca 1)) (n := (N - k)) (c := (ca - k)) (i := (↑(min i (N - k)) : Int)) (ki := .i64) zo zx zy rfl (by omega) Tryz.underlying22 (by kernel_rfl) V) ?_
 have hB := Bl.next hb1 hb3
 refine xc 0 (args := #[.slice (cutA p0 k ca 1) (min i (N - k)) (ca - k)]) (clone_intsG (cutA p0 k ca 1) (min i (N - k)) (ca - k) (((L.drop k).take i).map (Value.int .i64)) _ (aheadSl (own_sl (own_below hA.nums hB)) hL hkN) (aheadN hA.nums) (by simp; omega) (ints_one _) (by omega)) ?_
 rintro _ W4 ⟨_, rfl, hb4, pq, cq, rfl, hq⟩
 have hs4 := (Bl.next hb1 hb3).size
 have hB'1 := Bl.next hB hb4
 have hq'1 := own_mono hq hs4
 exact xe 4 (.slice pq (min i (N - k)) cq) ⟨_, rfl, hB'1, _, _, rfl, hq'1⟩
end Go.Proofs.YthlakkdgcgkcdaaGreat
namespace Go.Proofs.YthlakkdgcgkcdaaGreat
open Go.RowKit Go.Extern.Stop Go.Stop Go.Extern
set_option linter.unusedVariables false
attribute [local irreducible] wpList wpAnyH Code.wp Oper.wp Go

/-- slots of blocks of counts -/
def rsV (L : List (List Int)) (q i : Nat) : List Value := [.int .i64 ((q + i : Nat) : Int), .int .i64 (freeN (L.getD i []) : Int), .int .i64 (firstN (L.getD i []) : Int)]
def rsL (L : List (List Int)) (q n : Nat) : List Value := (List.range n).flatMap (rsV L q)
theorem rsL_succ (L : List (List Int)) (q n : Nat) : rsL L q (n + 1) = rsL L q n ++ rsV L q n := by simp [rsL, List.range_succ]
end Go.Proofs.YthlakkdgcgkcdaaGreat
namespace Go.Proofs.YthlakkdgcgkcdaaGreat
open Go.RowKit Go.Extern.Stop Go.Stop Go.Extern
set_option linter.unusedVariables false
attribute [local irreducible] wpList wpAnyH Code.wp Oper.wp Go

/-- the slots as a list -/
def rsC (x : Nat × Nat × Nat) : List Value := [.int .i64 (x.1 : Int), .int .i64 (x.2.1 : Int), .int .i64 (x.2.2 : Int)]
theorem rsC_len (x : Nat × Nat × Nat) : (rsC x).length = 3 := rfl
def rsD : Nat × Nat × Nat := (0, 0, 0)
def Rs (L : List (List Int)) (q n : Nat) : List (Nat × Nat × Nat) := (List.range n).map fun i => (q + i, freeN (L.getD i []), firstN (L.getD i []))
theorem Rs_len (L : List (List Int)) (q n : Nat) : (Rs L q n).length = n := by simp [Rs]
theorem Rs_get {L : List (List Int)} {q n i : Nat} (h : i < n) : (Rs L q n).getD i rsD = (q + i, freeN (L.getD i []), firstN (L.getD i [])) := by simp [Rs, List.getD, List.getElem?_range h]
theorem rsL_Rs (L : List (List Int)) (q n : Nat) : rsL L q n = (Rs L q n).flatMap rsC := by simp [rsL, Rs, List.flatMap_map]; rfl
theorem Rs_sts {L : List (List Int)} {q n c : Nat} {p : Option Addr} {w : World} (h : Sl w (.slice p n c) n (rsL L q n)) : Sts rsC w (.slice p (Rs L q n).length c) (Rs L q n) := by unfold Sts; rw [Rs_len, ← rsL_Rs]; exact h
end Go.Proofs.YthlakkdgcgkcdaaGreat
namespace Go.Proofs.YthlakkdgcgkcdaaGreat
open Go.RowKit Go.Extern.Stop Go.Stop Go.Extern
set_option linter.unusedVariables false
attribute [local irreducible] wpList wpAnyH Code.wp Oper.wp Go

def slB (x : Nat × Nat × Nat) : List UInt8 := leB (x.1 : Int) 8 ++ leB (x.2.1 : Int) 4 ++ leB (x.2.2 : Int) 4
theorem slB_len (x : Nat × Nat × Nat) : (slB x).length = 16 := by simp [slB, leB_len]
def idxP (S : List (Nat × Nat × Nat)) (i : Nat) : List UInt8 := leB (S.length : Int) 4 ++ (List.range i).flatMap fun j => slB (S.getD j rsD)
theorem idxP_succ (S : List (Nat × Nat × Nat)) (i : Nat) : idxP S (i + 1) = idxP S i ++ slB (S.getD i rsD) := by simp [idxP, List.range_succ]
theorem idxP_len (S : List (Nat × Nat × Nat)) : ∀ i, (idxP S i).length = 4 + i * 16
  | 0 => by simp [idxP, leB_len]
  | i + 1 => by rw [idxP_succ, List.length_append, idxP_len S i, slB_len]; omega
def idxB (S : List (Nat × Nat × Nat)) : List UInt8 := idxP S S.length ++ List.replicate (244 - (4 + S.length * 16)) 0
theorem idxB_len {S : List (Nat × Nat × Nat)} (h : S.length ≤ 15) : (idxB S).length = 244 := by unfold idxB; rw [List.length_append, idxP_len, List.length_replicate]; omega
def SlotsOk (S : List (Nat × Nat × Nat)) : Prop := S.length ≤ 14 ∧ ∀ i, i < S.length → 1 ≤ (S.getD i rsD).1 ∧ (S.getD i rsD).1 ≤ 14399 ∧ (S.getD i rsD).2.1 ≤ 960 ∧ (S.getD i rsD).2.2 ≤ 960
theorem slB_ne (x : Nat × Nat × Nat) : ((⟨(leB (x.1 : Int) 8 ++ leB (x.2.1 : Int) 4 ++ leB (x.2.2 : Int) 4).toArray⟩ : ByteArray).toList == (⟨#[]⟩ : ByteArray).toList) = false := by
  rw [show (⟨#[]⟩ : ByteArray) = ⟨([] : List UInt8).toArray⟩ from rfl, str_beq]
  apply beq_false_of_ne
  intro q
  have h1 := congrArg List.length q
  simp [leB_len] at h1
set_option maxRecDepth 100000 in
set_option maxHeartbeats 4000000 in
theorem slots_Put (a : Option Addr) (c : Nat) (S : List (Nat × Nat × Nat)) (w : World) (hS : SlotsOk S) (h : Sts rsC w (.slice a S.length c) S) :
    Calls Tryz.prog 35 #[.slice a S.length c] w (RetS (fun w' r => ∃ p c, r = .tuple #[.slice p 244 c, .int .i64 0] ∧ w'.ownsRow w.heap.size 5 1 (.slice p 244 c) 244 ((idxB S).map bv)) w) := by
 have h15 := hS.1
 refine zin 39 Tryz.func35 ?_
 refine xk 14 (show (decide ((↑S.length : Int) > (15 : Int)) : Bool) = false from decide_eq_false (by omega)) ?_
 refine xbs 7 1 [.int .i64 4, .int .i64 (↑S.length : Int)] 112 fun b1 W1 n1 => ?_
 refine xc 0 (args := #[.slice (some ⟨b1, 0, none⟩) 1 1]) (Pack_4 b1 (↑S.length : Int) (by omega) (by omega) _ n1.blk) ?_
 rintro _ W2 ⟨_, rfl, hb2, p2, c2, rfl, h2⟩
 have h2'1 := own_mono h2 n1.below.size
 have hB := Bl.next n1.below hb2
 have k1'1 := n1.blk.below hb2
 refine zl 16 39 (fun zm zkv V => ∃ (i : Nat) (p4 : Option Addr) (c4 : Nat), zkv = [(4, .slice p4 (4 + i * 16) c4), (20, .slice a S.length c), (21, .int .i64 (↑S.length : Int)), (22, .int .i64 (↑i : Int))] ∧ zm = S.length - ((↑i : Int)).toNat ∧ Below w.heap.size w V ∧ Blk V b1 ([.int .i64 4, .int .i64 (↑S.length : Int)]) 112 ∧ V.ownsRow w.heap.size 5 1 (.slice p4 (4 + i * 16) c4) (4 + i * 16) ((idxP S i).map bv) ∧ i ≤ S.length) ⟨0, p2, c2, rfl, rfl, hB, k1'1, (by simpa [idxP] using h2'1), Nat.zero_le _⟩ ?_
 rintro _ _ W3 ⟨i, p4, c4, rfl, rfl, hB_3, k3_b1, ho, hi⟩ J3 hJ3 r3
 refine xid 6 ((↑i : Int) < (↑S.length : Int)) (fun hc4 => ?_) (fun hc4 => ?_)
 · refine xx 6 _ S.length i 3 (Sts.cell h rsC_len rsD (k := i) (i := 0) (by omega) rfl).1 ?_
   refine xlv 0 (Sts.rp (k := i) (h.below hB_3) rsC_len rsD (by omega) (by decide)) ?_
   refine xa 0 [.int .i64 0, .int .i64 0, .int .i64 0] 57 fun b5 W5 n5 => ?_
   have g5 := n5.ge hB_3
   refine xsv 0 n5.blk [.int .i64 (↑(S.getD i rsD).1 : Int), .int .i64 (↑(S.getD i rsD).2.1 : Int), .int .i64 (↑(S.getD i rsD).2.2 : Int)] fun W6 u6 k6 => ?_
   refine xlv 4 k6.rp ?_
   refine xr 0 (args := #[.agg #[.int .i64 (↑(S.getD i rsD).1 : Int), .int .i64 (↑(S.getD i rsD).2.1 : Int), .int .i64 (↑(S.getD i rsD).2.2 : Int)]]) (value_Slot (↑(S.getD i rsD).1 : Int) (↑(S.getD i rsD).2.1 : Int) (↑(S.getD i rsD).2.2 : Int) (by have := hS.2 i (by omega); omega) (by have := hS.2 i (by omega); omega) (by omega) (by have := hS.2 i (by omega); omega) (by omega) (by have := hS.2 i (by omega); omega) _) fun W7 hb7 => ?_
   refine xk 10 (show (((⟨(leB (↑(S.getD i rsD).1 : Int) 8 ++ leB (↑(S.getD i rsD).2.1 : Int) 4 ++ leB (↑(S.getD i rsD).2.2 : Int) 4).toArray⟩ : ByteArray).toList == (⟨#[]⟩ : ByteArray).toList) : Bool) = false from slB_ne _) ?_
   have ho'1 := own_below (u6.own2 (own_below ho n5.below) n5.blk (by decide)) hb7
   have hB'1 := Bl.next (u6.below (Bl.next hB_3 n5.below) g5) hb7
   refine xbi 5 (t2 := 9) fun _ _ _ _ zJ zQ zo zx zy zK => op_appS (leB (↑(S.getD i rsD).1 : Int) 8 ++ leB (↑(S.getD i rsD).2.1 : Int) 4 ++ leB (↑(S.getD i rsD).2.2 : Int) 4) ((4 + (i + 1) * 16)) ((idxP S (i + 1)).map bv) zo Tryz.underlying53 Tryz.underlying9 (by kernel_rfl) zx ho'1 zy (by simp [leB_len]; omega) hB'1.size (by simp [leB_len]; omega) (by simp [idxP_succ, slB]) fun px8 cx8 W8 o8 hg8 hb8 => ?_
   refine zK _ _ ?_
   refine xwm 5 ((↑i : Int) + 1) (↑(i + 1) : Int) ?_
   have hB'2 := hB'1.trans hb8
   have k3_b1'1 := ((u6.blkT (k3_b1.below n5.below) n5.blk (by decide)).below hb7).grown hg8 ho'1 (by decide)
   exact ze 2 (hJ3 _ _ _ ⟨i + 1, _, _, rfl, rfl, hB'2, k3_b1'1, o8, by omega⟩ (by omega))
 refine xwm 10 (244 - (↑(4 + i * 16) : Int)) (↑(244 - (4 + i * 16)) : Int) ?_
 refine xbi 0 (t2 := 3) fun _ _ _ _ zJ zQ zo zx zy zK => op_appZo (kq := .i64) (244 - (4 + i * 16)) (244) ((idxB S).map bv) zo Tryz.underlying53 Tryz.underlying3 (by kernel_rfl) zx ho zy (by omega) (by omega) hB_3.size (by omega) (by rw [show i = S.length by omega]; unfold idxB; rw [List.map_append, List.map_replicate]; rfl) fun px9 cx9 W9 o9 hg9 hb9 => ?_
 refine zK _ _ ?_
 have hB'3 := hB_3.trans hb9
 exact xe 5 (.tuple #[.slice px9 244 cx9, .int .i64 0]) ⟨_, rfl, hB'3, _, _, rfl, o9⟩
end Go.Proofs.YthlakkdgcgkcdaaGreat
namespace Go.Proofs.YthlakkdgcgkcdaaGreat
open Go.RowKit Go.Extern.Stop Go.Stop Go.Extern
set_option linter.unusedVariables false
attribute [local irreducible] wpList wpAnyH Code.wp Oper.wp Go

/-- the first n numbers from f on counted once more -/
def bumpL (l : List Int) (f n : Nat) : List Int := (List.range l.length).map fun i => l.getD i 0 + (if f ≤ i ∧ i < f + n then 1 else 0)
theorem bumpL_len (l : List Int) (f n : Nat) : (bumpL l f n).length = l.length := by simp [bumpL]
theorem bumpL_get {l : List Int} {f n i : Nat} (h : i < l.length) : (bumpL l f n).getD i 0 = l.getD i 0 + (if f ≤ i ∧ i < f + n then 1 else 0) := by simp [bumpL, List.getD, List.getElem?_range h]
theorem bumpL_zero (l : List Int) (f : Nat) : bumpL l f 0 = l := by
  apply List.ext_getElem (by simp [bumpL])
  intro i h1 h2
  simp [bumpL, List.getD, h2]
  omega
theorem bumpL_set {l : List Int} {f j : Nat} (h : f + j < l.length) : ((bumpL l f j).map (Value.int .i64)).set (f + j) (.int .i64 (l.getD (f + j) 0 + 1)) = (bumpL l f (j + 1)).map (Value.int .i64) := by
  apply List.ext_getElem?
  intro i
  by_cases hi : i < l.length
  · by_cases e : f + j = i
    · subst e
      rw [List.getElem?_set_self (by simp [bumpL_len]; exact h)]
      simp [bumpL, List.getElem?_range h]
    · rw [List.getElem?_set_ne e]
      have hc : (f ≤ i ∧ i < f + j) ↔ (f ≤ i ∧ i < f + (j + 1)) := by omega
      simp only [bumpL, List.getElem?_map, List.getElem?_range hi, Option.map_some]
      by_cases q : f ≤ i ∧ i < f + j
      · rw [if_pos q, if_pos (hc.1 q)]
      · rw [if_neg q, if_neg (fun z => q (hc.2 z))]
  · rw [List.getElem?_eq_none (by simp [bumpL_len]; omega), List.getElem?_eq_none (by simp [bumpL_len]; omega)]
def FreeOk (l : List Int) (f : Int) : Prop := ∀ i, i < l.length → (f ≤ (i : Int) → l.getD i 0 = 0) ∧ l.getD i 0 ≤ 1073741824
theorem bumpL_ok {l : List Int} {f n : Nat} (h : FreeOk l (f : Int)) (hc : ∀ k, k < l.length → cntOk (l.getD k 0)) : ∀ k, k < (bumpL l f n).length → cntOk ((bumpL l f n).getD k 0) := by
  intro k hk
  rw [bumpL_len] at hk
  rw [bumpL_get hk]
  have h1 := (h k hk).2
  have h2 := hc k hk
  unfold cntOk at h2 ⊢
  split <;> omega
end Go.Proofs.YthlakkdgcgkcdaaGreat
namespace Go.Proofs.YthlakkdgcgkcdaaGreat
open Go.RowKit Go.Extern.Stop Go.Stop Go.Extern
set_option linter.unusedVariables false
attribute [local irreducible] wpList wpAnyH Code.wp Oper.wp Go

def needM (l : List Int) : Nat := nodN 5 (overK l l.length).length + bmN l.length + 1
theorem ahead_elem {w : World} {b : Option Addr} {n c f N k i : Nat} (h : Sl w (.slice b n c) n ((((rngJ f N).drop k).take n).map (Value.int .i64))) (hn : k + n ≤ N) (hi : i < n) : b.isSome = true ∧ w.cell? (elemAddr b (i * 1)) = some (.int .i64 ((f + k + i : Nat) : Int)) := by
  have hlen : (((rngJ f N).drop k).take n).length = n := by simp [rngJ]; omega
  have h1 := IntsN.elem h hlen hi
  have e : (((rngJ f N).drop k).take n).getD i 0 = ((f + k + i : Nat) : Int) := by
    have h2 := rngJ_get (f := f) (N := N) (k := k + i) (by omega)
    rw [← Nat.add_assoc] at h2
    rw [← h2]
    simp only [List.getD, List.getElem?_take, List.getElem?_drop, if_pos hi]
  rwa [e] at h1
/-- what Meta lays, and the two numbers -/
def metaB (l : List Int) (f k0 : Nat) (bs : List UInt8) : Int × Int × List UInt8 := (((f + k0 + (nodN 5 (overK l l.length).length) + (bmN (bumpL l (f + k0) (needM l)).length)) : Nat), (treeB 5 (overK l l.length) (f + k0) bs).1, putB (cntsB (chunksI (smallL (bumpL l (f + k0) (needM l))) (bmN (bumpL l (f + k0) (needM l)).length)) (f + k0 + (nodN 5 (overK l l.length).length)) (treeB 5 (overK l l.length) (f + k0) bs).2 (bmN (bumpL l (f + k0) (needM l)).length)) ((f + k0 + (nodN 5 (overK l l.length).length) + (bmN (bumpL l (f + k0) (needM l)).length)) * 256) (sealB 4 (((f + k0 + (nodN 5 (overK l l.length).length) + (bmN (bumpL l (f + k0) (needM l)).length)) : Nat) : Int) (idxB (Rs (chunksI (smallL (bumpL l (f + k0) (needM l))) (bmN (bumpL l (f + k0) (needM l)).length)) (f + k0 + (nodN 5 (overK l l.length).length)) (bmN (bumpL l (f + k0) (needM l)).length)))))
theorem needM_nb (l : List Int) (q n : Nat) : bmN (bumpL l q n).length = bmN l.length := by rw [bumpL_len]
theorem bump_elem {w : World} {b : Option Addr} {n c q i : Nat} {l : List Int} (h : Sl w (.slice b n c) n ((bumpL l q i).map (Value.int .i64))) (hn : l.length = n) (hi : q + i < n) : b.isSome = true ∧ w.cell? (elemAddr b ((q + i) * 1)) = some (.int .i64 (l.getD (q + i) 0)) := by
  have h1 := IntsN.elem h (by rw [bumpL_len]; exact hn) hi
  rw [bumpL_get (by omega), if_neg (by omega), Int.add_zero] at h1
  exact h1
end Go.Proofs.YthlakkdgcgkcdaaGreat
namespace Go.Proofs.YthlakkdgcgkcdaaGreat
open Go.RowKit Go.Extern.Stop Go.Stop Go.Extern
set_option linter.unusedVariables false
attribute [local irreducible] wpList wpAnyH Code.wp Oper.wp Go

def ClosM (B Bx bl : Nat) (L : List (List Int)) (q i : Nat) (w : World) (e : Ending) (w' : World) : Prop :=
  ∃ u p c, e = .returned u ∧ Below B w w' ∧ Only [80, 57] w w' ∧ Blk w' bl [.slice p (i + 1) c] 80 ∧ w'.ownsRow Bx 57 3 (.slice p (i + 1) c) (i + 1) (rsL L q (i + 1)) ∧ FrB Bx [bl] w w'
set_option maxRecDepth 100000 in
set_option maxHeartbeats 4000000 in
theorem plot_meta1 (B Bx bl : Nat) (p : Option Addr) (c : Nat) (L : List (List Int)) (q i : Nat) (w : World) (hBm : B ≤ Bx) (hBx : Bx ≤ w.heap.size) (hBw : B ≤ w.heap.size) (hBl : B ≤ bl) (kl : Blk w bl [.slice p i c] 80) (hup : w.ownsRow Bx 57 3 (.slice p i c) i (rsL L q i)) (hi : i ≤ 100000) :
    Calls Tryz.prog 34 #[.agg #[.int .i64 (↑(q + i) : Int), .int .i64 (↑(freeN (L.getD i [])) : Int), .int .i64 (↑(firstN (L.getD i [])) : Int)], .pointer (some ⟨bl, 0, none⟩)] w (ClosM B Bx bl L q i w) := by
 have hZ : FrZ Bx [bl] w w := FrZ.refl hBx
 refine zin 7 Tryz.func34 ?_
 refine xa 2 [.int .i64 (↑(q + i) : Int), .int .i64 (↑(freeN (L.getD i [])) : Int), .int .i64 (↑(firstN (L.getD i [])) : Int)] 57 fun b1 W1 n1 => ?_
 have r1_hup := own_ne hup n1
 have kl'1 := kl.below n1.below
 refine xb 3 0 kl'1 ?_
 refine xlv 0 n1.blk.rp ?_
 refine xbs 0 1 [.int .i64 (↑(q + i) : Int), .int .i64 (↑(freeN (L.getD i [])) : Int), .int .i64 (↑(firstN (L.getD i [])) : Int)] 57 fun b2 W2 n2 => ?_
 have d2_b1 := n2.ne n1.blk
 have hup'1 := own_below hup n1.below
 have r2_hup := own_ne hup'1 n2
 have hup'2 := own_below hup'1 n2.below
 have hB := Bl.nextB (Bl.nextB (Below.refl B w) hBw n1.below) hBw n2.below
 refine xbi 0 fun _ _ _ _ zJ zQ zo zx zy zK => op_app (m := 1) (news := [.int .i64 (↑(q + i) : Int), .int .i64 (↑(freeN (L.getD i [])) : Int), .int .i64 (↑(firstN (L.getD i [])) : Int)]) (.agg #[.int .i64 0, .int .i64 0, .int .i64 0]) 3 24 (i + 1) ((rsL L q (i + 1))) zo Tryz.underlying80 (by kernel_rfl) rfl (by decide) zx hup'2 zy (n2.blk.sl 1 1 (by decide) (by decide)) rfl (by simp [Value.oneCell']) (by unfold maxLen; omega) (by omega) (Nat.le_trans hBx hB.size) (by rfl) (by rw [rsL_succ]; rfl) fun px3 cx3 W3 o3 hg3 hb3 => ?_
 refine zK _ _ ?_
 have kl'2 := (kl'1.below n2.below).grown hg3 hup'2 (by decide)
 refine xs 0 kl'2 [.slice px3 (i + 1) cx3] fun W4 u4 k4 => ?_
 have hB'1 := u4.below (hB.trans (hb3.mono hBm)) hBl
 have hO := (((show Only [80, 57] w _ from (Only.of_below n1.below)).trans (Only.of_below n2.below)).trans (Only.of_grown hg3 hup'2 (by decide))).trans (Only.of_upd u4 kl'2 (by decide))
 have o3'1 := u4.own2 o3 kl'2 (by decide)
 have hZ'1 := (((hZ.below n1.below).below n2.below).grown hg3 hup'2).upd u4 (by simp)
 exact xe 1 (.tuple #[]) ⟨_, _, _, rfl, hB'1, hO, k4, o3'1, hZ'1.fr⟩
end Go.Proofs.YthlakkdgcgkcdaaGreat
namespace Go.Proofs.YthlakkdgcgkcdaaGreat
open Go.RowKit Go.Extern.Stop Go.Stop Go.Extern
set_option linter.unusedVariables false
attribute [local irreducible] wpList wpAnyH Code.wp Oper.wp Go

def LayPostM (B ba b g nn cc : Nat) (pa : Option Addr) (ca f N k0 : Nat) (bs : List UInt8) (bl : Nat) (L : List (List Int)) (w : World) (e : Ending) (w' : World) : Prop :=
  ∃ p c, e = .returned .nilIface ∧ Below B w w' ∧ Only [78, 5, 80, 57] w w' ∧ Fr [ba, g, bl] w w' ∧ Al B ba b g nn cc pa ca f N (k0 + L.length) (cntsB L (f + k0) bs L.length) w' ∧ Blk w' bl [.slice p L.length c] 80 ∧ w'.ownsRow w.heap.size 57 3 (.slice p L.length c) L.length (rsL L (f + k0) L.length)
set_option maxRecDepth 100000 in
set_option maxHeartbeats 8000000 in
theorem plot_layM (B ba b g nn cc : Nat) (pa : Option Addr) (ca f N k0 : Nat) (bs : List UInt8) (bl B2 : Nat) (pl : Option Addr) (cl : Nat) (gs : List (Nat × Nat)) (L : List (List Int)) (w : World) (hC : AlC B ba nn cc ca f N) (hA : Al B ba b g nn cc pa ca f N k0 bs w) (hL : Lists w B2 (.slice pl L.length cl) gs L) (hS : ∀ i, i < L.length → Small (L.getD i []) ∧ (L.getD i []).length ≤ 960) (hf1 : 1 ≤ f) (hk : k0 + L.length ≤ N) (kl : Blk w bl [.slice none 0 0] 80) (hBl : B ≤ bl) (hBw : B ≤ w.heap.size) :
    Calls Tryz.prog 22 #[.pointer (some ⟨ba, 0, none⟩), .slice pl L.length cl, .func (.func 34) #[] #[.pointer (some ⟨bl, 0, none⟩)]] w (LayPostM B ba b g nn cc pa ca f N k0 bs bl L w) := by
 have hcf := hC.hf
 have hcn := hC.hn
 refine zin 51 Tryz.func22 ?_
 have hB := Below.refl B w
 refine zl 14 51 (fun zm zkv V => ∃ (i : Nat) (p : Option Addr) (c : Nat), zkv = [(0, .pointer (some ⟨ba, 0, none⟩)), (2, .func (.func 34) #[] #[.pointer (some ⟨bl, 0, none⟩)]), (15, .slice pl L.length cl), (16, .int .i64 (↑L.length : Int)), (17, .int .i64 (↑i : Int))] ∧ zm = L.length - ((↑i : Int)).toNat ∧ Below B w V ∧ Fr [ba, g, bl] w V ∧ Only [78, 5, 80, 57] w V ∧ Blk V bl ([.slice p i c]) 80 ∧ Al B ba b g nn cc pa ca f N (k0 + i) (cntsB L (f + k0) bs i) V ∧ Lists V B2 (.slice pl L.length cl) gs L ∧ V.ownsRow w.heap.size 57 3 (.slice p i c) i (rsL L (f + k0) i) ∧ i ≤ L.length) ⟨0, none, 0, rfl, rfl, hB, (Fr.refl _ _), (Only.refl _ _), kl, hA, hL, World.ownsRow_nil _ _ _ _, Nat.zero_le _⟩ ?_
 rintro _ _ W1 ⟨i, p, c, rfl, rfl, hB_1, hX_1, hO_1, k1_bl, hA, hL, hup, hi⟩ J1 hJ1 r1
 refine xid 6 ((↑i : Int) < (↑L.length : Int)) (fun hc2 => ?_) (fun hc2 => ?_)
 · refine xx 6 _ L.length i 1 (Lists.elem hL rfl (k := i) (by omega)).1 ?_
   refine xl 0 ((Lists.elem hL rfl (k := i) (by omega)).2) ?_
   refine xc 6 (args := #[.slice (some ⟨(gs.getD i (0, 0)).1, 0, none⟩) ((L.getD i []).length) ((gs.getD i (0, 0)).2)]) (bits_Put _ _ (L.getD i []) _ (hS i (by omega)).1 (hS i (by omega)).2 (own_sl (hL.each i (by omega)))) ?_
   rintro _ W3 ⟨_, rfl, hb3, g6, rfl, h6⟩
   have hA'1 := hA.below hb3
   have hO'1 := hO_1.trans (Only.of_below hb3)
   have h6'1 := own_mono h6 hB_1.size
   have hB'1 := Bl.nextB hB_1 hBw hb3
   refine xc 21 (args := #[.pointer (some ⟨ba, 0, none⟩), .int .i64 3, .slice (some ⟨g6, 0, none⟩) 244 244]) (alloc_LayQ B ba b g nn cc pa ca f N (k0 + i) (cntsB L (f + k0) bs i) 3 (some ⟨g6, 0, none⟩) 244 (bitsB (L.getD i [])) (f + k0 + i) 244 _ (Nat.add_assoc _ _ _).symm (bitsT_len _ _) hC hA'1 (by omega) (by decide) (by decide) (fun W _ hO'1 => bys_of (own_sl (own_only h6'1 hO'1 (by decide))) (bitsT_len _ _)) (by decide) (Nat.le_trans hBw hB'1.size)) ?_
   rintro _ W4 ⟨rfl, hb4, hO4, hX4, hA⟩
   have hL'1 := (hL.below hb3).only hO4 (by decide)
   refine xr 20 (args := #[.slice (some ⟨(gs.getD i (0, 0)).1, 0, none⟩) ((L.getD i []).length) ((gs.getD i (0, 0)).2)]) (bits_Free _ _ (L.getD i []) _ (hS i (by omega)).2 (own_sl (hL'1.each i (by omega)))) fun W5 hb5 => ?_
   have hf9 : freeN (L.getD i []) ≤ 960 := Nat.le_trans (freeK_le _ _) (hS i (by omega)).2
   have hg9 : firstN (L.getD i []) ≤ 960 := Nat.le_trans (firstN_le _) (hS i (by omega)).2
   have hB'2 := Bl.nextB (hB'1.trans hb4) hBw hb5
   have k1_bl'1 := ((k1_bl.below hb3).only hO4 (by decide)).below hb5
   have hup'1 := own_below (own_only (own_below hup hb3) hO4 (by decide)) hb5
   refine xc 13 (args := #[.agg #[.int .i64 (↑(f + k0 + i) : Int), .int .i64 (↑(freeN (L.getD i [])) : Int), .int .i64 (↑(firstN (L.getD i [])) : Int)], .pointer (some ⟨bl, 0, none⟩)]) (plot_meta1 B w.heap.size bl p c L (f + k0) i _ hBw hB'2.size (Nat.le_trans hBw hB'2.size) hBl k1_bl'1 hup'1 (by omega)) ?_
   rintro _ W6 ⟨_, p9, c9, rfl, hb6, hO6, kln, hup, hX6⟩
   refine xwm 4 ((↑i : Int) + 1) (↑(i + 1) : Int) ?_
   have hA'2 := (hA.below hb5).only hO6 (by decide)
   have hL'2 := (hL'1.below hb5).only hO6 (by decide)
   have hB'3 := hB'2.trans hb6
   have hX'1 := (Fr.trans_B (((hX_1.trans (Fr.of_below hb3)).trans (hX4.mono (by simp))).trans (Fr.of_below hb5)) hX6 (by simp))
   have hO'2 := ((hO'1.trans (hO4.wide)).trans (Only.of_below hb5)).trans (hO6.wide)
   exact ze 2 (hJ1 _ _ _ ⟨i + 1, _, _, rfl, rfl, hB'3, hX'1, hO'2, kln, hA'2, hL'2, hup, by omega⟩ (by omega))
 refine xe 11 .nilIface ?_
 obtain rfl : i = L.length := by omega
 exact ⟨_, _, rfl, hB_1, hO_1, hX_1, hA, k1_bl, hup⟩
end Go.Proofs.YthlakkdgcgkcdaaGreat
namespace Go.Proofs.YthlakkdgcgkcdaaGreat
open Go.RowKit Go.Extern.Stop Go.Stop Go.Extern
set_option linter.unusedVariables false
attribute [local irreducible] wpList wpAnyH Code.wp Oper.wp Go

structure Sin (w W : World) : Prop where
  b : Below w.heap.size w W
theorem Sin.below {w W V : World} (h : Sin w W) (hb : Below W.heap.size W V) : Sin w V := ⟨Bl.next h.b hb⟩
theorem Sin.trans {w W V : World} (h : Sin w W) (hb : Below w.heap.size W V) : Sin w V := ⟨h.b.trans hb⟩
theorem Sin.upd {w W V : World} {b : Nat} (h : Sin w W) (u : Upd W b V) (hb : w.heap.size ≤ b) : Sin w V := ⟨u.below h.b hb⟩
theorem rs_ok {L : List (List Int)} {q n : Nat} (hS : ∀ i, i < L.length → Small (L.getD i []) ∧ (L.getD i []).length ≤ 960) (hn : L.length = n) (h1 : 1 ≤ q) (h2 : q + n ≤ 14400) (h3 : n ≤ 14) : SlotsOk (Rs L q n) := by
  refine ⟨by rw [Rs_len]; exact h3, fun i hi => ?_⟩
  rw [Rs_len] at hi
  rw [Rs_get hi]
  have hc := (hS i (by omega)).2
  exact ⟨by show 1 ≤ q + i; omega, by show q + i ≤ 14399; omega, Nat.le_trans (freeK_le _ _) hc, Nat.le_trans (firstN_le _) hc⟩
end Go.Proofs.YthlakkdgcgkcdaaGreat
