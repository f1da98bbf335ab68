/- The document's answer for the layers 11 and 14, read: Node, has, look. What the document's scan keeps in memory: rows of numbers that lie apart, visits that wait, faults. The document's answer for layer 14: Scan. image.Of and block.Write at an image in a row of its own. The statement WalkRises, walked. What is found of a tree is as the document has it: SameEntries, Same, same. Whole, the program's and the document's; the statements WalkScans and WalkWhole, walked. A string cut at its head or its end. No program is named here. -/
import Derived.Laws.StructEq
import Derived.Test.YthlakkdgcgkcdaaGreatDoorMg4
namespace Go.Proofs.YthlakkdgcgkcdaaGreatDoor
open Go.RowKit Go.Extern.Stop Go.Stop Go.Extern
set_option linter.unusedVariables false
attribute [local irreducible] wpList wpAnyH Code.wp Oper.wp Go

def RBlkNodeP (l : List UInt8) (no tree : Int) (w : World) (e : Ending) (w' : World) : Prop :=
  (nodeErr l no tree ≠ 0 ∧ ∃ a c, e = .returned (.tuple #[.agg #[.int .i64 0, .bool false, .slice none 0 0, .slice none 0 0], .agg #[.slice a 1 c, .int .i64 (nodeErr l no tree)]]) ∧ Below w.heap.size w w' ∧ w'.ownsRow w.heap.size 3 1 (.slice a 1 c) 1 [.int .i64 no]) ∨
  (nodeErr l no tree = 0 ∧ ∃ kp kc vp vc, e = .returned (.tuple #[.agg #[.int .i64 (nodT (inB l no)), .bool (nodL (inB l no)), .slice kp (nodC (inB l no)) kc, .slice vp (nodC (inB l no)) vc], .agg #[.slice none 0 0, .int .i64 0]]) ∧ Below w.heap.size w w' ∧ w'.ownsRow w.heap.size 3 1 (.slice kp (nodC (inB l no)) kc) (nodC (inB l no)) ((keysI (inB l no) (nodC (inB l no))).map (Value.int .i64)) ∧ w'.ownsRow w.heap.size 9 1 (.slice vp (nodC (inB l no)) vc) (nodC (inB l no)) ((valsL (inB l no) (nodC (inB l no))).map sv))
set_option maxRecDepth 100000 in
set_option maxHeartbeats 1000000 in
theorem ref11_Node (B bm : Nat) (p : Option Addr) (k c : Nat) (l : List UInt8) (no tree : Int) (w : World) (hI : RefI B bm p k c l w) :
    Calls Tryz.prog 147 #[.pointer (some ⟨bm, 0, none⟩), .int .i64 no, .int .i64 tree] w (RBlkNodeP l no tree w) := by
 refine zin 48 Tryz.func147 ?_
 refine xa 2 [.int .i64 0, .bool false, .slice none 0 0, .slice none 0 0] 188 fun b1 W1 n1 => ?_
 refine xa 0 [.slice none 0 0, .int .i64 0] 43 fun b2 W2 n2 => ?_
 have hI'1 := (hI.below n1.below).below n2.below
 refine xc 6 (args := #[.pointer (some ⟨bm, 0, none⟩), .int .i64 no, .int .i64 2]) (ref11_in B bm p k c l _ hI'1 no 2) ?_
 rintro e W3 hq3
 rcases hq3 with ⟨hse, rfl, hb3⟩ | ⟨hse, hil, p3, c3, rfl, hb3, h3⟩
 · refine xk 14 (show (((inE l 2 no) != (0 : Int)) : Bool) = true from bne_iff_ne.2 hse) ?_
   refine xc 5 (args := #[.int .i64 no, .int .i64 (inE l 2 no)]) (ref11_AtN no (inE l 2 no) _ hse) ?_
   rintro _ W4 ⟨_, rfl, hb4, a5, c5, rfl, hs5⟩
   have hs4 := (Bl.next (Bl.next n1.below n2.below) hb3).size
   have k1 := ((n1.blk.below n2.below).below hb3).below hb4
   refine xsv 0 k1 [.int .i64 0, .bool false, .slice none 0 0, .slice none 0 0] fun W5 u5 k5 => ?_
   have g1 := n1.ge (Below.refl w.heap.size _)
   have k2 := u5.blkT ((n2.blk.below hb3).below hb4) k1 (by decide)
   refine xsv 0 k2 [.slice a5 1 c5, .int .i64 (inE l 2 no)] fun W6 u6 k6 => ?_
   have g2 := n2.ge n1.below
   have hB := u6.below (u5.below (Bl.next (Bl.next (Bl.next n1.below n2.below) hb3) hb4) g1) g2
   have hs5'1 := u6.own2 (u5.own2 (own_mono hs5 hs4) k1 (by decide)) k2 (by decide)
   have k5'1 := u6.blkT k5 k2 (by decide)
   refine xecm 4 [(b1, [.int .i64 0, .bool false, .slice none 0 0, .slice none 0 0]), (b2, [.slice a5 1 c5, .int .i64 (inE l 2 no)])] ⟨⟨_, k5'1⟩, ⟨_, k6⟩, trivial⟩ (.tuple #[.agg #[.int .i64 0, .bool false, .slice none 0 0, .slice none 0 0], .agg #[.slice a5 1 c5, .int .i64 (inE l 2 no)]]) ?_
   have he : nodeErr l no tree = (inE l 2 no) := by unfold nodeErr; rw [if_neg hse]
   exact .inl ⟨by rw [he]; exact hse, _, _, by rw [he], hB, hs5'1⟩
 have hs3 := (Bl.next n1.below n2.below).size
 have h3'1 := own_mono h3 hs3
 refine xc 20 (args := #[.slice p3 244 c3]) (ref07_Read p3 c3 (inB l no) _ hil (bys_of (own_sl h3'1) hil)) ?_
 rintro e W7 hq7
 rcases hq7 with ⟨hz, rfl, hb7⟩ | ⟨hz, kp, kc, vp, vc, rfl, hb7, hk, hv_⟩
 · refine xa 3 [.int .i64 0, .bool false, .slice none 0 0, .slice none 0 0] 188 fun b8 W8 n8 => ?_
   have k1 := ((n1.blk.below n2.below).below hb3).below hb7
   have d8_b1 := n8.ne k1
   refine xsv 0 n8.blk [.int .i64 0, .bool false, .slice none 0 0, .slice none 0 0] fun W9 u9 k9 => ?_
   have g8 := n8.ge (Bl.next (Bl.next (Bl.next n1.below n2.below) hb3) hb7)
   refine xk 10 (show (((nodeE (inB l no)) != (0 : Int)) : Bool) = true from bne_iff_ne.2 hz) ?_
   refine xc 5 (args := #[.int .i64 no, .int .i64 (nodeE (inB l no))]) (ref11_AtN no (nodeE (inB l no)) _ hz) ?_
   rintro _ W10 ⟨_, rfl, hb10, a5, c5, rfl, hs5⟩
   have hs10 := (u9.below (Bl.next (Bl.next (Bl.next (Bl.next n1.below n2.below) hb3) hb7) n8.below) g8).size
   have k1'1 := (u9.blk (k1.below n8.below) (Ne.symm (Ne.symm d8_b1))).below hb10
   refine xsv 0 k1'1 [.int .i64 0, .bool false, .slice none 0 0, .slice none 0 0] fun W11 u11 k11 => ?_
   have g1 := n1.ge (Below.refl w.heap.size _)
   have k2 := u11.blkT ((u9.blkT (((n2.blk.below hb3).below hb7).below n8.below) n8.blk (by decide)).below hb10) k1'1 (by decide)
   refine xsv 0 k2 [.slice a5 1 c5, .int .i64 (nodeE (inB l no))] fun W12 u12 k12 => ?_
   have g2 := n2.ge n1.below
   have hB := u12.below (u11.below (Bl.next (u9.below (Bl.next (Bl.next (Bl.next (Bl.next n1.below n2.below) hb3) hb7) n8.below) g8) hb10) g1) g2
   have hs5'2 := u12.own2 (u11.own2 (own_mono hs5 hs10) k1'1 (by decide)) k2 (by decide)
   have k11'1 := u12.blkT k11 k2 (by decide)
   refine xecm 4 [(b1, [.int .i64 0, .bool false, .slice none 0 0, .slice none 0 0]), (b2, [.slice a5 1 c5, .int .i64 (nodeE (inB l no))])] ⟨⟨_, k11'1⟩, ⟨_, k12⟩, trivial⟩ (.tuple #[.agg #[.int .i64 0, .bool false, .slice none 0 0, .slice none 0 0], .agg #[.slice a5 1 c5, .int .i64 (nodeE (inB l no))]]) ?_
   have he : nodeErr l no tree = (nodeE (inB l no)) := by unfold nodeErr nodeTE; rw [if_pos hse, if_neg hz]
   exact .inl ⟨by rw [he]; exact hz, _, _, by rw [he], hB, hs5'2⟩
 have hs7 := (Bl.next (Bl.next n1.below n2.below) hb3).size
 refine xa 3 [.int .i64 0, .bool false, .slice none 0 0, .slice none 0 0] 188 fun b13 W13 n13 => ?_
 have k1 := ((n1.blk.below n2.below).below hb3).below hb7
 have d13_b1 := n13.ne k1
 refine xsv 0 n13.blk [.int .i64 (nodT (inB l no)), .bool (nodL (inB l no)), .slice kp (nodC (inB l no)) kc, .slice vp (nodC (inB l no)) vc] fun W14 u14 k14 => ?_
 have g13 := n13.ge (Bl.next (Bl.next (Bl.next n1.below n2.below) hb3) hb7)
 refine xg 19 [36, 37] (tree != (0 : Int)) (fun hc15 => ?_) (fun hc15 => ?_)
 · have hc15 := ne_of_bne hc15
   refine xb 1 0 k14 ?_
   refine xin 5 (nodT (inB l no)) tree (fun hc16 => ?_) (fun hc16 => ?_)
   · refine xc 4 (args := #[.int .i64 no, .int .i64 6]) (ref11_AtN no 6 _ (by decide)) ?_
     rintro _ W17 ⟨_, rfl, hb17, a5, c5, rfl, hs5⟩
     have hs17 := (u14.below (Bl.next (Bl.next (Bl.next (Bl.next n1.below n2.below) hb3) hb7) n13.below) g13).size
     have k1'2 := (u14.blk (k1.below n13.below) (Ne.symm (Ne.symm d13_b1))).below hb17
     refine xsv 0 k1'2 [.int .i64 0, .bool false, .slice none 0 0, .slice none 0 0] fun W18 u18 k18 => ?_
     have g1 := n1.ge (Below.refl w.heap.size _)
     have k2 := u18.blkT ((u14.blkT (((n2.blk.below hb3).below hb7).below n13.below) n13.blk (by decide)).below hb17) k1'2 (by decide)
     refine xsv 0 k2 [.slice a5 1 c5, .int .i64 6] fun W19 u19 k19 => ?_
     have g2 := n2.ge n1.below
     have hB := u19.below (u18.below (Bl.next (u14.below (Bl.next (Bl.next (Bl.next (Bl.next n1.below n2.below) hb3) hb7) n13.below) g13) hb17) g1) g2
     have hs5'3 := u19.own2 (u18.own2 (own_mono hs5 hs17) k1'2 (by decide)) k2 (by decide)
     have k18'1 := u19.blkT k18 k2 (by decide)
     refine xecm 4 [(b1, [.int .i64 0, .bool false, .slice none 0 0, .slice none 0 0]), (b2, [.slice a5 1 c5, .int .i64 6])] ⟨⟨_, k18'1⟩, ⟨_, k19⟩, trivial⟩ (.tuple #[.agg #[.int .i64 0, .bool false, .slice none 0 0, .slice none 0 0], .agg #[.slice a5 1 c5, .int .i64 6]]) ?_
     have he : nodeErr l no tree = 6 := by unfold nodeErr nodeTE; rw [if_pos hse, if_pos hz, if_neg (by omega)]
     exact .inl ⟨by rw [he]; decide, _, _, by rw [he], hB, hs5'3⟩
   refine xlv 4 k14.rp ?_
   have k1'3 := u14.blk (k1.below n13.below) (Ne.symm (Ne.symm d13_b1))
   refine xsv 1 k1'3 [.int .i64 (nodT (inB l no)), .bool (nodL (inB l no)), .slice kp (nodC (inB l no)) kc, .slice vp (nodC (inB l no)) vc] fun W20 u20 k20 => ?_
   have g1 := n1.ge (Below.refl w.heap.size _)
   have k2 := u20.blkT (u14.blkT (((n2.blk.below hb3).below hb7).below n13.below) n13.blk (by decide)) k1'3 (by decide)
   refine xsv 0 k2 [.slice none 0 0, .int .i64 0] fun W21 u21 k21 => ?_
   have g2 := n2.ge n1.below
   have hB := u21.below (u20.below (u14.below (Bl.next (Bl.next (Bl.next (Bl.next n1.below n2.below) hb3) hb7) n13.below) g13) g1) g2
   have hk'1 := u21.own2 (u20.own2 (u14.own2 (own_below (own_mono hk hs7) n13.below) n13.blk (by decide)) k1'3 (by decide)) k2 (by decide)
   have hv_'1 := u21.own2 (u20.own2 (u14.own2 (own_below (own_mono hv_ hs7) n13.below) n13.blk (by decide)) k1'3 (by decide)) k2 (by decide)
   have k20'1 := u21.blkT k20 k2 (by decide)
   exact xecm 3 [(b1, [.int .i64 (nodT (inB l no)), .bool (nodL (inB l no)), .slice kp (nodC (inB l no)) kc, .slice vp (nodC (inB l no)) vc]), (b2, [.slice none 0 0, .int .i64 0])] ⟨⟨_, k20'1⟩, ⟨_, k21⟩, trivial⟩ (.tuple #[.agg #[.int .i64 (nodT (inB l no)), .bool (nodL (inB l no)), .slice kp (nodC (inB l no)) kc, .slice vp (nodC (inB l no)) vc], .agg #[.slice none 0 0, .int .i64 0]]) (.inr ⟨by unfold nodeErr nodeTE; rw [if_pos hse, if_pos hz, if_pos (by omega)], _, _, _, _, rfl, hB, hk'1, hv_'1⟩)
 have hc15 := eq_of_bne_false hc15
 refine xlv 12 k14.rp ?_
 have k1'4 := u14.blk (k1.below n13.below) (Ne.symm (Ne.symm d13_b1))
 refine xsv 1 k1'4 [.int .i64 (nodT (inB l no)), .bool (nodL (inB l no)), .slice kp (nodC (inB l no)) kc, .slice vp (nodC (inB l no)) vc] fun W22 u22 k22 => ?_
 have g1 := n1.ge (Below.refl w.heap.size _)
 have k2 := u22.blkT (u14.blkT (((n2.blk.below hb3).below hb7).below n13.below) n13.blk (by decide)) k1'4 (by decide)
 refine xsv 0 k2 [.slice none 0 0, .int .i64 0] fun W23 u23 k23 => ?_
 have g2 := n2.ge n1.below
 have hB := u23.below (u22.below (u14.below (Bl.next (Bl.next (Bl.next (Bl.next n1.below n2.below) hb3) hb7) n13.below) g13) g1) g2
 have hk'2 := u23.own2 (u22.own2 (u14.own2 (own_below (own_mono hk hs7) n13.below) n13.blk (by decide)) k1'4 (by decide)) k2 (by decide)
 have hv_'2 := u23.own2 (u22.own2 (u14.own2 (own_below (own_mono hv_ hs7) n13.below) n13.blk (by decide)) k1'4 (by decide)) k2 (by decide)
 have k22'1 := u23.blkT k22 k2 (by decide)
 exact xecm 3 [(b1, [.int .i64 (nodT (inB l no)), .bool (nodL (inB l no)), .slice kp (nodC (inB l no)) kc, .slice vp (nodC (inB l no)) vc]), (b2, [.slice none 0 0, .int .i64 0])] ⟨⟨_, k22'1⟩, ⟨_, k23⟩, trivial⟩ (.tuple #[.agg #[.int .i64 (nodT (inB l no)), .bool (nodL (inB l no)), .slice kp (nodC (inB l no)) kc, .slice vp (nodC (inB l no)) vc], .agg #[.slice none 0 0, .int .i64 0]]) (.inr ⟨by unfold nodeErr nodeTE; rw [if_pos hse, if_pos hz, if_pos (by omega)], _, _, _, _, rfl, hB, hk'2, hv_'2⟩)
set_option maxRecDepth 100000 in
set_option maxHeartbeats 1000000 in
theorem ref14_has (a : Option Addr) (c : Nat) (l : List Int) (x : Int) (w : World) (h : Ints w (.slice a l.length c) l) (hln : l.length ≤ 1000000) :
    Calls Tryz.prog 146 #[.slice a l.length c, .int .i64 x] w (Ret (.bool (hasI l x)) w) := by
 refine zin 18 Tryz.func146 ?_
 have hB := Below.refl w.heap.size w
 refine zl 12 18 (fun zm zkv V => ∃ (i : Nat), zkv = [(0, .slice a l.length c), (1, .int .i64 x), (5, .int .i64 (↑i : Int))] ∧ zm = l.length - ((↑i : Int)).toNat ∧ Below w.heap.size w V ∧ i ≤ l.length ∧ (∀ j, j < i → x ≠ l.getD j 0)) ⟨0, rfl, rfl, hB, Nat.zero_le _, ?_⟩ ?_
 · exact fun j hj => absurd hj (by omega)
 rintro _ _ W1 ⟨i, rfl, rfl, hB_1, hi, hz⟩ J1 hJ1 r1
 refine xid 9 ((↑i : Int) < (↑l.length : Int)) (fun hc2 => ?_) (fun hc2 => ?_)
 · refine xx 8 _ l.length i 1 (Ints.elem h (k := i) (by omega)).1 ?_
   refine xl 0 ((Ints.elem (h.below hB_1) (k := i) (by omega)).2) ?_
   refine xie 4 (l.getD i 0) x (fun hc3 => ?_) (fun hc3 => ?_)
   · refine xe 11 (.bool true) ?_
     rw [hasI_true (i := i) (by omega) (by omega)]; exact ⟨rfl, hB_1⟩
   refine xwm 5 ((↑i : Int) + 1) (↑(i + 1) : Int) ?_
   exact ze 2 (hJ1 _ _ _ ⟨i + 1, rfl, rfl, hB_1, by omega, fun j hj => (Nat.lt_or_ge j i).elim (hz j) (fun q => by obtain rfl : j = i := (by omega); omega)⟩ (by omega))
 refine xe 11 (.bool false) ?_
 rw [hasI_false (fun j hj => hz j (by omega))]; exact ⟨rfl, hB_1⟩
def RLookP (l : List UInt8) (way : List Int) (no tree lo hi deep : Int) (w : World) (e : Ending) (w' : World) : Prop :=
  (lookE l way no tree lo hi deep ≠ 0 ∧ ∃ a4 b4 k4 n4 c4 v4 m4 d4 a c, e = .returned (.tuple #[.agg #[.int .i64 a4, .bool b4, .slice k4 n4 c4, .slice v4 m4 d4], .agg #[.slice a 1 c, .int .i64 (lookE l way no tree lo hi deep)]]) ∧ Below w.heap.size w w' ∧ w'.ownsRow w.heap.size 3 1 (.slice a 1 c) 1 [.int .i64 no]) ∨
  (lookE l way no tree lo hi deep = 0 ∧ ∃ kp kc vp vc, e = .returned (.tuple #[.agg #[.int .i64 (nodT (inB l no)), .bool (nodL (inB l no)), .slice kp (nodC (inB l no)) kc, .slice vp (nodC (inB l no)) vc], .agg #[.slice none 0 0, .int .i64 0]]) ∧ Below w.heap.size w w' ∧ w'.ownsRow w.heap.size 3 1 (.slice kp (nodC (inB l no)) kc) (nodC (inB l no)) ((keysI (inB l no) (nodC (inB l no))).map (Value.int .i64)) ∧ w'.ownsRow w.heap.size 9 1 (.slice vp (nodC (inB l no)) vc) (nodC (inB l no)) ((valsL (inB l no) (nodC (inB l no))).map sv))
set_option maxRecDepth 100000 in
set_option maxHeartbeats 4000000 in
theorem ref14_look (B bm : Nat) (p : Option Addr) (k c : Nat) (l : List UInt8) (no tree : Int) (lo hi deep : Int) (way : List Int) (wa : Option Addr) (wc : Nat) (ft : Value) (w : World) (hI : RefI B bm p k c l w) (hw : Ints w (.slice wa way.length wc) way) (hwl : way.length ≤ 100000) (hr : rightB lo hi = true) :
    Calls Tryz.prog 98 #[.pointer (some ⟨bm, 0, none⟩), .agg #[.int .i64 no, .int .i64 lo, .int .i64 hi, .slice wa way.length wc, ft], .int .i64 tree, .int .i64 deep] w (RLookP l way no tree lo hi deep w) := by
 refine zin 84 Tryz.func98 ?_
 refine xa 2 [.int .i64 no, .int .i64 lo, .int .i64 hi, .slice wa way.length wc, ft] 184 fun b1 W1 n1 => ?_
 refine xa 0 [.int .i64 0, .bool false, .slice none 0 0, .slice none 0 0] 188 fun b2 W2 n2 => ?_
 refine xa 0 [.slice none 0 0, .int .i64 0] 43 fun b3 W3 n3 => ?_
 have k1 := (n1.blk.below n2.below).below n3.below
 refine xb 6 3 k1 ?_
 refine xb 1 0 k1 ?_
 have hB := Bl.next (Bl.next n1.below n2.below) n3.below
 refine xr 0 (args := #[.slice wa way.length wc, .int .i64 no]) (ref14_has wa wc way no _ (hw.below hB) (by omega)) fun W4 hb4 => ?_
 refine xi 2 (hasI way no) (fun hc5 => ?_) (fun hc5 => ?_)
 · have hh : hasI way no = true := hc5
   have k1'1 := k1.below hb4
   refine xb 4 0 k1'1 ?_
   refine xc 0 (args := #[.int .i64 no, .int .i64 11]) (ref11_AtN no 11 _ (by decide)) ?_
   rintro _ W6 ⟨_, rfl, hb6, a5, c5, rfl, hs5⟩
   have hs6 := (Bl.next hB hb4).size
   have k2 := ((n2.blk.below n3.below).below hb4).below hb6
   refine xsv 0 k2 [.int .i64 0, .bool false, .slice none 0 0, .slice none 0 0] fun W7 u7 k7 => ?_
   have g2 := n2.ge n1.below
   have k3 := u7.blkT ((n3.blk.below hb4).below hb6) k2 (by decide)
   refine xsv 0 k3 [.slice a5 1 c5, .int .i64 11] fun W8 u8 k8 => ?_
   have g3 := n3.ge (Bl.next n1.below n2.below)
   have hB'1 := u8.below (u7.below (Bl.next (Bl.next hB hb4) hb6) g2) g3
   have hs5'1 := u8.own2 (u7.own2 (own_mono hs5 hs6) k2 (by decide)) k3 (by decide)
   have k7'1 := u8.blkT k7 k3 (by decide)
   refine xecm 4 [(b2, [.int .i64 0, .bool false, .slice none 0 0, .slice none 0 0]), (b3, [.slice a5 1 c5, .int .i64 11])] ⟨⟨_, k7'1⟩, ⟨_, k8⟩, trivial⟩ (.tuple #[.agg #[.int .i64 0, .bool false, .slice none 0 0, .slice none 0 0], .agg #[.slice a5 1 c5, .int .i64 11]]) ?_
   have he : (lookE l way no tree lo hi deep) = 11 := by unfold lookE; rw [if_pos hh]
   exact .inl ⟨by rw [he]; decide, _, _, _, _, _, _, _, _, _, _, by rw [he], hB'1, hs5'1⟩
 have hh : hasI way no = false := hc5
 have k1'2 := k1.below hb4
 refine xb 6 3 k1'2 ?_
 refine xwm 1 ((↑way.length : Int) + 1) (↑(way.length + 1) : Int) ?_
 refine xid 3 ((↑(way.length + 1) : Int) > (16 : Int)) (fun hc9 => ?_) (fun hc9 => ?_)
 · refine xb 4 0 k1'2 ?_
   refine xc 0 (args := #[.int .i64 no, .int .i64 10]) (ref11_AtN no 10 _ (by decide)) ?_
   rintro _ W10 ⟨_, rfl, hb10, a5, c5, rfl, hs5⟩
   have hs10 := (Bl.next hB hb4).size
   have k2 := ((n2.blk.below n3.below).below hb4).below hb10
   refine xsv 0 k2 [.int .i64 0, .bool false, .slice none 0 0, .slice none 0 0] fun W11 u11 k11 => ?_
   have g2 := n2.ge n1.below
   have k3 := u11.blkT ((n3.blk.below hb4).below hb10) k2 (by decide)
   refine xsv 0 k3 [.slice a5 1 c5, .int .i64 10] fun W12 u12 k12 => ?_
   have g3 := n3.ge (Bl.next n1.below n2.below)
   have hB'2 := u12.below (u11.below (Bl.next (Bl.next hB hb4) hb10) g2) g3
   have hs5'2 := u12.own2 (u11.own2 (own_mono hs5 hs10) k2 (by decide)) k3 (by decide)
   have k11'1 := u12.blkT k11 k3 (by decide)
   refine xecm 4 [(b2, [.int .i64 0, .bool false, .slice none 0 0, .slice none 0 0]), (b3, [.slice a5 1 c5, .int .i64 10])] ⟨⟨_, k11'1⟩, ⟨_, k12⟩, trivial⟩ (.tuple #[.agg #[.int .i64 0, .bool false, .slice none 0 0, .slice none 0 0], .agg #[.slice a5 1 c5, .int .i64 10]]) ?_
   have he : (lookE l way no tree lo hi deep) = 10 := by unfold lookE; rw [if_neg (by rw [hh]; decide), if_pos (by omega)]
   exact .inl ⟨by rw [he]; decide, _, _, _, _, _, _, _, _, _, _, by rw [he], hB'2, hs5'2⟩
 refine xb 6 0 k1'2 ?_
 have hI'1 := (((hI.below n1.below).below n2.below).below n3.below).below hb4
 refine xc 1 (args := #[.pointer (some ⟨bm, 0, none⟩), .int .i64 no, .int .i64 tree]) (ref11_Node B bm p k c l no tree _ hI'1) ?_
 rintro e W13 hq13
 rcases hq13 with ⟨hne, a3, c3, rfl, hb13, hs3⟩ | ⟨hne, kp, kc, vp, vc, rfl, hb13, hk, hv_⟩
 · have hs13 := (Bl.next hB hb4).size
   refine xa 3 [.int .i64 0, .bool false, .slice none 0 0, .slice none 0 0] 188 fun b14 W14 n14 => ?_
   have k2 := ((n2.blk.below n3.below).below hb4).below hb13
   have d14_b2 := n14.ne k2
   have hB'3 := Bl.next (Bl.next hB hb4) hb13
   have g14 := n14.ge hB'3
   refine xa 0 [.slice none 0 0, .int .i64 0] 43 fun b15 W15 n15 => ?_
   have k3 := ((n3.blk.below hb4).below hb13).below n14.below
   have d15_b3 := n15.ne k3
   have hB'4 := Bl.next hB'3 n14.below
   have g15 := n15.ge hB'4
   have k14 := n14.blk.below n15.below
   refine xsv 0 k14 [.int .i64 0, .bool false, .slice none 0 0, .slice none 0 0] fun W16 u16 k16 => ?_
   have k15 := u16.blkT n15.blk k14 (by decide)
   refine xsv 0 k15 [.slice a3 1 c3, .int .i64 (nodeErr l no tree)] fun W17 u17 k17 => ?_
   refine xb 6 1 k17 ?_
   refine xk 3 (show (((nodeErr l no tree) != (0 : Int)) : Bool) = true from bne_iff_ne.2 hne) ?_
   refine xd 1 (.t w.heap.size [188, 43]) ?_
   refine xm2 0 0 1 ?_ ?_
   · have k16'1 := (u17.blkT k16 k15 (by decide)).below (below_drew W17)
     refine xlv 0 k16'1.rp ?_
     refine xm2 0 1 2 ?_ ?_
     · have k17'1 := k17.below (below_drew W17)
       refine xlv 0 k17'1.rp ?_
       have k2'1 := (u17.blkT (u16.blk ((k2.below n14.below).below n15.below) (Ne.symm (Ne.symm d14_b2))) k15 (by decide)).below (below_drew W17)
       have g2 := n2.ge n1.below
       refine ysv (.o [] 2) k2'1 [.int .i64 0, .bool false, .slice none 0 0, .slice none 0 0] (.t w.heap.size [188, 43]) fun W18 u18 k18 => ⟨(sft_upd u18 k2'1 g2 (by decide)), ?_⟩
       have k3'1 := u18.blkT ((u17.blk (u16.blkT (k3.below n15.below) k14 (by decide)) (Ne.symm (Ne.symm d15_b3))).below (below_drew W17)) k2'1 (by decide)
       have g3 := n3.ge (Bl.next n1.below n2.below)
       refine ysv (.o [] 3) k3'1 [.slice a3 1 c3, .int .i64 (nodeErr l no tree)] (.t w.heap.size [188, 43]) fun W19 u19 k19 => ⟨(sft_upd u19 k3'1 g3 (by decide)), ?_⟩
       have hB'5 := u19.below (u18.below (Bl.next (u17.below (u16.below (Bl.next hB'4 n15.below) g14) g15) (below_drew W17)) g2) g3
       have hs3'1 := u19.own2 (u18.own2 (own_below (u17.own2 (u16.own2 (own_below (own_below (own_mono hs3 hs13) n14.below) n15.below) k14 (by decide)) k15 (by decide)) (below_drew W17)) k2'1 (by decide)) k3'1 (by decide)
       have k18'1 := u19.blkT k18 k3'1 (by decide)
       refine xecm 4 [(b2, [.int .i64 0, .bool false, .slice none 0 0, .slice none 0 0]), (b3, [.slice a3 1 c3, .int .i64 (nodeErr l no tree)])] ⟨⟨_, k18'1⟩, ⟨_, k19⟩, trivial⟩ (.tuple #[.agg #[.int .i64 0, .bool false, .slice none 0 0, .slice none 0 0], .agg #[.slice a3 1 c3, .int .i64 (nodeErr l no tree)]]) ?_
       have he : (lookE l way no tree lo hi deep) = nodeErr l no tree := by unfold lookE; rw [if_neg (by rw [hh]; decide), if_neg (by omega), if_pos hne]
       exact .inl ⟨by rw [he]; exact hne, _, _, _, _, _, _, _, _, _, _, by rw [he], hB'5, hs3'1⟩
     have k2'2 := (u17.blkT (u16.blk ((k2.below n14.below).below n15.below) (Ne.symm (Ne.symm d14_b2))) k15 (by decide)).below (below_drew W17)
     have g2 := n2.ge n1.below
     refine ysv 0 k2'2 [.int .i64 0, .bool false, .slice none 0 0, .slice none 0 0] (.t w.heap.size [188, 43]) fun W20 u20 k20 => ⟨(sft_upd u20 k2'2 g2 (by decide)), ?_⟩
     have k17'2 := u20.blkT (k17.below (below_drew W17)) k2'2 (by decide)
     refine xlv (.o [] 1) k17'2.rp ?_
     have k3'2 := u20.blkT ((u17.blk (u16.blkT (k3.below n15.below) k14 (by decide)) (Ne.symm (Ne.symm d15_b3))).below (below_drew W17)) k2'2 (by decide)
     have g3 := n3.ge (Bl.next n1.below n2.below)
     refine ysv (.o [] 3) k3'2 [.slice a3 1 c3, .int .i64 (nodeErr l no tree)] (.t w.heap.size [188, 43]) fun W21 u21 k21 => ⟨(sft_upd u21 k3'2 g3 (by decide)), ?_⟩
     have hB'6 := u21.below (u20.below (Bl.next (u17.below (u16.below (Bl.next hB'4 n15.below) g14) g15) (below_drew W17)) g2) g3
     have hs3'2 := u21.own2 (u20.own2 (own_below (u17.own2 (u16.own2 (own_below (own_below (own_mono hs3 hs13) n14.below) n15.below) k14 (by decide)) k15 (by decide)) (below_drew W17)) k2'2 (by decide)) k3'2 (by decide)
     have k20'1 := u21.blkT k20 k3'2 (by decide)
     refine xecm 4 [(b2, [.int .i64 0, .bool false, .slice none 0 0, .slice none 0 0]), (b3, [.slice a3 1 c3, .int .i64 (nodeErr l no tree)])] ⟨⟨_, k20'1⟩, ⟨_, k21⟩, trivial⟩ (.tuple #[.agg #[.int .i64 0, .bool false, .slice none 0 0, .slice none 0 0], .agg #[.slice a3 1 c3, .int .i64 (nodeErr l no tree)]]) ?_
     have he : (lookE l way no tree lo hi deep) = nodeErr l no tree := by unfold lookE; rw [if_neg (by rw [hh]; decide), if_neg (by omega), if_pos hne]
     exact .inl ⟨by rw [he]; exact hne, _, _, _, _, _, _, _, _, _, _, by rw [he], hB'6, hs3'2⟩
   have k17'3 := k17.below (below_drew W17)
   refine xlv 0 k17'3.rp ?_
   have k16'2 := (u17.blkT k16 k15 (by decide)).below (below_drew W17)
   refine xlv (.o [] 0) k16'2.rp ?_
   have k2'3 := (u17.blkT (u16.blk ((k2.below n14.below).below n15.below) (Ne.symm (Ne.symm d14_b2))) k15 (by decide)).below (below_drew W17)
   have g2 := n2.ge n1.below
   refine ysv (.o [] 2) k2'3 [.int .i64 0, .bool false, .slice none 0 0, .slice none 0 0] (.t w.heap.size [188, 43]) fun W22 u22 k22 => ⟨(sft_upd u22 k2'3 g2 (by decide)), ?_⟩
   have k3'3 := u22.blkT ((u17.blk (u16.blkT (k3.below n15.below) k14 (by decide)) (Ne.symm (Ne.symm d15_b3))).below (below_drew W17)) k2'3 (by decide)
   have g3 := n3.ge (Bl.next n1.below n2.below)
   refine ysv (.o [] 3) k3'3 [.slice a3 1 c3, .int .i64 (nodeErr l no tree)] (.t w.heap.size [188, 43]) fun W23 u23 k23 => ⟨(sft_upd u23 k3'3 g3 (by decide)), ?_⟩
   have hB'7 := u23.below (u22.below (Bl.next (u17.below (u16.below (Bl.next hB'4 n15.below) g14) g15) (below_drew W17)) g2) g3
   have hs3'3 := u23.own2 (u22.own2 (own_below (u17.own2 (u16.own2 (own_below (own_below (own_mono hs3 hs13) n14.below) n15.below) k14 (by decide)) k15 (by decide)) (below_drew W17)) k2'3 (by decide)) k3'3 (by decide)
   have k22'1 := u23.blkT k22 k3'3 (by decide)
   refine xecm 4 [(b2, [.int .i64 0, .bool false, .slice none 0 0, .slice none 0 0]), (b3, [.slice a3 1 c3, .int .i64 (nodeErr l no tree)])] ⟨⟨_, k22'1⟩, ⟨_, k23⟩, trivial⟩ (.tuple #[.agg #[.int .i64 0, .bool false, .slice none 0 0, .slice none 0 0], .agg #[.slice a3 1 c3, .int .i64 (nodeErr l no tree)]]) ?_
   have he : (lookE l way no tree lo hi deep) = nodeErr l no tree := by unfold lookE; rw [if_neg (by rw [hh]; decide), if_neg (by omega), if_pos hne]
   exact .inl ⟨by rw [he]; exact hne, _, _, _, _, _, _, _, _, _, _, by rw [he], hB'7, hs3'3⟩
 have hs13 := (Bl.next hB hb4).size
 have hcn : nodC (inB l no) ≤ 18 := Nat.le_trans (node_shapeP (nodeE_shape (nodeTE_zero (nodeErr_TE hne).2))) (maxG_18 _ _)
 refine xa 3 [.int .i64 0, .bool false, .slice none 0 0, .slice none 0 0] 188 fun b24 W24 n24 => ?_
 have k2 := ((n2.blk.below n3.below).below hb4).below hb13
 have d24_b2 := n24.ne k2
 have hB'8 := Bl.next (Bl.next hB hb4) hb13
 have g24 := n24.ge hB'8
 refine xa 0 [.slice none 0 0, .int .i64 0] 43 fun b25 W25 n25 => ?_
 have k3 := ((n3.blk.below hb4).below hb13).below n24.below
 have d25_b3 := n25.ne k3
 have hB'9 := Bl.next hB'8 n24.below
 have g25 := n25.ge hB'9
 have k24 := n24.blk.below n25.below
 refine xsv 0 k24 [.int .i64 (nodT (inB l no)), .bool (nodL (inB l no)), .slice kp (nodC (inB l no)) kc, .slice vp (nodC (inB l no)) vc] fun W26 u26 k26 => ?_
 have k25 := u26.blkT n25.blk k24 (by decide)
 refine xsv 0 k25 [.slice none 0 0, .int .i64 0] fun W27 u27 k27 => ?_
 refine xb 6 1 k27 ?_
 have hk'1 := u27.own2 (u26.own2 (own_below (own_below (own_mono hk hs13) n24.below) n25.below) k24 (by decide)) k25 (by decide)
 have hv_'1 := u27.own2 (u26.own2 (own_below (own_below (own_mono hv_ hs13) n24.below) n25.below) k24 (by decide)) k25 (by decide)
 have hB'10 := u27.below (u26.below (Bl.next hB'9 n25.below) g24) g25
 have k1'3 := u27.blkT (u26.blkT (((k1'2.below hb13).below n24.below).below n25.below) k24 (by decide)) k25 (by decide)
 have k2'4 := u27.blkT (u26.blk ((k2.below n24.below).below n25.below) (Ne.symm (Ne.symm d24_b2))) k25 (by decide)
 have k3'4 := u27.blk (u26.blkT (k3.below n25.below) k24 (by decide)) (Ne.symm (Ne.symm d25_b3))
 have k26'1 := u27.blkT k26 k25 (by decide)
 refine zl 13 84 (fun zm zkv V => ∃ (i : Nat), zkv = [(3, .int .i64 deep), (5, .pointer (some ⟨b1, 0, none⟩)), (8, .pointer (some ⟨b2, 0, none⟩)), (9, .pointer (some ⟨b3, 0, none⟩)), (10, .pointer (some ⟨b24, 0, none⟩)), (12, .int .i64 (↑i : Int))] ∧ zm = nodC (inB l no) - ((↑i : Int)).toNat ∧ Below w.heap.size w V ∧ Blk V b1 ([.int .i64 no, .int .i64 lo, .int .i64 hi, .slice wa way.length wc, ft]) 184 ∧ Blk V b2 ([.int .i64 0, .bool false, .slice none 0 0, .slice none 0 0]) 188 ∧ Blk V b3 ([.slice none 0 0, .int .i64 0]) 43 ∧ Blk V b24 ([.int .i64 (nodT (inB l no)), .bool (nodL (inB l no)), .slice kp (nodC (inB l no)) kc, .slice vp (nodC (inB l no)) vc]) 188 ∧ Blk V b25 ([.slice none 0 0, .int .i64 0]) 43 ∧ V.ownsRow w.heap.size 3 1 (.slice kp (nodC (inB l no)) kc) (nodC (inB l no)) ((keysI (inB l no) (nodC (inB l no))).map (Value.int .i64)) ∧ V.ownsRow w.heap.size 9 1 (.slice vp (nodC (inB l no)) vc) (nodC (inB l no)) ((valsL (inB l no) (nodC (inB l no))).map sv) ∧ i ≤ nodC (inB l no) ∧ (∀ j, j < i → hasB lo hi ((nodK l no).getD j 0) = true)) ⟨0, rfl, rfl, hB'10, k1'3, k2'4, k3'4, k26'1, k27, hk'1, hv_'1, Nat.zero_le _, ?_⟩ ?_
 · exact fun j hj => absurd hj (by omega)
 rintro _ _ W28 ⟨i, rfl, rfl, hB_28, k28_b1, k28_b2, k28_b3, k28_b24, k28_b25, hk, hv_, hii, hall⟩ J28 hJ28 r28
 refine xb 5 2 k28_b24 ?_
 refine xid 4 ((↑i : Int) < (↑(nodC (inB l no)) : Int)) (fun hc29 => ?_) (fun hc29 => ?_)
 · refine xd 5 .z ?_
   have k28_b1'1 := k28_b1.below (below_drew W28)
   refine xlv (.e [0] 1) (k28_b1'1.rpp 1 2) ?_
   have k28_b24'1 := k28_b24.below (below_drew W28)
   refine xb (.e [2] 3) 2 k28_b24'1 ?_
   have hk'2 := own_below hk (below_drew W28)
   refine xx (.e [4] 5) _ (nodC (inB l no)) i 1 (IntsN.elem (l := (nodK l no)) (own_sl hk'2) (keysI_len _ _) (k := i) (by omega)).1 ?_
   refine xl (.e [] 6) ((IntsN.elem (l := (nodK l no)) (own_sl hk'2) (keysI_len _ _) (k := i) (by omega)).2) ?_
   refine xr (.o [] 7) (args := #[.agg #[.int .i64 lo, .int .i64 hi], .int .i64 ((nodK l no).getD i 0)]) (refspan_has lo hi ((nodK l no).getD i 0) _) fun W30 hb30 => ?_
   refine xi (.r [8] 2) (!(hasB lo hi ((nodK l no).getD i 0))) (fun hc31 => ?_) (fun hc31 => ?_)
   · have hna : hasB lo hi ((nodK l no).getD i 0) = false := by simpa using hc31
     refine xd 1 (.t w.heap.size [188, 43]) ?_
     have k28_b1'2 := (k28_b1'1.below hb30).below (below_drew W30)
     refine xbt (.e [1] 2) 0 w.heap.size [188, 43] k28_b1'2 ?_
     refine xm2 0 0 3 ?_ ?_
     · have k28_b24'2 := (k28_b24'1.below hb30).below (below_drew W30)
       refine xlv 0 k28_b24'2.rp ?_
       refine yc (.o [] 3) (args := #[.int .i64 no, .int .i64 9]) (.t w.heap.size [188, 43]) (ref11_AtN no 9 _ (by decide)) ?_
       rintro _ W32 ⟨_, rfl, hb32, a5, c5, rfl, hs5⟩
       have hs32 := (Bl.next (Bl.next (Bl.next hB_28 (below_drew W28)) hb30) (below_drew W30)).size
       refine ⟨(SF.of_below _ hb32), ?_⟩
       have k28_b2'1 := (((k28_b2.below (below_drew W28)).below hb30).below (below_drew W30)).below hb32
       have g2 := n2.ge n1.below
       refine ysv (.o [] 4) k28_b2'1 [.int .i64 (nodT (inB l no)), .bool (nodL (inB l no)), .slice kp (nodC (inB l no)) kc, .slice vp (nodC (inB l no)) vc] (.t w.heap.size [188, 43]) fun W33 u33 k33 => ⟨(sft_upd u33 k28_b2'1 g2 (by decide)), ?_⟩
       have k28_b3'1 := u33.blkT ((((k28_b3.below (below_drew W28)).below hb30).below (below_drew W30)).below hb32) k28_b2'1 (by decide)
       have g3 := n3.ge (Bl.next n1.below n2.below)
       refine ysv (.o [] 5) k28_b3'1 [.slice a5 1 c5, .int .i64 9] (.t w.heap.size [188, 43]) fun W34 u34 k34 => ⟨(sft_upd u34 k28_b3'1 g3 (by decide)), ?_⟩
       have hB'11 := u34.below (u33.below (Bl.next (Bl.next (Bl.next (Bl.next hB_28 (below_drew W28)) hb30) (below_drew W30)) hb32) g2) g3
       have hs5'3 := u34.own2 (u33.own2 (own_mono hs5 hs32) k28_b2'1 (by decide)) k28_b3'1 (by decide)
       have k33'1 := u34.blkT k33 k28_b3'1 (by decide)
       refine xecm 8 [(b2, [.int .i64 (nodT (inB l no)), .bool (nodL (inB l no)), .slice kp (nodC (inB l no)) kc, .slice vp (nodC (inB l no)) vc]), (b3, [.slice a5 1 c5, .int .i64 9])] ⟨⟨_, k33'1⟩, ⟨_, k34⟩, trivial⟩ (.tuple #[.agg #[.int .i64 (nodT (inB l no)), .bool (nodL (inB l no)), .slice kp (nodC (inB l no)) kc, .slice vp (nodC (inB l no)) vc], .agg #[.slice a5 1 c5, .int .i64 9]]) ?_
       have he : (lookE l way no tree lo hi deep) = 9 := by unfold lookE; rw [if_neg (by rw [hh]; decide), if_neg (by omega), if_neg (by rw [hne]; decide), if_pos (by have := nodK_out (i := i) (tree := tree) (by omega) hna; exact this)]
       exact .inl ⟨by rw [he]; decide, _, _, _, _, _, _, _, _, _, _, by rw [he], hB'11, hs5'3⟩
     refine yc 0 (args := #[.int .i64 no, .int .i64 9]) (.t w.heap.size [188, 43]) (ref11_AtN no 9 _ (by decide)) ?_
     rintro _ W35 ⟨_, rfl, hb35, a5, c5, rfl, hs5⟩
     have hs35 := (Bl.next (Bl.next (Bl.next hB_28 (below_drew W28)) hb30) (below_drew W30)).size
     refine ⟨(SF.of_below _ hb35), ?_⟩
     have k28_b24'3 := ((k28_b24'1.below hb30).below (below_drew W30)).below hb35
     refine xlv (.o [] 0) k28_b24'3.rp ?_
     have k28_b2'2 := (((k28_b2.below (below_drew W28)).below hb30).below (below_drew W30)).below hb35
     have g2 := n2.ge n1.below
     refine ysv (.o [] 4) k28_b2'2 [.int .i64 (nodT (inB l no)), .bool (nodL (inB l no)), .slice kp (nodC (inB l no)) kc, .slice vp (nodC (inB l no)) vc] (.t w.heap.size [188, 43]) fun W36 u36 k36 => ⟨(sft_upd u36 k28_b2'2 g2 (by decide)), ?_⟩
     have k28_b3'2 := u36.blkT ((((k28_b3.below (below_drew W28)).below hb30).below (below_drew W30)).below hb35) k28_b2'2 (by decide)
     have g3 := n3.ge (Bl.next n1.below n2.below)
     refine ysv (.o [] 5) k28_b3'2 [.slice a5 1 c5, .int .i64 9] (.t w.heap.size [188, 43]) fun W37 u37 k37 => ⟨(sft_upd u37 k28_b3'2 g3 (by decide)), ?_⟩
     have hB'12 := u37.below (u36.below (Bl.next (Bl.next (Bl.next (Bl.next hB_28 (below_drew W28)) hb30) (below_drew W30)) hb35) g2) g3
     have hs5'4 := u37.own2 (u36.own2 (own_mono hs5 hs35) k28_b2'2 (by decide)) k28_b3'2 (by decide)
     have k36'1 := u37.blkT k36 k28_b3'2 (by decide)
     refine xecm 8 [(b2, [.int .i64 (nodT (inB l no)), .bool (nodL (inB l no)), .slice kp (nodC (inB l no)) kc, .slice vp (nodC (inB l no)) vc]), (b3, [.slice a5 1 c5, .int .i64 9])] ⟨⟨_, k36'1⟩, ⟨_, k37⟩, trivial⟩ (.tuple #[.agg #[.int .i64 (nodT (inB l no)), .bool (nodL (inB l no)), .slice kp (nodC (inB l no)) kc, .slice vp (nodC (inB l no)) vc], .agg #[.slice a5 1 c5, .int .i64 9]]) ?_
     have he : (lookE l way no tree lo hi deep) = 9 := by unfold lookE; rw [if_neg (by rw [hh]; decide), if_neg (by omega), if_neg (by rw [hne]; decide), if_pos (by have := nodK_out (i := i) (tree := tree) (by omega) hna; exact this)]
     exact .inl ⟨by rw [he]; decide, _, _, _, _, _, _, _, _, _, _, by rw [he], hB'12, hs5'4⟩
   have hna : hasB lo hi ((nodK l no).getD i 0) = true := by simpa using hc31
   refine xwm 5 ((↑i : Int) + 1) (↑(i + 1) : Int) ?_
   have hB'13 := Bl.next (Bl.next hB_28 (below_drew W28)) hb30
   have k28_b1'3 := k28_b1'1.below hb30
   have k28_b2'3 := (k28_b2.below (below_drew W28)).below hb30
   have k28_b3'3 := (k28_b3.below (below_drew W28)).below hb30
   have k28_b24'4 := k28_b24'1.below hb30
   have k28_b25'1 := (k28_b25.below (below_drew W28)).below hb30
   have hk'3 := own_below hk'2 hb30
   have hv_'2 := own_below (own_below hv_ (below_drew W28)) hb30
   exact ze 2 (hJ28 _ _ _ ⟨i + 1, rfl, rfl, hB'13, k28_b1'3, k28_b2'3, k28_b3'3, k28_b24'4, k28_b25'1, hk'3, hv_'2, by omega, fun j hj => (Nat.lt_or_ge j i).elim (hall j) (fun q => by obtain rfl : j = i := (by omega); exact hna)⟩ (by omega))
 refine xb 9 1 k28_b24 ?_
 refine xg 1 [65, 66] (nodL (inB l no)) (fun hc38 => ?_) (fun hc38 => ?_)
 · refine xg 4 [68, 69, 70] (deep != (0 : Int)) (fun hc39 => ?_) (fun hc39 => ?_)
   · have hc39 := ne_of_bne hc39
     refine xb 1 3 k28_b1 ?_
     refine xwm 1 ((↑way.length : Int) + 1) (↑(way.length + 1) : Int) ?_
     refine xin 5 (↑(way.length + 1) : Int) deep (fun hc40 => ?_) (fun hc40 => ?_)
     · refine xd 1 (.t w.heap.size [188, 43]) ?_
       have k28_b1'4 := k28_b1.below (below_drew W28)
       refine xbt (.e [1] 2) 0 w.heap.size [188, 43] k28_b1'4 ?_
       refine xm2 0 0 3 ?_ ?_
       · have k28_b24'5 := k28_b24.below (below_drew W28)
         refine xlv 0 k28_b24'5.rp ?_
         refine yc (.o [] 3) (args := #[.int .i64 no, .int .i64 10]) (.t w.heap.size [188, 43]) (ref11_AtN no 10 _ (by decide)) ?_
         rintro _ W41 ⟨_, rfl, hb41, a5, c5, rfl, hs5⟩
         have hs41 := (Bl.next hB_28 (below_drew W28)).size
         refine ⟨(SF.of_below _ hb41), ?_⟩
         have k28_b2'4 := (k28_b2.below (below_drew W28)).below hb41
         have g2 := n2.ge n1.below
         refine ysv (.o [] 4) k28_b2'4 [.int .i64 (nodT (inB l no)), .bool (nodL (inB l no)), .slice kp (nodC (inB l no)) kc, .slice vp (nodC (inB l no)) vc] (.t w.heap.size [188, 43]) fun W42 u42 k42 => ⟨(sft_upd u42 k28_b2'4 g2 (by decide)), ?_⟩
         have k28_b3'4 := u42.blkT ((k28_b3.below (below_drew W28)).below hb41) k28_b2'4 (by decide)
         have g3 := n3.ge (Bl.next n1.below n2.below)
         refine ysv (.o [] 5) k28_b3'4 [.slice a5 1 c5, .int .i64 10] (.t w.heap.size [188, 43]) fun W43 u43 k43 => ⟨(sft_upd u43 k28_b3'4 g3 (by decide)), ?_⟩
         have hB'14 := u43.below (u42.below (Bl.next (Bl.next hB_28 (below_drew W28)) hb41) g2) g3
         have hs5'5 := u43.own2 (u42.own2 (own_mono hs5 hs41) k28_b2'4 (by decide)) k28_b3'4 (by decide)
         have k42'1 := u43.blkT k42 k28_b3'4 (by decide)
         refine xecm 4 [(b2, [.int .i64 (nodT (inB l no)), .bool (nodL (inB l no)), .slice kp (nodC (inB l no)) kc, .slice vp (nodC (inB l no)) vc]), (b3, [.slice a5 1 c5, .int .i64 10])] ⟨⟨_, k42'1⟩, ⟨_, k43⟩, trivial⟩ (.tuple #[.agg #[.int .i64 (nodT (inB l no)), .bool (nodL (inB l no)), .slice kp (nodC (inB l no)) kc, .slice vp (nodC (inB l no)) vc], .agg #[.slice a5 1 c5, .int .i64 10]]) ?_
         have he : (lookE l way no tree lo hi deep) = 10 := by unfold lookE; rw [if_neg (by rw [hh]; decide), if_neg (by omega), if_neg (by rw [hne]; decide), if_neg (by have := nodK_fits hne hr (fun j hj => hall j (by omega)); unfold nodK at this; rw [this]; decide), if_pos ⟨by assumption, by omega, by omega⟩]
         exact .inl ⟨by rw [he]; decide, _, _, _, _, _, _, _, _, _, _, by rw [he], hB'14, hs5'5⟩
       refine yc 0 (args := #[.int .i64 no, .int .i64 10]) (.t w.heap.size [188, 43]) (ref11_AtN no 10 _ (by decide)) ?_
       rintro _ W44 ⟨_, rfl, hb44, a5, c5, rfl, hs5⟩
       have hs44 := (Bl.next hB_28 (below_drew W28)).size
       refine ⟨(SF.of_below _ hb44), ?_⟩
       have k28_b24'6 := (k28_b24.below (below_drew W28)).below hb44
       refine xlv (.o [] 0) k28_b24'6.rp ?_
       have k28_b2'5 := (k28_b2.below (below_drew W28)).below hb44
       have g2 := n2.ge n1.below
       refine ysv (.o [] 4) k28_b2'5 [.int .i64 (nodT (inB l no)), .bool (nodL (inB l no)), .slice kp (nodC (inB l no)) kc, .slice vp (nodC (inB l no)) vc] (.t w.heap.size [188, 43]) fun W45 u45 k45 => ⟨(sft_upd u45 k28_b2'5 g2 (by decide)), ?_⟩
       have k28_b3'5 := u45.blkT ((k28_b3.below (below_drew W28)).below hb44) k28_b2'5 (by decide)
       have g3 := n3.ge (Bl.next n1.below n2.below)
       refine ysv (.o [] 5) k28_b3'5 [.slice a5 1 c5, .int .i64 10] (.t w.heap.size [188, 43]) fun W46 u46 k46 => ⟨(sft_upd u46 k28_b3'5 g3 (by decide)), ?_⟩
       have hB'15 := u46.below (u45.below (Bl.next (Bl.next hB_28 (below_drew W28)) hb44) g2) g3
       have hs5'6 := u46.own2 (u45.own2 (own_mono hs5 hs44) k28_b2'5 (by decide)) k28_b3'5 (by decide)
       have k45'1 := u46.blkT k45 k28_b3'5 (by decide)
       refine xecm 4 [(b2, [.int .i64 (nodT (inB l no)), .bool (nodL (inB l no)), .slice kp (nodC (inB l no)) kc, .slice vp (nodC (inB l no)) vc]), (b3, [.slice a5 1 c5, .int .i64 10])] ⟨⟨_, k45'1⟩, ⟨_, k46⟩, trivial⟩ (.tuple #[.agg #[.int .i64 (nodT (inB l no)), .bool (nodL (inB l no)), .slice kp (nodC (inB l no)) kc, .slice vp (nodC (inB l no)) vc], .agg #[.slice a5 1 c5, .int .i64 10]]) ?_
       have he : (lookE l way no tree lo hi deep) = 10 := by unfold lookE; rw [if_neg (by rw [hh]; decide), if_neg (by omega), if_neg (by rw [hne]; decide), if_neg (by have := nodK_fits hne hr (fun j hj => hall j (by omega)); unfold nodK at this; rw [this]; decide), if_pos ⟨by assumption, by omega, by omega⟩]
       exact .inl ⟨by rw [he]; decide, _, _, _, _, _, _, _, _, _, _, by rw [he], hB'15, hs5'6⟩
     refine xlv 4 k28_b24.rp ?_
     refine xsv 1 k28_b2 [.int .i64 (nodT (inB l no)), .bool (nodL (inB l no)), .slice kp (nodC (inB l no)) kc, .slice vp (nodC (inB l no)) vc] fun W47 u47 k47 => ?_
     have g2 := n2.ge n1.below
     have k28_b3'6 := u47.blkT k28_b3 k28_b2 (by decide)
     refine xsv 0 k28_b3'6 [.slice none 0 0, .int .i64 0] fun W48 u48 k48 => ?_
     have g3 := n3.ge (Bl.next n1.below n2.below)
     have hB'16 := u48.below (u47.below hB_28 g2) g3
     have hk'4 := u48.own2 (u47.own2 hk k28_b2 (by decide)) k28_b3'6 (by decide)
     have hv_'3 := u48.own2 (u47.own2 hv_ k28_b2 (by decide)) k28_b3'6 (by decide)
     have k47'1 := u48.blkT k47 k28_b3'6 (by decide)
     refine xecm 3 [(b2, [.int .i64 (nodT (inB l no)), .bool (nodL (inB l no)), .slice kp (nodC (inB l no)) kc, .slice vp (nodC (inB l no)) vc]), (b3, [.slice none 0 0, .int .i64 0])] ⟨⟨_, k47'1⟩, ⟨_, k48⟩, trivial⟩ (.tuple #[.agg #[.int .i64 (nodT (inB l no)), .bool (nodL (inB l no)), .slice kp (nodC (inB l no)) kc, .slice vp (nodC (inB l no)) vc], .agg #[.slice none 0 0, .int .i64 0]]) ?_
     have he : (lookE l way no tree lo hi deep) = 0 := by unfold lookE; rw [if_neg (by rw [hh]; decide), if_neg (by omega), if_neg (by rw [hne]; decide), if_neg (by have := nodK_fits hne hr (fun j hj => hall j (by omega)); unfold nodK at this; rw [this]; decide), if_neg]; rintro ⟨q1, q2, q3⟩; omega
     exact .inr ⟨he, _, _, _, _, rfl, hB'16, hk'4, hv_'3⟩
   have hc39 := eq_of_bne_false hc39
   refine xlv 14 k28_b24.rp ?_
   refine xsv 1 k28_b2 [.int .i64 (nodT (inB l no)), .bool (nodL (inB l no)), .slice kp (nodC (inB l no)) kc, .slice vp (nodC (inB l no)) vc] fun W49 u49 k49 => ?_
   have g2 := n2.ge n1.below
   have k28_b3'7 := u49.blkT k28_b3 k28_b2 (by decide)
   refine xsv 0 k28_b3'7 [.slice none 0 0, .int .i64 0] fun W50 u50 k50 => ?_
   have g3 := n3.ge (Bl.next n1.below n2.below)
   have hB'17 := u50.below (u49.below hB_28 g2) g3
   have hk'5 := u50.own2 (u49.own2 hk k28_b2 (by decide)) k28_b3'7 (by decide)
   have hv_'4 := u50.own2 (u49.own2 hv_ k28_b2 (by decide)) k28_b3'7 (by decide)
   have k49'1 := u50.blkT k49 k28_b3'7 (by decide)
   refine xecm 3 [(b2, [.int .i64 (nodT (inB l no)), .bool (nodL (inB l no)), .slice kp (nodC (inB l no)) kc, .slice vp (nodC (inB l no)) vc]), (b3, [.slice none 0 0, .int .i64 0])] ⟨⟨_, k49'1⟩, ⟨_, k50⟩, trivial⟩ (.tuple #[.agg #[.int .i64 (nodT (inB l no)), .bool (nodL (inB l no)), .slice kp (nodC (inB l no)) kc, .slice vp (nodC (inB l no)) vc], .agg #[.slice none 0 0, .int .i64 0]]) ?_
   have he : (lookE l way no tree lo hi deep) = 0 := by unfold lookE; rw [if_neg (by rw [hh]; decide), if_neg (by omega), if_neg (by rw [hne]; decide), if_neg (by have := nodK_fits hne hr (fun j hj => hall j (by omega)); unfold nodK at this; rw [this]; decide), if_neg]; rintro ⟨q1, q2, q3⟩; omega
   exact .inr ⟨he, _, _, _, _, rfl, hB'17, hk'5, hv_'4⟩
 refine xlv 18 k28_b24.rp ?_
 refine xsv 1 k28_b2 [.int .i64 (nodT (inB l no)), .bool (nodL (inB l no)), .slice kp (nodC (inB l no)) kc, .slice vp (nodC (inB l no)) vc] fun W51 u51 k51 => ?_
 have g2 := n2.ge n1.below
 have k28_b3'8 := u51.blkT k28_b3 k28_b2 (by decide)
 refine xsv 0 k28_b3'8 [.slice none 0 0, .int .i64 0] fun W52 u52 k52 => ?_
 have g3 := n3.ge (Bl.next n1.below n2.below)
 have hB'18 := u52.below (u51.below hB_28 g2) g3
 have hk'6 := u52.own2 (u51.own2 hk k28_b2 (by decide)) k28_b3'8 (by decide)
 have hv_'5 := u52.own2 (u51.own2 hv_ k28_b2 (by decide)) k28_b3'8 (by decide)
 have k51'1 := u52.blkT k51 k28_b3'8 (by decide)
 refine xecm 3 [(b2, [.int .i64 (nodT (inB l no)), .bool (nodL (inB l no)), .slice kp (nodC (inB l no)) kc, .slice vp (nodC (inB l no)) vc]), (b3, [.slice none 0 0, .int .i64 0])] ⟨⟨_, k51'1⟩, ⟨_, k52⟩, trivial⟩ (.tuple #[.agg #[.int .i64 (nodT (inB l no)), .bool (nodL (inB l no)), .slice kp (nodC (inB l no)) kc, .slice vp (nodC (inB l no)) vc], .agg #[.slice none 0 0, .int .i64 0]]) ?_
 have he : (lookE l way no tree lo hi deep) = 0 := by unfold lookE; rw [if_neg (by rw [hh]; decide), if_neg (by omega), if_neg (by rw [hne]; decide), if_neg (by have := nodK_fits hne hr (fun j hj => hall j (by omega)); unfold nodK at this; rw [this]; decide), if_neg]; rintro ⟨q1, q2, q3⟩; exact absurd q1 (by simp_all)
 exact .inr ⟨he, _, _, _, _, rfl, hB'18, hk'6, hv_'5⟩
end Go.Proofs.YthlakkdgcgkcdaaGreatDoor
namespace Go.Proofs.YthlakkdgcgkcdaaGreatDoor
open Go.RowKit Go.Extern.Stop Go.Stop Go.Extern
set_option linter.unusedVariables false
/-- a fault of the document's, and where its blocks lie -/
structure Ft where
  bl : List Int
  c : Int
  fa : Option Addr
  fc : Nat
def fltC (f : Ft) : List Value := [.slice f.fa f.bl.length f.fc, .int .i64 f.c]
theorem fltC_len (f : Ft) : (fltC f).length = 2 := rfl
def fltP (f : Ft) : List Int × Int := (f.bl, f.c)
def wtC (t : Wt) : List Value := [.int .i64 t.no, .int .i64 t.lo, .int .i64 t.hi, .slice t.wa t.way.length t.wc, .int .i64 t.ft]
theorem wtC_len (t : Wt) : (wtC t).length = 5 := rfl
/-- a row of numbers of the call's own -/
def IntsAt (B : Nat) (w : World) (a : Option Addr) (c : Nat) (l : List Int) : Prop := w.ownsRow B 3 1 (.slice a l.length c) l.length (l.map (Value.int .i64))
theorem IntsAt.below {B : Nat} {w W : World} {a : Option Addr} {c : Nat} {l : List Int} (h : IntsAt B w a c l) (hb : Below w.heap.size w W) : IntsAt B W a c l := own_below h hb
theorem IntsAt.only {B : Nat} {w W : World} {a : Option Addr} {c : Nat} {l : List Int} {T : List TypeId} (h : IntsAt B w a c l) (hO : Only T w W) (hT : T.contains 3 = false) : IntsAt B W a c l := own_only h hO hT
theorem IntsAt.mono {B B' : Nat} {w : World} {a : Option Addr} {c : Nat} {l : List Int} (h : IntsAt B w a c l) (hB : B' ≤ B) : IntsAt B' w a c l := own_mono h hB
theorem IntsAt.ints {B : Nat} {w : World} {a : Option Addr} {c : Nat} {l : List Int} (h : IntsAt B w a c l) : Ints w (.slice a l.length c) l := own_sl h
theorem own_size {w : World} {base e size n : Nat} {v : Value} {xs : List Value} (h : w.ownsRow base e size v n xs) (hn : 0 < n) : base ≤ w.heap.size := by
  rcases h.2 with ⟨_, h0⟩ | ⟨g, cap, cur, hv, hb, hh, _⟩
  · omega
  · have := (Array.getElem?_eq_some_iff.1 hh).1
    omega
abbrev RowK := List Int × Option Addr × Nat
def wayK (t : Wt) : RowK := (t.way, t.wa, t.wc)
def fltK (f : Ft) : RowK := (f.bl, f.fa, f.fc)
/-- rows of numbers that lie apart from a row u -/
def KeptI (B : Nat) (w : World) (u : Value) (L : List RowK) : Prop := ∀ x ∈ L, IntsAt B w x.2.1 x.2.2 x.1 ∧ Apart (.slice x.2.1 x.1.length x.2.2) u
theorem KeptI.below {B : Nat} {w W : World} {u : Value} {L : List RowK} (h : KeptI B w u L) (hb : Below w.heap.size w W) : KeptI B W u L := fun x hx => ⟨(h x hx).1.below hb, (h x hx).2⟩
theorem KeptI.only {B : Nat} {w W : World} {u : Value} {L : List RowK} {T : List TypeId} (h : KeptI B w u L) (hO : Only T w W) (hT : T.contains 3 = false) : KeptI B W u L := fun x hx => ⟨(h x hx).1.only hO hT, (h x hx).2⟩
theorem KeptI.grow {B base e size n : Nat} {w W : World} {u u' : Value} {xs : List Value} {L : List RowK} (h : KeptI B w u L) (k : w.ownsRow base e size u n xs) (hg : w.grownBy W u.ownBlock) (ha : u'.ownBlock = u.ownBlock ∨ u'.ownBlock = some w.heap.size) : KeptI B W u' L :=
  fun x hx => ⟨(h x hx).2.symm.row (h x hx).1 hg, ((h x hx).2.symm.grow (h x hx).1 ha).symm⟩
theorem KeptI.sub {B : Nat} {w : World} {u : Value} {L L' : List RowK} (h : KeptI B w u L) (hs : ∀ x ∈ L', x ∈ L) : KeptI B w u L' := fun x hx => h x (hs x hx)
theorem KeptI.snoc {B : Nat} {w : World} {u : Value} {L : List RowK} {x : RowK} (h : KeptI B w u L) (k : IntsAt B w x.2.1 x.2.2 x.1) (ha : Apart (.slice x.2.1 x.1.length x.2.2) u) : KeptI B w u (L ++ [x]) := fun y hy => by
  rcases List.mem_append.1 hy with hy | hy
  · exact h y hy
  · rw [List.mem_singleton.1 hy]; exact ⟨k, ha⟩
/-- the visits that wait, as a part of a row of the call's own -/
def SufV (B : Nat) (w : World) (a : Option Addr) (c : Nat) (ts : List Wt) : Prop := ∃ v0 n0 xs0, w.ownsRow B 184 5 v0 n0 xs0 ∧ ∀ W, W.ownsRow B 184 5 v0 n0 xs0 → Sts wtC W (.slice a ts.length c) ts
theorem SufV.below {B : Nat} {w W : World} {a : Option Addr} {c : Nat} {ts : List Wt} (h : SufV B w a c ts) (hb : Below w.heap.size w W) : SufV B W a c ts := by
  obtain ⟨v0, n0, xs0, h1, h2⟩ := h
  exact ⟨v0, n0, xs0, own_below h1 hb, h2⟩
theorem SufV.only {B : Nat} {w W : World} {a : Option Addr} {c : Nat} {ts : List Wt} {T : List TypeId} (h : SufV B w a c ts) (hO : Only T w W) (hT : T.contains 184 = false) : SufV B W a c ts := by
  obtain ⟨v0, n0, xs0, h1, h2⟩ := h
  exact ⟨v0, n0, xs0, own_only h1 hO hT, h2⟩
theorem SufV.sts {B : Nat} {w : World} {a : Option Addr} {c : Nat} {ts : List Wt} (h : SufV B w a c ts) : Sts wtC w (.slice a ts.length c) ts := by
  obtain ⟨v0, n0, xs0, h1, h2⟩ := h
  exact h2 w h1
theorem SufV.of {B : Nat} {w : World} {a : Option Addr} {n c : Nat} {ts : List Wt} (h : w.ownsRow B 184 5 (.slice a n c) n (ts.flatMap wtC)) (hn : n = ts.length) : SufV B w a c ts := by
  subst hn
  exact ⟨_, _, _, h, fun W k => own_sl k⟩
theorem SufV.tail {B : Nat} {w : World} {a : Option Addr} {c : Nat} {t : Wt} {ts : List Wt} (h : SufV B w a c (t :: ts)) : SufV B w (cutA a 1 c 5) (c - 1) ts := by
  obtain ⟨v0, n0, xs0, h1, h2⟩ := h
  exact ⟨v0, n0, xs0, h1, fun W k => Sts.cut wtC_len (h2 W k) 1 (by simp)⟩
theorem sts_eq {w : World} {a : Option Addr} {c : Nat} {ts us : List Wt} (h : Sts wtC w (.slice a ts.length c) ts) (e : ts = us) : Sts wtC w (.slice a us.length c) us := by subst e; exact h
/-- the look's two ways, with what lies apart from a row -/
theorem RLookP.or {base e size n : Nat} {u : Value} {xs : List Value} {l : List UInt8} {way : List Int} {no tree lo hi deep : Int} {w : World} {e' : Ending} {w' : World} (k : w.ownsRow base e size u n xs) (h : RLookP l way no tree lo hi deep w e' w') :
    (lookE l way no tree lo hi deep ≠ 0 ∧ ∃ a4 b4 k4 n4 c4 v4 m4 d4 a c, e' = .returned (.tuple #[.agg #[.int .i64 a4, .bool b4, .slice k4 n4 c4, .slice v4 m4 d4], .agg #[.slice a 1 c, .int .i64 (lookE l way no tree lo hi deep)]]) ∧ Below w.heap.size w w' ∧ IntsAt w.heap.size w' a c [no]) ∨
    (lookE l way no tree lo hi deep = 0 ∧ ∃ kp kc vp vc, e' = .returned (.tuple #[.agg #[.int .i64 (nodT (inB l no)), .bool (nodL (inB l no)), .slice kp (nodC (inB l no)) kc, .slice vp (nodC (inB l no)) vc], .agg #[.slice none 0 0, .int .i64 0]]) ∧ Below w.heap.size w w' ∧
      w'.ownsRow w.heap.size 3 1 (.slice kp (nodC (inB l no)) kc) (nodC (inB l no)) ((nodK l no).map (Value.int .i64)) ∧ Apart u (.slice kp (nodC (inB l no)) kc) ∧ w'.ownsRow w.heap.size 9 1 (.slice vp (nodC (inB l no)) vc) (nodC (inB l no)) ((nodV l no).map sv)) := by
  rcases h with ⟨h0, a4, b4, k4, n4, c4, v4, m4, d4, a, c, h1, h2, h3⟩ | ⟨h0, kp, kc, vp, vc, h1, h2, h3, h4⟩
  · exact .inl ⟨h0, a4, b4, k4, n4, c4, v4, m4, d4, a, c, h1, h2, h3⟩
  · exact .inr ⟨h0, kp, kc, vp, vc, h1, h2, h3, Apart.of_lt k h3 (Nat.le_refl _), h4⟩
theorem ref14_wrapK (wa : Option Addr) (wc : Nat) (way : List Int) (er : Int) (B : Nat) (a0 : Option Addr) (c0 : Nat) (no : Int) (w : World) (he : er ≠ 0) (hw : Ints w (.slice wa way.length wc) way) (hwl : way.length ≤ 100000) (h0 : IntsAt B w a0 c0 [no]) :
    Calls Tryz.prog 97 #[.slice wa way.length wc, .agg #[.slice a0 1 c0, .int .i64 er]] w (fun e w' => ∃ a c, e = .returned (.agg #[.slice a (way ++ [no]).length c, .int .i64 er]) ∧ Below w.heap.size w w' ∧ IntsAt B w' a c (way ++ [no])) := by
  refine (ref14_wrap B wa wc way er a0 1 c0 [no] w (own_size h0 (by simp)) he hw hwl rfl (by decide) h0).mono ?_
  rintro e W ⟨_, rfl, hb, a, n, c, rfl, hn, ho⟩
  obtain rfl : n = (way ++ [no]).length := by simp [hn]
  exact ⟨a, c, rfl, hb, ho⟩
theorem ref11_AtK (no er : Int) (w : World) (he : er ≠ 0) : Calls Tryz.prog 36 #[.int .i64 no, .int .i64 er] w (fun e w' => ∃ a c, e = .returned (.agg #[.slice a 1 c, .int .i64 er]) ∧ Below w.heap.size w w' ∧ IntsAt w.heap.size w' a c [no]) := by
  refine (ref11_AtN no er w he).mono ?_
  rintro e W ⟨_, rfl, hb, a, c, rfl, ho⟩
  exact ⟨a, c, rfl, hb, ho⟩
/-- what the document's scan hands back -/
def RScanP (S : WS) (w : World) (e : Ending) (w' : World) : Prop :=
  ∃ (pe pb pf : Option Addr) (ce cb cf : Nat) (fv : List Ft), e = .returned (.agg #[.slice pe S.es.length ce, .slice pb S.bs.length cb, .int .i64 S.deep, .int .i64 (S.looked : Int), .slice pf fv.length cf]) ∧ Below w.heap.size w w' ∧
    w'.ownsRow w.heap.size 77 3 (.slice pe S.es.length ce) S.es.length (S.es.flatMap entC) ∧ w'.ownsRow w.heap.size 3 1 (.slice pb S.bs.length cb) S.bs.length (S.bs.map (Value.int .i64)) ∧
    w'.ownsRow w.heap.size 43 2 (.slice pf fv.length cf) fv.length (fv.flatMap fltC) ∧ fv.map fltP = S.fs ∧ KeptI w.heap.size w' (.slice pb S.bs.length cb) (fv.map fltK)
/-- what is known of the visits that wait -/
structure WaitOk (l : List UInt8) (tree fuel : Int) (G : WS) (ts : List Wt) (s : WS) : Prop where
  dry : s.dry = false
  all : doneW l tree fuel ts s = G
  way : ∀ t ∈ ts, t.way.length ≤ 16
  right : ∀ t ∈ ts, t.ft = 0 → rightB t.lo t.hi = true
  few : ts.length + 20 * (fuel.toNat - s.looked) ≤ 20 * fuel.toNat + 1
theorem WaitOk.grow {l : List UInt8} {tree fuel : Int} {G : WS} {ts : List Wt} {s : WS} (h : WaitOk l tree fuel G ts s) : Grow s G := h.all ▸ doneW_grow l tree fuel ts s
theorem WaitOk.nil {l : List UInt8} {tree fuel : Int} {G : WS} {s : WS} (h : WaitOk l tree fuel G [] s) : G = s := h.all.symm
theorem WaitOk.fault {l : List UInt8} {tree fuel : Int} {G : WS} {t : Wt} {ts : List Wt} {s : WS} (h : WaitOk l tree fuel G (t :: ts) s) (hf : t.ft ≠ 0) : WaitOk l tree fuel G ts (noteW t.way [t.no] t.ft s) :=
  ⟨h.dry, by rw [← one_fault h.dry hf]; exact h.all, fun x hx => h.way x (List.mem_cons_of_mem _ hx), fun x hx => h.right x (List.mem_cons_of_mem _ hx), by have q := h.few; simp only [List.length_cons] at q; show ts.length + 20 * (fuel.toNat - s.looked) ≤ _; omega⟩
theorem WaitOk.fuel {l : List UInt8} {tree fuel : Int} {G : WS} {t : Wt} {ts : List Wt} {s : WS} (h : WaitOk l tree fuel G (t :: ts) s) (hf : t.ft = 0) (hs : fuel ≤ s.looked) : G = { noteW t.way [t.no] 12 s with dry := true } := by
  rw [← h.all, doneW_cons, one_fuel h.dry hf (h.way t List.mem_cons_self) hs, doneW_dry _ _ _ _ _ rfl]
theorem WaitOk.err {l : List UInt8} {tree fuel : Int} {G : WS} {t : Wt} {ts : List Wt} {s : WS} (h : WaitOk l tree fuel G (t :: ts) s) (hf : t.ft = 0) (hs : ¬ fuel ≤ s.looked) (he : lookE l t.way t.no tree t.lo t.hi s.deep ≠ 0) :
    WaitOk l tree fuel G ts (noteW t.way [t.no] (lookE l t.way t.no tree t.lo t.hi s.deep) { s with looked := s.looked + 1 }) :=
  ⟨h.dry, by rw [← one_err h.dry hf (h.way t List.mem_cons_self) hs he]; exact h.all, fun x hx => h.way x (List.mem_cons_of_mem _ hx), fun x hx => h.right x (List.mem_cons_of_mem _ hx), by have q := h.few; simp only [List.length_cons] at q; show ts.length + 20 * (fuel.toNat - (s.looked + 1)) ≤ _; omega⟩
theorem WaitOk.leaf {l : List UInt8} {tree fuel : Int} {G : WS} {t : Wt} {ts : List Wt} {s : WS} (h : WaitOk l tree fuel G (t :: ts) s) (hf : t.ft = 0) (hs : ¬ fuel ≤ s.looked) (he : lookE l t.way t.no tree t.lo t.hi s.deep = 0) (hl : nodL (inB l t.no) = true) :
    WaitOk l tree fuel G ts { s with looked := s.looked + 1, bs := s.bs ++ [t.no], deep := ((t.way.length + 1 : Nat) : Int), es := s.es ++ leafL (nodK l t.no) (nodV l t.no) t.no (nodC (inB l t.no)) } :=
  ⟨h.dry, by rw [← one_leaf h.dry hf hs he hl]; exact h.all, fun x hx => h.way x (List.mem_cons_of_mem _ hx), fun x hx => h.right x (List.mem_cons_of_mem _ hx), by have q := h.few; simp only [List.length_cons] at q; show ts.length + 20 * (fuel.toNat - (s.looked + 1)) ≤ _; omega⟩
theorem belowW_ok {l : List UInt8} {t : Wt} {p : Option Addr} {c i : Nat} (hw : t.way.length ≤ 15) (hf : fitsI t.lo t.hi (nodK l t.no) = 0) (hi : i < nodC (inB l t.no)) : (belowW l t p c i).way.length ≤ 16 ∧ ((belowW l t p c i).ft = 0 → rightB (belowW l t p c i).lo (belowW l t p c i).hi = true) := by
  unfold belowW
  split
  · exact ⟨by simp; omega, fun _ => part_right hf (by simp [nodK, keysI]; exact hi)⟩
  · rename_i h
    refine ⟨by show t.way.length ≤ 16; omega, fun q => ?_⟩
    dsimp only at q
    exact absurd q h
theorem WaitOk.inner {l : List UInt8} {tree fuel : Int} {G : WS} {t : Wt} {ts : List Wt} {s : WS} (p : Option Addr) (c : Nat) (h : WaitOk l tree fuel G (t :: ts) s) (hf : t.ft = 0) (hs : ¬ fuel ≤ s.looked) (he : lookE l t.way t.no tree t.lo t.hi s.deep = 0) (hl : nodL (inB l t.no) = false) :
    WaitOk l tree fuel G (belowL l t p c (nodC (inB l t.no)) ++ ts) { s with looked := s.looked + 1, bs := s.bs ++ [t.no] } := by
  have hw := look_deep he
  obtain ⟨hn, hfi, hc⟩ := look_node he
  have hb : ∀ x ∈ belowL l t p c (nodC (inB l t.no)), x.way.length ≤ 16 ∧ (x.ft = 0 → rightB x.lo x.hi = true) := by
    intro x hx
    obtain ⟨i, hi, rfl⟩ := List.mem_map.1 hx
    exact belowW_ok (by omega) hfi (List.mem_range.1 hi)
  refine ⟨h.dry, by rw [doneW_app, ← one_inner p c h.dry hf hs he hl]; exact h.all, fun x hx => ?_, fun x hx => ?_, ?_⟩
  · rcases List.mem_append.1 hx with hx | hx
    · exact (hb x hx).1
    · exact h.way x (List.mem_cons_of_mem _ hx)
  · rcases List.mem_append.1 hx with hx | hx
    · exact (hb x hx).2
    · exact h.right x (List.mem_cons_of_mem _ hx)
  · have q := h.few
    simp only [List.length_cons] at q
    rw [List.length_append, belowL_len]
    show nodC (inB l t.no) + ts.length + 20 * (fuel.toNat - (s.looked + 1)) ≤ _
    omega
theorem wait0 (l : List UInt8) (root tree fuel : Int) : WaitOk l tree fuel (scanW l root tree fuel) [⟨root, 0, 281474976710656, [], 0, none, 0⟩] ws0 :=
  ⟨rfl, by rw [doneW_cons, doneW_nil, one_visit (show ws0.dry = false from rfl) (show (0 : Int) = 0 from rfl)]; unfold scanW; rw [show 17 - ([] : List Int).length = 17 from rfl], fun t ht => by rw [List.mem_singleton.1 ht]; exact Nat.zero_le _, fun t ht _ => by rw [List.mem_singleton.1 ht]; rfl, by show 1 + 20 * (fuel.toNat - 0) ≤ 20 * fuel.toNat + 1; omega⟩
/-- the rows of the visits below, kept -/
theorem KeptI.below_visits {B : Nat} {w : World} {u : Value} {l : List UInt8} {t : Wt} {ts : List Wt} {fv : List Ft} {p : Option Addr} {c n : Nat} (h : KeptI B w u ((t :: ts).map wayK ++ fv.map fltK)) (k : IntsAt B w p c (t.way ++ [t.no])) (ha : Apart (.slice p (t.way ++ [t.no]).length c) u) :
    KeptI B w u ((belowL l t p c n ++ ts).map wayK ++ fv.map fltK) := by
  intro x hx
  rcases List.mem_append.1 hx with hx | hx
  · obtain ⟨y, hy, rfl⟩ := List.mem_map.1 hx
    rcases List.mem_append.1 hy with hy | hy
    · obtain ⟨i, _, rfl⟩ := List.mem_map.1 hy
      unfold belowW
      split
      · exact ⟨k, ha⟩
      · exact h (wayK t) (by simp)
    · exact h (wayK y) (List.mem_append.2 (.inl (List.mem_map.2 ⟨y, List.mem_cons_of_mem _ hy, rfl⟩)))
  · exact h x (List.mem_append.2 (.inr hx))
theorem KeptI.note {B : Nat} {w : World} {u : Value} {t : Wt} {ts : List Wt} {fv : List Ft} {f : Ft} (h : KeptI B w u ((t :: ts).map wayK ++ fv.map fltK)) (k : IntsAt B w f.fa f.fc f.bl) (ha : Apart (.slice f.fa f.bl.length f.fc) u) :
    KeptI B w u (ts.map wayK ++ (fv ++ [f]).map fltK) := by
  intro x hx
  rcases List.mem_append.1 hx with hx | hx
  · exact h x (List.mem_append.2 (.inl (by rw [List.map_cons]; exact List.mem_cons_of_mem _ hx)))
  · rw [List.map_append] at hx
    rcases List.mem_append.1 hx with hx | hx
    · exact h x (List.mem_append.2 (.inr hx))
    · rw [List.map_cons, List.map_nil, List.mem_singleton] at hx; rw [hx]; exact ⟨k, ha⟩
theorem KeptI.drop1 {B : Nat} {w : World} {u : Value} {t : Wt} {ts : List Wt} {fv : List Ft} (h : KeptI B w u ((t :: ts).map wayK ++ fv.map fltK)) : KeptI B w u (ts.map wayK ++ fv.map fltK) := h.sub fun x hx => by
  rcases List.mem_append.1 hx with hx | hx
  · exact List.mem_append.2 (.inl (by rw [List.map_cons]; exact List.mem_cons_of_mem _ hx))
  · exact List.mem_append.2 (.inr hx)
theorem map_fltP_snoc {fv : List Ft} {fs : List (List Int × Int)} {f : Ft} (h : fv.map fltP = fs) : (fv ++ [f]).map fltP = fs ++ [(f.bl, f.c)] := by rw [List.map_append, h]; rfl
theorem IntsAt.apart {B base e size n c : Nat} {w W : World} {u : Value} {xs : List Value} {a : Option Addr} {l : List Int} (q : IntsAt B W a c l) (k : w.ownsRow base e size u n xs) (h : w.heap.size ≤ B) : Apart (.slice a l.length c) u := (Apart.of_lt k q h).symm
theorem KeptI.hd {B : Nat} {w : World} {u : Value} {t : Wt} {ts : List Wt} {L : List RowK} (h : KeptI B w u ((t :: ts).map wayK ++ L)) : IntsAt B w t.wa t.wc t.way := (h (wayK t) (by simp)).1
/-- the visits that wait, their row ahead of block N -/
def SufN (B N : Nat) (w : World) (a : Option Addr) (c : Nat) (ts : List Wt) : Prop := ∃ v0 n0 xs0, w.ownsRow B 184 5 v0 n0 xs0 ∧ (∀ j, v0.ownBlock = some j → j < N) ∧ ∀ W, W.ownsRow B 184 5 v0 n0 xs0 → Sts wtC W (.slice a ts.length c) ts
theorem SufV.at_ {B : Nat} {w : World} {a : Option Addr} {c : Nat} {ts : List Wt} (h : SufV B w a c ts) : SufN B w.heap.size w a c ts := by
  obtain ⟨v0, n0, xs0, h1, h2⟩ := h
  exact ⟨v0, n0, xs0, h1, fun j hj => (h1.lt j hj).2, h2⟩
theorem SufN.un {B N : Nat} {w : World} {a : Option Addr} {c : Nat} {ts : List Wt} (h : SufN B N w a c ts) : SufV B w a c ts := by
  obtain ⟨v0, n0, xs0, h1, _, h2⟩ := h
  exact ⟨v0, n0, xs0, h1, h2⟩
theorem SufN.below {B N : Nat} {w W : World} {a : Option Addr} {c : Nat} {ts : List Wt} (h : SufN B N w a c ts) (hb : Below w.heap.size w W) : SufN B N W a c ts := by
  obtain ⟨v0, n0, xs0, h1, h3, h2⟩ := h
  exact ⟨v0, n0, xs0, own_below h1 hb, h3, h2⟩
theorem SufN.only {B N : Nat} {w W : World} {a : Option Addr} {c : Nat} {ts : List Wt} {T : List TypeId} (h : SufN B N w a c ts) (hO : Only T w W) (hT : T.contains 184 = false) : SufN B N W a c ts := by
  obtain ⟨v0, n0, xs0, h1, h3, h2⟩ := h
  exact ⟨v0, n0, xs0, own_only h1 hO hT, h3, h2⟩
theorem SufN.updN {B N : Nat} {w w0 W W2 : World} {b : Nat} {cs : List Value} {e : TypeId} {a : Option Addr} {c : Nat} {ts : List Wt} (h : SufN B N w a c ts) (u : Upd w b W) (n : New w0 b cs e W2) (hN : N = w0.heap.size) : SufN B N W a c ts := by
  obtain ⟨v0, n0, xs0, h1, h3, h2⟩ := h
  exact ⟨v0, n0, xs0, u.own3 h1 (fun j hj => by have := h3 j hj; have := n.at_; omega), h3, h2⟩
theorem SufN.sts {B N : Nat} {w : World} {a : Option Addr} {c : Nat} {ts us : List Wt} (h : SufN B N w a c ts) (e : ts = us) : Sts wtC w (.slice a us.length c) us := sts_eq h.un.sts e
theorem SufN.tail {B N : Nat} {w : World} {a : Option Addr} {c : Nat} {ts us : List Wt} {t : Wt} (h : SufN B N w a c ts) (e : ts = t :: us) : SufV B w (cutA a 1 c 5) (c - 1) us := by subst e; exact h.un.tail
theorem SufN.slN {B N : Nat} {w : World} {a : Option Addr} {c : Nat} {ts us : List Wt} {t : Wt} (h : SufN B N w a c ts) (e : ts = t :: us) : Sl w (.slice (cutA a 1 c 5) (ts.length - 1) (c - 1)) (ts.length - 1) (us.flatMap wtC) := by subst e; exact h.un.tail.sts
theorem wt_one (ts : List Wt) : ∀ u ∈ ts.flatMap wtC, u.oneCell' = true := by
  intro u hu
  obtain ⟨t, _, h⟩ := List.mem_flatMap.1 hu
  simp only [wtC, List.mem_cons, List.not_mem_nil, or_false] at h
  rcases h with rfl | rfl | rfl | rfl | rfl <;> rfl
end Go.Proofs.YthlakkdgcgkcdaaGreatDoor
namespace Go.Proofs.YthlakkdgcgkcdaaGreatDoor
open Go.RowKit Go.Extern.Stop Go.Stop Go.Extern
set_option linter.unusedVariables false
attribute [local irreducible] wpList wpAnyH Code.wp Oper.wp Go

set_option maxRecDepth 100000 in
set_option maxHeartbeats 16000000 in
theorem ref14_Scan (B bm : Nat) (p : Option Addr) (k c : Nat) (l : List UInt8) (root tree fuel : Int) (w : World) (hI : RefI B bm p k c l w) (hfu : fuel ≤ 1000) :
    Calls Tryz.prog 62 #[.pointer (some ⟨bm, 0, none⟩), .int .i64 root, .int .i64 tree, .int .i64 fuel] w (RScanP (scanW l root tree fuel) w) := by
 refine zin 186 Tryz.func62 ?_
 refine xa 2 [.slice none 0 0, .slice none 0 0, .int .i64 0, .int .i64 0, .slice none 0 0] 87 fun b1 W1 n1 => ?_
 refine xa 5 [.slice none 0 0, .slice none 0 0, .int .i64 0, .int .i64 0, .slice none 0 0] 87 fun b2 W2 n2 => ?_
 have d2_b1 := n2.ne n1.blk
 refine xsv 0 n2.blk [.slice none 0 0, .slice none 0 0, .int .i64 0, .int .i64 0, .slice none 0 0] fun W3 u3 k3 => ?_
 have g2 := n2.ge n1.below
 refine xbs 7 1 [.int .i64 root, .int .i64 0, .int .i64 281474976710656, .slice none 0 0, .int .i64 0] 184 fun b4 W4 n4 => ?_
 have g4 := n4.ge (u3.below (Bl.next n1.below n2.below) g2)
 have hw0 : SufV w.heap.size W4 (some ⟨b4, 0, none⟩) 1 [⟨root, 0, 281474976710656, [], 0, none, 0⟩] := SufV.of (own_of_blk (size := 5) (n := 1) n4.blk g4 rfl (by decide)) rfl
 have hI'1 := (((hI.below n1.below).below n2.below).only (Only.of_upd (T := [87]) u3 n2.blk (by decide)) (by decide)).below n4.below
 have hB := Bl.next (u3.below (Bl.next n1.below n2.below) g2) n4.below
 have k1'1 := (u3.blk (n1.blk.below n2.below) (Ne.symm (Ne.symm d2_b1))).below n4.below
 have k3'1 := k3.below n4.below
 refine zl 5 186 (fun zm zkv V => ∃ (s : WS) (ts : List Wt) (pe pb pf : Option Addr) (ce cb cf : Nat) (fv : List Ft) (aw : Option Addr) (cw : Nat), zkv = [(0, .pointer (some ⟨bm, 0, none⟩)), (2, .int .i64 tree), (3, .int .i64 fuel), (8, .pointer (some ⟨b1, 0, none⟩)), (9, .pointer (some ⟨b2, 0, none⟩)), (10, .slice aw ts.length cw)] ∧ zm = 20 * (fuel.toNat - s.looked) + ts.length ∧ Below w.heap.size w V ∧ Blk V b1 ([.slice none 0 0, .slice none 0 0, .int .i64 0, .int .i64 0, .slice none 0 0]) 87 ∧ Blk V b2 ([.slice pe s.es.length ce, .slice pb s.bs.length cb, .int .i64 s.deep, .int .i64 (↑s.looked : Int), .slice pf fv.length cf]) 87 ∧ V.ownsRow w.heap.size 77 3 (.slice pe s.es.length ce) s.es.length (s.es.flatMap entC) ∧ V.ownsRow w.heap.size 3 1 (.slice pb s.bs.length cb) s.bs.length (s.bs.map (Value.int .i64)) ∧ V.ownsRow w.heap.size 43 2 (.slice pf fv.length cf) fv.length (fv.flatMap fltC) ∧ SufV w.heap.size V aw cw ts ∧ KeptI w.heap.size V (.slice pb s.bs.length cb) (ts.map wayK ++ fv.map fltK) ∧ RefI B bm p k c l V ∧ WaitOk l tree fuel (scanW l root tree fuel) ts s ∧ fv.map fltP = s.fs) ⟨ws0, [⟨root, 0, 281474976710656, [], 0, none, 0⟩], none, none, none, 0, 0, 0, [], (some ⟨b4, 0, none⟩), 1, rfl, rfl, hB, k1'1, k3'1, World.ownsRow_nil _ _ _ _, World.ownsRow_nil _ _ _ _, World.ownsRow_nil _ _ _ _, hw0, (fun x hx => by rw [show x = wayK ⟨root, 0, 281474976710656, [], 0, none, 0⟩ from List.mem_singleton.1 hx]; exact ⟨World.ownsRow_nil _ _ _ _, Apart.nil _⟩), hI'1, wait0 l root tree fuel, rfl⟩ ?_
 rintro _ _ W5 ⟨s, ts, pe, pb, pf, ce, cb, cf, fv, aw, cw, rfl, rfl, hB_5, k5_b1, k5_b2, hEn, hBl, hFl, hWt, hKi, hI, hwo, hfv⟩ J5 hJ5 r5
 have hgr := hwo.grow
 obtain ⟨hfe, hfb, hff⟩ := scanW_few l root tree fuel hfu
 have hfl : fv.length = s.fs.length := by rw [← hfv]; simp
 have hg1 := hgr.1
 have hg2 := hgr.2.1
 have hg3 := hgr.2.2
 have hfew := hwo.few
 refine xid 8 ((↑ts.length : Int) > (0 : Int)) (fun hc6 => ?_) (fun hc6 => ?_)
 · obtain ⟨t, r, htr⟩ : ∃ t r, ts = t :: r := by
     cases ts with
     | nil => simp at hc6
     | cons t r => exact ⟨t, r, rfl⟩
   have hwo1 : WaitOk l tree fuel (scanW l root tree fuel) (t :: r) s := htr ▸ hwo
   have hwl : t.way.length ≤ 16 := hwo1.way t List.mem_cons_self
   have htl : ts.length = r.length + 1 := by rw [htr]; rfl
   have hWs := SufV.at_ hWt
   have hKt : KeptI w.heap.size W5 (.slice pb s.bs.length cb) ((t :: r).map wayK ++ fv.map fltK) := by rw [← htr]; exact hKi
   refine xx 6 _ ts.length 0 5 (Sts.cell (hWs.sts htr) wtC_len t (k := 0) (i := 0) (by simp) rfl).1 ?_
   refine xlv 0 (Sts.rp (k := 0) (hWs.sts htr) wtC_len t (by simp) (by decide)) ?_
   refine xa 0 [.int .i64 0, .int .i64 0, .int .i64 0, .slice none 0 0, .int .i64 0] 184 fun b7 W7 n7 => ?_
   have g7 := n7.ge hB_5
   refine xsv 0 n7.blk [.int .i64 t.no, .int .i64 t.lo, .int .i64 t.hi, .slice t.wa t.way.length t.wc, .int .i64 t.ft] fun W8 u8 k8 => ?_
   refine xsL 5 (fun _ _ _ _ zo zx zy V => run_sliceLA (k := 1) (b := aw) (n := ts.length) (c := cw) (i := 1) (ki := .i64) 5 zo zx zy rfl (by omega) Tryz.underlying185 (by kernel_rfl) V) ?_
   refine xb 7 4 k8 ?_
   refine xin 3 t.ft (0 : Int) (fun hc9 => ?_) (fun hc9 => ?_)
   · have hft := hc9
     refine xd 1 (.t w.heap.size [43, 87]) ?_
     have k8'1 := k8.below (below_drew W8)
     refine xbt (.e [0, 2] 3) 3 w.heap.size [43, 87] k8'1 ?_
     refine xbt (.e [4] 5) 0 w.heap.size [43, 87] k8'1 ?_
     refine xbt (.e [6] 7) 4 w.heap.size [43, 87] k8'1 ?_
     refine xm2 0 1 8 ?_ ?_
     · have k5_b2'1 := (u8.blkT (k5_b2.below n7.below) n7.blk (by decide)).below (below_drew W8)
       refine xb 0 4 k5_b2'1 ?_
       have hBl'1 := own_below (u8.own2 (own_below hBl n7.below) n7.blk (by decide)) (below_drew W8)
       have hB'1 := Bl.next (u8.below (Bl.next hB_5 n7.below) g7) (below_drew W8)
       have hBlA := hBl'1
       have hszA := hB'1.size
       refine yc (.o [] 8) (args := #[.int .i64 t.no, .int .i64 t.ft]) (.t w.heap.size [43, 87]) (ref11_AtK t.no t.ft _ hft) ?_
       rintro _ W10 ⟨fa, fc, rfl, hb10, hNA⟩
       refine ⟨(SF.of_below _ hb10), ?_⟩
       have hKt'1 := (((hKt.below n7.below).only (Only.of_upd (T := [184]) u8 n7.blk (by decide)) (by decide)).below (below_drew W8)).below hb10
       refine yc (.o [] 9) (args := #[.slice t.wa t.way.length t.wc, .agg #[.slice fa 1 fc, .int .i64 t.ft]]) (.t w.heap.size [43, 87]) (ref14_wrapK t.wa t.wc t.way t.ft _ fa fc t.no _ hft (KeptI.hd hKt'1).ints (by omega) hNA) ?_
       rintro _ W11 ⟨fa2, fc2, rfl, hb11, hNB⟩
       refine ⟨(SF.of_below _ hb11), ?_⟩
       have hNp := hNB.apart hBlA (Nat.le_refl _)
       refine xbs (.o [] 10) 1 [.slice fa2 ((t.way ++ [t.no]).length) fc2, .int .i64 t.ft] 43 fun b12 W12 n12 => ?_
       have hB'2 := Bl.next (Bl.next hB'1 hb10) hb11
       have g12 := n12.ge hB'2
       have hFl'1 := own_below (own_below (own_below (u8.own2 (own_below hFl n7.below) n7.blk (by decide)) (below_drew W8)) hb10) hb11
       have r12_hFl := own_ne hFl'1 n12
       have hFl'2 := own_below hFl'1 n12.below
       have hB'3 := Bl.next hB'2 n12.below
       refine ybi (.o [] 11) (.t w.heap.size [43, 87]) fun _ _ _ _ zJ zQ zo zx zy zK => op_app (m := 1) (news := [.slice fa2 ((t.way ++ [t.no]).length) fc2, .int .i64 t.ft]) (.agg #[.slice none 0 0, .int .i64 0]) 2 32 ((fv ++ [(Ft.mk (t.way ++ [t.no]) t.ft fa2 fc2)]).length) (((fv ++ [(Ft.mk (t.way ++ [t.no]) t.ft fa2 fc2)]).flatMap fltC)) zo Tryz.underlying85 (by kernel_rfl) rfl (by decide) zx hFl'2 zy (n12.blk.sl 1 1 (by decide) (by decide)) rfl (by simp [Value.oneCell']) (by unfold maxLen; omega) (by omega) hB'3.size (by simp) (by rw [List.flatMap_append]; rfl) fun px13 cx13 W13 o13 hg13 hb13 => ?_
       refine zK _ _ (sft_grown hb13 hg13 hFl'2 (by decide)) ?_
       have k5_b2'2 := (((k5_b2'1.below hb10).below hb11).below n12.below).grown hg13 hFl'2 (by decide)
       refine ys (.o [12] 13) k5_b2'2 [.slice pe s.es.length ce, .slice pb s.bs.length cb, .int .i64 s.deep, .int .i64 (↑s.looked : Int), .slice px13 ((fv ++ [(Ft.mk (t.way ++ [t.no]) t.ft fa2 fc2)]).length) cx13] (.t w.heap.size [43, 87]) fun W14 u14 k14 => ⟨(sft_upd u14 k5_b2'2 g2 (by decide)), ?_⟩
       refine xv1 5 10 (show (.slice (cutA aw 1 cw 5) (ts.length - 1) (cw - 1) : Value) = .slice (cutA aw 1 cw 5) r.length (cw - 1) from by rw [htr]; rfl) ?_
       have hWs'1 := (((((((hWs.below n7.below).updN u8 n7 rfl).below (below_drew W8)).below hb10).below hb11).below n12.below).only (Only.of_grown (T := [43]) hg13 hFl'2 (by decide)) (by decide)).only (Only.of_upd (T := [87]) u14 k5_b2'2 (by decide)) (by decide)
       have hKt'2 := (((hKt'1.below hb11).below n12.below).only (Only.of_grown (T := [43]) hg13 hFl'2 (by decide)) (by decide)).only (Only.of_upd (T := [87]) u14 k5_b2'2 (by decide)) (by decide)
       have hNB'1 := ((hNB.below n12.below).only (Only.of_grown (T := [43]) hg13 hFl'2 (by decide)) (by decide)).only (Only.of_upd (T := [87]) u14 k5_b2'2 (by decide)) (by decide)
       have hB'4 := u14.below (hB'3.trans hb13) g2
       have k5_b1'1 := u14.blk ((((((u8.blkT (k5_b1.below n7.below) n7.blk (by decide)).below (below_drew W8)).below hb10).below hb11).below n12.below).grown hg13 hFl'2 (by decide)) (Ne.symm (Ne.symm d2_b1))
       have hEn'1 := u14.own2 (own_grown (own_below (own_below (own_below (own_below (u8.own2 (own_below hEn n7.below) n7.blk (by decide)) (below_drew W8)) hb10) hb11) n12.below) hg13 hFl'2 (by decide)) k5_b2'2 (by decide)
       have hBl'2 := u14.own2 (own_grown (own_below (own_below (own_below hBl'1 hb10) hb11) n12.below) hg13 hFl'2 (by decide)) k5_b2'2 (by decide)
       have o13'1 := u14.own2 o13 k5_b2'2 (by decide)
       have hI'2 := (((((((hI.below n7.below).only (Only.of_upd (T := [184]) u8 n7.blk (by decide)) (by decide)).below (below_drew W8)).below hb10).below hb11).below n12.below).only (Only.of_grown (T := [43]) hg13 hFl'2 (by decide)) (by decide)).only (Only.of_upd (T := [87]) u14 k5_b2'2 (by decide)) (by decide)
       refine ze 0 (hJ5 _ _ _ ⟨(noteW t.way [t.no] t.ft s), r, pe, pb, px13, ce, cb, cx13, (fv ++ [(Ft.mk (t.way ++ [t.no]) t.ft fa2 fc2)]), (cutA aw 1 cw 5), (cw - 1), rfl, rfl, hB'4, k5_b1'1, k14, hEn'1, hBl'2, o13'1, (SufN.tail hWs'1 htr), (KeptI.note (f := (Ft.mk (t.way ++ [t.no]) t.ft fa2 fc2)) hKt'2 (hNB'1.mono hszA) hNp), hI'2, hwo1.fault hft, map_fltP_snoc hfv⟩ ?_)
       show 20 * (fuel.toNat - s.looked) + r.length < 20 * (fuel.toNat - s.looked) + ts.length
       omega
     have hBl'3 := own_below (u8.own2 (own_below hBl n7.below) n7.blk (by decide)) (below_drew W8)
     have hB'5 := Bl.next (u8.below (Bl.next hB_5 n7.below) g7) (below_drew W8)
     have hBlA := hBl'3
     have hszA := hB'5.size
     refine yc 0 (args := #[.int .i64 t.no, .int .i64 t.ft]) (.t w.heap.size [43, 87]) (ref11_AtK t.no t.ft _ hft) ?_
     rintro _ W15 ⟨fa, fc, rfl, hb15, hNA⟩
     refine ⟨(SF.of_below _ hb15), ?_⟩
     refine xm2 0 1 9 ?_ ?_
     · have k5_b2'3 := ((u8.blkT (k5_b2.below n7.below) n7.blk (by decide)).below (below_drew W8)).below hb15
       refine xb 0 4 k5_b2'3 ?_
       have hKt'3 := (((hKt.below n7.below).only (Only.of_upd (T := [184]) u8 n7.blk (by decide)) (by decide)).below (below_drew W8)).below hb15
       refine yc (.o [] 9) (args := #[.slice t.wa t.way.length t.wc, .agg #[.slice fa 1 fc, .int .i64 t.ft]]) (.t w.heap.size [43, 87]) (ref14_wrapK t.wa t.wc t.way t.ft _ fa fc t.no _ hft (KeptI.hd hKt'3).ints (by omega) hNA) ?_
       rintro _ W16 ⟨fa2, fc2, rfl, hb16, hNB⟩
       refine ⟨(SF.of_below _ hb16), ?_⟩
       have hNp := hNB.apart hBlA (Nat.le_refl _)
       refine xbs (.o [] 10) 1 [.slice fa2 ((t.way ++ [t.no]).length) fc2, .int .i64 t.ft] 43 fun b17 W17 n17 => ?_
       have hB'6 := Bl.next (Bl.next hB'5 hb15) hb16
       have g17 := n17.ge hB'6
       have hFl'3 := own_below (own_below (own_below (u8.own2 (own_below hFl n7.below) n7.blk (by decide)) (below_drew W8)) hb15) hb16
       have r17_hFl := own_ne hFl'3 n17
       have hFl'4 := own_below hFl'3 n17.below
       have hB'7 := Bl.next hB'6 n17.below
       refine ybi (.o [] 11) (.t w.heap.size [43, 87]) fun _ _ _ _ zJ zQ zo zx zy zK => op_app (m := 1) (news := [.slice fa2 ((t.way ++ [t.no]).length) fc2, .int .i64 t.ft]) (.agg #[.slice none 0 0, .int .i64 0]) 2 32 ((fv ++ [(Ft.mk (t.way ++ [t.no]) t.ft fa2 fc2)]).length) (((fv ++ [(Ft.mk (t.way ++ [t.no]) t.ft fa2 fc2)]).flatMap fltC)) zo Tryz.underlying85 (by kernel_rfl) rfl (by decide) zx hFl'4 zy (n17.blk.sl 1 1 (by decide) (by decide)) rfl (by simp [Value.oneCell']) (by unfold maxLen; omega) (by omega) hB'7.size (by simp) (by rw [List.flatMap_append]; rfl) fun px18 cx18 W18 o18 hg18 hb18 => ?_
       refine zK _ _ (sft_grown hb18 hg18 hFl'4 (by decide)) ?_
       have k5_b2'4 := ((k5_b2'3.below hb16).below n17.below).grown hg18 hFl'4 (by decide)
       refine ys (.o [12] 13) k5_b2'4 [.slice pe s.es.length ce, .slice pb s.bs.length cb, .int .i64 s.deep, .int .i64 (↑s.looked : Int), .slice px18 ((fv ++ [(Ft.mk (t.way ++ [t.no]) t.ft fa2 fc2)]).length) cx18] (.t w.heap.size [43, 87]) fun W19 u19 k19 => ⟨(sft_upd u19 k5_b2'4 g2 (by decide)), ?_⟩
       refine xv1 5 10 (show (.slice (cutA aw 1 cw 5) (ts.length - 1) (cw - 1) : Value) = .slice (cutA aw 1 cw 5) r.length (cw - 1) from by rw [htr]; rfl) ?_
       have hWs'2 := (((((((hWs.below n7.below).updN u8 n7 rfl).below (below_drew W8)).below hb15).below hb16).below n17.below).only (Only.of_grown (T := [43]) hg18 hFl'4 (by decide)) (by decide)).only (Only.of_upd (T := [87]) u19 k5_b2'4 (by decide)) (by decide)
       have hKt'4 := (((hKt'3.below hb16).below n17.below).only (Only.of_grown (T := [43]) hg18 hFl'4 (by decide)) (by decide)).only (Only.of_upd (T := [87]) u19 k5_b2'4 (by decide)) (by decide)
       have hNB'2 := ((hNB.below n17.below).only (Only.of_grown (T := [43]) hg18 hFl'4 (by decide)) (by decide)).only (Only.of_upd (T := [87]) u19 k5_b2'4 (by decide)) (by decide)
       have hB'8 := u19.below (hB'7.trans hb18) g2
       have k5_b1'2 := u19.blk ((((((u8.blkT (k5_b1.below n7.below) n7.blk (by decide)).below (below_drew W8)).below hb15).below hb16).below n17.below).grown hg18 hFl'4 (by decide)) (Ne.symm (Ne.symm d2_b1))
       have hEn'2 := u19.own2 (own_grown (own_below (own_below (own_below (own_below (u8.own2 (own_below hEn n7.below) n7.blk (by decide)) (below_drew W8)) hb15) hb16) n17.below) hg18 hFl'4 (by decide)) k5_b2'4 (by decide)
       have hBl'4 := u19.own2 (own_grown (own_below (own_below (own_below hBl'3 hb15) hb16) n17.below) hg18 hFl'4 (by decide)) k5_b2'4 (by decide)
       have o18'1 := u19.own2 o18 k5_b2'4 (by decide)
       have hI'3 := (((((((hI.below n7.below).only (Only.of_upd (T := [184]) u8 n7.blk (by decide)) (by decide)).below (below_drew W8)).below hb15).below hb16).below n17.below).only (Only.of_grown (T := [43]) hg18 hFl'4 (by decide)) (by decide)).only (Only.of_upd (T := [87]) u19 k5_b2'4 (by decide)) (by decide)
       refine ze 0 (hJ5 _ _ _ ⟨(noteW t.way [t.no] t.ft s), r, pe, pb, px18, ce, cb, cx18, (fv ++ [(Ft.mk (t.way ++ [t.no]) t.ft fa2 fc2)]), (cutA aw 1 cw 5), (cw - 1), rfl, rfl, hB'8, k5_b1'2, k19, hEn'2, hBl'4, o18'1, (SufN.tail hWs'2 htr), (KeptI.note (f := (Ft.mk (t.way ++ [t.no]) t.ft fa2 fc2)) hKt'4 (hNB'2.mono hszA) hNp), hI'3, hwo1.fault hft, map_fltP_snoc hfv⟩ ?_)
       show 20 * (fuel.toNat - s.looked) + r.length < 20 * (fuel.toNat - s.looked) + ts.length
       omega
     have hKt'5 := (((hKt.below n7.below).only (Only.of_upd (T := [184]) u8 n7.blk (by decide)) (by decide)).below (below_drew W8)).below hb15
     refine yc 0 (args := #[.slice t.wa t.way.length t.wc, .agg #[.slice fa 1 fc, .int .i64 t.ft]]) (.t w.heap.size [43, 87]) (ref14_wrapK t.wa t.wc t.way t.ft _ fa fc t.no _ hft (KeptI.hd hKt'5).ints (by omega) hNA) ?_
     rintro _ W20 ⟨fa2, fc2, rfl, hb20, hNB⟩
     refine ⟨(SF.of_below _ hb20), ?_⟩
     have hNp := hNB.apart hBlA (Nat.le_refl _)
     refine xm2 0 1 10 ?_ ?_
     · have k5_b2'5 := (((u8.blkT (k5_b2.below n7.below) n7.blk (by decide)).below (below_drew W8)).below hb15).below hb20
       refine xb 0 4 k5_b2'5 ?_
       refine xbs (.o [] 10) 1 [.slice fa2 ((t.way ++ [t.no]).length) fc2, .int .i64 t.ft] 43 fun b21 W21 n21 => ?_
       have hB'9 := Bl.next (Bl.next hB'5 hb15) hb20
       have g21 := n21.ge hB'9
       have hFl'5 := own_below (own_below (own_below (u8.own2 (own_below hFl n7.below) n7.blk (by decide)) (below_drew W8)) hb15) hb20
       have r21_hFl := own_ne hFl'5 n21
       have hFl'6 := own_below hFl'5 n21.below
       have hB'10 := Bl.next hB'9 n21.below
       refine ybi (.o [] 11) (.t w.heap.size [43, 87]) fun _ _ _ _ zJ zQ zo zx zy zK => op_app (m := 1) (news := [.slice fa2 ((t.way ++ [t.no]).length) fc2, .int .i64 t.ft]) (.agg #[.slice none 0 0, .int .i64 0]) 2 32 ((fv ++ [(Ft.mk (t.way ++ [t.no]) t.ft fa2 fc2)]).length) (((fv ++ [(Ft.mk (t.way ++ [t.no]) t.ft fa2 fc2)]).flatMap fltC)) zo Tryz.underlying85 (by kernel_rfl) rfl (by decide) zx hFl'6 zy (n21.blk.sl 1 1 (by decide) (by decide)) rfl (by simp [Value.oneCell']) (by unfold maxLen; omega) (by omega) hB'10.size (by simp) (by rw [List.flatMap_append]; rfl) fun px22 cx22 W22 o22 hg22 hb22 => ?_
       refine zK _ _ (sft_grown hb22 hg22 hFl'6 (by decide)) ?_
       have k5_b2'6 := (k5_b2'5.below n21.below).grown hg22 hFl'6 (by decide)
       refine ys (.o [12] 13) k5_b2'6 [.slice pe s.es.length ce, .slice pb s.bs.length cb, .int .i64 s.deep, .int .i64 (↑s.looked : Int), .slice px22 ((fv ++ [(Ft.mk (t.way ++ [t.no]) t.ft fa2 fc2)]).length) cx22] (.t w.heap.size [43, 87]) fun W23 u23 k23 => ⟨(sft_upd u23 k5_b2'6 g2 (by decide)), ?_⟩
       refine xv1 5 10 (show (.slice (cutA aw 1 cw 5) (ts.length - 1) (cw - 1) : Value) = .slice (cutA aw 1 cw 5) r.length (cw - 1) from by rw [htr]; rfl) ?_
       have hWs'3 := (((((((hWs.below n7.below).updN u8 n7 rfl).below (below_drew W8)).below hb15).below hb20).below n21.below).only (Only.of_grown (T := [43]) hg22 hFl'6 (by decide)) (by decide)).only (Only.of_upd (T := [87]) u23 k5_b2'6 (by decide)) (by decide)
       have hKt'6 := (((hKt'5.below hb20).below n21.below).only (Only.of_grown (T := [43]) hg22 hFl'6 (by decide)) (by decide)).only (Only.of_upd (T := [87]) u23 k5_b2'6 (by decide)) (by decide)
       have hNB'3 := ((hNB.below n21.below).only (Only.of_grown (T := [43]) hg22 hFl'6 (by decide)) (by decide)).only (Only.of_upd (T := [87]) u23 k5_b2'6 (by decide)) (by decide)
       have hB'11 := u23.below (hB'10.trans hb22) g2
       have k5_b1'3 := u23.blk ((((((u8.blkT (k5_b1.below n7.below) n7.blk (by decide)).below (below_drew W8)).below hb15).below hb20).below n21.below).grown hg22 hFl'6 (by decide)) (Ne.symm (Ne.symm d2_b1))
       have hEn'3 := u23.own2 (own_grown (own_below (own_below (own_below (own_below (u8.own2 (own_below hEn n7.below) n7.blk (by decide)) (below_drew W8)) hb15) hb20) n21.below) hg22 hFl'6 (by decide)) k5_b2'6 (by decide)
       have hBl'5 := u23.own2 (own_grown (own_below (own_below (own_below hBl'3 hb15) hb20) n21.below) hg22 hFl'6 (by decide)) k5_b2'6 (by decide)
       have o22'1 := u23.own2 o22 k5_b2'6 (by decide)
       have hI'4 := (((((((hI.below n7.below).only (Only.of_upd (T := [184]) u8 n7.blk (by decide)) (by decide)).below (below_drew W8)).below hb15).below hb20).below n21.below).only (Only.of_grown (T := [43]) hg22 hFl'6 (by decide)) (by decide)).only (Only.of_upd (T := [87]) u23 k5_b2'6 (by decide)) (by decide)
       refine ze 0 (hJ5 _ _ _ ⟨(noteW t.way [t.no] t.ft s), r, pe, pb, px22, ce, cb, cx22, (fv ++ [(Ft.mk (t.way ++ [t.no]) t.ft fa2 fc2)]), (cutA aw 1 cw 5), (cw - 1), rfl, rfl, hB'11, k5_b1'3, k23, hEn'3, hBl'5, o22'1, (SufN.tail hWs'3 htr), (KeptI.note (f := (Ft.mk (t.way ++ [t.no]) t.ft fa2 fc2)) hKt'6 (hNB'3.mono hszA) hNp), hI'4, hwo1.fault hft, map_fltP_snoc hfv⟩ ?_)
       show 20 * (fuel.toNat - s.looked) + r.length < 20 * (fuel.toNat - s.looked) + ts.length
       omega
     refine xbs 0 1 [.slice fa2 ((t.way ++ [t.no]).length) fc2, .int .i64 t.ft] 43 fun b24 W24 n24 => ?_
     have hB'12 := Bl.next (Bl.next hB'5 hb15) hb20
     have g24 := n24.ge hB'12
     have hFl'7 := own_below (own_below (own_below (u8.own2 (own_below hFl n7.below) n7.blk (by decide)) (below_drew W8)) hb15) hb20
     have r24_hFl := own_ne hFl'7 n24
     have k5_b2'7 := ((((u8.blkT (k5_b2.below n7.below) n7.blk (by decide)).below (below_drew W8)).below hb15).below hb20).below n24.below
     refine xb (.o [] 1) 4 k5_b2'7 ?_
     have hFl'8 := own_below hFl'7 n24.below
     have hB'13 := Bl.next hB'12 n24.below
     refine ybi (.o [] 11) (.t w.heap.size [43, 87]) fun _ _ _ _ zJ zQ zo zx zy zK => op_app (m := 1) (news := [.slice fa2 ((t.way ++ [t.no]).length) fc2, .int .i64 t.ft]) (.agg #[.slice none 0 0, .int .i64 0]) 2 32 ((fv ++ [(Ft.mk (t.way ++ [t.no]) t.ft fa2 fc2)]).length) (((fv ++ [(Ft.mk (t.way ++ [t.no]) t.ft fa2 fc2)]).flatMap fltC)) zo Tryz.underlying85 (by kernel_rfl) rfl (by decide) zx hFl'8 zy (n24.blk.sl 1 1 (by decide) (by decide)) rfl (by simp [Value.oneCell']) (by unfold maxLen; omega) (by omega) hB'13.size (by simp) (by rw [List.flatMap_append]; rfl) fun px25 cx25 W25 o25 hg25 hb25 => ?_
     refine zK _ _ (sft_grown hb25 hg25 hFl'8 (by decide)) ?_
     have k5_b2'8 := k5_b2'7.grown hg25 hFl'8 (by decide)
     refine ys (.o [12] 13) k5_b2'8 [.slice pe s.es.length ce, .slice pb s.bs.length cb, .int .i64 s.deep, .int .i64 (↑s.looked : Int), .slice px25 ((fv ++ [(Ft.mk (t.way ++ [t.no]) t.ft fa2 fc2)]).length) cx25] (.t w.heap.size [43, 87]) fun W26 u26 k26 => ⟨(sft_upd u26 k5_b2'8 g2 (by decide)), ?_⟩
     refine xv1 5 10 (show (.slice (cutA aw 1 cw 5) (ts.length - 1) (cw - 1) : Value) = .slice (cutA aw 1 cw 5) r.length (cw - 1) from by rw [htr]; rfl) ?_
     have hWs'4 := (((((((hWs.below n7.below).updN u8 n7 rfl).below (below_drew W8)).below hb15).below hb20).below n24.below).only (Only.of_grown (T := [43]) hg25 hFl'8 (by decide)) (by decide)).only (Only.of_upd (T := [87]) u26 k5_b2'8 (by decide)) (by decide)
     have hKt'7 := (((hKt'5.below hb20).below n24.below).only (Only.of_grown (T := [43]) hg25 hFl'8 (by decide)) (by decide)).only (Only.of_upd (T := [87]) u26 k5_b2'8 (by decide)) (by decide)
     have hNB'4 := ((hNB.below n24.below).only (Only.of_grown (T := [43]) hg25 hFl'8 (by decide)) (by decide)).only (Only.of_upd (T := [87]) u26 k5_b2'8 (by decide)) (by decide)
     have hB'14 := u26.below (hB'13.trans hb25) g2
     have k5_b1'4 := u26.blk ((((((u8.blkT (k5_b1.below n7.below) n7.blk (by decide)).below (below_drew W8)).below hb15).below hb20).below n24.below).grown hg25 hFl'8 (by decide)) (Ne.symm (Ne.symm d2_b1))
     have hEn'4 := u26.own2 (own_grown (own_below (own_below (own_below (own_below (u8.own2 (own_below hEn n7.below) n7.blk (by decide)) (below_drew W8)) hb15) hb20) n24.below) hg25 hFl'8 (by decide)) k5_b2'8 (by decide)
     have hBl'6 := u26.own2 (own_grown (own_below (own_below (own_below hBl'3 hb15) hb20) n24.below) hg25 hFl'8 (by decide)) k5_b2'8 (by decide)
     have o25'1 := u26.own2 o25 k5_b2'8 (by decide)
     have hI'5 := (((((((hI.below n7.below).only (Only.of_upd (T := [184]) u8 n7.blk (by decide)) (by decide)).below (below_drew W8)).below hb15).below hb20).below n24.below).only (Only.of_grown (T := [43]) hg25 hFl'8 (by decide)) (by decide)).only (Only.of_upd (T := [87]) u26 k5_b2'8 (by decide)) (by decide)
     refine ze 0 (hJ5 _ _ _ ⟨(noteW t.way [t.no] t.ft s), r, pe, pb, px25, ce, cb, cx25, (fv ++ [(Ft.mk (t.way ++ [t.no]) t.ft fa2 fc2)]), (cutA aw 1 cw 5), (cw - 1), rfl, rfl, hB'14, k5_b1'4, k26, hEn'4, hBl'6, o25'1, (SufN.tail hWs'4 htr), (KeptI.note (f := (Ft.mk (t.way ++ [t.no]) t.ft fa2 fc2)) hKt'7 (hNB'4.mono hszA) hNp), hI'5, hwo1.fault hft, map_fltP_snoc hfv⟩ ?_)
     show 20 * (fuel.toNat - s.looked) + r.length < 20 * (fuel.toNat - s.looked) + ts.length
     omega
   have hft := hc9
   have k5_b2'9 := u8.blkT (k5_b2.below n7.below) n7.blk (by decide)
   refine xb 6 3 k5_b2'9 ?_
   refine xid 4 ((↑s.looked : Int) ≥ fuel) (fun hc27 => ?_) (fun hc27 => ?_)
   · have hfs : fuel ≤ s.looked := by omega
     refine xd 1 (.t w.heap.size [43, 87]) ?_
     have k8'2 := k8.below (below_drew W8)
     refine xbt (.e [0, 2] 3) 3 w.heap.size [43, 87] k8'2 ?_
     refine xbt (.e [4] 5) 0 w.heap.size [43, 87] k8'2 ?_
     refine xm2 0 1 6 ?_ ?_
     · have k5_b2'10 := k5_b2'9.below (below_drew W8)
       refine xb 0 4 k5_b2'10 ?_
       have hBl'7 := own_below (u8.own2 (own_below hBl n7.below) n7.blk (by decide)) (below_drew W8)
       have hB'15 := Bl.next (u8.below (Bl.next hB_5 n7.below) g7) (below_drew W8)
       have hBlA := hBl'7
       have hszA := hB'15.size
       refine yc (.o [] 6) (args := #[.int .i64 t.no, .int .i64 12]) (.t w.heap.size [43, 87]) (ref11_AtK t.no 12 _ (by decide)) ?_
       rintro _ W28 ⟨fa, fc, rfl, hb28, hNA⟩
       refine ⟨(SF.of_below _ hb28), ?_⟩
       have hKt'8 := (((hKt.below n7.below).only (Only.of_upd (T := [184]) u8 n7.blk (by decide)) (by decide)).below (below_drew W8)).below hb28
       refine yc (.o [] 7) (args := #[.slice t.wa t.way.length t.wc, .agg #[.slice fa 1 fc, .int .i64 12]]) (.t w.heap.size [43, 87]) (ref14_wrapK t.wa t.wc t.way 12 _ fa fc t.no _ (by decide) (KeptI.hd hKt'8).ints (by omega) hNA) ?_
       rintro _ W29 ⟨fa2, fc2, rfl, hb29, hNB⟩
       refine ⟨(SF.of_below _ hb29), ?_⟩
       have hNp := hNB.apart hBlA (Nat.le_refl _)
       refine xbs (.o [] 8) 1 [.slice fa2 ((t.way ++ [t.no]).length) fc2, .int .i64 12] 43 fun b30 W30 n30 => ?_
       have hB'16 := Bl.next (Bl.next hB'15 hb28) hb29
       have g30 := n30.ge hB'16
       have hFl'9 := own_below (own_below (own_below (u8.own2 (own_below hFl n7.below) n7.blk (by decide)) (below_drew W8)) hb28) hb29
       have r30_hFl := own_ne hFl'9 n30
       have hFl'10 := own_below hFl'9 n30.below
       have hB'17 := Bl.next hB'16 n30.below
       refine ybi (.o [] 9) (.t w.heap.size [43, 87]) fun _ _ _ _ zJ zQ zo zx zy zK => op_app (m := 1) (news := [.slice fa2 ((t.way ++ [t.no]).length) fc2, .int .i64 12]) (.agg #[.slice none 0 0, .int .i64 0]) 2 32 ((fv ++ [(Ft.mk (t.way ++ [t.no]) 12 fa2 fc2)]).length) (((fv ++ [(Ft.mk (t.way ++ [t.no]) 12 fa2 fc2)]).flatMap fltC)) zo Tryz.underlying85 (by kernel_rfl) rfl (by decide) zx hFl'10 zy (n30.blk.sl 1 1 (by decide) (by decide)) rfl (by simp [Value.oneCell']) (by unfold maxLen; omega) (by omega) hB'17.size (by simp) (by rw [List.flatMap_append]; rfl) fun px31 cx31 W31 o31 hg31 hb31 => ?_
       refine zK _ _ (sft_grown hb31 hg31 hFl'10 (by decide)) ?_
       have k5_b2'11 := (((k5_b2'10.below hb28).below hb29).below n30.below).grown hg31 hFl'10 (by decide)
       refine ys (.o [10] 11) k5_b2'11 [.slice pe s.es.length ce, .slice pb s.bs.length cb, .int .i64 s.deep, .int .i64 (↑s.looked : Int), .slice px31 ((fv ++ [(Ft.mk (t.way ++ [t.no]) 12 fa2 fc2)]).length) cx31] (.t w.heap.size [43, 87]) fun W32 u32 k32 => ⟨(sft_upd u32 k5_b2'11 g2 (by decide)), ?_⟩
       refine xlv 4 k32.rp ?_
       have k5_b1'5 := u32.blk ((((((u8.blkT (k5_b1.below n7.below) n7.blk (by decide)).below (below_drew W8)).below hb28).below hb29).below n30.below).grown hg31 hFl'10 (by decide)) (Ne.symm (Ne.symm d2_b1))
       refine xsv 0 k5_b1'5 [.slice pe s.es.length ce, .slice pb s.bs.length cb, .int .i64 s.deep, .int .i64 (↑s.looked : Int), .slice px31 ((fv ++ [(Ft.mk (t.way ++ [t.no]) 12 fa2 fc2)]).length) cx31] fun W33 u33 k33 => ?_
       have g1 := n1.ge (Below.refl w.heap.size _)
       have hB'18 := u33.below (u32.below (hB'17.trans hb31) g2) g1
       have hEn'5 := u33.own2 (u32.own2 (own_grown (own_below (own_below (own_below (own_below (u8.own2 (own_below hEn n7.below) n7.blk (by decide)) (below_drew W8)) hb28) hb29) n30.below) hg31 hFl'10 (by decide)) k5_b2'11 (by decide)) k5_b1'5 (by decide)
       have hBl'8 := u33.own2 (u32.own2 (own_grown (own_below (own_below (own_below hBl'7 hb28) hb29) n30.below) hg31 hFl'10 (by decide)) k5_b2'11 (by decide)) k5_b1'5 (by decide)
       have o31'1 := u33.own2 (u32.own2 o31 k5_b2'11 (by decide)) k5_b1'5 (by decide)
       have hKt'9 := ((((hKt'8.below hb29).below n30.below).only (Only.of_grown (T := [43]) hg31 hFl'10 (by decide)) (by decide)).only (Only.of_upd (T := [87]) u32 k5_b2'11 (by decide)) (by decide)).only (Only.of_upd (T := [87]) u33 k5_b1'5 (by decide)) (by decide)
       have hNB'5 := (((hNB.below n30.below).only (Only.of_grown (T := [43]) hg31 hFl'10 (by decide)) (by decide)).only (Only.of_upd (T := [87]) u32 k5_b2'11 (by decide)) (by decide)).only (Only.of_upd (T := [87]) u33 k5_b1'5 (by decide)) (by decide)
       refine xec 8 k33 (.agg #[.slice pe s.es.length ce, .slice pb s.bs.length cb, .int .i64 s.deep, .int .i64 (↑s.looked : Int), .slice px31 ((fv ++ [(Ft.mk (t.way ++ [t.no]) 12 fa2 fc2)]).length) cx31]) ?_
       rw [hwo1.fuel hft hfs]
       exact ⟨pe, pb, _, ce, cb, _, fv ++ [(Ft.mk (t.way ++ [t.no]) 12 fa2 fc2)], rfl, hB'18, hEn'5, hBl'8, o31'1, map_fltP_snoc hfv, (KeptI.note (f := (Ft.mk (t.way ++ [t.no]) 12 fa2 fc2)) hKt'9 (hNB'5.mono hszA) hNp).sub (fun x hx => List.mem_append.2 (.inr hx))⟩
     have hBl'9 := own_below (u8.own2 (own_below hBl n7.below) n7.blk (by decide)) (below_drew W8)
     have hB'19 := Bl.next (u8.below (Bl.next hB_5 n7.below) g7) (below_drew W8)
     have hBlA := hBl'9
     have hszA := hB'19.size
     refine yc 0 (args := #[.int .i64 t.no, .int .i64 12]) (.t w.heap.size [43, 87]) (ref11_AtK t.no 12 _ (by decide)) ?_
     rintro _ W34 ⟨fa, fc, rfl, hb34, hNA⟩
     refine ⟨(SF.of_below _ hb34), ?_⟩
     refine xm2 0 1 7 ?_ ?_
     · have k5_b2'12 := (k5_b2'9.below (below_drew W8)).below hb34
       refine xb 0 4 k5_b2'12 ?_
       have hKt'10 := (((hKt.below n7.below).only (Only.of_upd (T := [184]) u8 n7.blk (by decide)) (by decide)).below (below_drew W8)).below hb34
       refine yc (.o [] 7) (args := #[.slice t.wa t.way.length t.wc, .agg #[.slice fa 1 fc, .int .i64 12]]) (.t w.heap.size [43, 87]) (ref14_wrapK t.wa t.wc t.way 12 _ fa fc t.no _ (by decide) (KeptI.hd hKt'10).ints (by omega) hNA) ?_
       rintro _ W35 ⟨fa2, fc2, rfl, hb35, hNB⟩
       refine ⟨(SF.of_below _ hb35), ?_⟩
       have hNp := hNB.apart hBlA (Nat.le_refl _)
       refine xbs (.o [] 8) 1 [.slice fa2 ((t.way ++ [t.no]).length) fc2, .int .i64 12] 43 fun b36 W36 n36 => ?_
       have hB'20 := Bl.next (Bl.next hB'19 hb34) hb35
       have g36 := n36.ge hB'20
       have hFl'11 := own_below (own_below (own_below (u8.own2 (own_below hFl n7.below) n7.blk (by decide)) (below_drew W8)) hb34) hb35
       have r36_hFl := own_ne hFl'11 n36
       have hFl'12 := own_below hFl'11 n36.below
       have hB'21 := Bl.next hB'20 n36.below
       refine ybi (.o [] 9) (.t w.heap.size [43, 87]) fun _ _ _ _ zJ zQ zo zx zy zK => op_app (m := 1) (news := [.slice fa2 ((t.way ++ [t.no]).length) fc2, .int .i64 12]) (.agg #[.slice none 0 0, .int .i64 0]) 2 32 ((fv ++ [(Ft.mk (t.way ++ [t.no]) 12 fa2 fc2)]).length) (((fv ++ [(Ft.mk (t.way ++ [t.no]) 12 fa2 fc2)]).flatMap fltC)) zo Tryz.underlying85 (by kernel_rfl) rfl (by decide) zx hFl'12 zy (n36.blk.sl 1 1 (by decide) (by decide)) rfl (by simp [Value.oneCell']) (by unfold maxLen; omega) (by omega) hB'21.size (by simp) (by rw [List.flatMap_append]; rfl) fun px37 cx37 W37 o37 hg37 hb37 => ?_
       refine zK _ _ (sft_grown hb37 hg37 hFl'12 (by decide)) ?_
       have k5_b2'13 := ((k5_b2'12.below hb35).below n36.below).grown hg37 hFl'12 (by decide)
       refine ys (.o [10] 11) k5_b2'13 [.slice pe s.es.length ce, .slice pb s.bs.length cb, .int .i64 s.deep, .int .i64 (↑s.looked : Int), .slice px37 ((fv ++ [(Ft.mk (t.way ++ [t.no]) 12 fa2 fc2)]).length) cx37] (.t w.heap.size [43, 87]) fun W38 u38 k38 => ⟨(sft_upd u38 k5_b2'13 g2 (by decide)), ?_⟩
       refine xlv 4 k38.rp ?_
       have k5_b1'6 := u38.blk ((((((u8.blkT (k5_b1.below n7.below) n7.blk (by decide)).below (below_drew W8)).below hb34).below hb35).below n36.below).grown hg37 hFl'12 (by decide)) (Ne.symm (Ne.symm d2_b1))
       refine xsv 0 k5_b1'6 [.slice pe s.es.length ce, .slice pb s.bs.length cb, .int .i64 s.deep, .int .i64 (↑s.looked : Int), .slice px37 ((fv ++ [(Ft.mk (t.way ++ [t.no]) 12 fa2 fc2)]).length) cx37] fun W39 u39 k39 => ?_
       have g1 := n1.ge (Below.refl w.heap.size _)
       have hB'22 := u39.below (u38.below (hB'21.trans hb37) g2) g1
       have hEn'6 := u39.own2 (u38.own2 (own_grown (own_below (own_below (own_below (own_below (u8.own2 (own_below hEn n7.below) n7.blk (by decide)) (below_drew W8)) hb34) hb35) n36.below) hg37 hFl'12 (by decide)) k5_b2'13 (by decide)) k5_b1'6 (by decide)
       have hBl'10 := u39.own2 (u38.own2 (own_grown (own_below (own_below (own_below hBl'9 hb34) hb35) n36.below) hg37 hFl'12 (by decide)) k5_b2'13 (by decide)) k5_b1'6 (by decide)
       have o37'1 := u39.own2 (u38.own2 o37 k5_b2'13 (by decide)) k5_b1'6 (by decide)
       have hKt'11 := ((((hKt'10.below hb35).below n36.below).only (Only.of_grown (T := [43]) hg37 hFl'12 (by decide)) (by decide)).only (Only.of_upd (T := [87]) u38 k5_b2'13 (by decide)) (by decide)).only (Only.of_upd (T := [87]) u39 k5_b1'6 (by decide)) (by decide)
       have hNB'6 := (((hNB.below n36.below).only (Only.of_grown (T := [43]) hg37 hFl'12 (by decide)) (by decide)).only (Only.of_upd (T := [87]) u38 k5_b2'13 (by decide)) (by decide)).only (Only.of_upd (T := [87]) u39 k5_b1'6 (by decide)) (by decide)
       refine xec 8 k39 (.agg #[.slice pe s.es.length ce, .slice pb s.bs.length cb, .int .i64 s.deep, .int .i64 (↑s.looked : Int), .slice px37 ((fv ++ [(Ft.mk (t.way ++ [t.no]) 12 fa2 fc2)]).length) cx37]) ?_
       rw [hwo1.fuel hft hfs]
       exact ⟨pe, pb, _, ce, cb, _, fv ++ [(Ft.mk (t.way ++ [t.no]) 12 fa2 fc2)], rfl, hB'22, hEn'6, hBl'10, o37'1, map_fltP_snoc hfv, (KeptI.note (f := (Ft.mk (t.way ++ [t.no]) 12 fa2 fc2)) hKt'11 (hNB'6.mono hszA) hNp).sub (fun x hx => List.mem_append.2 (.inr hx))⟩
     have hKt'12 := (((hKt.below n7.below).only (Only.of_upd (T := [184]) u8 n7.blk (by decide)) (by decide)).below (below_drew W8)).below hb34
     refine yc 0 (args := #[.slice t.wa t.way.length t.wc, .agg #[.slice fa 1 fc, .int .i64 12]]) (.t w.heap.size [43, 87]) (ref14_wrapK t.wa t.wc t.way 12 _ fa fc t.no _ (by decide) (KeptI.hd hKt'12).ints (by omega) hNA) ?_
     rintro _ W40 ⟨fa2, fc2, rfl, hb40, hNB⟩
     refine ⟨(SF.of_below _ hb40), ?_⟩
     have hNp := hNB.apart hBlA (Nat.le_refl _)
     refine xm2 0 1 8 ?_ ?_
     · have k5_b2'14 := ((k5_b2'9.below (below_drew W8)).below hb34).below hb40
       refine xb 0 4 k5_b2'14 ?_
       refine xbs (.o [] 8) 1 [.slice fa2 ((t.way ++ [t.no]).length) fc2, .int .i64 12] 43 fun b41 W41 n41 => ?_
       have hB'23 := Bl.next (Bl.next hB'19 hb34) hb40
       have g41 := n41.ge hB'23
       have hFl'13 := own_below (own_below (own_below (u8.own2 (own_below hFl n7.below) n7.blk (by decide)) (below_drew W8)) hb34) hb40
       have r41_hFl := own_ne hFl'13 n41
       have hFl'14 := own_below hFl'13 n41.below
       have hB'24 := Bl.next hB'23 n41.below
       refine ybi (.o [] 9) (.t w.heap.size [43, 87]) fun _ _ _ _ zJ zQ zo zx zy zK => op_app (m := 1) (news := [.slice fa2 ((t.way ++ [t.no]).length) fc2, .int .i64 12]) (.agg #[.slice none 0 0, .int .i64 0]) 2 32 ((fv ++ [(Ft.mk (t.way ++ [t.no]) 12 fa2 fc2)]).length) (((fv ++ [(Ft.mk (t.way ++ [t.no]) 12 fa2 fc2)]).flatMap fltC)) zo Tryz.underlying85 (by kernel_rfl) rfl (by decide) zx hFl'14 zy (n41.blk.sl 1 1 (by decide) (by decide)) rfl (by simp [Value.oneCell']) (by unfold maxLen; omega) (by omega) hB'24.size (by simp) (by rw [List.flatMap_append]; rfl) fun px42 cx42 W42 o42 hg42 hb42 => ?_
       refine zK _ _ (sft_grown hb42 hg42 hFl'14 (by decide)) ?_
       have k5_b2'15 := (k5_b2'14.below n41.below).grown hg42 hFl'14 (by decide)
       refine ys (.o [10] 11) k5_b2'15 [.slice pe s.es.length ce, .slice pb s.bs.length cb, .int .i64 s.deep, .int .i64 (↑s.looked : Int), .slice px42 ((fv ++ [(Ft.mk (t.way ++ [t.no]) 12 fa2 fc2)]).length) cx42] (.t w.heap.size [43, 87]) fun W43 u43 k43 => ⟨(sft_upd u43 k5_b2'15 g2 (by decide)), ?_⟩
       refine xlv 4 k43.rp ?_
       have k5_b1'7 := u43.blk ((((((u8.blkT (k5_b1.below n7.below) n7.blk (by decide)).below (below_drew W8)).below hb34).below hb40).below n41.below).grown hg42 hFl'14 (by decide)) (Ne.symm (Ne.symm d2_b1))
       refine xsv 0 k5_b1'7 [.slice pe s.es.length ce, .slice pb s.bs.length cb, .int .i64 s.deep, .int .i64 (↑s.looked : Int), .slice px42 ((fv ++ [(Ft.mk (t.way ++ [t.no]) 12 fa2 fc2)]).length) cx42] fun W44 u44 k44 => ?_
       have g1 := n1.ge (Below.refl w.heap.size _)
       have hB'25 := u44.below (u43.below (hB'24.trans hb42) g2) g1
       have hEn'7 := u44.own2 (u43.own2 (own_grown (own_below (own_below (own_below (own_below (u8.own2 (own_below hEn n7.below) n7.blk (by decide)) (below_drew W8)) hb34) hb40) n41.below) hg42 hFl'14 (by decide)) k5_b2'15 (by decide)) k5_b1'7 (by decide)
       have hBl'11 := u44.own2 (u43.own2 (own_grown (own_below (own_below (own_below hBl'9 hb34) hb40) n41.below) hg42 hFl'14 (by decide)) k5_b2'15 (by decide)) k5_b1'7 (by decide)
       have o42'1 := u44.own2 (u43.own2 o42 k5_b2'15 (by decide)) k5_b1'7 (by decide)
       have hKt'13 := ((((hKt'12.below hb40).below n41.below).only (Only.of_grown (T := [43]) hg42 hFl'14 (by decide)) (by decide)).only (Only.of_upd (T := [87]) u43 k5_b2'15 (by decide)) (by decide)).only (Only.of_upd (T := [87]) u44 k5_b1'7 (by decide)) (by decide)
       have hNB'7 := (((hNB.below n41.below).only (Only.of_grown (T := [43]) hg42 hFl'14 (by decide)) (by decide)).only (Only.of_upd (T := [87]) u43 k5_b2'15 (by decide)) (by decide)).only (Only.of_upd (T := [87]) u44 k5_b1'7 (by decide)) (by decide)
       refine xec 8 k44 (.agg #[.slice pe s.es.length ce, .slice pb s.bs.length cb, .int .i64 s.deep, .int .i64 (↑s.looked : Int), .slice px42 ((fv ++ [(Ft.mk (t.way ++ [t.no]) 12 fa2 fc2)]).length) cx42]) ?_
       rw [hwo1.fuel hft hfs]
       exact ⟨pe, pb, _, ce, cb, _, fv ++ [(Ft.mk (t.way ++ [t.no]) 12 fa2 fc2)], rfl, hB'25, hEn'7, hBl'11, o42'1, map_fltP_snoc hfv, (KeptI.note (f := (Ft.mk (t.way ++ [t.no]) 12 fa2 fc2)) hKt'13 (hNB'7.mono hszA) hNp).sub (fun x hx => List.mem_append.2 (.inr hx))⟩
     refine xbs 0 1 [.slice fa2 ((t.way ++ [t.no]).length) fc2, .int .i64 12] 43 fun b45 W45 n45 => ?_
     have hB'26 := Bl.next (Bl.next hB'19 hb34) hb40
     have g45 := n45.ge hB'26
     have hFl'15 := own_below (own_below (own_below (u8.own2 (own_below hFl n7.below) n7.blk (by decide)) (below_drew W8)) hb34) hb40
     have r45_hFl := own_ne hFl'15 n45
     have k5_b2'16 := (((k5_b2'9.below (below_drew W8)).below hb34).below hb40).below n45.below
     refine xb (.o [] 1) 4 k5_b2'16 ?_
     have hFl'16 := own_below hFl'15 n45.below
     have hB'27 := Bl.next hB'26 n45.below
     refine ybi (.o [] 9) (.t w.heap.size [43, 87]) fun _ _ _ _ zJ zQ zo zx zy zK => op_app (m := 1) (news := [.slice fa2 ((t.way ++ [t.no]).length) fc2, .int .i64 12]) (.agg #[.slice none 0 0, .int .i64 0]) 2 32 ((fv ++ [(Ft.mk (t.way ++ [t.no]) 12 fa2 fc2)]).length) (((fv ++ [(Ft.mk (t.way ++ [t.no]) 12 fa2 fc2)]).flatMap fltC)) zo Tryz.underlying85 (by kernel_rfl) rfl (by decide) zx hFl'16 zy (n45.blk.sl 1 1 (by decide) (by decide)) rfl (by simp [Value.oneCell']) (by unfold maxLen; omega) (by omega) hB'27.size (by simp) (by rw [List.flatMap_append]; rfl) fun px46 cx46 W46 o46 hg46 hb46 => ?_
     refine zK _ _ (sft_grown hb46 hg46 hFl'16 (by decide)) ?_
     have k5_b2'17 := k5_b2'16.grown hg46 hFl'16 (by decide)
     refine ys (.o [10] 11) k5_b2'17 [.slice pe s.es.length ce, .slice pb s.bs.length cb, .int .i64 s.deep, .int .i64 (↑s.looked : Int), .slice px46 ((fv ++ [(Ft.mk (t.way ++ [t.no]) 12 fa2 fc2)]).length) cx46] (.t w.heap.size [43, 87]) fun W47 u47 k47 => ⟨(sft_upd u47 k5_b2'17 g2 (by decide)), ?_⟩
     refine xlv 4 k47.rp ?_
     have k5_b1'8 := u47.blk ((((((u8.blkT (k5_b1.below n7.below) n7.blk (by decide)).below (below_drew W8)).below hb34).below hb40).below n45.below).grown hg46 hFl'16 (by decide)) (Ne.symm (Ne.symm d2_b1))
     refine xsv 0 k5_b1'8 [.slice pe s.es.length ce, .slice pb s.bs.length cb, .int .i64 s.deep, .int .i64 (↑s.looked : Int), .slice px46 ((fv ++ [(Ft.mk (t.way ++ [t.no]) 12 fa2 fc2)]).length) cx46] fun W48 u48 k48 => ?_
     have g1 := n1.ge (Below.refl w.heap.size _)
     have hB'28 := u48.below (u47.below (hB'27.trans hb46) g2) g1
     have hEn'8 := u48.own2 (u47.own2 (own_grown (own_below (own_below (own_below (own_below (u8.own2 (own_below hEn n7.below) n7.blk (by decide)) (below_drew W8)) hb34) hb40) n45.below) hg46 hFl'16 (by decide)) k5_b2'17 (by decide)) k5_b1'8 (by decide)
     have hBl'12 := u48.own2 (u47.own2 (own_grown (own_below (own_below (own_below hBl'9 hb34) hb40) n45.below) hg46 hFl'16 (by decide)) k5_b2'17 (by decide)) k5_b1'8 (by decide)
     have o46'1 := u48.own2 (u47.own2 o46 k5_b2'17 (by decide)) k5_b1'8 (by decide)
     have hKt'14 := ((((hKt'12.below hb40).below n45.below).only (Only.of_grown (T := [43]) hg46 hFl'16 (by decide)) (by decide)).only (Only.of_upd (T := [87]) u47 k5_b2'17 (by decide)) (by decide)).only (Only.of_upd (T := [87]) u48 k5_b1'8 (by decide)) (by decide)
     have hNB'8 := (((hNB.below n45.below).only (Only.of_grown (T := [43]) hg46 hFl'16 (by decide)) (by decide)).only (Only.of_upd (T := [87]) u47 k5_b2'17 (by decide)) (by decide)).only (Only.of_upd (T := [87]) u48 k5_b1'8 (by decide)) (by decide)
     refine xec 8 k48 (.agg #[.slice pe s.es.length ce, .slice pb s.bs.length cb, .int .i64 s.deep, .int .i64 (↑s.looked : Int), .slice px46 ((fv ++ [(Ft.mk (t.way ++ [t.no]) 12 fa2 fc2)]).length) cx46]) ?_
     rw [hwo1.fuel hft hfs]
     exact ⟨pe, pb, _, ce, cb, _, fv ++ [(Ft.mk (t.way ++ [t.no]) 12 fa2 fc2)], rfl, hB'28, hEn'8, hBl'12, o46'1, map_fltP_snoc hfv, (KeptI.note (f := (Ft.mk (t.way ++ [t.no]) 12 fa2 fc2)) hKt'14 (hNB'8.mono hszA) hNp).sub (fun x hx => List.mem_append.2 (.inr hx))⟩
   have hfs : ¬ fuel ≤ s.looked := by omega
   refine xb 5 3 k5_b2'9 ?_
   refine xwm 0 ((↑s.looked : Int) + 1) (↑(s.looked + 1) : Int) ?_
   refine xs 1 k5_b2'9 [.slice pe s.es.length ce, .slice pb s.bs.length cb, .int .i64 s.deep, .int .i64 (↑(s.looked + 1) : Int), .slice pf fv.length cf] fun W49 u49 k49 => ?_
   have k8'3 := u49.blkT k8 k5_b2'9 (by decide)
   refine xlv 5 k8'3.rp ?_
   refine xb 2 2 k49 ?_
   have hBl'13 := u49.own2 (u8.own2 (own_below hBl n7.below) n7.blk (by decide)) k5_b2'9 (by decide)
   have hB'29 := u49.below (u8.below (Bl.next hB_5 n7.below) g7) g2
   have hBlA := hBl'13
   have hszA := hB'29.size
   have hI'6 := ((hI.below n7.below).only (Only.of_upd (T := [184]) u8 n7.blk (by decide)) (by decide)).only (Only.of_upd (T := [87]) u49 k5_b2'9 (by decide)) (by decide)
   have hKt'15 := ((hKt.below n7.below).only (Only.of_upd (T := [184]) u8 n7.blk (by decide)) (by decide)).only (Only.of_upd (T := [87]) u49 k5_b2'9 (by decide)) (by decide)
   refine xc 0 (args := #[.pointer (some ⟨bm, 0, none⟩), .agg #[.int .i64 t.no, .int .i64 t.lo, .int .i64 t.hi, .slice t.wa t.way.length t.wc, .int .i64 t.ft], .int .i64 tree, .int .i64 s.deep]) ((ref14_look B bm p k c l t.no tree t.lo t.hi s.deep t.way t.wa t.wc (.int .i64 t.ft) _ hI'6 (KeptI.hd hKt'15).ints (by omega) (hwo1.right t List.mem_cons_self hft)).mono (fun _ _ h => RLookP.or hBl'13 h)) ?_
   rintro e W50 hq50
   rcases hq50 with ⟨hle, a4, b4, k4, n4, c4, v4, m4, d4, fa, fc, rfl, hb50, hNA⟩ | ⟨hle, kp, kc, vp, vc, rfl, hb50, hk, hApk, hv_⟩
   · refine xa 3 [.int .i64 0, .bool false, .slice none 0 0, .slice none 0 0] 188 fun b51 W51 n51 => ?_
     have hB'30 := Bl.next hB'29 hb50
     have g51 := n51.ge hB'30
     refine xa 0 [.slice none 0 0, .int .i64 0] 43 fun b52 W52 n52 => ?_
     have hB'31 := Bl.next hB'30 n51.below
     have g52 := n52.ge hB'31
     have hFl'17 := own_below (own_below (u49.own2 (u8.own2 (own_below hFl n7.below) n7.blk (by decide)) k5_b2'9 (by decide)) hb50) n51.below
     have r52_hFl := own_ne hFl'17 n52
     have k51 := n51.blk.below n52.below
     refine xsv 0 k51 [.int .i64 a4, .bool b4, .slice k4 n4 c4, .slice v4 m4 d4] fun W53 u53 k53 => ?_
     have k52 := u53.blkT n52.blk k51 (by decide)
     refine xsv 0 k52 [.slice fa 1 fc, .int .i64 (lookE l t.way t.no tree t.lo t.hi s.deep)] fun W54 u54 k54 => ?_
     refine xb 6 1 k54 ?_
     refine xk 3 (show (((lookE l t.way t.no tree t.lo t.hi s.deep) != (0 : Int)) : Bool) = true from bne_iff_ne.2 hle) ?_
     refine xd 1 (.t w.heap.size [43, 87]) ?_
     have k8'4 := (u54.blkT (u53.blkT (((k8'3.below hb50).below n51.below).below n52.below) k51 (by decide)) k52 (by decide)).below (below_drew W54)
     refine xbt (.e [0, 2] 3) 3 w.heap.size [43, 87] k8'4 ?_
     refine xm2 0 1 4 ?_ ?_
     · have k49'1 := (u54.blkT (u53.blkT (((k49.below hb50).below n51.below).below n52.below) k51 (by decide)) k52 (by decide)).below (below_drew W54)
       refine xb 0 4 k49'1 ?_
       have k54'1 := k54.below (below_drew W54)
       refine xlv (.o [] 4) k54'1.rp ?_
       have hKt'16 := (((((hKt'15.below hb50).below n51.below).below n52.below).only (Only.of_upd (T := [188]) u53 k51 (by decide)) (by decide)).only (Only.of_upd (T := [43]) u54 k52 (by decide)) (by decide)).below (below_drew W54)
       have hNA'1 := ((((hNA.below n51.below).below n52.below).only (Only.of_upd (T := [188]) u53 k51 (by decide)) (by decide)).only (Only.of_upd (T := [43]) u54 k52 (by decide)) (by decide)).below (below_drew W54)
       refine yc (.o [] 5) (args := #[.slice t.wa t.way.length t.wc, .agg #[.slice fa 1 fc, .int .i64 (lookE l t.way t.no tree t.lo t.hi s.deep)]]) (.t w.heap.size [43, 87]) (ref14_wrapK t.wa t.wc t.way (lookE l t.way t.no tree t.lo t.hi s.deep) _ fa fc t.no _ hle (KeptI.hd hKt'16).ints (by omega) hNA'1) ?_
       rintro _ W55 ⟨fa2, fc2, rfl, hb55, hNB⟩
       refine ⟨(SF.of_below _ hb55), ?_⟩
       have hNp := hNB.apart hBlA (Nat.le_refl _)
       refine xbs (.o [] 6) 1 [.slice fa2 ((t.way ++ [t.no]).length) fc2, .int .i64 (lookE l t.way t.no tree t.lo t.hi s.deep)] 43 fun b56 W56 n56 => ?_
       have k54'2 := k54'1.below hb55
       have d56_b52 := n56.ne k54'2
       have hB'32 := Bl.next (Bl.next (u54.below (u53.below (Bl.next hB'31 n52.below) g51) g52) (below_drew W54)) hb55
       have g56 := n56.ge hB'32
       have hFl'18 := own_below (own_below (u54.own3 (u53.own2 (own_below hFl'17 n52.below) k51 (by decide)) r52_hFl) (below_drew W54)) hb55
       have r56_hFl := own_ne hFl'18 n56
       have hFl'19 := own_below hFl'18 n56.below
       have hB'33 := Bl.next hB'32 n56.below
       refine ybi (.o [] 7) (.t w.heap.size [43, 87]) fun _ _ _ _ zJ zQ zo zx zy zK => op_app (m := 1) (news := [.slice fa2 ((t.way ++ [t.no]).length) fc2, .int .i64 (lookE l t.way t.no tree t.lo t.hi s.deep)]) (.agg #[.slice none 0 0, .int .i64 0]) 2 32 ((fv ++ [(Ft.mk (t.way ++ [t.no]) (lookE l t.way t.no tree t.lo t.hi s.deep) fa2 fc2)]).length) (((fv ++ [(Ft.mk (t.way ++ [t.no]) (lookE l t.way t.no tree t.lo t.hi s.deep) fa2 fc2)]).flatMap fltC)) zo Tryz.underlying85 (by kernel_rfl) rfl (by decide) zx hFl'19 zy (n56.blk.sl 1 1 (by decide) (by decide)) rfl (by simp [Value.oneCell']) (by unfold maxLen; omega) (by omega) hB'33.size (by simp) (by rw [List.flatMap_append]; rfl) fun px57 cx57 W57 o57 hg57 hb57 => ?_
       refine zK _ _ (sft_grown hb57 hg57 hFl'19 (by decide)) ?_
       have k49'2 := ((k49'1.below hb55).below n56.below).grown hg57 hFl'19 (by decide)
       refine ys (.o [8] 9) k49'2 [.slice pe s.es.length ce, .slice pb s.bs.length cb, .int .i64 s.deep, .int .i64 (↑(s.looked + 1) : Int), .slice px57 ((fv ++ [(Ft.mk (t.way ++ [t.no]) (lookE l t.way t.no tree t.lo t.hi s.deep) fa2 fc2)]).length) cx57] (.t w.heap.size [43, 87]) fun W58 u58 k58 => ⟨(sft_upd u58 k49'2 g2 (by decide)), ?_⟩
       refine xv1 5 10 (show (.slice (cutA aw 1 cw 5) (ts.length - 1) (cw - 1) : Value) = .slice (cutA aw 1 cw 5) r.length (cw - 1) from by rw [htr]; rfl) ?_
       have hWs'5 := ((((((((((((hWs.below n7.below).updN u8 n7 rfl).only (Only.of_upd (T := [87]) u49 k5_b2'9 (by decide)) (by decide)).below hb50).below n51.below).below n52.below).only (Only.of_upd (T := [188]) u53 k51 (by decide)) (by decide)).only (Only.of_upd (T := [43]) u54 k52 (by decide)) (by decide)).below (below_drew W54)).below hb55).below n56.below).only (Only.of_grown (T := [43]) hg57 hFl'19 (by decide)) (by decide)).only (Only.of_upd (T := [87]) u58 k49'2 (by decide)) (by decide)
       have hKt'17 := (((hKt'16.below hb55).below n56.below).only (Only.of_grown (T := [43]) hg57 hFl'19 (by decide)) (by decide)).only (Only.of_upd (T := [87]) u58 k49'2 (by decide)) (by decide)
       have hNB'9 := ((hNB.below n56.below).only (Only.of_grown (T := [43]) hg57 hFl'19 (by decide)) (by decide)).only (Only.of_upd (T := [87]) u58 k49'2 (by decide)) (by decide)
       have hB'34 := u58.below (hB'33.trans hb57) g2
       have k5_b1'9 := u58.blk (((((u54.blkT (u53.blkT ((((u49.blk (u8.blkT (k5_b1.below n7.below) n7.blk (by decide)) (Ne.symm (Ne.symm d2_b1))).below hb50).below n51.below).below n52.below) k51 (by decide)) k52 (by decide)).below (below_drew W54)).below hb55).below n56.below).grown hg57 hFl'19 (by decide)) (Ne.symm (Ne.symm d2_b1))
       have hEn'9 := u58.own2 (own_grown (own_below (own_below (own_below (u54.own2 (u53.own2 (own_below (own_below (own_below (u49.own2 (u8.own2 (own_below hEn n7.below) n7.blk (by decide)) k5_b2'9 (by decide)) hb50) n51.below) n52.below) k51 (by decide)) k52 (by decide)) (below_drew W54)) hb55) n56.below) hg57 hFl'19 (by decide)) k49'2 (by decide)
       have hBl'14 := u58.own2 (own_grown (own_below (own_below (own_below (u54.own2 (u53.own2 (own_below (own_below (own_below hBl'13 hb50) n51.below) n52.below) k51 (by decide)) k52 (by decide)) (below_drew W54)) hb55) n56.below) hg57 hFl'19 (by decide)) k49'2 (by decide)
       have o57'1 := u58.own2 o57 k49'2 (by decide)
       have hI'7 := (((((((((hI'6.below hb50).below n51.below).below n52.below).only (Only.of_upd (T := [188]) u53 k51 (by decide)) (by decide)).only (Only.of_upd (T := [43]) u54 k52 (by decide)) (by decide)).below (below_drew W54)).below hb55).below n56.below).only (Only.of_grown (T := [43]) hg57 hFl'19 (by decide)) (by decide)).only (Only.of_upd (T := [87]) u58 k49'2 (by decide)) (by decide)
       refine ze 0 (hJ5 _ _ _ ⟨(noteW t.way [t.no] (lookE l t.way t.no tree t.lo t.hi s.deep) { s with looked := s.looked + 1 }), r, pe, pb, px57, ce, cb, cx57, (fv ++ [(Ft.mk (t.way ++ [t.no]) (lookE l t.way t.no tree t.lo t.hi s.deep) fa2 fc2)]), (cutA aw 1 cw 5), (cw - 1), rfl, rfl, hB'34, k5_b1'9, k58, hEn'9, hBl'14, o57'1, (SufN.tail hWs'5 htr), (KeptI.note (f := (Ft.mk (t.way ++ [t.no]) (lookE l t.way t.no tree t.lo t.hi s.deep) fa2 fc2)) hKt'17 (hNB'9.mono hszA) hNp), hI'7, hwo1.err hft hfs hle, map_fltP_snoc hfv⟩ ?_)
       show 20 * (fuel.toNat - (s.looked + 1)) + r.length < 20 * (fuel.toNat - s.looked) + ts.length
       omega
     have k54'3 := k54.below (below_drew W54)
     refine xlv 0 k54'3.rp ?_
     refine xm2 0 1 5 ?_ ?_
     · have k49'3 := (u54.blkT (u53.blkT (((k49.below hb50).below n51.below).below n52.below) k51 (by decide)) k52 (by decide)).below (below_drew W54)
       refine xb 0 4 k49'3 ?_
       have hKt'18 := (((((hKt'15.below hb50).below n51.below).below n52.below).only (Only.of_upd (T := [188]) u53 k51 (by decide)) (by decide)).only (Only.of_upd (T := [43]) u54 k52 (by decide)) (by decide)).below (below_drew W54)
       have hNA'2 := ((((hNA.below n51.below).below n52.below).only (Only.of_upd (T := [188]) u53 k51 (by decide)) (by decide)).only (Only.of_upd (T := [43]) u54 k52 (by decide)) (by decide)).below (below_drew W54)
       refine yc (.o [] 5) (args := #[.slice t.wa t.way.length t.wc, .agg #[.slice fa 1 fc, .int .i64 (lookE l t.way t.no tree t.lo t.hi s.deep)]]) (.t w.heap.size [43, 87]) (ref14_wrapK t.wa t.wc t.way (lookE l t.way t.no tree t.lo t.hi s.deep) _ fa fc t.no _ hle (KeptI.hd hKt'18).ints (by omega) hNA'2) ?_
       rintro _ W59 ⟨fa2, fc2, rfl, hb59, hNB⟩
       refine ⟨(SF.of_below _ hb59), ?_⟩
       have hNp := hNB.apart hBlA (Nat.le_refl _)
       refine xbs (.o [] 6) 1 [.slice fa2 ((t.way ++ [t.no]).length) fc2, .int .i64 (lookE l t.way t.no tree t.lo t.hi s.deep)] 43 fun b60 W60 n60 => ?_
       have k54'4 := k54'3.below hb59
       have d60_b52 := n60.ne k54'4
       have hB'35 := Bl.next (Bl.next (u54.below (u53.below (Bl.next hB'31 n52.below) g51) g52) (below_drew W54)) hb59
       have g60 := n60.ge hB'35
       have hFl'20 := own_below (own_below (u54.own3 (u53.own2 (own_below hFl'17 n52.below) k51 (by decide)) r52_hFl) (below_drew W54)) hb59
       have r60_hFl := own_ne hFl'20 n60
       have hFl'21 := own_below hFl'20 n60.below
       have hB'36 := Bl.next hB'35 n60.below
       refine ybi (.o [] 7) (.t w.heap.size [43, 87]) fun _ _ _ _ zJ zQ zo zx zy zK => op_app (m := 1) (news := [.slice fa2 ((t.way ++ [t.no]).length) fc2, .int .i64 (lookE l t.way t.no tree t.lo t.hi s.deep)]) (.agg #[.slice none 0 0, .int .i64 0]) 2 32 ((fv ++ [(Ft.mk (t.way ++ [t.no]) (lookE l t.way t.no tree t.lo t.hi s.deep) fa2 fc2)]).length) (((fv ++ [(Ft.mk (t.way ++ [t.no]) (lookE l t.way t.no tree t.lo t.hi s.deep) fa2 fc2)]).flatMap fltC)) zo Tryz.underlying85 (by kernel_rfl) rfl (by decide) zx hFl'21 zy (n60.blk.sl 1 1 (by decide) (by decide)) rfl (by simp [Value.oneCell']) (by unfold maxLen; omega) (by omega) hB'36.size (by simp) (by rw [List.flatMap_append]; rfl) fun px61 cx61 W61 o61 hg61 hb61 => ?_
       refine zK _ _ (sft_grown hb61 hg61 hFl'21 (by decide)) ?_
       have k49'4 := ((k49'3.below hb59).below n60.below).grown hg61 hFl'21 (by decide)
       refine ys (.o [8] 9) k49'4 [.slice pe s.es.length ce, .slice pb s.bs.length cb, .int .i64 s.deep, .int .i64 (↑(s.looked + 1) : Int), .slice px61 ((fv ++ [(Ft.mk (t.way ++ [t.no]) (lookE l t.way t.no tree t.lo t.hi s.deep) fa2 fc2)]).length) cx61] (.t w.heap.size [43, 87]) fun W62 u62 k62 => ⟨(sft_upd u62 k49'4 g2 (by decide)), ?_⟩
       refine xv1 5 10 (show (.slice (cutA aw 1 cw 5) (ts.length - 1) (cw - 1) : Value) = .slice (cutA aw 1 cw 5) r.length (cw - 1) from by rw [htr]; rfl) ?_
       have hWs'6 := ((((((((((((hWs.below n7.below).updN u8 n7 rfl).only (Only.of_upd (T := [87]) u49 k5_b2'9 (by decide)) (by decide)).below hb50).below n51.below).below n52.below).only (Only.of_upd (T := [188]) u53 k51 (by decide)) (by decide)).only (Only.of_upd (T := [43]) u54 k52 (by decide)) (by decide)).below (below_drew W54)).below hb59).below n60.below).only (Only.of_grown (T := [43]) hg61 hFl'21 (by decide)) (by decide)).only (Only.of_upd (T := [87]) u62 k49'4 (by decide)) (by decide)
       have hKt'19 := (((hKt'18.below hb59).below n60.below).only (Only.of_grown (T := [43]) hg61 hFl'21 (by decide)) (by decide)).only (Only.of_upd (T := [87]) u62 k49'4 (by decide)) (by decide)
       have hNB'10 := ((hNB.below n60.below).only (Only.of_grown (T := [43]) hg61 hFl'21 (by decide)) (by decide)).only (Only.of_upd (T := [87]) u62 k49'4 (by decide)) (by decide)
       have hB'37 := u62.below (hB'36.trans hb61) g2
       have k5_b1'10 := u62.blk (((((u54.blkT (u53.blkT ((((u49.blk (u8.blkT (k5_b1.below n7.below) n7.blk (by decide)) (Ne.symm (Ne.symm d2_b1))).below hb50).below n51.below).below n52.below) k51 (by decide)) k52 (by decide)).below (below_drew W54)).below hb59).below n60.below).grown hg61 hFl'21 (by decide)) (Ne.symm (Ne.symm d2_b1))
       have hEn'10 := u62.own2 (own_grown (own_below (own_below (own_below (u54.own2 (u53.own2 (own_below (own_below (own_below (u49.own2 (u8.own2 (own_below hEn n7.below) n7.blk (by decide)) k5_b2'9 (by decide)) hb50) n51.below) n52.below) k51 (by decide)) k52 (by decide)) (below_drew W54)) hb59) n60.below) hg61 hFl'21 (by decide)) k49'4 (by decide)
       have hBl'15 := u62.own2 (own_grown (own_below (own_below (own_below (u54.own2 (u53.own2 (own_below (own_below (own_below hBl'13 hb50) n51.below) n52.below) k51 (by decide)) k52 (by decide)) (below_drew W54)) hb59) n60.below) hg61 hFl'21 (by decide)) k49'4 (by decide)
       have o61'1 := u62.own2 o61 k49'4 (by decide)
       have hI'8 := (((((((((hI'6.below hb50).below n51.below).below n52.below).only (Only.of_upd (T := [188]) u53 k51 (by decide)) (by decide)).only (Only.of_upd (T := [43]) u54 k52 (by decide)) (by decide)).below (below_drew W54)).below hb59).below n60.below).only (Only.of_grown (T := [43]) hg61 hFl'21 (by decide)) (by decide)).only (Only.of_upd (T := [87]) u62 k49'4 (by decide)) (by decide)
       refine ze 0 (hJ5 _ _ _ ⟨(noteW t.way [t.no] (lookE l t.way t.no tree t.lo t.hi s.deep) { s with looked := s.looked + 1 }), r, pe, pb, px61, ce, cb, cx61, (fv ++ [(Ft.mk (t.way ++ [t.no]) (lookE l t.way t.no tree t.lo t.hi s.deep) fa2 fc2)]), (cutA aw 1 cw 5), (cw - 1), rfl, rfl, hB'37, k5_b1'10, k62, hEn'10, hBl'15, o61'1, (SufN.tail hWs'6 htr), (KeptI.note (f := (Ft.mk (t.way ++ [t.no]) (lookE l t.way t.no tree t.lo t.hi s.deep) fa2 fc2)) hKt'19 (hNB'10.mono hszA) hNp), hI'8, hwo1.err hft hfs hle, map_fltP_snoc hfv⟩ ?_)
       show 20 * (fuel.toNat - (s.looked + 1)) + r.length < 20 * (fuel.toNat - s.looked) + ts.length
       omega
     have hKt'20 := (((((hKt'15.below hb50).below n51.below).below n52.below).only (Only.of_upd (T := [188]) u53 k51 (by decide)) (by decide)).only (Only.of_upd (T := [43]) u54 k52 (by decide)) (by decide)).below (below_drew W54)
     have hNA'3 := ((((hNA.below n51.below).below n52.below).only (Only.of_upd (T := [188]) u53 k51 (by decide)) (by decide)).only (Only.of_upd (T := [43]) u54 k52 (by decide)) (by decide)).below (below_drew W54)
     refine yc 0 (args := #[.slice t.wa t.way.length t.wc, .agg #[.slice fa 1 fc, .int .i64 (lookE l t.way t.no tree t.lo t.hi s.deep)]]) (.t w.heap.size [43, 87]) (ref14_wrapK t.wa t.wc t.way (lookE l t.way t.no tree t.lo t.hi s.deep) _ fa fc t.no _ hle (KeptI.hd hKt'20).ints (by omega) hNA'3) ?_
     rintro _ W63 ⟨fa2, fc2, rfl, hb63, hNB⟩
     refine ⟨(SF.of_below _ hb63), ?_⟩
     have hNp := hNB.apart hBlA (Nat.le_refl _)
     refine xm2 0 1 6 ?_ ?_
     · have k49'5 := ((u54.blkT (u53.blkT (((k49.below hb50).below n51.below).below n52.below) k51 (by decide)) k52 (by decide)).below (below_drew W54)).below hb63
       refine xb 0 4 k49'5 ?_
       refine xbs (.o [] 6) 1 [.slice fa2 ((t.way ++ [t.no]).length) fc2, .int .i64 (lookE l t.way t.no tree t.lo t.hi s.deep)] 43 fun b64 W64 n64 => ?_
       have k54'5 := k54'3.below hb63
       have d64_b52 := n64.ne k54'5
       have hB'38 := Bl.next (Bl.next (u54.below (u53.below (Bl.next hB'31 n52.below) g51) g52) (below_drew W54)) hb63
       have g64 := n64.ge hB'38
       have hFl'22 := own_below (own_below (u54.own3 (u53.own2 (own_below hFl'17 n52.below) k51 (by decide)) r52_hFl) (below_drew W54)) hb63
       have r64_hFl := own_ne hFl'22 n64
       have hFl'23 := own_below hFl'22 n64.below
       have hB'39 := Bl.next hB'38 n64.below
       refine ybi (.o [] 7) (.t w.heap.size [43, 87]) fun _ _ _ _ zJ zQ zo zx zy zK => op_app (m := 1) (news := [.slice fa2 ((t.way ++ [t.no]).length) fc2, .int .i64 (lookE l t.way t.no tree t.lo t.hi s.deep)]) (.agg #[.slice none 0 0, .int .i64 0]) 2 32 ((fv ++ [(Ft.mk (t.way ++ [t.no]) (lookE l t.way t.no tree t.lo t.hi s.deep) fa2 fc2)]).length) (((fv ++ [(Ft.mk (t.way ++ [t.no]) (lookE l t.way t.no tree t.lo t.hi s.deep) fa2 fc2)]).flatMap fltC)) zo Tryz.underlying85 (by kernel_rfl) rfl (by decide) zx hFl'23 zy (n64.blk.sl 1 1 (by decide) (by decide)) rfl (by simp [Value.oneCell']) (by unfold maxLen; omega) (by omega) hB'39.size (by simp) (by rw [List.flatMap_append]; rfl) fun px65 cx65 W65 o65 hg65 hb65 => ?_
       refine zK _ _ (sft_grown hb65 hg65 hFl'23 (by decide)) ?_
       have k49'6 := (k49'5.below n64.below).grown hg65 hFl'23 (by decide)
       refine ys (.o [8] 9) k49'6 [.slice pe s.es.length ce, .slice pb s.bs.length cb, .int .i64 s.deep, .int .i64 (↑(s.looked + 1) : Int), .slice px65 ((fv ++ [(Ft.mk (t.way ++ [t.no]) (lookE l t.way t.no tree t.lo t.hi s.deep) fa2 fc2)]).length) cx65] (.t w.heap.size [43, 87]) fun W66 u66 k66 => ⟨(sft_upd u66 k49'6 g2 (by decide)), ?_⟩
       refine xv1 5 10 (show (.slice (cutA aw 1 cw 5) (ts.length - 1) (cw - 1) : Value) = .slice (cutA aw 1 cw 5) r.length (cw - 1) from by rw [htr]; rfl) ?_
       have hWs'7 := ((((((((((((hWs.below n7.below).updN u8 n7 rfl).only (Only.of_upd (T := [87]) u49 k5_b2'9 (by decide)) (by decide)).below hb50).below n51.below).below n52.below).only (Only.of_upd (T := [188]) u53 k51 (by decide)) (by decide)).only (Only.of_upd (T := [43]) u54 k52 (by decide)) (by decide)).below (below_drew W54)).below hb63).below n64.below).only (Only.of_grown (T := [43]) hg65 hFl'23 (by decide)) (by decide)).only (Only.of_upd (T := [87]) u66 k49'6 (by decide)) (by decide)
       have hKt'21 := (((hKt'20.below hb63).below n64.below).only (Only.of_grown (T := [43]) hg65 hFl'23 (by decide)) (by decide)).only (Only.of_upd (T := [87]) u66 k49'6 (by decide)) (by decide)
       have hNB'11 := ((hNB.below n64.below).only (Only.of_grown (T := [43]) hg65 hFl'23 (by decide)) (by decide)).only (Only.of_upd (T := [87]) u66 k49'6 (by decide)) (by decide)
       have hB'40 := u66.below (hB'39.trans hb65) g2
       have k5_b1'11 := u66.blk (((((u54.blkT (u53.blkT ((((u49.blk (u8.blkT (k5_b1.below n7.below) n7.blk (by decide)) (Ne.symm (Ne.symm d2_b1))).below hb50).below n51.below).below n52.below) k51 (by decide)) k52 (by decide)).below (below_drew W54)).below hb63).below n64.below).grown hg65 hFl'23 (by decide)) (Ne.symm (Ne.symm d2_b1))
       have hEn'11 := u66.own2 (own_grown (own_below (own_below (own_below (u54.own2 (u53.own2 (own_below (own_below (own_below (u49.own2 (u8.own2 (own_below hEn n7.below) n7.blk (by decide)) k5_b2'9 (by decide)) hb50) n51.below) n52.below) k51 (by decide)) k52 (by decide)) (below_drew W54)) hb63) n64.below) hg65 hFl'23 (by decide)) k49'6 (by decide)
       have hBl'16 := u66.own2 (own_grown (own_below (own_below (own_below (u54.own2 (u53.own2 (own_below (own_below (own_below hBl'13 hb50) n51.below) n52.below) k51 (by decide)) k52 (by decide)) (below_drew W54)) hb63) n64.below) hg65 hFl'23 (by decide)) k49'6 (by decide)
       have o65'1 := u66.own2 o65 k49'6 (by decide)
       have hI'9 := (((((((((hI'6.below hb50).below n51.below).below n52.below).only (Only.of_upd (T := [188]) u53 k51 (by decide)) (by decide)).only (Only.of_upd (T := [43]) u54 k52 (by decide)) (by decide)).below (below_drew W54)).below hb63).below n64.below).only (Only.of_grown (T := [43]) hg65 hFl'23 (by decide)) (by decide)).only (Only.of_upd (T := [87]) u66 k49'6 (by decide)) (by decide)
       refine ze 0 (hJ5 _ _ _ ⟨(noteW t.way [t.no] (lookE l t.way t.no tree t.lo t.hi s.deep) { s with looked := s.looked + 1 }), r, pe, pb, px65, ce, cb, cx65, (fv ++ [(Ft.mk (t.way ++ [t.no]) (lookE l t.way t.no tree t.lo t.hi s.deep) fa2 fc2)]), (cutA aw 1 cw 5), (cw - 1), rfl, rfl, hB'40, k5_b1'11, k66, hEn'11, hBl'16, o65'1, (SufN.tail hWs'7 htr), (KeptI.note (f := (Ft.mk (t.way ++ [t.no]) (lookE l t.way t.no tree t.lo t.hi s.deep) fa2 fc2)) hKt'21 (hNB'11.mono hszA) hNp), hI'9, hwo1.err hft hfs hle, map_fltP_snoc hfv⟩ ?_)
       show 20 * (fuel.toNat - (s.looked + 1)) + r.length < 20 * (fuel.toNat - s.looked) + ts.length
       omega
     refine xbs 0 1 [.slice fa2 ((t.way ++ [t.no]).length) fc2, .int .i64 (lookE l t.way t.no tree t.lo t.hi s.deep)] 43 fun b67 W67 n67 => ?_
     have k54'6 := k54'3.below hb63
     have d67_b52 := n67.ne k54'6
     have hB'41 := Bl.next (Bl.next (u54.below (u53.below (Bl.next hB'31 n52.below) g51) g52) (below_drew W54)) hb63
     have g67 := n67.ge hB'41
     have hFl'24 := own_below (own_below (u54.own3 (u53.own2 (own_below hFl'17 n52.below) k51 (by decide)) r52_hFl) (below_drew W54)) hb63
     have r67_hFl := own_ne hFl'24 n67
     have k49'7 := (((u54.blkT (u53.blkT (((k49.below hb50).below n51.below).below n52.below) k51 (by decide)) k52 (by decide)).below (below_drew W54)).below hb63).below n67.below
     refine xb (.o [] 1) 4 k49'7 ?_
     have hFl'25 := own_below hFl'24 n67.below
     have hB'42 := Bl.next hB'41 n67.below
     refine ybi (.o [] 7) (.t w.heap.size [43, 87]) fun _ _ _ _ zJ zQ zo zx zy zK => op_app (m := 1) (news := [.slice fa2 ((t.way ++ [t.no]).length) fc2, .int .i64 (lookE l t.way t.no tree t.lo t.hi s.deep)]) (.agg #[.slice none 0 0, .int .i64 0]) 2 32 ((fv ++ [(Ft.mk (t.way ++ [t.no]) (lookE l t.way t.no tree t.lo t.hi s.deep) fa2 fc2)]).length) (((fv ++ [(Ft.mk (t.way ++ [t.no]) (lookE l t.way t.no tree t.lo t.hi s.deep) fa2 fc2)]).flatMap fltC)) zo Tryz.underlying85 (by kernel_rfl) rfl (by decide) zx hFl'25 zy (n67.blk.sl 1 1 (by decide) (by decide)) rfl (by simp [Value.oneCell']) (by unfold maxLen; omega) (by omega) hB'42.size (by simp) (by rw [List.flatMap_append]; rfl) fun px68 cx68 W68 o68 hg68 hb68 => ?_
     refine zK _ _ (sft_grown hb68 hg68 hFl'25 (by decide)) ?_
     have k49'8 := k49'7.grown hg68 hFl'25 (by decide)
     refine ys (.o [8] 9) k49'8 [.slice pe s.es.length ce, .slice pb s.bs.length cb, .int .i64 s.deep, .int .i64 (↑(s.looked + 1) : Int), .slice px68 ((fv ++ [(Ft.mk (t.way ++ [t.no]) (lookE l t.way t.no tree t.lo t.hi s.deep) fa2 fc2)]).length) cx68] (.t w.heap.size [43, 87]) fun W69 u69 k69 => ⟨(sft_upd u69 k49'8 g2 (by decide)), ?_⟩
     refine xv1 5 10 (show (.slice (cutA aw 1 cw 5) (ts.length - 1) (cw - 1) : Value) = .slice (cutA aw 1 cw 5) r.length (cw - 1) from by rw [htr]; rfl) ?_
     have hWs'8 := ((((((((((((hWs.below n7.below).updN u8 n7 rfl).only (Only.of_upd (T := [87]) u49 k5_b2'9 (by decide)) (by decide)).below hb50).below n51.below).below n52.below).only (Only.of_upd (T := [188]) u53 k51 (by decide)) (by decide)).only (Only.of_upd (T := [43]) u54 k52 (by decide)) (by decide)).below (below_drew W54)).below hb63).below n67.below).only (Only.of_grown (T := [43]) hg68 hFl'25 (by decide)) (by decide)).only (Only.of_upd (T := [87]) u69 k49'8 (by decide)) (by decide)
     have hKt'22 := (((hKt'20.below hb63).below n67.below).only (Only.of_grown (T := [43]) hg68 hFl'25 (by decide)) (by decide)).only (Only.of_upd (T := [87]) u69 k49'8 (by decide)) (by decide)
     have hNB'12 := ((hNB.below n67.below).only (Only.of_grown (T := [43]) hg68 hFl'25 (by decide)) (by decide)).only (Only.of_upd (T := [87]) u69 k49'8 (by decide)) (by decide)
     have hB'43 := u69.below (hB'42.trans hb68) g2
     have k5_b1'12 := u69.blk (((((u54.blkT (u53.blkT ((((u49.blk (u8.blkT (k5_b1.below n7.below) n7.blk (by decide)) (Ne.symm (Ne.symm d2_b1))).below hb50).below n51.below).below n52.below) k51 (by decide)) k52 (by decide)).below (below_drew W54)).below hb63).below n67.below).grown hg68 hFl'25 (by decide)) (Ne.symm (Ne.symm d2_b1))
     have hEn'12 := u69.own2 (own_grown (own_below (own_below (own_below (u54.own2 (u53.own2 (own_below (own_below (own_below (u49.own2 (u8.own2 (own_below hEn n7.below) n7.blk (by decide)) k5_b2'9 (by decide)) hb50) n51.below) n52.below) k51 (by decide)) k52 (by decide)) (below_drew W54)) hb63) n67.below) hg68 hFl'25 (by decide)) k49'8 (by decide)
     have hBl'17 := u69.own2 (own_grown (own_below (own_below (own_below (u54.own2 (u53.own2 (own_below (own_below (own_below hBl'13 hb50) n51.below) n52.below) k51 (by decide)) k52 (by decide)) (below_drew W54)) hb63) n67.below) hg68 hFl'25 (by decide)) k49'8 (by decide)
     have o68'1 := u69.own2 o68 k49'8 (by decide)
     have hI'10 := (((((((((hI'6.below hb50).below n51.below).below n52.below).only (Only.of_upd (T := [188]) u53 k51 (by decide)) (by decide)).only (Only.of_upd (T := [43]) u54 k52 (by decide)) (by decide)).below (below_drew W54)).below hb63).below n67.below).only (Only.of_grown (T := [43]) hg68 hFl'25 (by decide)) (by decide)).only (Only.of_upd (T := [87]) u69 k49'8 (by decide)) (by decide)
     refine ze 0 (hJ5 _ _ _ ⟨(noteW t.way [t.no] (lookE l t.way t.no tree t.lo t.hi s.deep) { s with looked := s.looked + 1 }), r, pe, pb, px68, ce, cb, cx68, (fv ++ [(Ft.mk (t.way ++ [t.no]) (lookE l t.way t.no tree t.lo t.hi s.deep) fa2 fc2)]), (cutA aw 1 cw 5), (cw - 1), rfl, rfl, hB'43, k5_b1'12, k69, hEn'12, hBl'17, o68'1, (SufN.tail hWs'8 htr), (KeptI.note (f := (Ft.mk (t.way ++ [t.no]) (lookE l t.way t.no tree t.lo t.hi s.deep) fa2 fc2)) hKt'22 (hNB'12.mono hszA) hNp), hI'10, hwo1.err hft hfs hle, map_fltP_snoc hfv⟩ ?_)
     show 20 * (fuel.toNat - (s.looked + 1)) + r.length < 20 * (fuel.toNat - s.looked) + ts.length
     omega
   have hnc : nodC (inB l t.no) ≤ 18 := (look_node hle).2.2
   refine xa 3 [.int .i64 0, .bool false, .slice none 0 0, .slice none 0 0] 188 fun b70 W70 n70 => ?_
   have hB'44 := Bl.next hB'29 hb50
   have g70 := n70.ge hB'44
   refine xa 0 [.slice none 0 0, .int .i64 0] 43 fun b71 W71 n71 => ?_
   have hB'45 := Bl.next hB'44 n70.below
   have g71 := n71.ge hB'45
   have hFl'26 := own_below (own_below (u49.own2 (u8.own2 (own_below hFl n7.below) n7.blk (by decide)) k5_b2'9 (by decide)) hb50) n70.below
   have r71_hFl := own_ne hFl'26 n71
   have k70 := n70.blk.below n71.below
   refine xsv 0 k70 [.int .i64 (nodT (inB l t.no)), .bool (nodL (inB l t.no)), .slice kp (nodC (inB l t.no)) kc, .slice vp (nodC (inB l t.no)) vc] fun W72 u72 k72 => ?_
   have k71 := u72.blkT n71.blk k70 (by decide)
   refine xsv 0 k71 [.slice none 0 0, .int .i64 0] fun W73 u73 k73 => ?_
   refine xb 6 1 k73 ?_
   have k49'9 := u73.blkT (u72.blkT (((k49.below hb50).below n70.below).below n71.below) k70 (by decide)) k71 (by decide)
   refine xb 9 1 k49'9 ?_
   have k8'5 := u73.blkT (u72.blkT (((k8'3.below hb50).below n70.below).below n71.below) k70 (by decide)) k71 (by decide)
   refine xb 1 0 k8'5 ?_
   refine xbs 0 1 [.int .i64 t.no] 3 fun b74 W74 n74 => ?_
   have hB'46 := u73.below (u72.below (Bl.next hB'45 n71.below) g70) g71
   have g74 := n74.ge hB'46
   have hBl'18 := u73.own2 (u72.own2 (own_below (own_below (own_below hBl'13 hb50) n70.below) n71.below) k70 (by decide)) k71 (by decide)
   have r74_hBl := own_ne hBl'18 n74
   have hk'1 := u73.own2 (u72.own2 (own_below (own_below (own_mono hk hB'29.size) n70.below) n71.below) k70 (by decide)) k71 (by decide)
   have r74_hk := own_ne hk'1 n74
   have hBl'19 := own_below hBl'18 n74.below
   have hB'47 := Bl.next hB'46 n74.below
   refine xbi 0 fun _ _ _ _ zJ zQ zo zx zy zK => op_app_at (b := b74) (c := 1) (m := 1) (news := [.int .i64 t.no]) (.int .i64 0) 1 8 ((s.bs ++ [t.no]).length) (((s.bs ++ [t.no]).map (Value.int .i64))) zo Tryz.underlying30 (by kernel_rfl) rfl (by decide) zx hBl'19 zy n74.blk rfl (by simp [Value.oneCell']) (by unfold maxLen; omega) (by omega) hB'47.size (by simp) (by simp) fun px75 cx75 W75 o75 hg75 hb75 ha75 => ?_
   have hk'2 := own_below hk'1 n74.below
   have q75_hk := hApk.row hk'2 hg75
   replace hApk := (hApk.grow hk'2 ha75)
   have hkq75 := q75_hk
   refine zK _ _ ?_
   have k49'10 := (k49'9.below n74.below).grown hg75 hBl'19 (by decide)
   refine xs 1 k49'10 [.slice pe s.es.length ce, .slice px75 ((s.bs ++ [t.no]).length) cx75, .int .i64 s.deep, .int .i64 (↑(s.looked + 1) : Int), .slice pf fv.length cf] fun W76 u76 k76 => ?_
   have k72'1 := u76.blkT (((u73.blkT k72 k71 (by decide)).below n74.below).grown hg75 hBl'19 (by decide)) k49'10 (by decide)
   refine xb 6 1 k72'1 ?_
   refine xi 2 (nodL (inB l t.no)) (fun hc77 => ?_) (fun hc77 => ?_)
   · have hlf := hc77
     have k8'6 := u76.blkT ((k8'5.below n74.below).grown hg75 hBl'19 (by decide)) k49'10 (by decide)
     refine xb 3 3 k8'6 ?_
     refine xwm 1 ((↑t.way.length : Int) + 1) (↑(t.way.length + 1) : Int) ?_
     refine xs 1 k76 [.slice pe s.es.length ce, .slice px75 ((s.bs ++ [t.no]).length) cx75, .int .i64 (↑(t.way.length + 1) : Int), .int .i64 (↑(s.looked + 1) : Int), .slice pf fv.length cf] fun W78 u78 k78 => ?_
     have hWs'9 := (((((((((((hWs.below n7.below).updN u8 n7 rfl).only (Only.of_upd (T := [87]) u49 k5_b2'9 (by decide)) (by decide)).below hb50).below n70.below).below n71.below).only (Only.of_upd (T := [188]) u72 k70 (by decide)) (by decide)).only (Only.of_upd (T := [43]) u73 k71 (by decide)) (by decide)).below n74.below).only (Only.of_grown (T := [3]) hg75 hBl'19 (by decide)) (by decide)).only (Only.of_upd (T := [87]) u76 k49'10 (by decide)) (by decide)).only (Only.of_upd (T := [87]) u78 k76 (by decide)) (by decide)
     have hWu := hWs'9.un
     have hgl := (hwo1.leaf hft hfs hle hlf).grow.1
     have hgl2 : s.es.length + nodC (inB l t.no) ≤ 1000000 := by have q := Nat.le_trans hgl hfe; simpa [leafL_len] using q
     have hEn'13 := u78.own2 (u76.own2 (own_grown (own_below (u73.own2 (u72.own2 (own_below (own_below (own_below (u49.own2 (u8.own2 (own_below hEn n7.below) n7.blk (by decide)) k5_b2'9 (by decide)) hb50) n70.below) n71.below) k70 (by decide)) k71 (by decide)) n74.below) hg75 hBl'19 (by decide)) k49'10 (by decide)) k76 (by decide)
     have hI'11 := ((((((((hI'6.below hb50).below n70.below).below n71.below).only (Only.of_upd (T := [188]) u72 k70 (by decide)) (by decide)).only (Only.of_upd (T := [43]) u73 k71 (by decide)) (by decide)).below n74.below).only (Only.of_grown (T := [3]) hg75 hBl'19 (by decide)) (by decide)).only (Only.of_upd (T := [87]) u76 k49'10 (by decide)) (by decide)).only (Only.of_upd (T := [87]) u78 k76 (by decide)) (by decide)
     have hFl'27 := u78.own2 (u76.own2 (own_grown (own_below (u73.own3 (u72.own2 (own_below hFl'26 n71.below) k70 (by decide)) r71_hFl) n74.below) hg75 hBl'19 (by decide)) k49'10 (by decide)) k76 (by decide)
     have hKt'23 := ((((((((hKt'15.below hb50).below n70.below).below n71.below).only (Only.of_upd (T := [188]) u72 k70 (by decide)) (by decide)).only (Only.of_upd (T := [43]) u73 k71 (by decide)) (by decide)).below n74.below).grow hBl'19 hg75 ha75).only (Only.of_upd (T := [87]) u76 k49'10 (by decide)) (by decide)).only (Only.of_upd (T := [87]) u78 k76 (by decide)) (by decide)
     have hv_'1 := u78.own2 (u76.own2 (own_grown (own_below (u73.own2 (u72.own2 (own_below (own_below (own_mono hv_ hB'29.size) n70.below) n71.below) k70 (by decide)) k71 (by decide)) n74.below) hg75 hBl'19 (by decide)) k49'10 (by decide)) k76 (by decide)
     have hk'3 := u78.own2 (u76.own2 hkq75 k49'10 (by decide)) k76 (by decide)
     have o75'1 := u78.own2 (u76.own2 o75 k49'10 (by decide)) k76 (by decide)
     have hB'48 := u78.below (u76.below (hB'47.trans hb75) g2) g2
     have k5_b1'13 := u78.blk (u76.blk (((u73.blkT (u72.blkT ((((u49.blk (u8.blkT (k5_b1.below n7.below) n7.blk (by decide)) (Ne.symm (Ne.symm d2_b1))).below hb50).below n70.below).below n71.below) k70 (by decide)) k71 (by decide)).below n74.below).grown hg75 hBl'19 (by decide)) (Ne.symm (Ne.symm d2_b1))) (Ne.symm (Ne.symm d2_b1))
     have k8'7 := u78.blkT k8'6 k76 (by decide)
     have k72'2 := u78.blkT k72'1 k76 (by decide)
     have k73'1 := u78.blkT (u76.blkT ((k73.below n74.below).grown hg75 hBl'19 (by decide)) k49'10 (by decide)) k76 (by decide)
     refine zl 9 186 (fun zm zkv V => ∃ (i : Nat) (pe2 : Option Addr) (ce2 : Nat), zkv = [(0, .pointer (some ⟨bm, 0, none⟩)), (2, .int .i64 tree), (3, .int .i64 fuel), (8, .pointer (some ⟨b1, 0, none⟩)), (9, .pointer (some ⟨b2, 0, none⟩)), (10, .slice (cutA aw 1 cw 5) (ts.length - 1) (cw - 1)), (11, .pointer (some ⟨b7, 0, none⟩)), (12, .pointer (some ⟨b70, 0, none⟩)), (14, .int .i64 (↑i : Int))] ∧ zm = (nodC (inB l t.no)) - ((↑i : Int)).toNat ∧ Below w.heap.size w V ∧ Blk V b1 ([.slice none 0 0, .slice none 0 0, .int .i64 0, .int .i64 0, .slice none 0 0]) 87 ∧ Blk V b2 ([.slice pe2 (s.es.length + i) ce2, .slice px75 ((s.bs ++ [t.no]).length) cx75, .int .i64 (↑(t.way.length + 1) : Int), .int .i64 (↑(s.looked + 1) : Int), .slice pf fv.length cf]) 87 ∧ Blk V b7 ([.int .i64 t.no, .int .i64 t.lo, .int .i64 t.hi, .slice t.wa t.way.length t.wc, .int .i64 t.ft]) 184 ∧ Blk V b70 ([.int .i64 (nodT (inB l t.no)), .bool (nodL (inB l t.no)), .slice kp (nodC (inB l t.no)) kc, .slice vp (nodC (inB l t.no)) vc]) 188 ∧ Blk V b71 ([.slice none 0 0, .int .i64 0]) 43 ∧ V.ownsRow w.heap.size 77 3 (.slice pe2 (s.es.length + i) ce2) (s.es.length + i) ((s.es ++ leafL (nodK l t.no) (nodV l t.no) t.no i).flatMap entC) ∧ RefI B bm p k c l V ∧ V.ownsRow w.heap.size 43 2 (.slice pf fv.length cf) fv.length (fv.flatMap fltC) ∧ SufV w.heap.size V aw cw ts ∧ KeptI w.heap.size V (.slice px75 ((s.bs ++ [t.no]).length) cx75) ((t :: r).map wayK ++ fv.map fltK) ∧ V.ownsRow w.heap.size 9 1 (.slice vp (nodC (inB l t.no)) vc) (nodC (inB l t.no)) ((nodV l t.no).map sv) ∧ V.ownsRow w.heap.size 3 1 (.slice kp (nodC (inB l t.no)) kc) (nodC (inB l t.no)) ((nodK l t.no).map (Value.int .i64)) ∧ V.ownsRow w.heap.size 3 1 (.slice px75 ((s.bs ++ [t.no]).length) cx75) ((s.bs ++ [t.no]).length) ((s.bs ++ [t.no]).map (Value.int .i64)) ∧ i ≤ (nodC (inB l t.no))) ⟨0, pe, ce, rfl, rfl, hB'48, k5_b1'13, k78, k8'7, k72'2, k73'1, (by simpa [leafL] using hEn'13), hI'11, hFl'27, hWu, hKt'23, hv_'1, hk'3, o75'1, Nat.zero_le _⟩ ?_
     rintro _ _ W79 ⟨i, pe2, ce2, rfl, rfl, hB_79, k79_b1, k79_b2, k79_b7, k79_b70, k79_b71, hE, hI, hFl, hWu, hKt, hv_, hk, o75, hi⟩ J79 hJ79 r79
     refine xb 5 2 k79_b70 ?_
     refine xid 4 ((↑i : Int) < (↑(nodC (inB l t.no)) : Int)) (fun hc80 => ?_) (fun hc80 => ?_)
     · refine xd 4 (.t w.heap.size [77, 87]) ?_
       have k79_b70'1 := k79_b70.below (below_drew W79)
       refine xbt (.e [0, 2] 3) 2 w.heap.size [77, 87] k79_b70'1 ?_
       have hk'4 := own_below hk (below_drew W79)
       refine xx (.e [4] 5) _ (nodC (inB l t.no)) i 1 (IntsN.elem (l := nodK l t.no) (own_sl hk'4) (keysI_len _ _) (k := i) (by omega)).1 ?_
       refine xlt (.e [] 6) (.t w.heap.size [77, 87]) (fun V hV => (IntsN.elem (l := nodK l t.no) (own_sl (own_only hk'4 hV.2 (by decide))) (keysI_len _ _) (k := i) (by omega)).2) ?_
       refine xbt (.e [7] 8) 3 w.heap.size [77, 87] k79_b70'1 ?_
       have hv_'2 := own_below hv_ (below_drew W79)
       refine xx (.e [9] 10) _ (nodC (inB l t.no)) i 1 (Strs.elem (V := nodV l t.no) (own_sl hv_'2) (valsL_len _ _) (k := i) (by omega)).1 ?_
       refine xlt (.e [] 11) (.t w.heap.size [77, 87]) (fun V hV => (Strs.elem (V := nodV l t.no) (own_sl (own_only hv_'2 hV.2 (by decide))) (valsL_len _ _) (k := i) (by omega)).2) ?_
       have k79_b7'1 := k79_b7.below (below_drew W79)
       refine xbt (.e [12] 13) 0 w.heap.size [77, 87] k79_b7'1 ?_
       refine xm2 (.b [14]) 1 15 ?_ ?_
       · have k79_b2'1 := k79_b2.below (below_drew W79)
         refine xb 0 0 k79_b2'1 ?_
         refine xbs (.o [] 15) 1 [.int .i64 ((nodK l t.no).getD i 0), .string ⟨((nodV l t.no).getD i []).toArray⟩, .int .i64 t.no] 77 fun b81 W81 n81 => ?_
         have hB'49 := Bl.next hB_79 (below_drew W79)
         have g81 := n81.ge hB'49
         have hE'1 := own_below hE (below_drew W79)
         have r81_hE := own_ne hE'1 n81
         have hE'2 := own_below hE'1 n81.below
         have hB'50 := Bl.next hB'49 n81.below
         refine ybi (.o [] 16) (.t w.heap.size [77, 87]) fun _ _ _ _ zJ zQ zo zx zy zK => op_app (m := 1) (news := [.int .i64 ((nodK l t.no).getD i 0), .string ⟨((nodV l t.no).getD i []).toArray⟩, .int .i64 t.no]) (.agg #[.int .i64 0, .string ⟨#[]⟩, .int .i64 0]) 3 32 ((s.es.length + (i + 1))) (((s.es ++ leafL (nodK l t.no) (nodV l t.no) t.no (i + 1)).flatMap entC)) zo Tryz.underlying67 (by kernel_rfl) rfl (by decide) zx hE'2 zy (n81.blk.sl 1 1 (by decide) (by decide)) rfl (by simp [Value.oneCell']) (by unfold maxLen; omega) (by omega) hB'50.size (by omega) (leaf_row _ _ _ _ _) fun px82 cx82 W82 o82 hg82 hb82 => ?_
         refine zK _ _ (sft_grown hb82 hg82 hE'2 (by decide)) ?_
         have k79_b2'2 := (k79_b2'1.below n81.below).grown hg82 hE'2 (by decide)
         refine ys (.o [17] 18) k79_b2'2 [.slice px82 (s.es.length + (i + 1)) cx82, .slice px75 ((s.bs ++ [t.no]).length) cx75, .int .i64 (↑(t.way.length + 1) : Int), .int .i64 (↑(s.looked + 1) : Int), .slice pf fv.length cf] (.t w.heap.size [77, 87]) fun W83 u83 k83 => ⟨(sft_upd u83 k79_b2'2 g2 (by decide)), ?_⟩
         refine xwm 5 ((↑i : Int) + 1) (↑(i + 1) : Int) ?_
         have hB'51 := u83.below (hB'50.trans hb82) g2
         have k79_b1'1 := u83.blk (((k79_b1.below (below_drew W79)).below n81.below).grown hg82 hE'2 (by decide)) (Ne.symm (Ne.symm d2_b1))
         have k79_b7'2 := u83.blkT ((k79_b7'1.below n81.below).grown hg82 hE'2 (by decide)) k79_b2'2 (by decide)
         have k79_b70'2 := u83.blkT ((k79_b70'1.below n81.below).grown hg82 hE'2 (by decide)) k79_b2'2 (by decide)
         have k79_b71'1 := u83.blkT (((k79_b71.below (below_drew W79)).below n81.below).grown hg82 hE'2 (by decide)) k79_b2'2 (by decide)
         have o82'1 := u83.own2 o82 k79_b2'2 (by decide)
         have hI'12 := (((hI.below (below_drew W79)).below n81.below).only (Only.of_grown (T := [77]) hg82 hE'2 (by decide)) (by decide)).only (Only.of_upd (T := [87]) u83 k79_b2'2 (by decide)) (by decide)
         have hFl'28 := u83.own2 (own_grown (own_below (own_below hFl (below_drew W79)) n81.below) hg82 hE'2 (by decide)) k79_b2'2 (by decide)
         have hWu'1 := (((hWu.below (below_drew W79)).below n81.below).only (Only.of_grown (T := [77]) hg82 hE'2 (by decide)) (by decide)).only (Only.of_upd (T := [87]) u83 k79_b2'2 (by decide)) (by decide)
         have hKt'24 := (((hKt.below (below_drew W79)).below n81.below).only (Only.of_grown (T := [77]) hg82 hE'2 (by decide)) (by decide)).only (Only.of_upd (T := [87]) u83 k79_b2'2 (by decide)) (by decide)
         have hv_'3 := u83.own2 (own_grown (own_below hv_'2 n81.below) hg82 hE'2 (by decide)) k79_b2'2 (by decide)
         have hk'5 := u83.own2 (own_grown (own_below hk'4 n81.below) hg82 hE'2 (by decide)) k79_b2'2 (by decide)
         have o75'2 := u83.own2 (own_grown (own_below (own_below o75 (below_drew W79)) n81.below) hg82 hE'2 (by decide)) k79_b2'2 (by decide)
         exact ze 2 (hJ79 _ _ _ ⟨i + 1, _, _, rfl, rfl, hB'51, k79_b1'1, k83, k79_b7'2, k79_b70'2, k79_b71'1, o82'1, hI'12, hFl'28, hWu'1, hKt'24, hv_'3, hk'5, o75'2, by omega⟩ (by omega))
       refine xbs 0 1 [.int .i64 ((nodK l t.no).getD i 0), .string ⟨((nodV l t.no).getD i []).toArray⟩, .int .i64 t.no] 77 fun b84 W84 n84 => ?_
       have hB'52 := Bl.next hB_79 (below_drew W79)
       have g84 := n84.ge hB'52
       have hE'3 := own_below hE (below_drew W79)
       have r84_hE := own_ne hE'3 n84
       have k79_b2'3 := (k79_b2.below (below_drew W79)).below n84.below
       refine xb (.o [] 1) 0 k79_b2'3 ?_
       have hE'4 := own_below hE'3 n84.below
       have hB'53 := Bl.next hB'52 n84.below
       refine ybi (.o [] 16) (.t w.heap.size [77, 87]) fun _ _ _ _ zJ zQ zo zx zy zK => op_app (m := 1) (news := [.int .i64 ((nodK l t.no).getD i 0), .string ⟨((nodV l t.no).getD i []).toArray⟩, .int .i64 t.no]) (.agg #[.int .i64 0, .string ⟨#[]⟩, .int .i64 0]) 3 32 ((s.es.length + (i + 1))) (((s.es ++ leafL (nodK l t.no) (nodV l t.no) t.no (i + 1)).flatMap entC)) zo Tryz.underlying67 (by kernel_rfl) rfl (by decide) zx hE'4 zy (n84.blk.sl 1 1 (by decide) (by decide)) rfl (by simp [Value.oneCell']) (by unfold maxLen; omega) (by omega) hB'53.size (by omega) (leaf_row _ _ _ _ _) fun px85 cx85 W85 o85 hg85 hb85 => ?_
       refine zK _ _ (sft_grown hb85 hg85 hE'4 (by decide)) ?_
       have k79_b2'4 := k79_b2'3.grown hg85 hE'4 (by decide)
       refine ys (.o [17] 18) k79_b2'4 [.slice px85 (s.es.length + (i + 1)) cx85, .slice px75 ((s.bs ++ [t.no]).length) cx75, .int .i64 (↑(t.way.length + 1) : Int), .int .i64 (↑(s.looked + 1) : Int), .slice pf fv.length cf] (.t w.heap.size [77, 87]) fun W86 u86 k86 => ⟨(sft_upd u86 k79_b2'4 g2 (by decide)), ?_⟩
       refine xwm 5 ((↑i : Int) + 1) (↑(i + 1) : Int) ?_
       have hB'54 := u86.below (hB'53.trans hb85) g2
       have k79_b1'2 := u86.blk (((k79_b1.below (below_drew W79)).below n84.below).grown hg85 hE'4 (by decide)) (Ne.symm (Ne.symm d2_b1))
       have k79_b7'3 := u86.blkT ((k79_b7'1.below n84.below).grown hg85 hE'4 (by decide)) k79_b2'4 (by decide)
       have k79_b70'3 := u86.blkT ((k79_b70'1.below n84.below).grown hg85 hE'4 (by decide)) k79_b2'4 (by decide)
       have k79_b71'2 := u86.blkT (((k79_b71.below (below_drew W79)).below n84.below).grown hg85 hE'4 (by decide)) k79_b2'4 (by decide)
       have o85'1 := u86.own2 o85 k79_b2'4 (by decide)
       have hI'13 := (((hI.below (below_drew W79)).below n84.below).only (Only.of_grown (T := [77]) hg85 hE'4 (by decide)) (by decide)).only (Only.of_upd (T := [87]) u86 k79_b2'4 (by decide)) (by decide)
       have hFl'29 := u86.own2 (own_grown (own_below (own_below hFl (below_drew W79)) n84.below) hg85 hE'4 (by decide)) k79_b2'4 (by decide)
       have hWu'2 := (((hWu.below (below_drew W79)).below n84.below).only (Only.of_grown (T := [77]) hg85 hE'4 (by decide)) (by decide)).only (Only.of_upd (T := [87]) u86 k79_b2'4 (by decide)) (by decide)
       have hKt'25 := (((hKt.below (below_drew W79)).below n84.below).only (Only.of_grown (T := [77]) hg85 hE'4 (by decide)) (by decide)).only (Only.of_upd (T := [87]) u86 k79_b2'4 (by decide)) (by decide)
       have hv_'4 := u86.own2 (own_grown (own_below hv_'2 n84.below) hg85 hE'4 (by decide)) k79_b2'4 (by decide)
       have hk'6 := u86.own2 (own_grown (own_below hk'4 n84.below) hg85 hE'4 (by decide)) k79_b2'4 (by decide)
       have o75'3 := u86.own2 (own_grown (own_below (own_below o75 (below_drew W79)) n84.below) hg85 hE'4 (by decide)) k79_b2'4 (by decide)
       exact ze 2 (hJ79 _ _ _ ⟨i + 1, _, _, rfl, rfl, hB'54, k79_b1'2, k86, k79_b7'3, k79_b70'3, k79_b71'2, o85'1, hI'13, hFl'29, hWu'2, hKt'25, hv_'4, hk'6, o75'3, by omega⟩ (by omega))
     refine xv1 8 10 (show (.slice (cutA aw 1 cw 5) (ts.length - 1) (cw - 1) : Value) = .slice (cutA aw 1 cw 5) r.length (cw - 1) from by rw [htr]; rfl) ?_
     have hin : i = (nodC (inB l t.no)) := by omega
     have hk9 := k79_b2
     have hEe := hE
     rw [hin] at hk9 hEe
     refine ze 0 (hJ5 _ _ _ ⟨{ s with looked := s.looked + 1, bs := s.bs ++ [t.no], deep := ((t.way.length + 1 : Nat) : Int), es := s.es ++ leafL (nodK l t.no) (nodV l t.no) t.no (nodC (inB l t.no)) }, r, pe2, px75, pf, ce2, cx75, cf, fv, (cutA aw 1 cw 5), (cw - 1), rfl, rfl, hB_79, k79_b1, (by simpa [leafL_len] using hk9), (by simpa [leafL_len] using hEe), o75, hFl, (SufN.tail (SufV.at_ hWu) htr), hKt.drop1, hI, hwo1.leaf hft hfs hle hlf, hfv⟩ ?_)
     show 20 * (fuel.toNat - (s.looked + 1)) + r.length < 20 * (fuel.toNat - s.looked) + ts.length
     omega
   have hlf := hc77
   have o75'4 := u76.own2 o75 k49'10 (by decide)
   have hBlF := o75'4
   have hKt'26 := (((((((hKt'15.below hb50).below n70.below).below n71.below).only (Only.of_upd (T := [188]) u72 k70 (by decide)) (by decide)).only (Only.of_upd (T := [43]) u73 k71 (by decide)) (by decide)).below n74.below).grow hBl'19 hg75 ha75).only (Only.of_upd (T := [87]) u76 k49'10 (by decide)) (by decide)
   have hway0 := (KeptI.hd hKt'26).ints
   have hB'55 := u76.below (hB'47.trans hb75) g2
   have hF87 := hB'55
   refine xd 3 (.t W76.heap.size [3]) ?_
   have k8_hF87 := u76.blkT ((k8'5.below n74.below).grown hg75 hBl'19 (by decide)) k49'10 (by decide)
   have hB := (below_drew W76)
   refine xlt (.e [1] 2) (.t W76.heap.size [3]) (fun V hV => ((k8_hF87.below (sft_keep hB hV (Nat.le_refl _))).cell (i := 3) rfl)) ?_
   refine xlt (.e [4] 5) (.t W76.heap.size [3]) (fun V hV => ((k8_hF87.below (sft_keep hB hV (Nat.le_refl _))).cell (i := 0) rfl)) ?_
   refine xm2 0 0 6 ?_ ?_
   · refine xb0 0 3 fun b88 W88 n88 => ?_
     have g88 := n88.ge hB
     refine xm2 0 3 6 ?_ ?_
     · have o88 := own_of_blk (size := 1) (n := 0) n88.blk g88 rfl (by decide)
       have hB'56 := Bl.next hB n88.below
       refine ybi 0 (.t W76.heap.size [3]) fun _ _ _ _ zJ zQ zo zx zy zK => op_app (m := t.way.length) (news := (t.way.map (Value.int .i64))) (.int .i64 0) 1 8 (t.way.length) ((t.way.map (Value.int .i64))) zo Tryz.underlying30 (by kernel_rfl) rfl (by decide) zx o88 zy (hway0.below hB'56) (by simp) (ints_one _) (by unfold maxLen; omega) (by omega) hB'56.size (by omega) (by rfl) fun px89 cx89 W89 o89 hg89 hb89 => ?_
       refine zK _ _ (sft_grown hb89 hg89 o88 (by decide)) ?_
       refine xbs (.o [] 6) 1 [.int .i64 t.no] 3 fun b90 W90 n90 => ?_
       have hB'57 := hB'56.trans hb89
       have g90 := n90.ge hB'57
       have r90_o89 := own_ne o89 n90
       have o89'1 := own_below o89 n90.below
       have hB'58 := Bl.next hB'57 n90.below
       refine ybi (.o [] 7) (.t W76.heap.size [3]) fun _ _ _ _ zJ zQ zo zx zy zK => op_app (m := 1) (news := [.int .i64 t.no]) (.int .i64 0) 1 8 ((t.way ++ [t.no]).length) (((t.way ++ [t.no]).map (Value.int .i64))) zo Tryz.underlying30 (by kernel_rfl) rfl (by decide) zx o89'1 zy (n90.blk.sl 1 1 (by decide) (by decide)) rfl (by simp [Value.oneCell']) (by unfold maxLen; omega) (by omega) hB'58.size (by simp) (by simp) fun px91 cx91 W91 o91 hg91 hb91 => ?_
       refine zK _ _ (sft_grown hb91 hg91 o89'1 (by decide)) ?_
       have hB'59 := hB'58.trans hb91
       refine zl (.r [8] 14) 186 (fun zm zkv V => ∃ (i : Nat) (pq : Option Addr) (cq : Nat), zkv = [(0, .pointer (some ⟨bm, 0, none⟩)), (2, .int .i64 tree), (3, .int .i64 fuel), (8, .pointer (some ⟨b1, 0, none⟩)), (9, .pointer (some ⟨b2, 0, none⟩)), (10, .slice (cutA aw 1 cw 5) (ts.length - 1) (cw - 1)), (11, .pointer (some ⟨b7, 0, none⟩)), (12, .pointer (some ⟨b70, 0, none⟩)), (15, .slice px91 ((t.way ++ [t.no]).length) cx91), (16, .slice pq i cq), (17, .int .i64 (↑i : Int))] ∧ zm = (nodC (inB l t.no)) - ((↑i : Int)).toNat ∧ Below W76.heap.size W76 V ∧ V.ownsRow W76.heap.size 184 5 (.slice pq i cq) i ((belowL l t px91 cx91 i).flatMap wtC) ∧ V.ownsRow W76.heap.size 3 1 (.slice px91 ((t.way ++ [t.no]).length) cx91) ((t.way ++ [t.no]).length) ((t.way ++ [t.no]).map (Value.int .i64)) ∧ i ≤ (nodC (inB l t.no))) ⟨0, _, _, rfl, rfl, hB'59, World.ownsRow_nil _ _ _ _, o91, Nat.zero_le _⟩ ?_
       rintro _ _ W92 ⟨i, pq, cq, rfl, rfl, hB_92, hB_, o91, hi⟩ J92 hJ92 r92
       refine xl 5 ((k72'1.below hB_92).cell (i := 2) rfl) ?_
       refine xid 4 ((↑i : Int) < (↑(nodC (inB l t.no)) : Int)) (fun hc93 => ?_) (fun hc93 => ?_)
       · refine xl 7 ((k72'1.below hB_92).cell (i := 3) rfl) ?_
         have hv__hF87 := own_sl (u76.own2 (own_grown (own_below (u73.own2 (u72.own2 (own_below (own_below (own_mono hv_ hB'29.size) n70.below) n71.below) k70 (by decide)) k71 (by decide)) n74.below) hg75 hBl'19 (by decide)) k49'10 (by decide))
         refine xx 1 _ (nodC (inB l t.no)) i 1 (Strs.elem (V := nodV l t.no) hv__hF87 (valsL_len _ _) (k := i) (by omega)).1 ?_
         refine xl 0 ((Strs.elem (V := nodV l t.no) (hv__hF87.below hB_92) (valsL_len _ _) (k := i) (by omega)).2) ?_
         refine xr 0 (args := #[.string ⟨((nodV l t.no).getD i []).toArray⟩]) (ref08_Root ((nodV l t.no).getD i []) _ (valsL_short _ _ _)) fun W94 hb94 => ?_
         refine xin 14 (rootE ((nodV l t.no).getD i [])) (0 : Int) (fun hc95 => ?_) (fun hc95 => ?_)
         · have hrt := hc95
           have hB'60 := Bl.next hB_92 hb94
           refine xl 4 ((k8_hF87.below hB'60).cell (i := 0) rfl) ?_
           refine xl 1 ((k8_hF87.below hB'60).cell (i := 3) rfl) ?_
           refine xbs 2 1 [.int .i64 t.no, .int .i64 0, .int .i64 0, .slice t.wa t.way.length t.wc, .int .i64 (rootE ((nodV l t.no).getD i []))] 184 fun b96 W96 n96 => ?_
           have g96 := n96.ge hB'60
           have hB_'1 := own_below hB_ hb94
           have r96_hB_ := own_ne hB_'1 n96
           have hB_'2 := own_below hB_'1 n96.below
           have hB'61 := Bl.next hB'60 n96.below
           refine xbi 0 fun _ _ _ _ zJ zQ zo zx zy zK => op_app (m := 1) (news := [.int .i64 t.no, .int .i64 0, .int .i64 0, .slice t.wa t.way.length t.wc, .int .i64 (rootE ((nodV l t.no).getD i []))]) (.agg #[.int .i64 0, .int .i64 0, .int .i64 0, .slice none 0 0, .int .i64 0]) 5 56 (i + 1) (((belowL l t px91 cx91 (i + 1)).flatMap wtC)) zo Tryz.underlying185 (by kernel_rfl) rfl (by decide) zx hB_'2 zy (n96.blk.sl 1 1 (by decide) (by decide)) rfl (by simp [Value.oneCell']) (by unfold maxLen; omega) (by omega) hB'61.size (by rfl) (by rw [belowL_snoc, List.flatMap_append, show belowW l t px91 cx91 i = ⟨t.no, 0, 0, t.way, rootE ((nodV l t.no).getD i []), t.wa, t.wc⟩ from by unfold belowW; rw [if_neg hrt]]; rfl) fun px97 cx97 W97 o97 hg97 hb97 => ?_
           refine zK _ _ ?_
           refine xwm 9 ((↑i : Int) + 1) (↑(i + 1) : Int) ?_
           have hB'62 := hB'61.trans hb97
           have o91'1 := own_grown (own_below (own_below o91 hb94) n96.below) hg97 hB_'2 (by decide)
           exact ze 2 (hJ92 _ _ _ ⟨i + 1, _, _, rfl, rfl, hB'62, o97, o91'1, by omega⟩ (by omega))
         have hrt := hc95
         have hB'63 := Bl.next hB_92 hb94
         refine xlv 5 ((k8_hF87.below hB'63).rpp 1 2) ?_
         refine xl 1 ((k72'1.below hB'63).cell (i := 2) rfl) ?_
         have hkl : (nodK l t.no).length = (nodC (inB l t.no)) := keysI_len _ _
         have hci := child_in (look_node hle).2.1 (i := i) (by rw [hkl]; omega)
         have hk_hF87 := own_sl (u76.own2 hkq75 k49'10 (by decide))
         refine xr 1 (args := #[.agg #[.int .i64 t.lo, .int .i64 t.hi], .slice kp (nodC (inB l t.no)) kc, .int .i64 (↑i : Int)]) ((refspan_child t.lo t.hi (↑i : Int) _ (nodK l t.no) _ ⟨by omega, by omega⟩ (by rw [hkl]; omega) (intsN_of (hk_hF87.below hB'63) hkl)).mono (fun _ _ h => by rw [hci] at h; exact h)) fun W98 hb98 => ?_
         refine xa 3 [.int .i64 0, .int .i64 0] 173 fun b99 W99 n99 => ?_
         have hB'64 := Bl.next hB'63 hb98
         have g99 := n99.ge hB'64
         refine xsv 0 n99.blk [.int .i64 ((partAt t.hi (nodK l t.no) i).1), .int .i64 ((partAt t.hi (nodK l t.no) i).2)] fun W100 u100 k100 => ?_
         refine xlv 6 k100.rp ?_
         refine xbs 2 1 [.int .i64 (↑(rootN ((nodV l t.no).getD i [])) : Int), .int .i64 ((partAt t.hi (nodK l t.no) i).1), .int .i64 ((partAt t.hi (nodK l t.no) i).2), .slice px91 ((t.way ++ [t.no]).length) cx91, .int .i64 0] 184 fun b101 W101 n101 => ?_
         have hB'65 := u100.below (Bl.next hB'64 n99.below) g99
         have g101 := n101.ge hB'65
         have hB_'3 := u100.own2 (own_below (own_below (own_below hB_ hb94) hb98) n99.below) n99.blk (by decide)
         have r101_hB_ := own_ne hB_'3 n101
         have hB_'4 := own_below hB_'3 n101.below
         have hB'66 := Bl.next hB'65 n101.below
         refine xbi 0 fun _ _ _ _ zJ zQ zo zx zy zK => op_app (m := 1) (news := [.int .i64 (↑(rootN ((nodV l t.no).getD i [])) : Int), .int .i64 ((partAt t.hi (nodK l t.no) i).1), .int .i64 ((partAt t.hi (nodK l t.no) i).2), .slice px91 ((t.way ++ [t.no]).length) cx91, .int .i64 0]) (.agg #[.int .i64 0, .int .i64 0, .int .i64 0, .slice none 0 0, .int .i64 0]) 5 56 (i + 1) (((belowL l t px91 cx91 (i + 1)).flatMap wtC)) zo Tryz.underlying185 (by kernel_rfl) rfl (by decide) zx hB_'4 zy (n101.blk.sl 1 1 (by decide) (by decide)) rfl (by simp [Value.oneCell']) (by unfold maxLen; omega) (by omega) hB'66.size (by rfl) (by rw [belowL_snoc, List.flatMap_append, show belowW l t px91 cx91 i = ⟨rootN ((nodV l t.no).getD i []), (partAt t.hi (nodK l t.no) i).1, (partAt t.hi (nodK l t.no) i).2, t.way ++ [t.no], 0, px91, cx91⟩ from by unfold belowW; rw [if_pos hrt]]; rfl) fun px102 cx102 W102 o102 hg102 hb102 => ?_
         refine zK _ _ ?_
         refine xwm 6 ((↑i : Int) + 1) (↑(i + 1) : Int) ?_
         have hB'67 := hB'66.trans hb102
         have o91'2 := own_grown (own_below (u100.own2 (own_below (own_below (own_below o91 hb94) hb98) n99.below) n99.blk (by decide)) n101.below) hg102 hB_'4 (by decide)
         exact ze 2 (hJ92 _ _ _ ⟨i + 1, _, _, rfl, rfl, hB'67, o102, o91'2, by omega⟩ (by omega))
       have hWs_hF87 := ((((((((((hWs.below n7.below).updN u8 n7 rfl).only (Only.of_upd (T := [87]) u49 k5_b2'9 (by decide)) (by decide)).below hb50).below n70.below).below n71.below).only (Only.of_upd (T := [188]) u72 k70 (by decide)) (by decide)).only (Only.of_upd (T := [43]) u73 k71 (by decide)) (by decide)).below n74.below).only (Only.of_grown (T := [3]) hg75 hBl'19 (by decide)) (by decide)).only (Only.of_upd (T := [87]) u76 k49'10 (by decide)) (by decide)
       refine xbi 8 fun _ _ _ _ zJ zQ zo zx zy zK => op_app (m := (ts.length - 1)) (news := (r.flatMap wtC)) (.agg #[.int .i64 0, .int .i64 0, .int .i64 0, .slice none 0 0, .int .i64 0]) 5 56 ((belowL l t px91 cx91 (nodC (inB l t.no)) ++ r).length) (((belowL l t px91 cx91 (nodC (inB l t.no)) ++ r).flatMap wtC)) zo Tryz.underlying185 (by kernel_rfl) rfl (by decide) zx hB_ zy ((hWs_hF87.below hB_92).slN htr) (by rw [flat_length wtC_len, htl]; rfl) (wt_one r) (by unfold maxLen; omega) (by omega) hB_92.size (by rw [List.length_append, belowL_len, htl]; omega) (by rw [List.flatMap_append, show i = (nodC (inB l t.no)) by omega]) fun px103 cx103 W103 o103 hg103 hb103 => ?_
       refine zK _ _ ?_
       have o91'3 := own_grown o91 hg103 hB_ (by decide)
       have hApW := (Apart.of_lt hBlF o91'3 (Nat.le_refl _)).symm
       have hB'68 := hB_92.trans hb103
       have hT104 : Below W76.heap.size W76 W103 := hB'68
       have hs104 : w.heap.size ≤ W76.heap.size := hF87.size
       have o103'1 := own_mono o103 hs104
       have hKt'27 := hKt'26.below hT104
       have o91'4 := own_mono o91'3 hs104
       have hB := Bl.next hF87 hT104
       have k5_b1'14 := (u76.blk (((u73.blkT (u72.blkT ((((u49.blk (u8.blkT (k5_b1.below n7.below) n7.blk (by decide)) (Ne.symm (Ne.symm d2_b1))).below hb50).below n70.below).below n71.below) k70 (by decide)) k71 (by decide)).below n74.below).grown hg75 hBl'19 (by decide)) (Ne.symm (Ne.symm d2_b1))).below hT104
       have k76'1 := k76.below hT104
       have hEn'14 := own_below (u76.own2 (own_grown (own_below (u73.own2 (u72.own2 (own_below (own_below (own_below (u49.own2 (u8.own2 (own_below hEn n7.below) n7.blk (by decide)) k5_b2'9 (by decide)) hb50) n70.below) n71.below) k70 (by decide)) k71 (by decide)) n74.below) hg75 hBl'19 (by decide)) k49'10 (by decide)) hT104
       have o75'5 := own_below o75'4 hT104
       have hFl'30 := own_below (u76.own2 (own_grown (own_below (u73.own3 (u72.own2 (own_below hFl'26 n71.below) k70 (by decide)) r71_hFl) n74.below) hg75 hBl'19 (by decide)) k49'10 (by decide)) hT104
       have hI'14 := ((((((((hI'6.below hb50).below n70.below).below n71.below).only (Only.of_upd (T := [188]) u72 k70 (by decide)) (by decide)).only (Only.of_upd (T := [43]) u73 k71 (by decide)) (by decide)).below n74.below).only (Only.of_grown (T := [3]) hg75 hBl'19 (by decide)) (by decide)).only (Only.of_upd (T := [87]) u76 k49'10 (by decide)) (by decide)).below hT104
       refine ze 3 (hJ5 _ _ _ ⟨{ s with looked := s.looked + 1, bs := s.bs ++ [t.no] }, (belowL l t px91 cx91 (nodC (inB l t.no)) ++ r), pe, px75, pf, ce, cx75, cf, fv, px103, cx103, rfl, rfl, hB, k5_b1'14, k76'1, hEn'14, o75'5, hFl'30, (SufV.of o103'1 rfl), (KeptI.below_visits hKt'27 o91'4 hApW), hI'14, hwo1.inner px91 cx91 hft hfs hle hlf, hfv⟩ ?_)
       show 20 * (fuel.toNat - (s.looked + 1)) + (belowL l t px91 cx91 (nodC (inB l t.no)) ++ r).length < 20 * (fuel.toNat - s.looked) + ts.length
       rw [List.length_append, belowL_len, htl]
       omega
     refine xbs 0 1 [.int .i64 t.no] 3 fun b105 W105 n105 => ?_
     have hB'69 := Bl.next hB n88.below
     have g105 := n105.ge hB'69
     have o88 := own_of_blk (size := 1) (n := 0) n88.blk g88 rfl (by decide)
     have r105_o88 := own_ne o88 n105
     have o88'1 := own_below o88 n105.below
     have hB'70 := Bl.next hB'69 n105.below
     refine ybi (.o [] 3) (.t W76.heap.size [3]) fun _ _ _ _ zJ zQ zo zx zy zK => op_app (m := t.way.length) (news := (t.way.map (Value.int .i64))) (.int .i64 0) 1 8 (t.way.length) ((t.way.map (Value.int .i64))) zo Tryz.underlying30 (by kernel_rfl) rfl (by decide) zx o88'1 zy (hway0.below hB'70) (by simp) (ints_one _) (by unfold maxLen; omega) (by omega) hB'70.size (by omega) (by rfl) fun px106 cx106 W106 o106 hg106 hb106 => ?_
     refine zK _ _ (sft_grown hb106 hg106 o88'1 (by decide)) ?_
     have k105 := n105.blk.grown3 hg106 r105_o88
     have hB'71 := hB'70.trans hb106
     refine ybi (.o [] 7) (.t W76.heap.size [3]) fun _ _ _ _ zJ zQ zo zx zy zK => op_app (m := 1) (news := [.int .i64 t.no]) (.int .i64 0) 1 8 ((t.way ++ [t.no]).length) (((t.way ++ [t.no]).map (Value.int .i64))) zo Tryz.underlying30 (by kernel_rfl) rfl (by decide) zx o106 zy (k105.sl 1 1 (by decide) (by decide)) rfl (by simp [Value.oneCell']) (by unfold maxLen; omega) (by omega) hB'71.size (by simp) (by simp) fun px107 cx107 W107 o107 hg107 hb107 => ?_
     refine zK _ _ (sft_grown hb107 hg107 o106 (by decide)) ?_
     have hB'72 := hB'71.trans hb107
     refine zl (.r [8] 14) 186 (fun zm zkv V => ∃ (i : Nat) (pq : Option Addr) (cq : Nat), zkv = [(0, .pointer (some ⟨bm, 0, none⟩)), (2, .int .i64 tree), (3, .int .i64 fuel), (8, .pointer (some ⟨b1, 0, none⟩)), (9, .pointer (some ⟨b2, 0, none⟩)), (10, .slice (cutA aw 1 cw 5) (ts.length - 1) (cw - 1)), (11, .pointer (some ⟨b7, 0, none⟩)), (12, .pointer (some ⟨b70, 0, none⟩)), (15, .slice px107 ((t.way ++ [t.no]).length) cx107), (16, .slice pq i cq), (17, .int .i64 (↑i : Int))] ∧ zm = (nodC (inB l t.no)) - ((↑i : Int)).toNat ∧ Below W76.heap.size W76 V ∧ V.ownsRow W76.heap.size 184 5 (.slice pq i cq) i ((belowL l t px107 cx107 i).flatMap wtC) ∧ V.ownsRow W76.heap.size 3 1 (.slice px107 ((t.way ++ [t.no]).length) cx107) ((t.way ++ [t.no]).length) ((t.way ++ [t.no]).map (Value.int .i64)) ∧ i ≤ (nodC (inB l t.no))) ⟨0, _, _, rfl, rfl, hB'72, World.ownsRow_nil _ _ _ _, o107, Nat.zero_le _⟩ ?_
     rintro _ _ W108 ⟨i, pq, cq, rfl, rfl, hB_108, hB_, o107, hi⟩ J108 hJ108 r108
     refine xl 5 ((k72'1.below hB_108).cell (i := 2) rfl) ?_
     refine xid 4 ((↑i : Int) < (↑(nodC (inB l t.no)) : Int)) (fun hc109 => ?_) (fun hc109 => ?_)
     · refine xl 7 ((k72'1.below hB_108).cell (i := 3) rfl) ?_
       have hv__hF87 := own_sl (u76.own2 (own_grown (own_below (u73.own2 (u72.own2 (own_below (own_below (own_mono hv_ hB'29.size) n70.below) n71.below) k70 (by decide)) k71 (by decide)) n74.below) hg75 hBl'19 (by decide)) k49'10 (by decide))
       refine xx 1 _ (nodC (inB l t.no)) i 1 (Strs.elem (V := nodV l t.no) hv__hF87 (valsL_len _ _) (k := i) (by omega)).1 ?_
       refine xl 0 ((Strs.elem (V := nodV l t.no) (hv__hF87.below hB_108) (valsL_len _ _) (k := i) (by omega)).2) ?_
       refine xr 0 (args := #[.string ⟨((nodV l t.no).getD i []).toArray⟩]) (ref08_Root ((nodV l t.no).getD i []) _ (valsL_short _ _ _)) fun W110 hb110 => ?_
       refine xin 14 (rootE ((nodV l t.no).getD i [])) (0 : Int) (fun hc111 => ?_) (fun hc111 => ?_)
       · have hrt := hc111
         have hB'73 := Bl.next hB_108 hb110
         refine xl 4 ((k8_hF87.below hB'73).cell (i := 0) rfl) ?_
         refine xl 1 ((k8_hF87.below hB'73).cell (i := 3) rfl) ?_
         refine xbs 2 1 [.int .i64 t.no, .int .i64 0, .int .i64 0, .slice t.wa t.way.length t.wc, .int .i64 (rootE ((nodV l t.no).getD i []))] 184 fun b112 W112 n112 => ?_
         have g112 := n112.ge hB'73
         have hB_'5 := own_below hB_ hb110
         have r112_hB_ := own_ne hB_'5 n112
         have hB_'6 := own_below hB_'5 n112.below
         have hB'74 := Bl.next hB'73 n112.below
         refine xbi 0 fun _ _ _ _ zJ zQ zo zx zy zK => op_app (m := 1) (news := [.int .i64 t.no, .int .i64 0, .int .i64 0, .slice t.wa t.way.length t.wc, .int .i64 (rootE ((nodV l t.no).getD i []))]) (.agg #[.int .i64 0, .int .i64 0, .int .i64 0, .slice none 0 0, .int .i64 0]) 5 56 (i + 1) (((belowL l t px107 cx107 (i + 1)).flatMap wtC)) zo Tryz.underlying185 (by kernel_rfl) rfl (by decide) zx hB_'6 zy (n112.blk.sl 1 1 (by decide) (by decide)) rfl (by simp [Value.oneCell']) (by unfold maxLen; omega) (by omega) hB'74.size (by rfl) (by rw [belowL_snoc, List.flatMap_append, show belowW l t px107 cx107 i = ⟨t.no, 0, 0, t.way, rootE ((nodV l t.no).getD i []), t.wa, t.wc⟩ from by unfold belowW; rw [if_neg hrt]]; rfl) fun px113 cx113 W113 o113 hg113 hb113 => ?_
         refine zK _ _ ?_
         refine xwm 9 ((↑i : Int) + 1) (↑(i + 1) : Int) ?_
         have hB'75 := hB'74.trans hb113
         have o107'1 := own_grown (own_below (own_below o107 hb110) n112.below) hg113 hB_'6 (by decide)
         exact ze 2 (hJ108 _ _ _ ⟨i + 1, _, _, rfl, rfl, hB'75, o113, o107'1, by omega⟩ (by omega))
       have hrt := hc111
       have hB'76 := Bl.next hB_108 hb110
       refine xlv 5 ((k8_hF87.below hB'76).rpp 1 2) ?_
       refine xl 1 ((k72'1.below hB'76).cell (i := 2) rfl) ?_
       have hkl : (nodK l t.no).length = (nodC (inB l t.no)) := keysI_len _ _
       have hci := child_in (look_node hle).2.1 (i := i) (by rw [hkl]; omega)
       have hk_hF87 := own_sl (u76.own2 hkq75 k49'10 (by decide))
       refine xr 1 (args := #[.agg #[.int .i64 t.lo, .int .i64 t.hi], .slice kp (nodC (inB l t.no)) kc, .int .i64 (↑i : Int)]) ((refspan_child t.lo t.hi (↑i : Int) _ (nodK l t.no) _ ⟨by omega, by omega⟩ (by rw [hkl]; omega) (intsN_of (hk_hF87.below hB'76) hkl)).mono (fun _ _ h => by rw [hci] at h; exact h)) fun W114 hb114 => ?_
       refine xa 3 [.int .i64 0, .int .i64 0] 173 fun b115 W115 n115 => ?_
       have hB'77 := Bl.next hB'76 hb114
       have g115 := n115.ge hB'77
       refine xsv 0 n115.blk [.int .i64 ((partAt t.hi (nodK l t.no) i).1), .int .i64 ((partAt t.hi (nodK l t.no) i).2)] fun W116 u116 k116 => ?_
       refine xlv 6 k116.rp ?_
       refine xbs 2 1 [.int .i64 (↑(rootN ((nodV l t.no).getD i [])) : Int), .int .i64 ((partAt t.hi (nodK l t.no) i).1), .int .i64 ((partAt t.hi (nodK l t.no) i).2), .slice px107 ((t.way ++ [t.no]).length) cx107, .int .i64 0] 184 fun b117 W117 n117 => ?_
       have hB'78 := u116.below (Bl.next hB'77 n115.below) g115
       have g117 := n117.ge hB'78
       have hB_'7 := u116.own2 (own_below (own_below (own_below hB_ hb110) hb114) n115.below) n115.blk (by decide)
       have r117_hB_ := own_ne hB_'7 n117
       have hB_'8 := own_below hB_'7 n117.below
       have hB'79 := Bl.next hB'78 n117.below
       refine xbi 0 fun _ _ _ _ zJ zQ zo zx zy zK => op_app (m := 1) (news := [.int .i64 (↑(rootN ((nodV l t.no).getD i [])) : Int), .int .i64 ((partAt t.hi (nodK l t.no) i).1), .int .i64 ((partAt t.hi (nodK l t.no) i).2), .slice px107 ((t.way ++ [t.no]).length) cx107, .int .i64 0]) (.agg #[.int .i64 0, .int .i64 0, .int .i64 0, .slice none 0 0, .int .i64 0]) 5 56 (i + 1) (((belowL l t px107 cx107 (i + 1)).flatMap wtC)) zo Tryz.underlying185 (by kernel_rfl) rfl (by decide) zx hB_'8 zy (n117.blk.sl 1 1 (by decide) (by decide)) rfl (by simp [Value.oneCell']) (by unfold maxLen; omega) (by omega) hB'79.size (by rfl) (by rw [belowL_snoc, List.flatMap_append, show belowW l t px107 cx107 i = ⟨rootN ((nodV l t.no).getD i []), (partAt t.hi (nodK l t.no) i).1, (partAt t.hi (nodK l t.no) i).2, t.way ++ [t.no], 0, px107, cx107⟩ from by unfold belowW; rw [if_pos hrt]]; rfl) fun px118 cx118 W118 o118 hg118 hb118 => ?_
       refine zK _ _ ?_
       refine xwm 6 ((↑i : Int) + 1) (↑(i + 1) : Int) ?_
       have hB'80 := hB'79.trans hb118
       have o107'2 := own_grown (own_below (u116.own2 (own_below (own_below (own_below o107 hb110) hb114) n115.below) n115.blk (by decide)) n117.below) hg118 hB_'8 (by decide)
       exact ze 2 (hJ108 _ _ _ ⟨i + 1, _, _, rfl, rfl, hB'80, o118, o107'2, by omega⟩ (by omega))
     have hWs_hF87 := ((((((((((hWs.below n7.below).updN u8 n7 rfl).only (Only.of_upd (T := [87]) u49 k5_b2'9 (by decide)) (by decide)).below hb50).below n70.below).below n71.below).only (Only.of_upd (T := [188]) u72 k70 (by decide)) (by decide)).only (Only.of_upd (T := [43]) u73 k71 (by decide)) (by decide)).below n74.below).only (Only.of_grown (T := [3]) hg75 hBl'19 (by decide)) (by decide)).only (Only.of_upd (T := [87]) u76 k49'10 (by decide)) (by decide)
     refine xbi 8 fun _ _ _ _ zJ zQ zo zx zy zK => op_app (m := (ts.length - 1)) (news := (r.flatMap wtC)) (.agg #[.int .i64 0, .int .i64 0, .int .i64 0, .slice none 0 0, .int .i64 0]) 5 56 ((belowL l t px107 cx107 (nodC (inB l t.no)) ++ r).length) (((belowL l t px107 cx107 (nodC (inB l t.no)) ++ r).flatMap wtC)) zo Tryz.underlying185 (by kernel_rfl) rfl (by decide) zx hB_ zy ((hWs_hF87.below hB_108).slN htr) (by rw [flat_length wtC_len, htl]; rfl) (wt_one r) (by unfold maxLen; omega) (by omega) hB_108.size (by rw [List.length_append, belowL_len, htl]; omega) (by rw [List.flatMap_append, show i = (nodC (inB l t.no)) by omega]) fun px119 cx119 W119 o119 hg119 hb119 => ?_
     refine zK _ _ ?_
     have o107'3 := own_grown o107 hg119 hB_ (by decide)
     have hApW := (Apart.of_lt hBlF o107'3 (Nat.le_refl _)).symm
     have hB'81 := hB_108.trans hb119
     have hT120 : Below W76.heap.size W76 W119 := hB'81
     have hs120 : w.heap.size ≤ W76.heap.size := hF87.size
     have o119'1 := own_mono o119 hs120
     have hKt'28 := hKt'26.below hT120
     have o107'4 := own_mono o107'3 hs120
     have hB := Bl.next hF87 hT120
     have k5_b1'15 := (u76.blk (((u73.blkT (u72.blkT ((((u49.blk (u8.blkT (k5_b1.below n7.below) n7.blk (by decide)) (Ne.symm (Ne.symm d2_b1))).below hb50).below n70.below).below n71.below) k70 (by decide)) k71 (by decide)).below n74.below).grown hg75 hBl'19 (by decide)) (Ne.symm (Ne.symm d2_b1))).below hT120
     have k76'2 := k76.below hT120
     have hEn'15 := own_below (u76.own2 (own_grown (own_below (u73.own2 (u72.own2 (own_below (own_below (own_below (u49.own2 (u8.own2 (own_below hEn n7.below) n7.blk (by decide)) k5_b2'9 (by decide)) hb50) n70.below) n71.below) k70 (by decide)) k71 (by decide)) n74.below) hg75 hBl'19 (by decide)) k49'10 (by decide)) hT120
     have o75'6 := own_below o75'4 hT120
     have hFl'31 := own_below (u76.own2 (own_grown (own_below (u73.own3 (u72.own2 (own_below hFl'26 n71.below) k70 (by decide)) r71_hFl) n74.below) hg75 hBl'19 (by decide)) k49'10 (by decide)) hT120
     have hI'15 := ((((((((hI'6.below hb50).below n70.below).below n71.below).only (Only.of_upd (T := [188]) u72 k70 (by decide)) (by decide)).only (Only.of_upd (T := [43]) u73 k71 (by decide)) (by decide)).below n74.below).only (Only.of_grown (T := [3]) hg75 hBl'19 (by decide)) (by decide)).only (Only.of_upd (T := [87]) u76 k49'10 (by decide)) (by decide)).below hT120
     refine ze 3 (hJ5 _ _ _ ⟨{ s with looked := s.looked + 1, bs := s.bs ++ [t.no] }, (belowL l t px107 cx107 (nodC (inB l t.no)) ++ r), pe, px75, pf, ce, cx75, cf, fv, px119, cx119, rfl, rfl, hB, k5_b1'15, k76'2, hEn'15, o75'6, hFl'31, (SufV.of o119'1 rfl), (KeptI.below_visits hKt'28 o107'4 hApW), hI'15, hwo1.inner px107 cx107 hft hfs hle hlf, hfv⟩ ?_)
     show 20 * (fuel.toNat - (s.looked + 1)) + (belowL l t px107 cx107 (nodC (inB l t.no)) ++ r).length < 20 * (fuel.toNat - s.looked) + ts.length
     rw [List.length_append, belowL_len, htl]
     omega
   refine xbs 0 1 [.int .i64 t.no] 3 fun b121 W121 n121 => ?_
   have g121 := n121.ge hB
   refine xb0 (.o [] 0) 3 fun b122 W122 n122 => ?_
   have d122_b121 := n122.ne n121.blk
   have hB'82 := Bl.next hB n121.below
   have g122 := n122.ge hB'82
   have o122 := own_of_blk (size := 1) (n := 0) n122.blk g122 rfl (by decide)
   have hB'83 := Bl.next hB'82 n122.below
   refine ybi (.o [] 3) (.t W76.heap.size [3]) fun _ _ _ _ zJ zQ zo zx zy zK => op_app (m := t.way.length) (news := (t.way.map (Value.int .i64))) (.int .i64 0) 1 8 (t.way.length) ((t.way.map (Value.int .i64))) zo Tryz.underlying30 (by kernel_rfl) rfl (by decide) zx o122 zy (hway0.below hB'83) (by simp) (ints_one _) (by unfold maxLen; omega) (by omega) hB'83.size (by omega) (by rfl) fun px123 cx123 W123 o123 hg123 hb123 => ?_
   refine zK _ _ (sft_grown hb123 hg123 o122 (by decide)) ?_
   have k121'1 := (n121.blk.below n122.below).grown3 hg123 (fun j hj => by obtain rfl : b122 = j := Option.some.inj hj; exact (Ne.symm d122_b121))
   have hB'84 := hB'83.trans hb123
   refine ybi (.o [] 7) (.t W76.heap.size [3]) fun _ _ _ _ zJ zQ zo zx zy zK => op_app (m := 1) (news := [.int .i64 t.no]) (.int .i64 0) 1 8 ((t.way ++ [t.no]).length) (((t.way ++ [t.no]).map (Value.int .i64))) zo Tryz.underlying30 (by kernel_rfl) rfl (by decide) zx o123 zy (k121'1.sl 1 1 (by decide) (by decide)) rfl (by simp [Value.oneCell']) (by unfold maxLen; omega) (by omega) hB'84.size (by simp) (by simp) fun px124 cx124 W124 o124 hg124 hb124 => ?_
   refine zK _ _ (sft_grown hb124 hg124 o123 (by decide)) ?_
   have hB'85 := hB'84.trans hb124
   refine zl (.r [8] 14) 186 (fun zm zkv V => ∃ (i : Nat) (pq : Option Addr) (cq : Nat), zkv = [(0, .pointer (some ⟨bm, 0, none⟩)), (2, .int .i64 tree), (3, .int .i64 fuel), (8, .pointer (some ⟨b1, 0, none⟩)), (9, .pointer (some ⟨b2, 0, none⟩)), (10, .slice (cutA aw 1 cw 5) (ts.length - 1) (cw - 1)), (11, .pointer (some ⟨b7, 0, none⟩)), (12, .pointer (some ⟨b70, 0, none⟩)), (15, .slice px124 ((t.way ++ [t.no]).length) cx124), (16, .slice pq i cq), (17, .int .i64 (↑i : Int))] ∧ zm = (nodC (inB l t.no)) - ((↑i : Int)).toNat ∧ Below W76.heap.size W76 V ∧ V.ownsRow W76.heap.size 184 5 (.slice pq i cq) i ((belowL l t px124 cx124 i).flatMap wtC) ∧ V.ownsRow W76.heap.size 3 1 (.slice px124 ((t.way ++ [t.no]).length) cx124) ((t.way ++ [t.no]).length) ((t.way ++ [t.no]).map (Value.int .i64)) ∧ i ≤ (nodC (inB l t.no))) ⟨0, _, _, rfl, rfl, hB'85, World.ownsRow_nil _ _ _ _, o124, Nat.zero_le _⟩ ?_
   rintro _ _ W125 ⟨i, pq, cq, rfl, rfl, hB_125, hB_, o124, hi⟩ J125 hJ125 r125
   refine xl 5 ((k72'1.below hB_125).cell (i := 2) rfl) ?_
   refine xid 4 ((↑i : Int) < (↑(nodC (inB l t.no)) : Int)) (fun hc126 => ?_) (fun hc126 => ?_)
   · refine xl 7 ((k72'1.below hB_125).cell (i := 3) rfl) ?_
     have hv__hF87 := own_sl (u76.own2 (own_grown (own_below (u73.own2 (u72.own2 (own_below (own_below (own_mono hv_ hB'29.size) n70.below) n71.below) k70 (by decide)) k71 (by decide)) n74.below) hg75 hBl'19 (by decide)) k49'10 (by decide))
     refine xx 1 _ (nodC (inB l t.no)) i 1 (Strs.elem (V := nodV l t.no) hv__hF87 (valsL_len _ _) (k := i) (by omega)).1 ?_
     refine xl 0 ((Strs.elem (V := nodV l t.no) (hv__hF87.below hB_125) (valsL_len _ _) (k := i) (by omega)).2) ?_
     refine xr 0 (args := #[.string ⟨((nodV l t.no).getD i []).toArray⟩]) (ref08_Root ((nodV l t.no).getD i []) _ (valsL_short _ _ _)) fun W127 hb127 => ?_
     refine xin 14 (rootE ((nodV l t.no).getD i [])) (0 : Int) (fun hc128 => ?_) (fun hc128 => ?_)
     · have hrt := hc128
       have hB'86 := Bl.next hB_125 hb127
       refine xl 4 ((k8_hF87.below hB'86).cell (i := 0) rfl) ?_
       refine xl 1 ((k8_hF87.below hB'86).cell (i := 3) rfl) ?_
       refine xbs 2 1 [.int .i64 t.no, .int .i64 0, .int .i64 0, .slice t.wa t.way.length t.wc, .int .i64 (rootE ((nodV l t.no).getD i []))] 184 fun b129 W129 n129 => ?_
       have g129 := n129.ge hB'86
       have hB_'9 := own_below hB_ hb127
       have r129_hB_ := own_ne hB_'9 n129
       have hB_'10 := own_below hB_'9 n129.below
       have hB'87 := Bl.next hB'86 n129.below
       refine xbi 0 fun _ _ _ _ zJ zQ zo zx zy zK => op_app (m := 1) (news := [.int .i64 t.no, .int .i64 0, .int .i64 0, .slice t.wa t.way.length t.wc, .int .i64 (rootE ((nodV l t.no).getD i []))]) (.agg #[.int .i64 0, .int .i64 0, .int .i64 0, .slice none 0 0, .int .i64 0]) 5 56 (i + 1) (((belowL l t px124 cx124 (i + 1)).flatMap wtC)) zo Tryz.underlying185 (by kernel_rfl) rfl (by decide) zx hB_'10 zy (n129.blk.sl 1 1 (by decide) (by decide)) rfl (by simp [Value.oneCell']) (by unfold maxLen; omega) (by omega) hB'87.size (by rfl) (by rw [belowL_snoc, List.flatMap_append, show belowW l t px124 cx124 i = ⟨t.no, 0, 0, t.way, rootE ((nodV l t.no).getD i []), t.wa, t.wc⟩ from by unfold belowW; rw [if_neg hrt]]; rfl) fun px130 cx130 W130 o130 hg130 hb130 => ?_
       refine zK _ _ ?_
       refine xwm 9 ((↑i : Int) + 1) (↑(i + 1) : Int) ?_
       have hB'88 := hB'87.trans hb130
       have o124'1 := own_grown (own_below (own_below o124 hb127) n129.below) hg130 hB_'10 (by decide)
       exact ze 2 (hJ125 _ _ _ ⟨i + 1, _, _, rfl, rfl, hB'88, o130, o124'1, by omega⟩ (by omega))
     have hrt := hc128
     have hB'89 := Bl.next hB_125 hb127
     refine xlv 5 ((k8_hF87.below hB'89).rpp 1 2) ?_
     refine xl 1 ((k72'1.below hB'89).cell (i := 2) rfl) ?_
     have hkl : (nodK l t.no).length = (nodC (inB l t.no)) := keysI_len _ _
     have hci := child_in (look_node hle).2.1 (i := i) (by rw [hkl]; omega)
     have hk_hF87 := own_sl (u76.own2 hkq75 k49'10 (by decide))
     refine xr 1 (args := #[.agg #[.int .i64 t.lo, .int .i64 t.hi], .slice kp (nodC (inB l t.no)) kc, .int .i64 (↑i : Int)]) ((refspan_child t.lo t.hi (↑i : Int) _ (nodK l t.no) _ ⟨by omega, by omega⟩ (by rw [hkl]; omega) (intsN_of (hk_hF87.below hB'89) hkl)).mono (fun _ _ h => by rw [hci] at h; exact h)) fun W131 hb131 => ?_
     refine xa 3 [.int .i64 0, .int .i64 0] 173 fun b132 W132 n132 => ?_
     have hB'90 := Bl.next hB'89 hb131
     have g132 := n132.ge hB'90
     refine xsv 0 n132.blk [.int .i64 ((partAt t.hi (nodK l t.no) i).1), .int .i64 ((partAt t.hi (nodK l t.no) i).2)] fun W133 u133 k133 => ?_
     refine xlv 6 k133.rp ?_
     refine xbs 2 1 [.int .i64 (↑(rootN ((nodV l t.no).getD i [])) : Int), .int .i64 ((partAt t.hi (nodK l t.no) i).1), .int .i64 ((partAt t.hi (nodK l t.no) i).2), .slice px124 ((t.way ++ [t.no]).length) cx124, .int .i64 0] 184 fun b134 W134 n134 => ?_
     have hB'91 := u133.below (Bl.next hB'90 n132.below) g132
     have g134 := n134.ge hB'91
     have hB_'11 := u133.own2 (own_below (own_below (own_below hB_ hb127) hb131) n132.below) n132.blk (by decide)
     have r134_hB_ := own_ne hB_'11 n134
     have hB_'12 := own_below hB_'11 n134.below
     have hB'92 := Bl.next hB'91 n134.below
     refine xbi 0 fun _ _ _ _ zJ zQ zo zx zy zK => op_app (m := 1) (news := [.int .i64 (↑(rootN ((nodV l t.no).getD i [])) : Int), .int .i64 ((partAt t.hi (nodK l t.no) i).1), .int .i64 ((partAt t.hi (nodK l t.no) i).2), .slice px124 ((t.way ++ [t.no]).length) cx124, .int .i64 0]) (.agg #[.int .i64 0, .int .i64 0, .int .i64 0, .slice none 0 0, .int .i64 0]) 5 56 (i + 1) (((belowL l t px124 cx124 (i + 1)).flatMap wtC)) zo Tryz.underlying185 (by kernel_rfl) rfl (by decide) zx hB_'12 zy (n134.blk.sl 1 1 (by decide) (by decide)) rfl (by simp [Value.oneCell']) (by unfold maxLen; omega) (by omega) hB'92.size (by rfl) (by rw [belowL_snoc, List.flatMap_append, show belowW l t px124 cx124 i = ⟨rootN ((nodV l t.no).getD i []), (partAt t.hi (nodK l t.no) i).1, (partAt t.hi (nodK l t.no) i).2, t.way ++ [t.no], 0, px124, cx124⟩ from by unfold belowW; rw [if_pos hrt]]; rfl) fun px135 cx135 W135 o135 hg135 hb135 => ?_
     refine zK _ _ ?_
     refine xwm 6 ((↑i : Int) + 1) (↑(i + 1) : Int) ?_
     have hB'93 := hB'92.trans hb135
     have o124'2 := own_grown (own_below (u133.own2 (own_below (own_below (own_below o124 hb127) hb131) n132.below) n132.blk (by decide)) n134.below) hg135 hB_'12 (by decide)
     exact ze 2 (hJ125 _ _ _ ⟨i + 1, _, _, rfl, rfl, hB'93, o135, o124'2, by omega⟩ (by omega))
   have hWs_hF87 := ((((((((((hWs.below n7.below).updN u8 n7 rfl).only (Only.of_upd (T := [87]) u49 k5_b2'9 (by decide)) (by decide)).below hb50).below n70.below).below n71.below).only (Only.of_upd (T := [188]) u72 k70 (by decide)) (by decide)).only (Only.of_upd (T := [43]) u73 k71 (by decide)) (by decide)).below n74.below).only (Only.of_grown (T := [3]) hg75 hBl'19 (by decide)) (by decide)).only (Only.of_upd (T := [87]) u76 k49'10 (by decide)) (by decide)
   refine xbi 8 fun _ _ _ _ zJ zQ zo zx zy zK => op_app (m := (ts.length - 1)) (news := (r.flatMap wtC)) (.agg #[.int .i64 0, .int .i64 0, .int .i64 0, .slice none 0 0, .int .i64 0]) 5 56 ((belowL l t px124 cx124 (nodC (inB l t.no)) ++ r).length) (((belowL l t px124 cx124 (nodC (inB l t.no)) ++ r).flatMap wtC)) zo Tryz.underlying185 (by kernel_rfl) rfl (by decide) zx hB_ zy ((hWs_hF87.below hB_125).slN htr) (by rw [flat_length wtC_len, htl]; rfl) (wt_one r) (by unfold maxLen; omega) (by omega) hB_125.size (by rw [List.length_append, belowL_len, htl]; omega) (by rw [List.flatMap_append, show i = (nodC (inB l t.no)) by omega]) fun px136 cx136 W136 o136 hg136 hb136 => ?_
   refine zK _ _ ?_
   have o124'3 := own_grown o124 hg136 hB_ (by decide)
   have hApW := (Apart.of_lt hBlF o124'3 (Nat.le_refl _)).symm
   have hB'94 := hB_125.trans hb136
   have hT137 : Below W76.heap.size W76 W136 := hB'94
   have hs137 : w.heap.size ≤ W76.heap.size := hF87.size
   have o136'1 := own_mono o136 hs137
   have hKt'29 := hKt'26.below hT137
   have o124'4 := own_mono o124'3 hs137
   have hB := Bl.next hF87 hT137
   have k5_b1'16 := (u76.blk (((u73.blkT (u72.blkT ((((u49.blk (u8.blkT (k5_b1.below n7.below) n7.blk (by decide)) (Ne.symm (Ne.symm d2_b1))).below hb50).below n70.below).below n71.below) k70 (by decide)) k71 (by decide)).below n74.below).grown hg75 hBl'19 (by decide)) (Ne.symm (Ne.symm d2_b1))).below hT137
   have k76'3 := k76.below hT137
   have hEn'16 := own_below (u76.own2 (own_grown (own_below (u73.own2 (u72.own2 (own_below (own_below (own_below (u49.own2 (u8.own2 (own_below hEn n7.below) n7.blk (by decide)) k5_b2'9 (by decide)) hb50) n70.below) n71.below) k70 (by decide)) k71 (by decide)) n74.below) hg75 hBl'19 (by decide)) k49'10 (by decide)) hT137
   have o75'7 := own_below o75'4 hT137
   have hFl'32 := own_below (u76.own2 (own_grown (own_below (u73.own3 (u72.own2 (own_below hFl'26 n71.below) k70 (by decide)) r71_hFl) n74.below) hg75 hBl'19 (by decide)) k49'10 (by decide)) hT137
   have hI'16 := ((((((((hI'6.below hb50).below n70.below).below n71.below).only (Only.of_upd (T := [188]) u72 k70 (by decide)) (by decide)).only (Only.of_upd (T := [43]) u73 k71 (by decide)) (by decide)).below n74.below).only (Only.of_grown (T := [3]) hg75 hBl'19 (by decide)) (by decide)).only (Only.of_upd (T := [87]) u76 k49'10 (by decide)) (by decide)).below hT137
   refine ze 3 (hJ5 _ _ _ ⟨{ s with looked := s.looked + 1, bs := s.bs ++ [t.no] }, (belowL l t px124 cx124 (nodC (inB l t.no)) ++ r), pe, px75, pf, ce, cx75, cf, fv, px136, cx136, rfl, rfl, hB, k5_b1'16, k76'3, hEn'16, o75'7, hFl'32, (SufV.of o136'1 rfl), (KeptI.below_visits hKt'29 o124'4 hApW), hI'16, hwo1.inner px124 cx124 hft hfs hle hlf, hfv⟩ ?_)
   show 20 * (fuel.toNat - (s.looked + 1)) + (belowL l t px124 cx124 (nodC (inB l t.no)) ++ r).length < 20 * (fuel.toNat - s.looked) + ts.length
   rw [List.length_append, belowL_len, htl]
   omega
 have hcE := hc6
 refine xlv 7 k5_b2.rp ?_
 refine xsv 0 k5_b1 [.slice pe s.es.length ce, .slice pb s.bs.length cb, .int .i64 s.deep, .int .i64 (↑s.looked : Int), .slice pf fv.length cf] fun W138 u138 k138 => ?_
 have g1 := n1.ge (Below.refl w.heap.size _)
 have hB'95 := u138.below hB_5 g1
 have hEn'17 := u138.own2 hEn k5_b1 (by decide)
 have hBl'20 := u138.own2 hBl k5_b1 (by decide)
 have hFl'33 := u138.own2 hFl k5_b1 (by decide)
 have hKi'1 := hKi.only (Only.of_upd (T := [87]) u138 k5_b1 (by decide)) (by decide)
 refine xec 3 k138 (.agg #[.slice pe s.es.length ce, .slice pb s.bs.length cb, .int .i64 s.deep, .int .i64 (↑s.looked : Int), .slice pf fv.length cf]) ?_
 obtain rfl : ts = [] := by cases ts with
   | nil => rfl
   | cons t r => simp at hcE
 rw [hwo.nil]
 exact ⟨pe, pb, pf, ce, cb, cf, fv, rfl, hB'95, hEn'17, hBl'20, hFl'33, hfv, hKi'1⟩
end Go.Proofs.YthlakkdgcgkcdaaGreatDoor
namespace Go.Proofs.YthlakkdgcgkcdaaGreatDoor
open Go.RowKit Go.Extern.Stop Go.Stop Go.Extern
set_option linter.unusedVariables false
attribute [local irreducible] wpList wpAnyH Code.wp Oper.wp Go

theorem ImgR.mono {B B' b : Nat} {p : Option Addr} {n c : Nat} {l : List UInt8} {w : World} (h : ImgR B b p n c l w) (hB : B' ≤ B) : ImgR B' b p n c l w := ⟨h.blk, own_mono h.row hB, h.hn⟩
theorem image_OfR (a : Option Addr) (c n m : Nat) (l : List UInt8) (w : World) (hn : l.length = n) (hm : min (n / 256) 14400 * 256 = m) (h : Bys w (.slice a n c) l) (hl : n ≤ 100000000) (hc : n ≤ c) :
    Calls Tryz.prog 7 #[.slice a n c] w (RetS (fun w' r => ∃ b p c2, r = .pointer (some ⟨b, 0, none⟩) ∧ w.heap.size ≤ b ∧ ImgR w.heap.size b p m c2 (l.take m) w') w) := by
  subst hn hm
  refine (image_Of a c l w h hl hc).mono ?_
  rintro e W ⟨_, rfl, hb, b, p, c2, rfl, h1, h2, h3⟩
  exact ⟨_, rfl, hb, b, p, c2, rfl, h1, h2, h3, by omega⟩
end Go.Proofs.YthlakkdgcgkcdaaGreatDoor
namespace Go.Proofs.YthlakkdgcgkcdaaGreatDoor
open Go.RowKit Go.Extern.Stop Go.Stop Go.Extern
set_option linter.unusedVariables false
attribute [local irreducible] wpList wpAnyH Code.wp Oper.wp

theorem visitF_len (l : List UInt8) (tree fuel : Int) : ∀ (d : Nat) (way : List Int) (no lo hi : Int) (s : WS), way.length + d ≤ 20 → (∀ f ∈ s.fs, f.1.length ≤ 40) → ∀ f ∈ (visitF l tree fuel d way no lo hi s).fs, f.1.length ≤ 40
  | 0, _, _, _, _, s, _, h => h
  | d + 1, way, no, lo, hi, s, hw, h => by
    have hnote : ∀ (c : Int) (s : WS), (∀ f ∈ s.fs, f.1.length ≤ 40) → ∀ f ∈ (noteW way [no] c s).fs, f.1.length ≤ 40 := by
      intro c s h f hf
      simp only [noteW, List.mem_append, List.mem_singleton] at hf
      rcases hf with hf | rfl
      · exact h f hf
      · simp; omega
    unfold visitF
    split
    · exact hnote _ _ h
    · split
      · exact hnote _ _ h
      · split
        · exact h
        · refine loopW_ind (V := visitF l tree fuel d) (l := l) (way := way) (no := no) (hi := hi) (s := { s with looked := s.looked + 1, bs := s.bs ++ [no] }) (fun _ t => ∀ f ∈ t.fs, f.1.length ≤ 40) h (nodC (inB l no)) ?_ fun _ _ _ _ q => q
          intro i t _ _ q
          unfold childW
          split
          · exact visitF_len l tree fuel d (way ++ [no]) _ _ _ t (by simp; omega) q
          · exact hnote _ _ q
theorem scanW_len (l : List UInt8) (root tree fuel : Int) : ∀ f ∈ (scanW l root tree fuel).fs, f.1.length ≤ 40 := visitF_len l tree fuel 17 [] root _ _ ws0 (by decide) (by simp [ws0])
theorem getD_in {α : Type} {l : List α} {d : α} {i : Nat} (h : i < l.length) : l.getD i d ∈ l := by simp [List.getD, h]
theorem FltsW.at {w : World} : ∀ {fs : List (List Int × Int)} {vs : List Value}, FltsW w fs vs → ∀ {j : Nat}, j < fs.length → ∃ ty x, vs[j]? = some (.iface ty x) ∧ ErrV w ((fs.getD j ([], 0)).1.map some) (some (fs.getD j ([], 0)).2) (.iface ty x)
  | f :: r, v :: q, h, 0, _ => by
    obtain ⟨ty, x, rfl⟩ := h.1.iface
    exact ⟨ty, x, rfl, h.1⟩
  | f :: r, v :: q, h, j + 1, hj => by
    obtain ⟨ty, x, h1, h2⟩ := h.2.at (j := j) (by simpa using hj)
    exact ⟨ty, x, by simpa using h1, by simpa using h2⟩
  | [], _, _, j, hj => absurd hj (by simp)
  | _ :: _, [], h, _, _ => h.elim
theorem Sl.elem1 {w : World} {b : Option Addr} {n c : Nat} {xs : List Value} (h : Sl w (.slice b n c) n xs) {j : Nat} {x : Value} (hj : xs[j]? = some x) : b.isSome = true ∧ w.cell? (elemAddr b (j * 1)) = some x := by rw [Nat.mul_one]; exact Sl.elem h hj
theorem blocksOf_some (l : List Int) : blocksOf (l.map some) = l := by unfold blocksOf; simp [List.filterMap_map]
/-- what the law asks of a scan -/
theorem scan_law (l : List UInt8) (root tree fuel : Int) : (scanW l root tree fuel).looked ≤ fuel.toNat ∧ (scanW l root tree fuel).bs.length ≤ (scanW l root tree fuel).looked ∧ (∀ x ∈ (scanW l root tree fuel).es, InBlk l tree x) ∧
    (scanW l root tree fuel).es.Pairwise (fun x y => x.1 < y.1) ∧ ∀ f ∈ (scanW l root tree fuel).fs, f.1 ≠ [] ∧ f.1.getD 0 0 = root := by
  obtain ⟨es, fs, h⟩ := scanW_went l root tree fuel
  have h1 : (scanW l root tree fuel).es = es := by rw [h.esE]; rfl
  have h2 : (scanW l root tree fuel).fs = fs := by rw [h.fsE]; rfl
  have h3 := h.blks
  refine ⟨scanW_looked _ _ _ _, by simpa [ws0] using h3, fun x hx => h.inb x (h1 ▸ hx), by rw [h1]; exact h.rise.1, fun f hf => ?_⟩
  obtain ⟨q1, q2, _⟩ := h.flt f (h2 ▸ hf)
  refine ⟨q2, ?_⟩
  cases e : f.1 with
  | nil => exact absurd e q2
  | cons a r => rw [e] at q1; simpa using q1
end Go.Proofs.YthlakkdgcgkcdaaGreatDoor
namespace Go.Proofs.YthlakkdgcgkcdaaGreatDoor
open Go.RowKit Go.Extern.Stop Go.Stop Go.Extern
set_option linter.unusedVariables false
attribute [local irreducible] wpList wpAnyH Code.wp Oper.wp Go

set_option maxRecDepth 100000 in
set_option maxHeartbeats 1000000 in
theorem ref01_Same (a b : Option Addr) (ca cb : Nat) (l : List Int) (w : World) (ha : Ints w (.slice a l.length ca) l) (hb : Ints w (.slice b l.length cb) l) :
    Calls Tryz.prog 13 #[.slice a l.length ca, .slice b l.length cb] w (Ret (.bool true) w) := by
 have hLa := Sl.len ha
 refine zin 26 Tryz.func13 ?_
 refine xk 15 (show (((↑l.length : Int) != (↑l.length : Int)) : Bool) = false from by simp) ?_
 have hB := Below.refl w.heap.size w
 refine zl 9 26 (fun zm zkv V => ∃ (i : Nat), zkv = [(0, .slice a l.length ca), (1, .slice b l.length cb), (5, .int .i64 (↑i : Int))] ∧ zm = l.length - ((↑i : Int)).toNat ∧ Below w.heap.size w V ∧ i ≤ l.length) ⟨0, rfl, rfl, hB, Nat.zero_le _⟩ ?_
 rintro _ _ W1 ⟨i, rfl, rfl, hB_1, hi⟩ J1 hJ1 r1
 refine xid 9 ((↑i : Int) < (↑l.length : Int)) (fun hc2 => ?_) (fun hc2 => ?_)
 · refine xd 5 .z ?_
   refine xx (.e [0, 1] 2) _ l.length i 1 (Ints.elem ha (k := i) (by omega)).1 ?_
   have hB'1 := Bl.next hB_1 (below_drew W1)
   refine xl (.e [] 3) ((Ints.elem (ha.below hB'1) (k := i) (by omega)).2) ?_
   refine xx (.e [4, 5] 6) _ l.length i 1 (Ints.elem hb (k := i) (by omega)).1 ?_
   refine xl (.e [] 7) ((Ints.elem (hb.below hB'1) (k := i) (by omega)).2) ?_
   refine xk (.r [8] 2) (show (((l.getD i 0) != (l.getD i 0)) : Bool) = false from by simp) ?_
   refine xwm 5 ((↑i : Int) + 1) (↑(i + 1) : Int) ?_
   exact ze 2 (hJ1 _ _ _ ⟨i + 1, rfl, rfl, hB'1, by omega⟩ (by omega))
 exact xe 11 (.bool true) ⟨rfl, hB_1⟩
theorem codeOf_some (l : List Int) (c : Int) : codeOf (l.map some) (some c) = c := by simp [codeOf, noErr]
def ft0 : Ft := ⟨[], 0, none, 0⟩
/-- what the program has found, in any world: rows as they are read -/
structure WalkS (t : WS) (pe pb pf : Option Addr) (ce cb cf : Nat) (fv : List Value) (w : World) : Prop where
  ents : Sts entC w (.slice pe t.es.length ce) t.es
  blks : Ints w (.slice pb t.bs.length cb) t.bs
  flts : Sl w (.slice pf t.fs.length cf) t.fs.length fv
  fltv : FltsW w t.fs fv
theorem WalkS.below {t : WS} {pe pb pf : Option Addr} {ce cb cf : Nat} {fv : List Value} {w W : World} (h : WalkS t pe pb pf ce cb cf fv w) (hb : Below w.heap.size w W) : WalkS t pe pb pf ce cb cf fv W :=
  ⟨Sl.below h.ents hb, Sl.below h.blks hb, Sl.below h.flts hb, h.fltv.below hb⟩
/-- what the document has -/
structure RWalkS (t : WS) (pe pb pf : Option Addr) (ce cb cf : Nat) (fv : List Ft) (w : World) : Prop where
  ents : Sts entC w (.slice pe t.es.length ce) t.es
  blks : Ints w (.slice pb t.bs.length cb) t.bs
  flts : Sts fltC w (.slice pf fv.length cf) fv
  map : fv.map fltP = t.fs
  kept : ∀ f ∈ fv, Ints w (.slice f.fa f.bl.length f.fc) f.bl
theorem RWalkS.below {t : WS} {pe pb pf : Option Addr} {ce cb cf : Nat} {fv : List Ft} {w W : World} (h : RWalkS t pe pb pf ce cb cf fv w) (hb : Below w.heap.size w W) : RWalkS t pe pb pf ce cb cf fv W :=
  ⟨Sl.below h.ents hb, Sl.below h.blks hb, Sl.below h.flts hb, h.map, fun f hf => Sl.below (h.kept f hf) hb⟩
theorem RWalkS.at_ {t : WS} {pe pb pf : Option Addr} {ce cb cf : Nat} {fv : List Ft} {w : World} (h : RWalkS t pe pb pf ce cb cf fv w) {i : Nat} (hi : i < fv.length) : t.fs.getD i ([], 0) = ((fv.getD i ft0).bl, (fv.getD i ft0).c) := by
  rw [← h.map]; simp [List.getD, hi, fltP]
theorem RWalkS.len {t : WS} {pe pb pf : Option Addr} {ce cb cf : Nat} {fv : List Ft} {w : World} (h : RWalkS t pe pb pf ce cb cf fv w) : fv.length = t.fs.length := by rw [← h.map]; simp
end Go.Proofs.YthlakkdgcgkcdaaGreatDoor
namespace Go.Proofs.YthlakkdgcgkcdaaGreatDoor
open Go.RowKit Go.Extern.Stop Go.Stop Go.Extern
set_option linter.unusedVariables false
attribute [local irreducible] wpList wpAnyH Code.wp Oper.wp Go

def eL (S : WS) : List (Option Int) := if S.fs = [] then [] else (S.fs.getD 0 ([], 0)).1.map some
def eT (S : WS) : Option Int := if S.fs = [] then none else some (S.fs.getD 0 ([], 0)).2
def wholeT (S : WS) : WS := if S.fs = [] then S else ws0
def wholeF (S : WS) : List Int × Int := if S.fs = [] then ([], 0) else S.fs.getD 0 ([], 0)
def FirstP (fs : List (List Int × Int)) (w : World) (e : Ending) (w' : World) : Prop :=
  (fs = [] ∧ e = .returned .nilIface ∧ Below w.heap.size w w') ∨ (fs ≠ [] ∧ ∃ ty x, e = .returned (.iface ty x) ∧ Below w.heap.size w w' ∧ ErrV w' ((fs.getD 0 ([], 0)).1.map some) (some (fs.getD 0 ([], 0)).2) (.iface ty x))
set_option maxRecDepth 100000 in
set_option maxHeartbeats 1000000 in
theorem fault_First_some (p : Option Addr) (n c : Nat) (fv : List Value) (ty : TypeId) (x : Value) (w : World) (hn : 0 < n) (hS : Sl w (.slice p n c) n fv) (hx : fv[0]? = some (.iface ty x)) :
    Calls Tryz.prog 57 #[.slice p n c] w (Ret (.iface ty x) w) := by
 refine zin 15 Tryz.func57 ?_
 refine xu 14 1 ?_
 refine xk 6 (show (decide ((0 : Int) < (↑n : Int)) : Bool) = true from decide_eq_true (by omega)) ?_
 refine xx 6 _ n 0 1 (Sl.elem1 hS hx).1 ?_
 refine xl 0 ((Sl.elem1 hS hx).2) ?_
 exact xe 22 (.iface ty (x)) ⟨rfl, (Below.refl w.heap.size _)⟩
set_option maxRecDepth 100000 in
set_option maxHeartbeats 1000000 in
theorem fault_First_none (p : Option Addr) (c : Nat) (w : World) :
    Calls Tryz.prog 57 #[.slice p 0 c] w (Ret .nilIface w) := by
 refine zin 15 Tryz.func57 ?_
 refine xu 14 1 ?_
 exact xe 18 .nilIface ⟨rfl, (Below.refl w.heap.size _)⟩
theorem fault_FirstP (p : Option Addr) (n c : Nat) (fs : List (List Int × Int)) (fv : List Value) (w : World) (hn : fs.length = n) (hS : Sl w (.slice p n c) n fv) (hF : FltsW w fs fv) : Calls Tryz.prog 57 #[.slice p n c] w (FirstP fs w) := by
  subst hn
  match fs, hS, hF with
  | [], hS, hF =>
    refine (fault_First_none p c w).mono ?_
    rintro e W ⟨rfl, hb⟩
    exact .inl ⟨rfl, rfl, hb⟩
  | f :: r, hS, hF =>
    obtain ⟨ty, x, h1, h2⟩ := hF.at (j := 0) (by simp)
    refine (fault_First_some p _ c fv ty x w (by simp) hS h1).mono ?_
    rintro e W ⟨rfl, hb⟩
    exact .inr ⟨by simp, ty, x, rfl, hb, h2.below hb⟩
theorem WalkV.mono {B B' : Nat} {t : WS} {pe pb pf : Option Addr} {ce cb cf : Nat} {fv : List Value} {w : World} (h : WalkV B t pe pb pf ce cb cf fv w) (hB : B' ≤ B) : WalkV B' t pe pb pf ce cb cf fv w := ⟨own_mono h.ents hB, own_mono h.blks hB, own_mono h.flts hB, h.fltv⟩
theorem WalkV.below {B : Nat} {t : WS} {pe pb pf : Option Addr} {ce cb cf : Nat} {fv : List Value} {w W : World} (h : WalkV B t pe pb pf ce cb cf fv w) (hb : Below w.heap.size w W) : WalkV B t pe pb pf ce cb cf fv W := ⟨own_below h.ents hb, own_below h.blks hb, own_below h.flts hb, h.fltv.below hb⟩
theorem WalkV.only {B : Nat} {T : List TypeId} {t : WS} {pe pb pf : Option Addr} {ce cb cf : Nat} {fv : List Value} {w W : World} (h : WalkV B t pe pb pf ce cb cf fv w) (hO : Only T w W) (hT : T.contains 77 = false ∧ T.contains 3 = false ∧ T.contains 39 = false ∧ T.contains 125 = false) : WalkV B t pe pb pf ce cb cf fv W := ⟨own_only h.ents hO hT.1, own_only h.blks hO hT.2.1, own_only h.flts hO hT.2.2.1, h.fltv.only hO hT.2.2.2⟩
/-- what the document has, in rows of the call's own -/
structure RWalkV (B : Nat) (t : WS) (pe pb pf : Option Addr) (ce cb cf : Nat) (fv : List Ft) (w : World) : Prop where
  ents : w.ownsRow B 77 3 (.slice pe t.es.length ce) t.es.length (t.es.flatMap entC)
  blks : w.ownsRow B 3 1 (.slice pb t.bs.length cb) t.bs.length (t.bs.map (Value.int .i64))
  flts : w.ownsRow B 43 2 (.slice pf fv.length cf) fv.length (fv.flatMap fltC)
  map : fv.map fltP = t.fs
  kept : ∀ f ∈ fv, IntsAt B w f.fa f.fc f.bl
theorem RWalkV.s {B : Nat} {t : WS} {pe pb pf : Option Addr} {ce cb cf : Nat} {fv : List Ft} {w : World} (h : RWalkV B t pe pb pf ce cb cf fv w) : RWalkS t pe pb pf ce cb cf fv w := ⟨own_sl h.ents, own_sl h.blks, own_sl h.flts, h.map, fun f hf => (h.kept f hf).ints⟩
theorem RWalkV.mono {B B' : Nat} {t : WS} {pe pb pf : Option Addr} {ce cb cf : Nat} {fv : List Ft} {w : World} (h : RWalkV B t pe pb pf ce cb cf fv w) (hB : B' ≤ B) : RWalkV B' t pe pb pf ce cb cf fv w := ⟨own_mono h.ents hB, own_mono h.blks hB, own_mono h.flts hB, h.map, fun f hf => (h.kept f hf).mono hB⟩
theorem RWalkV.below {B : Nat} {t : WS} {pe pb pf : Option Addr} {ce cb cf : Nat} {fv : List Ft} {w W : World} (h : RWalkV B t pe pb pf ce cb cf fv w) (hb : Below w.heap.size w W) : RWalkV B t pe pb pf ce cb cf fv W := ⟨own_below h.ents hb, own_below h.blks hb, own_below h.flts hb, h.map, fun f hf => (h.kept f hf).below hb⟩
theorem RWalkV.only {B : Nat} {T : List TypeId} {t : WS} {pe pb pf : Option Addr} {ce cb cf : Nat} {fv : List Ft} {w W : World} (h : RWalkV B t pe pb pf ce cb cf fv w) (hO : Only T w W) (hT : T.contains 77 = false ∧ T.contains 3 = false ∧ T.contains 43 = false) : RWalkV B t pe pb pf ce cb cf fv W := ⟨own_only h.ents hO hT.1, own_only h.blks hO hT.2.1, own_only h.flts hO hT.2.2, h.map, fun f hf => (h.kept f hf).only hO hT.2.1⟩
theorem RWalkV.updF {B b : Nat} {cs : List Value} {t : WS} {pe pb pf : Option Addr} {ce cb cf : Nat} {fv : List Ft} {w W : World} (h : RWalkV B t pe pb pf ce cb cf fv w) (u : Upd w b W) (k : Blk w b cs 43) (hs : ∀ j, (Value.slice pf fv.length cf).ownBlock = some j → j ≠ b) : RWalkV B t pe pb pf ce cb cf fv W :=
  ⟨u.own2 h.ents k (by decide), u.own2 h.blks k (by decide), u.own3 h.flts hs, h.map, fun f hf => u.own2 (h.kept f hf) k (by decide)⟩
theorem WalkV.s {B : Nat} {t : WS} {pe pb pf : Option Addr} {ce cb cf : Nat} {fv : List Value} {w : World} (h : WalkV B t pe pb pf ce cb cf fv w) : WalkS t pe pb pf ce cb cf fv w := ⟨own_sl h.ents, own_sl h.blks, own_sl h.flts, h.fltv⟩
theorem WalkV.zero (B : Nat) (w : World) : WalkV B ws0 none none none 0 0 0 [] w := ⟨World.ownsRow_nil _ _ _ _, World.ownsRow_nil _ _ _ _, World.ownsRow_nil _ _ _ _, trivial⟩
theorem RWalkV.zero (B : Nat) (w : World) : RWalkV B ws0 none none none 0 0 0 [] w := ⟨World.ownsRow_nil _ _ _ _, World.ownsRow_nil _ _ _ _, World.ownsRow_nil _ _ _ _, rfl, fun _ h => by cases h⟩
theorem whole_ok {S : WS} (h : S.fs = []) : wholeT S = S ∧ wholeF S = ([], 0) ∧ eL S = [] ∧ eT S = none := by unfold wholeT wholeF eL eT; simp [h]
theorem whole_bad {S : WS} (h : S.fs ≠ []) : wholeT S = ws0 ∧ wholeF S = S.fs.getD 0 ([], 0) ∧ eL S = (S.fs.getD 0 ([], 0)).1.map some ∧ eT S = some (S.fs.getD 0 ([], 0)).2 := by unfold wholeT wholeF eL eT; simp [h]
def WholeP (S : WS) (w : World) (e : Ending) (w' : World) : Prop := ∃ t pe pb pf ce cb cf fv v, t = wholeT S ∧ e = .returned (.tuple #[.agg (walkC t pe pb pf ce cb cf).toArray, v]) ∧ Below w.heap.size w w' ∧ WalkV w.heap.size t pe pb pf ce cb cf fv w' ∧ ErrV w' (eL S) (eT S) v
def rwalkC (t : WS) (pe pb pf : Option Addr) (n ce cb cf : Nat) : List Value := [.slice pe t.es.length ce, .slice pb t.bs.length cb, .int .i64 t.deep, .int .i64 (t.looked : Int), .slice pf n cf]
def RWholeP (S : WS) (w : World) (e : Ending) (w' : World) : Prop := ∃ t pe pb pf ce cb cf fv a c, t = wholeT S ∧ e = .returned (.tuple #[.agg (rwalkC t pe pb pf fv.length ce cb cf).toArray, .agg #[.slice a (wholeF S).1.length c, .int .i64 (wholeF S).2]]) ∧ Below w.heap.size w w' ∧ RWalkV w.heap.size t pe pb pf ce cb cf fv w' ∧ IntsAt w.heap.size w' a c (wholeF S).1
set_option maxRecDepth 100000 in
set_option maxHeartbeats 1000000 in
theorem walk_WholeP (Bi b : Nat) (pi : Option Addr) (ni ci : Nat) (l : List UInt8) (root tree fuel : Int) (w : World) (hfu : fuel ≤ 1000) (hI : ImgR Bi b pi ni ci l w) :
    Calls Tryz.prog 29 #[.pointer (some ⟨b, 0, none⟩), .int .i64 root, .int .i64 tree, .int .i64 fuel] w (WholeP (scanW l root tree fuel) w) := by
 refine zin 25 Tryz.func29 ?_
 refine xa 2 [.slice none 0 0, .slice none 0 0, .int .i64 0, .int .i64 0, .slice none 0 0] 70 fun b1 W1 n1 => ?_
 have hsz := n1.below.size
 refine xc 9 (args := #[.pointer (some ⟨b, 0, none⟩), .int .i64 root, .int .i64 tree, .int .i64 fuel]) (walk_Scan Bi b pi ni ci l root tree fuel _ hfu (hI.below n1.below)) ?_
 rintro _ W2 ⟨pe, pb, pf, ce, cb, cf, fv, rfl, hb2, hW0⟩
 have hW := hW0.mono hsz
 refine xa 0 [.slice none 0 0, .slice none 0 0, .int .i64 0, .int .i64 0, .slice none 0 0] 70 fun b3 W3 n3 => ?_
 have k1 := n1.blk.below hb2
 have d3_b1 := n3.ne k1
 have hB'1 := Bl.next n1.below hb2
 have g3 := n3.ge hB'1
 refine xsv 0 n3.blk [.slice pe ((scanW l root tree fuel).es.length) ce, .slice pb ((scanW l root tree fuel).bs.length) cb, .int .i64 ((scanW l root tree fuel).deep), .int .i64 (↑(scanW l root tree fuel).looked : Int), .slice pf ((scanW l root tree fuel).fs.length) cf] fun W4 u4 k4 => ?_
 refine xb 6 4 k4 ?_
 have hW'1 := (hW.below n3.below).only (Only.of_upd (T := [70]) u4 n3.blk (by decide)) (by decide)
 refine xc 0 (args := #[.slice pf ((scanW l root tree fuel).fs.length) cf]) (fault_FirstP pf _ cf (scanW l root tree fuel).fs fv _ rfl (own_sl hW'1.flts) hW'1.fltv) ?_
 rintro e W5 hq5
 rcases hq5 with ⟨hz, rfl, hb5⟩ | ⟨hz, ty, x, rfl, hb5, hv⟩
 · have hwo := whole_ok hz
   have k4'1 := k4.below hb5
   refine xlv 14 k4'1.rp ?_
   have k1'1 := (u4.blk (k1.below n3.below) (Ne.symm (Ne.symm d3_b1))).below hb5
   refine xsv 0 k1'1 [.slice pe ((scanW l root tree fuel).es.length) ce, .slice pb ((scanW l root tree fuel).bs.length) cb, .int .i64 ((scanW l root tree fuel).deep), .int .i64 (↑(scanW l root tree fuel).looked : Int), .slice pf ((scanW l root tree fuel).fs.length) cf] fun W6 u6 k6 => ?_
   have g1 := n1.ge (Below.refl w.heap.size _)
   have hB'2 := u6.below (Bl.next (u4.below (Bl.next hB'1 n3.below) g3) hb5) g1
   have hW'2 := (hW'1.below hb5).only (Only.of_upd (T := [70]) u6 k1'1 (by decide)) (by decide)
   exact xec 4 k6 (.tuple #[.agg #[.slice pe ((scanW l root tree fuel).es.length) ce, .slice pb ((scanW l root tree fuel).bs.length) cb, .int .i64 ((scanW l root tree fuel).deep), .int .i64 (↑(scanW l root tree fuel).looked : Int), .slice pf ((scanW l root tree fuel).fs.length) cf], .nilIface]) ⟨_, pe, pb, pf, ce, cb, cf, fv, _, rfl, by rw [hwo.1]; rfl, hB'2, by rw [hwo.1]; exact hW'2, by rw [hwo.2.2.1, hwo.2.2.2]; rfl⟩
 have hwo := whole_bad hz
 have k1'2 := (u4.blk (k1.below n3.below) (Ne.symm (Ne.symm d3_b1))).below hb5
 refine xsv 14 k1'2 [.slice none 0 0, .slice none 0 0, .int .i64 0, .int .i64 0, .slice none 0 0] fun W7 u7 k7 => ?_
 have g1 := n1.ge (Below.refl w.heap.size _)
 have hB'3 := u7.below (Bl.next (u4.below (Bl.next hB'1 n3.below) g3) hb5) g1
 have hv'1 := hv.upd u7 k1'2 (by decide)
 exact xec 5 k7 (.tuple #[.agg #[.slice none 0 0, .slice none 0 0, .int .i64 0, .int .i64 0, .slice none 0 0], .iface ty (x)]) ⟨_, none, none, none, 0, 0, 0, [], _, rfl, by rw [hwo.1]; rfl, hB'3, by rw [hwo.1]; exact WalkV.zero _ _, by rw [hwo.2.2.1, hwo.2.2.2]; exact hv'1⟩
theorem RScanP.s {S : WS} {w : World} {e : Ending} {w' : World} (h : RScanP S w e w') : ∃ (pe pb pf : Option Addr) (ce cb cf : Nat) (fv : List Ft), e = .returned (.agg (rwalkC S pe pb pf fv.length ce cb cf).toArray) ∧ Below w.heap.size w w' ∧ RWalkV w.heap.size S pe pb pf ce cb cf fv w' := by
  obtain ⟨pe, pb, pf, ce, cb, cf, fv, rfl, hb, h1, h2, h3, h4, h5⟩ := h
  exact ⟨pe, pb, pf, ce, cb, cf, fv, rfl, hb, h1, h2, h3, h4, fun f hf => (h5 (fltK f) (List.mem_map_of_mem hf)).1⟩
theorem RWalkS.first {t : WS} {pe pb pf : Option Addr} {ce cb cf : Nat} {fv : List Ft} {w : World} (h : RWalkS t pe pb pf ce cb cf fv w) (hi : 0 < fv.length) : wholeF t = ((fv.getD 0 ft0).bl, (fv.getD 0 ft0).c) ∧ t.fs ≠ [] := by
  have h1 := h.at_ hi
  have hz : t.fs ≠ [] := by intro q; have := h.len; rw [q, List.length_nil] at this; omega
  exact ⟨by rw [(whole_bad hz).2.1, h1], hz⟩
theorem RWalkS.none {t : WS} {pe pb pf : Option Addr} {ce cb cf : Nat} {fv : List Ft} {w : World} (h : RWalkS t pe pb pf ce cb cf fv w) (hi : ¬ 0 < fv.length) : t.fs = [] := by
  have := h.len; exact List.length_eq_zero_iff.1 (by omega)
set_option maxRecDepth 100000 in
set_option maxHeartbeats 1000000 in
theorem ref14_WholeP (B bm : Nat) (p : Option Addr) (k c : Nat) (l : List UInt8) (root tree fuel : Int) (w : World) (hfu : fuel ≤ 1000) (hI : RefI B bm p k c l w) :
    Calls Tryz.prog 34 #[.pointer (some ⟨bm, 0, none⟩), .int .i64 root, .int .i64 tree, .int .i64 fuel] w (RWholeP (scanW l root tree fuel) w) := by
 refine zin 27 Tryz.func34 ?_
 refine xa 2 [.slice none 0 0, .slice none 0 0, .int .i64 0, .int .i64 0, .slice none 0 0] 87 fun b1 W1 n1 => ?_
 refine xa 0 [.slice none 0 0, .int .i64 0] 43 fun b2 W2 n2 => ?_
 have hB := Bl.next n1.below n2.below
 have hsz := hB.size
 have hltF := n2.blk.lt
 refine xc 8 (args := #[.pointer (some ⟨bm, 0, none⟩), .int .i64 root, .int .i64 tree, .int .i64 fuel]) ((ref14_Scan B bm p k c l root tree fuel _ (hI.below hB) hfu).mono (fun _ _ h => RScanP.s h)) ?_
 rintro _ W3 ⟨pe, pb, pf, ce, cb, cf, fv, rfl, hb3, hQ0⟩
 have hsF : ∀ j, (Value.slice pf fv.length cf).ownBlock = some j → j ≠ b2 := fun j hj => by have q := (hQ0.flts.lt j hj).1; omega
 have hQ := hQ0.mono hsz
 refine xa 0 [.slice none 0 0, .slice none 0 0, .int .i64 0, .int .i64 0, .slice none 0 0] 87 fun b4 W4 n4 => ?_
 have k1 := (n1.blk.below n2.below).below hb3
 have d4_b1 := n4.ne k1
 have hB'1 := Bl.next hB hb3
 have g4 := n4.ge hB'1
 refine xsv 0 n4.blk [.slice pe ((scanW l root tree fuel).es.length) ce, .slice pb ((scanW l root tree fuel).bs.length) cb, .int .i64 ((scanW l root tree fuel).deep), .int .i64 (↑(scanW l root tree fuel).looked : Int), .slice pf fv.length cf] fun W5 u5 k5 => ?_
 refine xb 6 4 k5 ?_
 refine xid 4 ((↑fv.length : Int) > (0 : Int)) (fun hc6 => ?_) (fun hc6 => ?_)
 · refine xd 1 (.t w.heap.size [87, 43]) ?_
   refine xm2 (.b [0, 1]) 2 5 ?_ ?_
   · have k5'1 := k5.below (below_drew W5)
     refine xb 0 4 k5'1 ?_
     have hQ'1 := ((hQ.below n4.below).only (Only.of_upd (T := [87]) u5 n4.blk (by decide)) (by decide)).below (below_drew W5)
     refine xx (.e [] 3) _ fv.length 0 2 (Sts.cell (own_sl hQ'1.flts) fltC_len ft0 (k := 0) (i := 0) (by omega) rfl).1 ?_
     refine xm2 0 4 5 ?_ ?_
     · refine xlv 0 (Sts.rp (k := 0) (own_sl hQ'1.flts) fltC_len ft0 (by omega) (by decide)) ?_
       have k1'1 := (u5.blk (k1.below n4.below) (Ne.symm (Ne.symm d4_b1))).below (below_drew W5)
       have g1 := n1.ge (Below.refl w.heap.size _)
       refine ysv (.o [] 5) k1'1 [.slice none 0 0, .slice none 0 0, .int .i64 0, .int .i64 0, .slice none 0 0] (.t w.heap.size [87, 43]) fun W7 u7 k7 => ⟨(sft_upd u7 k1'1 g1 (by decide)), ?_⟩
       have k2'1 := u7.blkT ((u5.blkT ((n2.blk.below hb3).below n4.below) n4.blk (by decide)).below (below_drew W5)) k1'1 (by decide)
       have g2 := n2.ge n1.below
       refine ysv (.o [] 6) k2'1 [.slice ((fv.getD 0 ft0).fa) ((fv.getD 0 ft0).bl.length) ((fv.getD 0 ft0).fc), .int .i64 ((fv.getD 0 ft0).c)] (.t w.heap.size [87, 43]) fun W8 u8 k8 => ⟨(sft_upd u8 k2'1 g2 (by decide)), ?_⟩
       have hQ'2 := (hQ'1.only (Only.of_upd (T := [87]) u7 k1'1 (by decide)) (by decide)).updF u8 k2'1 hsF
       have hB'2 := u8.below (u7.below (Bl.next (u5.below (Bl.next hB'1 n4.below) g4) (below_drew W5)) g1) g2
       have k7'1 := u8.blkT k7 k2'1 (by decide)
       refine xecm 4 [(b1, [.slice none 0 0, .slice none 0 0, .int .i64 0, .int .i64 0, .slice none 0 0]), (b2, [.slice ((fv.getD 0 ft0).fa) ((fv.getD 0 ft0).bl.length) ((fv.getD 0 ft0).fc), .int .i64 ((fv.getD 0 ft0).c)])] ⟨⟨_, k7'1⟩, ⟨_, k8⟩, trivial⟩ (.tuple #[.agg #[.slice none 0 0, .slice none 0 0, .int .i64 0, .int .i64 0, .slice none 0 0], .agg #[.slice ((fv.getD 0 ft0).fa) ((fv.getD 0 ft0).bl.length) ((fv.getD 0 ft0).fc), .int .i64 ((fv.getD 0 ft0).c)]]) ?_
       obtain ⟨hf1, hz⟩ := hQ'2.s.first (by omega)
       refine ⟨_, none, none, none, 0, 0, 0, [], _, _, rfl, by rw [(whole_bad hz).1, hf1]; rfl, hB'2, by rw [(whole_bad hz).1]; exact RWalkV.zero _ _, ?_⟩
       rw [hf1]
       exact hQ'2.kept (fv.getD 0 ft0) (getD_in (by omega))
     have k1'2 := (u5.blk (k1.below n4.below) (Ne.symm (Ne.symm d4_b1))).below (below_drew W5)
     have g1 := n1.ge (Below.refl w.heap.size _)
     refine ysv 0 k1'2 [.slice none 0 0, .slice none 0 0, .int .i64 0, .int .i64 0, .slice none 0 0] (.t w.heap.size [87, 43]) fun W9 u9 k9 => ⟨(sft_upd u9 k1'2 g1 (by decide)), ?_⟩
     have hQ'3 := hQ'1.only (Only.of_upd (T := [87]) u9 k1'2 (by decide)) (by decide)
     refine xlv (.o [] 4) (Sts.rp (k := 0) (own_sl hQ'3.flts) fltC_len ft0 (by omega) (by decide)) ?_
     have k2'2 := u9.blkT ((u5.blkT ((n2.blk.below hb3).below n4.below) n4.blk (by decide)).below (below_drew W5)) k1'2 (by decide)
     have g2 := n2.ge n1.below
     refine ysv (.o [] 6) k2'2 [.slice ((fv.getD 0 ft0).fa) ((fv.getD 0 ft0).bl.length) ((fv.getD 0 ft0).fc), .int .i64 ((fv.getD 0 ft0).c)] (.t w.heap.size [87, 43]) fun W10 u10 k10 => ⟨(sft_upd u10 k2'2 g2 (by decide)), ?_⟩
     have hQ'4 := hQ'3.updF u10 k2'2 hsF
     have hB'3 := u10.below (u9.below (Bl.next (u5.below (Bl.next hB'1 n4.below) g4) (below_drew W5)) g1) g2
     have k9'1 := u10.blkT k9 k2'2 (by decide)
     refine xecm 4 [(b1, [.slice none 0 0, .slice none 0 0, .int .i64 0, .int .i64 0, .slice none 0 0]), (b2, [.slice ((fv.getD 0 ft0).fa) ((fv.getD 0 ft0).bl.length) ((fv.getD 0 ft0).fc), .int .i64 ((fv.getD 0 ft0).c)])] ⟨⟨_, k9'1⟩, ⟨_, k10⟩, trivial⟩ (.tuple #[.agg #[.slice none 0 0, .slice none 0 0, .int .i64 0, .int .i64 0, .slice none 0 0], .agg #[.slice ((fv.getD 0 ft0).fa) ((fv.getD 0 ft0).bl.length) ((fv.getD 0 ft0).fc), .int .i64 ((fv.getD 0 ft0).c)]]) ?_
     obtain ⟨hf1, hz⟩ := hQ'4.s.first (by omega)
     refine ⟨_, none, none, none, 0, 0, 0, [], _, _, rfl, by rw [(whole_bad hz).1, hf1]; rfl, hB'3, by rw [(whole_bad hz).1]; exact RWalkV.zero _ _, ?_⟩
     rw [hf1]
     exact hQ'4.kept (fv.getD 0 ft0) (getD_in (by omega))
   have k1'3 := (u5.blk (k1.below n4.below) (Ne.symm (Ne.symm d4_b1))).below (below_drew W5)
   have g1 := n1.ge (Below.refl w.heap.size _)
   refine ysv 0 k1'3 [.slice none 0 0, .slice none 0 0, .int .i64 0, .int .i64 0, .slice none 0 0] (.t w.heap.size [87, 43]) fun W11 u11 k11 => ⟨(sft_upd u11 k1'3 g1 (by decide)), ?_⟩
   have k5'2 := u11.blk (k5.below (below_drew W5)) (Ne.symm d4_b1)
   refine xb (.o [] 2) 4 k5'2 ?_
   have hQ'5 := (((hQ.below n4.below).only (Only.of_upd (T := [87]) u5 n4.blk (by decide)) (by decide)).below (below_drew W5)).only (Only.of_upd (T := [87]) u11 k1'3 (by decide)) (by decide)
   refine xx (.e [] 3) _ fv.length 0 2 (Sts.cell (own_sl hQ'5.flts) fltC_len ft0 (k := 0) (i := 0) (by omega) rfl).1 ?_
   refine xlv (.o [] 4) (Sts.rp (k := 0) (own_sl hQ'5.flts) fltC_len ft0 (by omega) (by decide)) ?_
   have k2'3 := u11.blkT ((u5.blkT ((n2.blk.below hb3).below n4.below) n4.blk (by decide)).below (below_drew W5)) k1'3 (by decide)
   have g2 := n2.ge n1.below
   refine ysv (.o [] 6) k2'3 [.slice ((fv.getD 0 ft0).fa) ((fv.getD 0 ft0).bl.length) ((fv.getD 0 ft0).fc), .int .i64 ((fv.getD 0 ft0).c)] (.t w.heap.size [87, 43]) fun W12 u12 k12 => ⟨(sft_upd u12 k2'3 g2 (by decide)), ?_⟩
   have hQ'6 := hQ'5.updF u12 k2'3 hsF
   have hB'4 := u12.below (u11.below (Bl.next (u5.below (Bl.next hB'1 n4.below) g4) (below_drew W5)) g1) g2
   have k11'1 := u12.blkT k11 k2'3 (by decide)
   refine xecm 4 [(b1, [.slice none 0 0, .slice none 0 0, .int .i64 0, .int .i64 0, .slice none 0 0]), (b2, [.slice ((fv.getD 0 ft0).fa) ((fv.getD 0 ft0).bl.length) ((fv.getD 0 ft0).fc), .int .i64 ((fv.getD 0 ft0).c)])] ⟨⟨_, k11'1⟩, ⟨_, k12⟩, trivial⟩ (.tuple #[.agg #[.slice none 0 0, .slice none 0 0, .int .i64 0, .int .i64 0, .slice none 0 0], .agg #[.slice ((fv.getD 0 ft0).fa) ((fv.getD 0 ft0).bl.length) ((fv.getD 0 ft0).fc), .int .i64 ((fv.getD 0 ft0).c)]]) ?_
   obtain ⟨hf1, hz⟩ := hQ'6.s.first (by omega)
   refine ⟨_, none, none, none, 0, 0, 0, [], _, _, rfl, by rw [(whole_bad hz).1, hf1]; rfl, hB'4, by rw [(whole_bad hz).1]; exact RWalkV.zero _ _, ?_⟩
   rw [hf1]
   exact hQ'6.kept (fv.getD 0 ft0) (getD_in (by omega))
 refine xlv 4 k5.rp ?_
 have k1'4 := u5.blk (k1.below n4.below) (Ne.symm (Ne.symm d4_b1))
 refine xsv 1 k1'4 [.slice pe ((scanW l root tree fuel).es.length) ce, .slice pb ((scanW l root tree fuel).bs.length) cb, .int .i64 ((scanW l root tree fuel).deep), .int .i64 (↑(scanW l root tree fuel).looked : Int), .slice pf fv.length cf] fun W13 u13 k13 => ?_
 have g1 := n1.ge (Below.refl w.heap.size _)
 have k2'4 := u13.blkT (u5.blkT ((n2.blk.below hb3).below n4.below) n4.blk (by decide)) k1'4 (by decide)
 refine xsv 0 k2'4 [.slice none 0 0, .int .i64 0] fun W14 u14 k14 => ?_
 have g2 := n2.ge n1.below
 have hQ'7 := (((hQ.below n4.below).only (Only.of_upd (T := [87]) u5 n4.blk (by decide)) (by decide)).only (Only.of_upd (T := [87]) u13 k1'4 (by decide)) (by decide)).updF u14 k2'4 hsF
 have hB'5 := u14.below (u13.below (u5.below (Bl.next hB'1 n4.below) g4) g1) g2
 have k13'1 := u14.blkT k13 k2'4 (by decide)
 refine xecm 3 [(b1, [.slice pe ((scanW l root tree fuel).es.length) ce, .slice pb ((scanW l root tree fuel).bs.length) cb, .int .i64 ((scanW l root tree fuel).deep), .int .i64 (↑(scanW l root tree fuel).looked : Int), .slice pf fv.length cf]), (b2, [.slice none 0 0, .int .i64 0])] ⟨⟨_, k13'1⟩, ⟨_, k14⟩, trivial⟩ (.tuple #[.agg #[.slice pe ((scanW l root tree fuel).es.length) ce, .slice pb ((scanW l root tree fuel).bs.length) cb, .int .i64 ((scanW l root tree fuel).deep), .int .i64 (↑(scanW l root tree fuel).looked : Int), .slice pf fv.length cf], .agg #[.slice none 0 0, .int .i64 0]]) ?_
 have hz := hQ'7.s.none (by omega)
 exact ⟨_, pe, pb, pf, ce, cb, cf, fv, none, 0, rfl, by rw [(whole_ok hz).1, (whole_ok hz).2.1]; rfl, hB'5, by rw [(whole_ok hz).1]; exact hQ'7, by rw [(whole_ok hz).2.1]; exact World.ownsRow_nil _ _ _ _⟩
theorem ref_OfM (a : Option Addr) (c n k : Nat) (l : List UInt8) (w : World) (hn : l.length = n) (hk : min (n / 256) 14400 = k) (h : Bys w (.slice a n c) l) (hl : n ≤ 100000000) :
    Calls Tryz.prog 8 #[.slice a n c] w (RetS (fun w' r => ∃ bm p c2, r = .pointer (some ⟨bm, 0, none⟩) ∧ w.heap.size ≤ bm ∧ RefI w.heap.size bm p k c2 (l.take (k * 256)) w') w) := by
  subst hn hk; exact ref_Of a c l w h hl
end Go.Proofs.YthlakkdgcgkcdaaGreatDoor
namespace Go.Proofs.YthlakkdgcgkcdaaGreatDoor
open Go.RowKit
set_option linter.unusedVariables false
section
variable {P : Program} {a : Act}
theorem str_ext (l : List UInt8) (b c : Nat) : (ByteArray.mk l.toArray).extract b c = ByteArray.mk ((l.drop b).take (c - b)).toArray := ByteArray.extract_mk l b c
theorem run_strH {o : Oper} {t : TypeId} {x y : Operand} {l : List UInt8} {k : Nat} {j : Int} {kj : IntKind} (ho : o.op = .slice t x none (some y) none) (hx : a.eval x = .string ⟨l.toArray⟩) (hy : a.eval y = .int kj j) (hj : j = (k : Int)) (hk : k ≤ l.length)
    (ht : P.underlying t = some .string) (w : World) : (execOp a.eval o).run P w = .ok (.value (.string ⟨(l.take k).toArray⟩)) w := by
  subst hj
  have hs : ((k : Int)) ≤ ((⟨l.toArray⟩ : ByteArray).size : Int) := by simp [ByteArray.size]; omega
  have h := run_slice_string_h (P := P) (w := w) (t := t) (s := ⟨l.toArray⟩) ht kj (k : Int) (by omega) hs
  rw [str_ext, List.drop_zero, Int.toNat_natCast, Nat.sub_zero] at h
  simp only [execOp, ho, hx, Option.map_some, Option.map_none, hy]
  simp [run_sliceAt_string, ht, h]
theorem run_strL {o : Oper} {t : TypeId} {x y : Operand} {l : List UInt8} {k : Nat} {j : Int} {kj : IntKind} (ho : o.op = .slice t x (some y) none none) (hx : a.eval x = .string ⟨l.toArray⟩) (hy : a.eval y = .int kj j) (hj : j = (k : Int)) (hk : k ≤ l.length)
    (ht : P.underlying t = some .string) (w : World) : (execOp a.eval o).run P w = .ok (.value (.string ⟨(l.drop k).toArray⟩)) w := by
  subst hj
  have hs : ((k : Int)) ≤ ((⟨l.toArray⟩ : ByteArray).size : Int) := by simp [ByteArray.size]; omega
  have h := run_slice_string_l (P := P) (w := w) (t := t) (s := ⟨l.toArray⟩) ht kj (k : Int) (by omega) hs
  rw [str_ext, Int.toNat_natCast, show (⟨l.toArray⟩ : ByteArray).size = l.length by simp [ByteArray.size], List.take_of_length_le (by simp)] at h
  simp only [execOp, ho, hx, Option.map_some, Option.map_none, hy]
  simp [run_sliceAt_string, ht, h]
end
end Go.Proofs.YthlakkdgcgkcdaaGreatDoor
