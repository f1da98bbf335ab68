/- block.Node, whatever lies in the image. code.Pack of one field and of the six fields of a node; value.Root. node.Put of a node that is right. (*Alloc).Image, and build.right at entries that are right. slices.Backward of ints. (*walker).note: an error noted at the blocks of the way. slices.Contains of ints. Child and Split of package span return the plain functions below, for any span and any slice of keys. (*walker).look. (*walker).leaf. append onto one of two rows of the same type: where the new row lies. Further steps of a walk: append of a string to a row of the call's own, a store into a place of such a row, and where an appended row lies. value.ReadRoot, whatever the string. What a scan computes, in plain Lean: the walker's state, a visit, and how the state lies in memory. (*walker).child, given what a visit one deeper does. The lists of a scan only grow. -/
import Derived.Lib.AppendStr
import Derived.Laws.IdiomStrings
import Derived.Test.YtolblnjohaooaaaGreatMg2
namespace Go.Proofs.YtolblnjohaooaaaGreat
open Go.RowKit Go.Extern.Stop Go.Stop Go.Extern
set_option linter.unusedVariables false
attribute [local irreducible] wpList wpAnyH Code.wp Oper.wp Go

theorem seal_OpenN (kind no : Int) (a : Option Addr) (n c : Nat) (l : List UInt8) (w : World) (hn : l.length = n) (h : Bys w (.slice a n c) l) : Calls Tryz.prog 82 #[.slice a n c, .int .i64 kind, .int .i64 no] w (OpenP kind no l w) := by
  subst hn; exact seal_Open kind no a c l w h
/-- a node, asked as a tree's: the error's number -/
def nodeTE (l : List UInt8) (tree : Int) : Int := if nodeE l = 0 then (if tree = 0 ∨ nodT l = tree then 0 else 6) else nodeE l
/-- what package block has for a node -/
def nodeErr (l : List UInt8) (no tree : Int) : Int := if inE l 2 no = 0 then nodeTE (inB l no) tree else inE l 2 no
def nodeV (l : List UInt8) (kp vp : Option Addr) (kc vc : Nat) : Value := .agg #[.int .i64 (nodT l), .bool (nodL l), .slice kp (nodC l) kc, .slice vp (nodC l) vc]
def Node1P (l : List UInt8) (tree : Int) (w : World) (e : Ending) (w' : World) : Prop :=
  (nodeTE l tree ≠ 0 ∧ ∃ a b kp n1 kc vp n2 vc, e = .returned (.tuple #[.agg #[.int .i64 a, .bool b, .slice kp n1 kc, .slice vp n2 vc], .int .i64 (nodeTE l tree)]) ∧ Below w.heap.size w w') ∨
  (nodeTE l tree = 0 ∧ ∃ kp kc vp vc, e = .returned (.tuple #[.agg #[.int .i64 (nodT l), .bool (nodL l), .slice kp (nodC l) kc, .slice vp (nodC l) vc], .int .i64 0]) ∧ Below w.heap.size w w' ∧
    w'.ownsRow w.heap.size 3 1 (.slice kp (nodC l) kc) (nodC l) ((keysI l (nodC l)).map (Value.int .i64)) ∧ w'.ownsRow w.heap.size 9 1 (.slice vp (nodC l) vc) (nodC l) ((valsL l (nodC l)).map sv))
def BlkNodeP (l : List UInt8) (no tree : Int) (w : World) (e : Ending) (w' : World) : Prop :=
  (nodeErr l no tree ≠ 0 ∧ ∃ b, e = .returned (.tuple #[.agg #[.int .i64 0, .bool false, .slice none 0 0, .slice none 0 0], .iface 112 (.pointer (some ⟨b, 0, none⟩))]) ∧ Below w.heap.size w w' ∧ ErrV w' [some no] (some (nodeErr l no tree)) (.iface 112 (.pointer (some ⟨b, 0, none⟩)))) ∨
  (nodeErr l no tree = 0 ∧ ∃ kp kc vp vc, e = .returned (.tuple #[.agg #[.int .i64 (nodT (inB l no)), .bool (nodL (inB l no)), .slice kp (nodC (inB l no)) kc, .slice vp (nodC (inB l no)) vc], .nilIface]) ∧ Below w.heap.size w w' ∧
    w'.ownsRow w.heap.size 3 1 (.slice kp (nodC (inB l no)) kc) (nodC (inB l no)) ((keysI (inB l no) (nodC (inB l no))).map (Value.int .i64)) ∧ w'.ownsRow w.heap.size 9 1 (.slice vp (nodC (inB l no)) vc) (nodC (inB l no)) ((valsL (inB l no) (nodC (inB l no))).map sv))
set_option maxRecDepth 100000 in
set_option maxHeartbeats 1000000 in
theorem node_1 (tree : Int) (bt : Nat) (a : Option Addr) (c : Nat) (l : List UInt8) (w : World) (kt : Blk w bt [.int .i64 tree] 3) (hl : l.length = 244) (h : Bys w (.slice a 244 c) l) :
    Calls Tryz.prog 70 #[.slice a 244 c, .pointer (some ⟨bt, 0, none⟩)] w (Node1P l tree w) := by
 refine zin 27 Tryz.func70 ?_
 refine xa 2 [.int .i64 0, .bool false, .slice none 0 0, .slice none 0 0] 67 fun b1 W1 n1 => ?_
 refine xc 6 (args := #[.slice a 244 c]) (node_Read a c l _ hl (h.below n1.below)) ?_
 rintro e W2 hq2
 rcases hq2 with ⟨hz, rfl, hb2⟩ | ⟨hz, kp, kc, vp, vc, rfl, hb2, hk, hv_⟩
 · refine xa 3 [.int .i64 0, .bool false, .slice none 0 0, .slice none 0 0] 67 fun b3 W3 n3 => ?_
   have k1 := n1.blk.below hb2
   have d3_b1 := n3.ne k1
   have hB'1 := Bl.next n1.below hb2
   have g3 := n3.ge hB'1
   refine xsv 0 n3.blk [.int .i64 0, .bool false, .slice none 0 0, .slice none 0 0] fun W4 u4 k4 => ?_
   refine xgk 9 [13, 14] (show (((nodeE l) == (0 : Int)) : Bool) = false from beq_false_of_ne hz) ?_
   refine xlv 16 k4.rp ?_
   have k1'1 := u4.blk (k1.below n3.below) (Ne.symm (Ne.symm d3_b1))
   refine xsv 1 k1'1 [.int .i64 0, .bool false, .slice none 0 0, .slice none 0 0] fun W6 u6 k6 => ?_
   have g1 := n1.ge (Below.refl w.heap.size _)
   have hB'2 := u6.below (u4.below (Bl.next hB'1 n3.below) g3) g1
   exact xec 4 k6 (.tuple #[.agg #[.int .i64 0, .bool false, .slice none 0 0, .slice none 0 0], .int .i64 (nodeE l)]) (.inl ⟨by unfold nodeTE; rw [if_neg hz]; exact hz, _, _, _, _, _, _, _, _, by unfold nodeTE; rw [if_neg hz], hB'2⟩)
 refine xa 3 [.int .i64 0, .bool false, .slice none 0 0, .slice none 0 0] 67 fun b7 W7 n7 => ?_
 have k1 := n1.blk.below hb2
 have d7_b1 := n7.ne k1
 have hB'3 := Bl.next n1.below hb2
 have g7 := n7.ge hB'3
 refine xsv 0 n7.blk [.int .i64 (nodT l), .bool (nodL l), .slice kp (nodC l) kc, .slice vp (nodC l) vc] fun W8 u8 k8 => ?_
 have kt'1 := u8.blkT (((kt.below n1.below).below hb2).below n7.below) n7.blk (by decide)
 refine xb 9 0 kt'1 ?_
 refine xg 3 [16, 17, 18] (tree != (0 : Int)) (fun hc9 => ?_) (fun hc9 => ?_)
 · have hc9 := ne_of_bne hc9
   refine xb 1 0 k8 ?_
   refine xb 0 0 kt'1 ?_
   refine xin 4 (nodT l) tree (fun hc10 => ?_) (fun hc10 => ?_)
   · refine xlv 2 k8.rp ?_
     have k1'2 := u8.blk (k1.below n7.below) (Ne.symm (Ne.symm d7_b1))
     refine xsv 0 k1'2 [.int .i64 (nodT l), .bool (nodL l), .slice kp (nodC l) kc, .slice vp (nodC l) vc] fun W11 u11 k11 => ?_
     have g1 := n1.ge (Below.refl w.heap.size _)
     have hB'4 := u11.below (u8.below (Bl.next hB'3 n7.below) g7) g1
     exact xec 5 k11 (.tuple #[.agg #[.int .i64 (nodT l), .bool (nodL l), .slice kp (nodC l) kc, .slice vp (nodC l) vc], .int .i64 6]) (.inl ⟨by unfold nodeTE; rw [if_pos hz, if_neg (by omega)]; decide, _, _, _, _, _, _, _, _, by unfold nodeTE; rw [if_pos hz, if_neg (by omega)], hB'4⟩)
   refine xlv 4 k8.rp ?_
   have k1'3 := u8.blk (k1.below n7.below) (Ne.symm (Ne.symm d7_b1))
   refine xsv 1 k1'3 [.int .i64 (nodT l), .bool (nodL l), .slice kp (nodC l) kc, .slice vp (nodC l) vc] fun W12 u12 k12 => ?_
   have g1 := n1.ge (Below.refl w.heap.size _)
   have hB'5 := u12.below (u8.below (Bl.next hB'3 n7.below) g7) g1
   have hk'1 := u12.own2 (u8.own2 (own_below (own_mono hk n1.below.size) n7.below) n7.blk (by decide)) k1'3 (by decide)
   have hv_'1 := u12.own2 (u8.own2 (own_below (own_mono hv_ n1.below.size) n7.below) n7.blk (by decide)) k1'3 (by decide)
   exact xec 4 k12 (.tuple #[.agg #[.int .i64 (nodT l), .bool (nodL l), .slice kp (nodC l) kc, .slice vp (nodC l) vc], .int .i64 0]) (.inr ⟨by unfold nodeTE; rw [if_pos hz, if_pos (by omega)], _, _, _, _, rfl, hB'5, hk'1, hv_'1⟩)
 have hc9 := eq_of_bne_false hc9
 refine xlv 12 k8.rp ?_
 have k1'4 := u8.blk (k1.below n7.below) (Ne.symm (Ne.symm d7_b1))
 refine xsv 1 k1'4 [.int .i64 (nodT l), .bool (nodL l), .slice kp (nodC l) kc, .slice vp (nodC l) vc] fun W13 u13 k13 => ?_
 have g1 := n1.ge (Below.refl w.heap.size _)
 have hB'6 := u13.below (u8.below (Bl.next hB'3 n7.below) g7) g1
 have hk'2 := u13.own2 (u8.own2 (own_below (own_mono hk n1.below.size) n7.below) n7.blk (by decide)) k1'4 (by decide)
 have hv_'2 := u13.own2 (u8.own2 (own_below (own_mono hv_ n1.below.size) n7.below) n7.blk (by decide)) k1'4 (by decide)
 exact xec 4 k13 (.tuple #[.agg #[.int .i64 (nodT l), .bool (nodL l), .slice kp (nodC l) kc, .slice vp (nodC l) vc], .int .i64 0]) (.inr ⟨by unfold nodeTE; rw [if_pos hz, if_pos (by omega)], _, _, _, _, rfl, hB'6, hk'2, hv_'2⟩)
set_option maxRecDepth 100000 in
set_option maxHeartbeats 1000000 in
theorem readNode (B b : Nat) (p : Option Addr) (n c : Nat) (l : List UInt8) (no tree : Int) (w : World) (hI : ImgR B b p n c l w) (bt : Nat) (kt : Blk w bt [.int .i64 tree] 3) :
    Calls Tryz.prog 69 #[.pointer (some ⟨b, 0, none⟩), .int .i64 no, .int .i64 2, .func (.func 70) #[] #[.pointer (some ⟨bt, 0, none⟩)]] w (BlkNodeP l no tree w) := by
 refine zin 56 Tryz.func69 ?_
 refine xa 2 [.int .i64 0, .bool false, .slice none 0 0, .slice none 0 0] 67 fun b1 W1 n1 => ?_
 refine xa 5 [.int .i64 0, .bool false, .slice none 0 0, .slice none 0 0] 67 fun b2 W2 n2 => ?_
 have d2_b1 := n2.ne n1.blk
 have hB := Bl.next n1.below n2.below
 refine xc 6 (args := #[.pointer (some ⟨b, 0, none⟩), .int .i64 no]) (image_Read B b p n c l no _ (hI.below hB)) ?_
 rintro e W3 hq3
 rcases hq3 with ⟨ho, vr, rfl, hb3⟩ | ⟨j, hk, hj, p2, c2, rfl, hb3, ho⟩
 · refine xd 16 (.t w.heap.size [67]) ?_
   refine xm2 (.b [1, 2, 3]) 0 4 ?_ ?_
   · have k2 := (n2.blk.below hb3).below (below_drew W3)
     refine xlv 0 k2.rp ?_
     refine yc (.o [] 4) (args := #[.int .i64 no, .iface 49 (.int .i64 3)]) (.t w.heap.size [67]) (block_told no 3 _) ?_
     rintro _ W4 ⟨_, rfl, hb4, hv4⟩
     refine ⟨(SF.of_below _ hb4), ?_⟩
     rw [if_neg (by decide), if_neg (by decide)] at hv4
     have hq4 := hv4
     obtain ⟨bf4, vf4, rfl, _, _⟩ := hq4
     have k1'1 := (((n1.blk.below n2.below).below hb3).below (below_drew W3)).below hb4
     have g1 := n1.ge (Below.refl w.heap.size _)
     refine ysv (.o [] 5) k1'1 [.int .i64 0, .bool false, .slice none 0 0, .slice none 0 0] (.t w.heap.size [67]) fun W5 u5 k5 => ⟨(sft_upd u5 k1'1 g1 (by decide)), ?_⟩
     have hB'1 := u5.below (Bl.next (Bl.next (Bl.next hB hb3) (below_drew W3)) hb4) g1
     have hv4'1 := hv4.upd u5 k1'1 (by decide)
     refine xec (.r [6] 4) k5 (.tuple #[.agg #[.int .i64 0, .bool false, .slice none 0 0, .slice none 0 0], .iface 112 (.pointer (some ⟨bf4, 0, none⟩))]) ?_
     have he : nodeErr l no tree = 3 := by unfold nodeErr; rw [inE_out hI.len ho]; rfl
     exact .inl ⟨by rw [he]; decide, _, rfl, hB'1, by rw [he]; exact hv4'1⟩
   refine yc 0 (args := #[.int .i64 no, .iface 49 (.int .i64 3)]) (.t w.heap.size [67]) (block_told no 3 _) ?_
   rintro _ W6 ⟨_, rfl, hb6, hv6⟩
   refine ⟨(SF.of_below _ hb6), ?_⟩
   rw [if_neg (by decide), if_neg (by decide)] at hv6
   have hq6 := hv6
   obtain ⟨bf6, vf6, rfl, _, _⟩ := hq6
   have k2 := ((n2.blk.below hb3).below (below_drew W3)).below hb6
   refine xlv (.o [] 0) k2.rp ?_
   have k1'2 := (((n1.blk.below n2.below).below hb3).below (below_drew W3)).below hb6
   have g1 := n1.ge (Below.refl w.heap.size _)
   refine ysv (.o [] 5) k1'2 [.int .i64 0, .bool false, .slice none 0 0, .slice none 0 0] (.t w.heap.size [67]) fun W7 u7 k7 => ⟨(sft_upd u7 k1'2 g1 (by decide)), ?_⟩
   have hB'2 := u7.below (Bl.next (Bl.next (Bl.next hB hb3) (below_drew W3)) hb6) g1
   have hv6'1 := hv6.upd u7 k1'2 (by decide)
   refine xec (.r [6] 4) k7 (.tuple #[.agg #[.int .i64 0, .bool false, .slice none 0 0, .slice none 0 0], .iface 112 (.pointer (some ⟨bf6, 0, none⟩))]) ?_
   have he : nodeErr l no tree = 3 := by unfold nodeErr; rw [inE_out hI.len ho]; rfl
   exact .inl ⟨by rw [he]; decide, _, rfl, hB'2, by rw [he]; exact hv6'1⟩
 have hs3 := (Bl.next n1.below n2.below).size
 have hj2 : j < l.length / 256 := by rw [hI.len]; exact hj
 have hlj := blkB_len hj2
 have he2 := inE_in (l := l) (kind := 2) hI.len hk hj
 have ho'1 := own_mono ho hs3
 refine xc 22 (args := #[.slice p2 256 c2, .int .i64 2, .int .i64 no]) (seal_OpenN 2 no p2 256 c2 (blkB l j) _ hlj (bys_of (own_sl ho'1) hlj)) ?_
 rintro e W8 hq8
 rcases hq8 with ⟨hs, rfl, hb8⟩ | ⟨hs, p3, c3, rfl, hb8, h3⟩
 · refine xk 14 (show (((openE 2 no (blkB l j)) != (0 : Int)) : Bool) = true from bne_iff_ne.2 hs) ?_
   refine xd 1 (.t w.heap.size [67]) ?_
   refine xm2 (.b [1, 2, 3]) 0 4 ?_ ?_
   · have k2 := ((n2.blk.below hb3).below hb8).below (below_drew W8)
     refine xlv 0 k2.rp ?_
     refine yc (.o [] 4) (args := #[.int .i64 no, .iface 49 (.int .i64 (openE 2 no (blkB l j)))]) (.t w.heap.size [67]) (block_told no (openE 2 no (blkB l j)) _) ?_
     rintro _ W9 ⟨_, rfl, hb9, hv9⟩
     refine ⟨(SF.of_below _ hb9), ?_⟩
     rw [if_neg hs, if_neg hs] at hv9
     have hq9 := hv9
     obtain ⟨bf9, vf9, rfl, _, _⟩ := hq9
     have k1'3 := ((((n1.blk.below n2.below).below hb3).below hb8).below (below_drew W8)).below hb9
     have g1 := n1.ge (Below.refl w.heap.size _)
     refine ysv (.o [] 5) k1'3 [.int .i64 0, .bool false, .slice none 0 0, .slice none 0 0] (.t w.heap.size [67]) fun W10 u10 k10 => ⟨(sft_upd u10 k1'3 g1 (by decide)), ?_⟩
     have hB'3 := u10.below (Bl.next (Bl.next (Bl.next (Bl.next hB hb3) hb8) (below_drew W8)) hb9) g1
     have hv9'1 := hv9.upd u10 k1'3 (by decide)
     refine xec (.r [6] 4) k10 (.tuple #[.agg #[.int .i64 0, .bool false, .slice none 0 0, .slice none 0 0], .iface 112 (.pointer (some ⟨bf9, 0, none⟩))]) ?_
     have he : nodeErr l no tree = openE 2 no (blkB l j) := by unfold nodeErr; rw [he2, if_neg hs]
     exact .inl ⟨by rw [he]; exact hs, _, rfl, hB'3, by rw [he]; exact hv9'1⟩
   refine yc 0 (args := #[.int .i64 no, .iface 49 (.int .i64 (openE 2 no (blkB l j)))]) (.t w.heap.size [67]) (block_told no (openE 2 no (blkB l j)) _) ?_
   rintro _ W11 ⟨_, rfl, hb11, hv11⟩
   refine ⟨(SF.of_below _ hb11), ?_⟩
   rw [if_neg hs, if_neg hs] at hv11
   have hq11 := hv11
   obtain ⟨bf11, vf11, rfl, _, _⟩ := hq11
   have k2 := (((n2.blk.below hb3).below hb8).below (below_drew W8)).below hb11
   refine xlv (.o [] 0) k2.rp ?_
   have k1'4 := ((((n1.blk.below n2.below).below hb3).below hb8).below (below_drew W8)).below hb11
   have g1 := n1.ge (Below.refl w.heap.size _)
   refine ysv (.o [] 5) k1'4 [.int .i64 0, .bool false, .slice none 0 0, .slice none 0 0] (.t w.heap.size [67]) fun W12 u12 k12 => ⟨(sft_upd u12 k1'4 g1 (by decide)), ?_⟩
   have hB'4 := u12.below (Bl.next (Bl.next (Bl.next (Bl.next hB hb3) hb8) (below_drew W8)) hb11) g1
   have hv11'1 := hv11.upd u12 k1'4 (by decide)
   refine xec (.r [6] 4) k12 (.tuple #[.agg #[.int .i64 0, .bool false, .slice none 0 0, .slice none 0 0], .iface 112 (.pointer (some ⟨bf11, 0, none⟩))]) ?_
   have he : nodeErr l no tree = openE 2 no (blkB l j) := by unfold nodeErr; rw [he2, if_neg hs]
   exact .inl ⟨by rw [he]; exact hs, _, rfl, hB'4, by rw [he]; exact hv11'1⟩
 have hs8 := (Bl.next hB hb3).size
 have h3'1 := own_mono h3 hs8
 have hin : ((blkB l j).drop 8).take 244 = inB l no := (inB_in hk).symm
 have hil := inB_len hI.len hk hj
 rw [hin] at h3'1
 have hB'5 := Bl.next (Bl.next hB hb3) hb8
 refine xc 21 (args := #[.slice p3 244 c3, .pointer (some ⟨bt, 0, none⟩)]) (node_1 tree bt p3 c3 (inB l no) _ (kt.below hB'5) hil (bys_of (own_sl h3'1) hil)) ?_
 rintro e W13 hq13
 rcases hq13 with ⟨hz, a5, b5, kp, m1, kc, vp, m2, vc, rfl, hb13⟩ | ⟨hz, kp, kc, vp, vc, rfl, hb13, hk, hv_⟩
 · refine xa 3 [.int .i64 0, .bool false, .slice none 0 0, .slice none 0 0] 67 fun b14 W14 n14 => ?_
   have k1'5 := (((n1.blk.below n2.below).below hb3).below hb8).below hb13
   have d14_b1 := n14.ne k1'5
   have k2 := ((n2.blk.below hb3).below hb8).below hb13
   have d14_b2 := n14.ne k2
   have hB'6 := Bl.next hB'5 hb13
   have g14 := n14.ge hB'6
   refine xsv 0 n14.blk [.int .i64 a5, .bool b5, .slice kp m1 kc, .slice vp m2 vc] fun W15 u15 k15 => ?_
   refine xk 10 (show (((nodeTE (inB l no) tree) != (0 : Int)) : Bool) = true from bne_iff_ne.2 hz) ?_
   refine xd 1 (.t w.heap.size [67]) ?_
   refine xm2 (.b [1, 2, 3]) 0 4 ?_ ?_
   · have k2'1 := (u15.blk (k2.below n14.below) (Ne.symm (Ne.symm d14_b2))).below (below_drew W15)
     refine xlv 0 k2'1.rp ?_
     refine yc (.o [] 4) (args := #[.int .i64 no, .iface 49 (.int .i64 (nodeTE (inB l no) tree))]) (.t w.heap.size [67]) (block_told no (nodeTE (inB l no) tree) _) ?_
     rintro _ W16 ⟨_, rfl, hb16, hv16⟩
     refine ⟨(SF.of_below _ hb16), ?_⟩
     rw [if_neg hz, if_neg hz] at hv16
     have hq16 := hv16
     obtain ⟨bf16, vf16, rfl, _, _⟩ := hq16
     have k1'6 := ((u15.blk (k1'5.below n14.below) (Ne.symm (Ne.symm d14_b1))).below (below_drew W15)).below hb16
     have g1 := n1.ge (Below.refl w.heap.size _)
     refine ysv (.o [] 5) k1'6 [.int .i64 0, .bool false, .slice none 0 0, .slice none 0 0] (.t w.heap.size [67]) fun W17 u17 k17 => ⟨(sft_upd u17 k1'6 g1 (by decide)), ?_⟩
     have hB'7 := u17.below (Bl.next (Bl.next (u15.below (Bl.next hB'6 n14.below) g14) (below_drew W15)) hb16) g1
     have hv16'1 := hv16.upd u17 k1'6 (by decide)
     refine xec (.r [6] 4) k17 (.tuple #[.agg #[.int .i64 0, .bool false, .slice none 0 0, .slice none 0 0], .iface 112 (.pointer (some ⟨bf16, 0, none⟩))]) ?_
     have he : nodeErr l no tree = nodeTE (inB l no) tree := by unfold nodeErr; rw [he2, if_pos hs]
     exact .inl ⟨by rw [he]; exact hz, _, rfl, hB'7, by rw [he]; exact hv16'1⟩
   refine yc 0 (args := #[.int .i64 no, .iface 49 (.int .i64 (nodeTE (inB l no) tree))]) (.t w.heap.size [67]) (block_told no (nodeTE (inB l no) tree) _) ?_
   rintro _ W18 ⟨_, rfl, hb18, hv18⟩
   refine ⟨(SF.of_below _ hb18), ?_⟩
   rw [if_neg hz, if_neg hz] at hv18
   have hq18 := hv18
   obtain ⟨bf18, vf18, rfl, _, _⟩ := hq18
   have k2'2 := ((u15.blk (k2.below n14.below) (Ne.symm (Ne.symm d14_b2))).below (below_drew W15)).below hb18
   refine xlv (.o [] 0) k2'2.rp ?_
   have k1'7 := ((u15.blk (k1'5.below n14.below) (Ne.symm (Ne.symm d14_b1))).below (below_drew W15)).below hb18
   have g1 := n1.ge (Below.refl w.heap.size _)
   refine ysv (.o [] 5) k1'7 [.int .i64 0, .bool false, .slice none 0 0, .slice none 0 0] (.t w.heap.size [67]) fun W19 u19 k19 => ⟨(sft_upd u19 k1'7 g1 (by decide)), ?_⟩
   have hB'8 := u19.below (Bl.next (Bl.next (u15.below (Bl.next hB'6 n14.below) g14) (below_drew W15)) hb18) g1
   have hv18'1 := hv18.upd u19 k1'7 (by decide)
   refine xec (.r [6] 4) k19 (.tuple #[.agg #[.int .i64 0, .bool false, .slice none 0 0, .slice none 0 0], .iface 112 (.pointer (some ⟨bf18, 0, none⟩))]) ?_
   have he : nodeErr l no tree = nodeTE (inB l no) tree := by unfold nodeErr; rw [he2, if_pos hs]
   exact .inl ⟨by rw [he]; exact hz, _, rfl, hB'8, by rw [he]; exact hv18'1⟩
 have hs13 := (Bl.next (Bl.next hB hb3) hb8).size
 refine xa 3 [.int .i64 0, .bool false, .slice none 0 0, .slice none 0 0] 67 fun b20 W20 n20 => ?_
 have k1'8 := (((n1.blk.below n2.below).below hb3).below hb8).below hb13
 have d20_b1 := n20.ne k1'8
 have k2 := ((n2.blk.below hb3).below hb8).below hb13
 have d20_b2 := n20.ne k2
 have hB'9 := Bl.next hB'5 hb13
 have g20 := n20.ge hB'9
 refine xsv 0 n20.blk [.int .i64 (nodT (inB l no)), .bool (nodL (inB l no)), .slice kp (nodC (inB l no)) kc, .slice vp (nodC (inB l no)) vc] fun W21 u21 k21 => ?_
 refine xlv 15 k21.rp ?_
 have k1'9 := u21.blk (k1'8.below n20.below) (Ne.symm (Ne.symm d20_b1))
 refine xsv 0 k1'9 [.int .i64 (nodT (inB l no)), .bool (nodL (inB l no)), .slice kp (nodC (inB l no)) kc, .slice vp (nodC (inB l no)) vc] fun W22 u22 k22 => ?_
 have g1 := n1.ge (Below.refl w.heap.size _)
 have hB'10 := u22.below (u21.below (Bl.next hB'9 n20.below) g20) g1
 have hk'1 := u22.own2 (u21.own2 (own_below (own_mono hk hs13) n20.below) n20.blk (by decide)) k1'9 (by decide)
 have hv_'1 := u22.own2 (u21.own2 (own_below (own_mono hv_ hs13) n20.below) n20.blk (by decide)) k1'9 (by decide)
 exact xec 4 k22 (.tuple #[.agg #[.int .i64 (nodT (inB l no)), .bool (nodL (inB l no)), .slice kp (nodC (inB l no)) kc, .slice vp (nodC (inB l no)) vc], .nilIface]) (.inr ⟨by unfold nodeErr; rw [he2, if_pos hs, hz], _, _, _, _, rfl, hB'10, hk'1, hv_'1⟩)
set_option maxRecDepth 100000 in
set_option maxHeartbeats 1000000 in
theorem block_Node (B b : Nat) (p : Option Addr) (n c : Nat) (l : List UInt8) (no tree : Int) (w : World) (hI : ImgR B b p n c l w) :
    Calls Tryz.prog 58 #[.pointer (some ⟨b, 0, none⟩), .int .i64 no, .int .i64 tree] w (BlkNodeP l no tree w) := by
 refine zin 14 Tryz.func58 ?_
 refine xa 2 [.int .i64 tree] 3 fun b1 W1 n1 => ?_
 refine xa 0 [.int .i64 0, .bool false, .slice none 0 0, .slice none 0 0] 67 fun b2 W2 n2 => ?_
 have hB := Bl.next n1.below n2.below
 have k1 := n1.blk.below n2.below
 refine xc 8 (args := #[.pointer (some ⟨b, 0, none⟩), .int .i64 no, .int .i64 2, .func (.func 70) #[] #[.pointer (some ⟨b1, 0, none⟩)]]) (readNode B b p n c l no tree _ (hI.below hB) b1 k1) ?_
 rintro e W3 hq3
 rcases hq3 with ⟨he, bf, rfl, hb3, hv⟩ | ⟨he, kp, kc, vp, vc, rfl, hb3, hk, hv_⟩
 · have k2 := n2.blk.below hb3
   refine xsv 2 k2 [.int .i64 0, .bool false, .slice none 0 0, .slice none 0 0] fun W4 u4 k4 => ?_
   have g2 := n2.ge n1.below
   have hB'1 := u4.below (Bl.next hB hb3) g2
   have hv'1 := hv.upd u4 k2 (by decide)
   exact xec 4 k4 (.tuple #[.agg #[.int .i64 0, .bool false, .slice none 0 0, .slice none 0 0], .iface 112 (.pointer (some ⟨bf, 0, none⟩))]) (.inl ⟨he, _, rfl, hB'1, hv'1⟩)
 have hs3 := (Bl.next n1.below n2.below).size
 have k2 := n2.blk.below hb3
 refine xsv 2 k2 [.int .i64 (nodT (inB l no)), .bool (nodL (inB l no)), .slice kp (nodC (inB l no)) kc, .slice vp (nodC (inB l no)) vc] fun W5 u5 k5 => ?_
 have g2 := n2.ge n1.below
 have hB'2 := u5.below (Bl.next hB hb3) g2
 have hk'1 := u5.own2 (own_mono hk hs3) k2 (by decide)
 have hv_'1 := u5.own2 (own_mono hv_ hs3) k2 (by decide)
 exact xec 4 k5 (.tuple #[.agg #[.int .i64 (nodT (inB l no)), .bool (nodL (inB l no)), .slice kp (nodC (inB l no)) kc, .slice vp (nodC (inB l no)) vc], .nilIface]) (.inr ⟨he, _, _, _, _, rfl, hB'2, hk'1, hv_'1⟩)
end Go.Proofs.YtolblnjohaooaaaGreat
namespace Go.Proofs.YtolblnjohaooaaaGreat
open Go.RowKit Go.Extern.Stop Go.Stop Go.Extern
set_option linter.unusedVariables false
attribute [local irreducible] wpList wpAnyH Code.wp Oper.wp Go

set_option maxRecDepth 100000 in
set_option maxHeartbeats 1000000 in
theorem Pack_4 (g : Nat) (n : Int) (h0 : 0 ≤ n) (hb : n < 4294967296) (w : World) (hk : Blk w g [.int .i64 4, .int .i64 n] 84) :
    Calls Tryz.prog 35 #[.slice (some ⟨g, 0, none⟩) 1 1] w (RetS (fun w' r => ∃ p c, r = .tuple #[.slice p 4 c, .int .i64 0] ∧ w'.ownsRow w.heap.size 5 1 (.slice p 4 c) 4 ((leB n 4).map bv)) w) := by
 refine zin 32 Tryz.func35 ?_
 refine xu 20 2 ?_
 refine xlv 14 hk.rp ?_
 refine xa 0 [.int .i64 0, .int .i64 0] 84 fun b1 W1 n1 => ?_
 have d1_g := n1.ne hk
 refine xsv 0 n1.blk [.int .i64 4, .int .i64 n] fun W2 u2 k2 => ?_
 have g1 := n1.ge (Below.refl w.heap.size _)
 refine xb 6 0 k2 ?_
 refine xr 0 (args := #[.int .i64 4]) (known_4 _) fun W3 hb3 => ?_
 have k2'1 := k2.below hb3
 refine xb 10 1 k2'1 ?_
 refine xb 1 0 k2'1 ?_
 refine xr 0 (args := #[.int .i64 n, .int .i64 4]) (fits_4 (n) (h0) (hb) _) fun W4 hb4 => ?_
 have k2'2 := k2'1.below hb4
 refine xb 9 1 k2'2 ?_
 refine xb 1 0 k2'2 ?_
 refine xc 0 (args := #[.int .i64 n, .int .i64 4]) (bytes_4 (n) (h0) _) ?_
 rintro _ W5 ⟨_, rfl, hb5, h2_0⟩
 have hs5 := (Bl.next (Bl.next (u2.below n1.below g1) hb3) hb4).size
 have h2_0'1 := own_mono h2_0 hs5
 unfold OwnB at h2_0'1
 rw [leB_len] at h2_0'1
 obtain ⟨p2_0, c2_0, rfl⟩ := (own_sl h2_0'1).slice
 have o6 := World.ownsRow_nil W5 w.heap.size 5 1
 have hB := Bl.next (Bl.next (Bl.next (u2.below n1.below g1) hb3) hb4) hb5
 refine xbi 0 fun _ _ _ _ zJ zQ zo zx zy zK => op_app (m := 4) (news := (leB (n) 4).map bv) (.int .u8 0) 1 1 (4) ((leB (n) 4).map bv) zo Tryz.underlying22 (by kernel_rfl) rfl (by decide) zx o6 zy (own_sl h2_0'1) (by simp [leB_len]) (bv_one _) (by unfold maxLen; omega) (by omega) hB.size (by rfl) (by simp) fun p7 c7 W7 o7 hg7 hb7 => ?_
 refine zK _ _ ?_
 have hB'1 := hB.trans hb7
 exact xe 29 (.tuple #[.slice p7 4 c7, .int .i64 0]) ⟨_, rfl, hB'1, _, _, rfl, o7⟩
set_option maxRecDepth 100000 in
set_option maxHeartbeats 1000000 in
theorem Pack_8 (g : Nat) (n : Int) (h0 : 0 ≤ n) (w : World) (hk : Blk w g [.int .i64 8, .int .i64 n] 84) :
    Calls Tryz.prog 35 #[.slice (some ⟨g, 0, none⟩) 1 1] w (RetS (fun w' r => ∃ p c, r = .tuple #[.slice p 8 c, .int .i64 0] ∧ w'.ownsRow w.heap.size 5 1 (.slice p 8 c) 8 ((leB n 8).map bv)) w) := by
 refine zin 32 Tryz.func35 ?_
 refine xu 20 2 ?_
 refine xlv 14 hk.rp ?_
 refine xa 0 [.int .i64 0, .int .i64 0] 84 fun b1 W1 n1 => ?_
 have d1_g := n1.ne hk
 refine xsv 0 n1.blk [.int .i64 8, .int .i64 n] fun W2 u2 k2 => ?_
 have g1 := n1.ge (Below.refl w.heap.size _)
 refine xb 6 0 k2 ?_
 refine xr 0 (args := #[.int .i64 8]) (known_8 _) fun W3 hb3 => ?_
 have k2'1 := k2.below hb3
 refine xb 10 1 k2'1 ?_
 refine xb 1 0 k2'1 ?_
 refine xr 0 (args := #[.int .i64 n, .int .i64 8]) (fits_8 (n) (h0) _) fun W4 hb4 => ?_
 have k2'2 := k2'1.below hb4
 refine xb 9 1 k2'2 ?_
 refine xb 1 0 k2'2 ?_
 refine xc 0 (args := #[.int .i64 n, .int .i64 8]) (bytes_8 (n) (h0) _) ?_
 rintro _ W5 ⟨_, rfl, hb5, h2_0⟩
 have hs5 := (Bl.next (Bl.next (u2.below n1.below g1) hb3) hb4).size
 have h2_0'1 := own_mono h2_0 hs5
 unfold OwnB at h2_0'1
 rw [leB_len] at h2_0'1
 obtain ⟨p2_0, c2_0, rfl⟩ := (own_sl h2_0'1).slice
 have o6 := World.ownsRow_nil W5 w.heap.size 5 1
 have hB := Bl.next (Bl.next (Bl.next (u2.below n1.below g1) hb3) hb4) hb5
 refine xbi 0 fun _ _ _ _ zJ zQ zo zx zy zK => op_app (m := 8) (news := (leB (n) 8).map bv) (.int .u8 0) 1 1 (8) ((leB (n) 8).map bv) zo Tryz.underlying22 (by kernel_rfl) rfl (by decide) zx o6 zy (own_sl h2_0'1) (by simp [leB_len]) (bv_one _) (by unfold maxLen; omega) (by omega) hB.size (by rfl) (by simp) fun p7 c7 W7 o7 hg7 hb7 => ?_
 refine zK _ _ ?_
 have hB'1 := hB.trans hb7
 exact xe 29 (.tuple #[.slice p7 8 c7, .int .i64 0]) ⟨_, rfl, hB'1, _, _, rfl, o7⟩
set_option maxRecDepth 100000 in
set_option maxHeartbeats 1000000 in
theorem Pack_node (g : Nat) (f t k v m : Int) (hf : 0 ≤ f) (hf2 : f < 256) (ht : 0 ≤ t) (ht2 : t < 256) (hk1 : 0 ≤ k) (hk2 : k < 65536) (hv : 0 ≤ v) (hv2 : v < 65536) (hm : 0 ≤ m) (hm2 : m < 65536) (w : World) (hk : Blk w g [.int .i64 1, .int .i64 f, .int .i64 1, .int .i64 t, .int .i64 2, .int .i64 k, .int .i64 2, .int .i64 v, .int .i64 2, .int .i64 m, .int .i64 4, .int .i64 0] 84) :
    Calls Tryz.prog 35 #[.slice (some ⟨g, 0, none⟩) 6 6] w (RetS (fun w' r => ∃ p c, r = .tuple #[.slice p 12 c, .int .i64 0] ∧ w'.ownsRow w.heap.size 5 1 (.slice p 12 c) 12 ((leB f 1 ++ leB t 1 ++ leB k 2 ++ leB v 2 ++ leB m 2 ++ leB 0 4).map bv)) w) := by
 refine zin 32 Tryz.func35 ?_
 refine xu 20 7 ?_
 refine xlv 14 (hk.rpp 0 2) ?_
 refine xa 0 [.int .i64 0, .int .i64 0] 84 fun b1 W1 n1 => ?_
 have d1_g := n1.ne hk
 refine xsv 0 n1.blk [.int .i64 1, .int .i64 f] fun W2 u2 k2 => ?_
 have g1 := n1.ge (Below.refl w.heap.size _)
 refine xb 6 0 k2 ?_
 refine xr 0 (args := #[.int .i64 1]) (known_1 _) fun W3 hb3 => ?_
 have k2'1 := k2.below hb3
 refine xb 10 1 k2'1 ?_
 refine xb 1 0 k2'1 ?_
 refine xr 0 (args := #[.int .i64 f, .int .i64 1]) (fits_1 (f) (hf) (hf2) _) fun W4 hb4 => ?_
 have k2'2 := k2'1.below hb4
 refine xb 9 1 k2'2 ?_
 refine xb 1 0 k2'2 ?_
 refine xc 0 (args := #[.int .i64 f, .int .i64 1]) (bytes_1 (f) (hf) _) ?_
 rintro _ W5 ⟨_, rfl, hb5, h2_0⟩
 have hs5 := (Bl.next (Bl.next (u2.below n1.below g1) hb3) hb4).size
 have h2_0'1 := own_mono h2_0 hs5
 unfold OwnB at h2_0'1
 rw [leB_len] at h2_0'1
 obtain ⟨p2_0, c2_0, rfl⟩ := (own_sl h2_0'1).slice
 have o6 := World.ownsRow_nil W5 w.heap.size 5 1
 have hB := Bl.next (Bl.next (Bl.next (u2.below n1.below g1) hb3) hb4) hb5
 refine xbi 0 fun _ _ _ _ zJ zQ zo zx zy zK => op_app (m := 1) (news := (leB (f) 1).map bv) (.int .u8 0) 1 1 (1) ((leB (f) 1).map bv) zo Tryz.underlying22 (by kernel_rfl) rfl (by decide) zx o6 zy (own_sl h2_0'1) (by simp [leB_len]) (bv_one _) (by unfold maxLen; omega) (by omega) hB.size (by rfl) (by simp) fun p7 c7 W7 o7 hg7 hb7 => ?_
 refine zK _ _ ?_
 have hk'1 := ((((u2.blk (hk.below n1.below) (Ne.symm (Ne.symm d1_g))).below hb3).below hb4).below hb5).grown hg7 o6 (by decide)
 refine xlv 23 (hk'1.rpp 2 2) ?_
 refine xa 0 [.int .i64 0, .int .i64 0] 84 fun b8 W8 n8 => ?_
 have d8_g := n8.ne hk'1
 have k2'3 := (k2'2.below hb5).grown hg7 o6 (by decide)
 have d8_b1 := n8.ne k2'3
 refine xsv 0 n8.blk [.int .i64 1, .int .i64 t] fun W9 u9 k9 => ?_
 have g8 := n8.ge (hB.trans hb7)
 refine xb 6 0 k9 ?_
 refine xr 0 (args := #[.int .i64 1]) (known_1 _) fun W10 hb10 => ?_
 have k9'1 := k9.below hb10
 refine xb 10 1 k9'1 ?_
 refine xb 1 0 k9'1 ?_
 refine xr 0 (args := #[.int .i64 t, .int .i64 1]) (fits_1 (t) (ht) (ht2) _) fun W11 hb11 => ?_
 have k9'2 := k9'1.below hb11
 refine xb 9 1 k9'2 ?_
 refine xb 1 0 k9'2 ?_
 refine xc 0 (args := #[.int .i64 t, .int .i64 1]) (bytes_1 (t) (ht) _) ?_
 rintro _ W12 ⟨_, rfl, hb12, h2_1⟩
 have hs12 := (Bl.next (Bl.next (u9.below (Bl.next (hB.trans hb7) n8.below) g8) hb10) hb11).size
 have h2_1'1 := own_mono h2_1 hs12
 unfold OwnB at h2_1'1
 rw [leB_len] at h2_1'1
 obtain ⟨p2_1, c2_1, rfl⟩ := (own_sl h2_1'1).slice
 have o7'1 := own_below (own_below (own_below (u9.own2 (own_below o7 n8.below) n8.blk (by decide)) hb10) hb11) hb12
 have hB'1 := Bl.next (Bl.next (Bl.next (u9.below (Bl.next (hB.trans hb7) n8.below) g8) hb10) hb11) hb12
 refine xbi 0 fun _ _ _ _ zJ zQ zo zx zy zK => op_app (m := 1) (news := (leB (t) 1).map bv) (.int .u8 0) 1 1 (2) ((leB (f) 1 ++ leB (t) 1).map bv) zo Tryz.underlying22 (by kernel_rfl) rfl (by decide) zx o7'1 zy (own_sl h2_1'1) (by simp [leB_len]) (bv_one _) (by unfold maxLen; omega) (by omega) hB'1.size (by rfl) (by simp) fun p13 c13 W13 o13 hg13 hb13 => ?_
 refine zK _ _ ?_
 have hk'2 := ((((u9.blk (hk'1.below n8.below) (Ne.symm (Ne.symm d8_g))).below hb10).below hb11).below hb12).grown hg13 o7'1 (by decide)
 refine xlv 23 (hk'2.rpp 4 2) ?_
 refine xa 0 [.int .i64 0, .int .i64 0] 84 fun b14 W14 n14 => ?_
 have d14_g := n14.ne hk'2
 have k2'4 := ((((u9.blk (k2'3.below n8.below) (Ne.symm (Ne.symm d8_b1))).below hb10).below hb11).below hb12).grown hg13 o7'1 (by decide)
 have d14_b1 := n14.ne k2'4
 have k9'3 := (k9'2.below hb12).grown hg13 o7'1 (by decide)
 have d14_b8 := n14.ne k9'3
 refine xsv 0 n14.blk [.int .i64 2, .int .i64 k] fun W15 u15 k15 => ?_
 have g14 := n14.ge (hB'1.trans hb13)
 refine xb 6 0 k15 ?_
 refine xr 0 (args := #[.int .i64 2]) (known_2 _) fun W16 hb16 => ?_
 have k15'1 := k15.below hb16
 refine xb 10 1 k15'1 ?_
 refine xb 1 0 k15'1 ?_
 refine xr 0 (args := #[.int .i64 k, .int .i64 2]) (fits_2 (k) (hk1) (hk2) _) fun W17 hb17 => ?_
 have k15'2 := k15'1.below hb17
 refine xb 9 1 k15'2 ?_
 refine xb 1 0 k15'2 ?_
 refine xc 0 (args := #[.int .i64 k, .int .i64 2]) (bytes_2 (k) (hk1) _) ?_
 rintro _ W18 ⟨_, rfl, hb18, h2_2⟩
 have hs18 := (Bl.next (Bl.next (u15.below (Bl.next (hB'1.trans hb13) n14.below) g14) hb16) hb17).size
 have h2_2'1 := own_mono h2_2 hs18
 unfold OwnB at h2_2'1
 rw [leB_len] at h2_2'1
 obtain ⟨p2_2, c2_2, rfl⟩ := (own_sl h2_2'1).slice
 have o13'1 := own_below (own_below (own_below (u15.own2 (own_below o13 n14.below) n14.blk (by decide)) hb16) hb17) hb18
 have hB'2 := Bl.next (Bl.next (Bl.next (u15.below (Bl.next (hB'1.trans hb13) n14.below) g14) hb16) hb17) hb18
 refine xbi 0 fun _ _ _ _ zJ zQ zo zx zy zK => op_app (m := 2) (news := (leB (k) 2).map bv) (.int .u8 0) 1 1 (4) ((leB (f) 1 ++ leB (t) 1 ++ leB (k) 2).map bv) zo Tryz.underlying22 (by kernel_rfl) rfl (by decide) zx o13'1 zy (own_sl h2_2'1) (by simp [leB_len]) (bv_one _) (by unfold maxLen; omega) (by omega) hB'2.size (by rfl) (by simp) fun p19 c19 W19 o19 hg19 hb19 => ?_
 refine zK _ _ ?_
 have hk'3 := ((((u15.blk (hk'2.below n14.below) (Ne.symm (Ne.symm d14_g))).below hb16).below hb17).below hb18).grown hg19 o13'1 (by decide)
 refine xlv 23 (hk'3.rpp 6 2) ?_
 refine xa 0 [.int .i64 0, .int .i64 0] 84 fun b20 W20 n20 => ?_
 have d20_g := n20.ne hk'3
 have k2'5 := ((((u15.blk (k2'4.below n14.below) (Ne.symm (Ne.symm d14_b1))).below hb16).below hb17).below hb18).grown hg19 o13'1 (by decide)
 have d20_b1 := n20.ne k2'5
 have k9'4 := ((((u15.blk (k9'3.below n14.below) (Ne.symm (Ne.symm d14_b8))).below hb16).below hb17).below hb18).grown hg19 o13'1 (by decide)
 have d20_b8 := n20.ne k9'4
 have k15'3 := (k15'2.below hb18).grown hg19 o13'1 (by decide)
 have d20_b14 := n20.ne k15'3
 refine xsv 0 n20.blk [.int .i64 2, .int .i64 v] fun W21 u21 k21 => ?_
 have g20 := n20.ge (hB'2.trans hb19)
 refine xb 6 0 k21 ?_
 refine xr 0 (args := #[.int .i64 2]) (known_2 _) fun W22 hb22 => ?_
 have k21'1 := k21.below hb22
 refine xb 10 1 k21'1 ?_
 refine xb 1 0 k21'1 ?_
 refine xr 0 (args := #[.int .i64 v, .int .i64 2]) (fits_2 (v) (hv) (hv2) _) fun W23 hb23 => ?_
 have k21'2 := k21'1.below hb23
 refine xb 9 1 k21'2 ?_
 refine xb 1 0 k21'2 ?_
 refine xc 0 (args := #[.int .i64 v, .int .i64 2]) (bytes_2 (v) (hv) _) ?_
 rintro _ W24 ⟨_, rfl, hb24, h2_3⟩
 have hs24 := (Bl.next (Bl.next (u21.below (Bl.next (hB'2.trans hb19) n20.below) g20) hb22) hb23).size
 have h2_3'1 := own_mono h2_3 hs24
 unfold OwnB at h2_3'1
 rw [leB_len] at h2_3'1
 obtain ⟨p2_3, c2_3, rfl⟩ := (own_sl h2_3'1).slice
 have o19'1 := own_below (own_below (own_below (u21.own2 (own_below o19 n20.below) n20.blk (by decide)) hb22) hb23) hb24
 have hB'3 := Bl.next (Bl.next (Bl.next (u21.below (Bl.next (hB'2.trans hb19) n20.below) g20) hb22) hb23) hb24
 refine xbi 0 fun _ _ _ _ zJ zQ zo zx zy zK => op_app (m := 2) (news := (leB (v) 2).map bv) (.int .u8 0) 1 1 (6) ((leB (f) 1 ++ leB (t) 1 ++ leB (k) 2 ++ leB (v) 2).map bv) zo Tryz.underlying22 (by kernel_rfl) rfl (by decide) zx o19'1 zy (own_sl h2_3'1) (by simp [leB_len]) (bv_one _) (by unfold maxLen; omega) (by omega) hB'3.size (by rfl) (by simp) fun p25 c25 W25 o25 hg25 hb25 => ?_
 refine zK _ _ ?_
 have hk'4 := ((((u21.blk (hk'3.below n20.below) (Ne.symm (Ne.symm d20_g))).below hb22).below hb23).below hb24).grown hg25 o19'1 (by decide)
 refine xlv 23 (hk'4.rpp 8 2) ?_
 refine xa 0 [.int .i64 0, .int .i64 0] 84 fun b26 W26 n26 => ?_
 have d26_g := n26.ne hk'4
 have k2'6 := ((((u21.blk (k2'5.below n20.below) (Ne.symm (Ne.symm d20_b1))).below hb22).below hb23).below hb24).grown hg25 o19'1 (by decide)
 have d26_b1 := n26.ne k2'6
 have k9'5 := ((((u21.blk (k9'4.below n20.below) (Ne.symm (Ne.symm d20_b8))).below hb22).below hb23).below hb24).grown hg25 o19'1 (by decide)
 have d26_b8 := n26.ne k9'5
 have k15'4 := ((((u21.blk (k15'3.below n20.below) (Ne.symm (Ne.symm d20_b14))).below hb22).below hb23).below hb24).grown hg25 o19'1 (by decide)
 have d26_b14 := n26.ne k15'4
 have k21'3 := (k21'2.below hb24).grown hg25 o19'1 (by decide)
 have d26_b20 := n26.ne k21'3
 refine xsv 0 n26.blk [.int .i64 2, .int .i64 m] fun W27 u27 k27 => ?_
 have g26 := n26.ge (hB'3.trans hb25)
 refine xb 6 0 k27 ?_
 refine xr 0 (args := #[.int .i64 2]) (known_2 _) fun W28 hb28 => ?_
 have k27'1 := k27.below hb28
 refine xb 10 1 k27'1 ?_
 refine xb 1 0 k27'1 ?_
 refine xr 0 (args := #[.int .i64 m, .int .i64 2]) (fits_2 (m) (hm) (hm2) _) fun W29 hb29 => ?_
 have k27'2 := k27'1.below hb29
 refine xb 9 1 k27'2 ?_
 refine xb 1 0 k27'2 ?_
 refine xc 0 (args := #[.int .i64 m, .int .i64 2]) (bytes_2 (m) (hm) _) ?_
 rintro _ W30 ⟨_, rfl, hb30, h2_4⟩
 have hs30 := (Bl.next (Bl.next (u27.below (Bl.next (hB'3.trans hb25) n26.below) g26) hb28) hb29).size
 have h2_4'1 := own_mono h2_4 hs30
 unfold OwnB at h2_4'1
 rw [leB_len] at h2_4'1
 obtain ⟨p2_4, c2_4, rfl⟩ := (own_sl h2_4'1).slice
 have o25'1 := own_below (own_below (own_below (u27.own2 (own_below o25 n26.below) n26.blk (by decide)) hb28) hb29) hb30
 have hB'4 := Bl.next (Bl.next (Bl.next (u27.below (Bl.next (hB'3.trans hb25) n26.below) g26) hb28) hb29) hb30
 refine xbi 0 fun _ _ _ _ zJ zQ zo zx zy zK => op_app (m := 2) (news := (leB (m) 2).map bv) (.int .u8 0) 1 1 (8) ((leB (f) 1 ++ leB (t) 1 ++ leB (k) 2 ++ leB (v) 2 ++ leB (m) 2).map bv) zo Tryz.underlying22 (by kernel_rfl) rfl (by decide) zx o25'1 zy (own_sl h2_4'1) (by simp [leB_len]) (bv_one _) (by unfold maxLen; omega) (by omega) hB'4.size (by rfl) (by simp) fun p31 c31 W31 o31 hg31 hb31 => ?_
 refine zK _ _ ?_
 have hk'5 := ((((u27.blk (hk'4.below n26.below) (Ne.symm (Ne.symm d26_g))).below hb28).below hb29).below hb30).grown hg31 o25'1 (by decide)
 refine xlv 23 (hk'5.rpp 10 2) ?_
 refine xa 0 [.int .i64 0, .int .i64 0] 84 fun b32 W32 n32 => ?_
 have d32_g := n32.ne hk'5
 have k2'7 := ((((u27.blk (k2'6.below n26.below) (Ne.symm (Ne.symm d26_b1))).below hb28).below hb29).below hb30).grown hg31 o25'1 (by decide)
 have d32_b1 := n32.ne k2'7
 have k9'6 := ((((u27.blk (k9'5.below n26.below) (Ne.symm (Ne.symm d26_b8))).below hb28).below hb29).below hb30).grown hg31 o25'1 (by decide)
 have d32_b8 := n32.ne k9'6
 have k15'5 := ((((u27.blk (k15'4.below n26.below) (Ne.symm (Ne.symm d26_b14))).below hb28).below hb29).below hb30).grown hg31 o25'1 (by decide)
 have d32_b14 := n32.ne k15'5
 have k21'4 := ((((u27.blk (k21'3.below n26.below) (Ne.symm (Ne.symm d26_b20))).below hb28).below hb29).below hb30).grown hg31 o25'1 (by decide)
 have d32_b20 := n32.ne k21'4
 have k27'3 := (k27'2.below hb30).grown hg31 o25'1 (by decide)
 have d32_b26 := n32.ne k27'3
 refine xsv 0 n32.blk [.int .i64 4, .int .i64 0] fun W33 u33 k33 => ?_
 have g32 := n32.ge (hB'4.trans hb31)
 refine xb 6 0 k33 ?_
 refine xr 0 (args := #[.int .i64 4]) (known_4 _) fun W34 hb34 => ?_
 have k33'1 := k33.below hb34
 refine xb 10 1 k33'1 ?_
 refine xb 1 0 k33'1 ?_
 refine xr 0 (args := #[.int .i64 0, .int .i64 4]) (fits_4 (0) (by decide) (by decide) _) fun W35 hb35 => ?_
 have k33'2 := k33'1.below hb35
 refine xb 9 1 k33'2 ?_
 refine xb 1 0 k33'2 ?_
 refine xc 0 (args := #[.int .i64 0, .int .i64 4]) (bytes_4 (0) (by decide) _) ?_
 rintro _ W36 ⟨_, rfl, hb36, h2_5⟩
 have hs36 := (Bl.next (Bl.next (u33.below (Bl.next (hB'4.trans hb31) n32.below) g32) hb34) hb35).size
 have h2_5'1 := own_mono h2_5 hs36
 unfold OwnB at h2_5'1
 rw [leB_len] at h2_5'1
 obtain ⟨p2_5, c2_5, rfl⟩ := (own_sl h2_5'1).slice
 have o31'1 := own_below (own_below (own_below (u33.own2 (own_below o31 n32.below) n32.blk (by decide)) hb34) hb35) hb36
 have hB'5 := Bl.next (Bl.next (Bl.next (u33.below (Bl.next (hB'4.trans hb31) n32.below) g32) hb34) hb35) hb36
 refine xbi 0 fun _ _ _ _ zJ zQ zo zx zy zK => op_app (m := 4) (news := (leB (0) 4).map bv) (.int .u8 0) 1 1 (12) ((leB (f) 1 ++ leB (t) 1 ++ leB (k) 2 ++ leB (v) 2 ++ leB (m) 2 ++ leB (0) 4).map bv) zo Tryz.underlying22 (by kernel_rfl) rfl (by decide) zx o31'1 zy (own_sl h2_5'1) (by simp [leB_len]) (bv_one _) (by unfold maxLen; omega) (by omega) hB'5.size (by rfl) (by simp) fun p37 c37 W37 o37 hg37 hb37 => ?_
 refine zK _ _ ?_
 have hB'6 := hB'5.trans hb37
 exact xe 29 (.tuple #[.slice p37 12 c37, .int .i64 0]) ⟨_, rfl, hB'6, _, _, rfl, o37⟩
end Go.Proofs.YtolblnjohaooaaaGreat
namespace Go.Proofs.YtolblnjohaooaaaGreat
open Go.RowKit Go.Extern.Stop Go.Stop Go.Extern
set_option linter.unusedVariables false
attribute [local irreducible] wpList wpAnyH Code.wp Oper.wp Go

/-- the head of a node -/
def headB (t : Int) (leaf : Bool) (n m v : Nat) : List UInt8 := leB (flagN leaf) 1 ++ leB t 1 ++ leB (n : Int) 2 ++ leB (v : Int) 2 ++ leB (m : Int) 2 ++ leB 0 4
theorem headB_len (t : Int) (leaf : Bool) (n m v : Nat) : (headB t leaf n m v).length = 12 := by simp [headB, leB_len]
/-- the bytes of a node, when i of its entries stand -/
def nodeP (m v : Nat) (H : List UInt8) (K : List Int) (Vs : List (List UInt8)) : Nat → List UInt8
  | 0 => putB (List.replicate 244 0) 0 H
  | i + 1 => putB (putB (nodeP m v H K Vs i) (12 + i * 8) (leB (K.getD i 0) 8)) (12 + m * 8 + i * v) (Vs.getD i [])
set_option maxRecDepth 100000 in
theorem nodeP_len {m v : Nat} {H : List UInt8} {K : List Int} {Vs : List (List UInt8)} (hH : H.length = 12) (hf : 12 + m * 8 + m * v ≤ 244) : ∀ {i : Nat}, i ≤ m → (∀ j, j < i → (Vs.getD j []).length = v) → (nodeP m v H K Vs i).length = 244
  | 0, _, _ => by rw [nodeP, putB_len (by rw [List.length_replicate]; omega), List.length_replicate]
  | i + 1, hi, hV => by
    have ih := nodeP_len (K := K) hH hf (i := i) (by omega) (fun j hj => hV j (by omega))
    have h1 := hV i (by omega)
    have h2 : (i + 1) * v ≤ m * v := Nat.mul_le_mul_right v hi
    rw [Nat.add_mul, Nat.one_mul] at h2
    have h3 : (putB (nodeP m v H K Vs i) (12 + i * 8) (leB (K.getD i 0) 8)).length = 244 := by rw [putB_len (by rw [leB_len, ih]; omega), ih]
    rw [nodeP, putB_len (by rw [h1, h3]; omega), h3]
set_option maxRecDepth 100000 in
set_option maxHeartbeats 8000000 in
theorem node_Put (t : Int) (leaf : Bool) (n m v : Nat) (K : List Int) (Vs : List (List UInt8)) (ak av : Option Addr) (ck cv : Nat) (w : World) (N : NodeOk t leaf n m v K Vs) (hKs : Sl w (.slice ak n ck) n (K.map (Value.int .i64))) (hVs : Sl w (.slice av n cv) n (Vs.map sv)) :
    Calls Tryz.prog 29 #[.agg #[.int .i64 t, .bool leaf, .slice ak n ck, .slice av n cv]] w (RetS (fun w' r => ∃ p c, r = .tuple #[.slice p 244 c, .int .i64 0] ∧ w'.ownsRow w.heap.size 5 1 (.slice p 244 c) 244 ((nodeP m v (headB t leaf n m v) K Vs n).map bv)) w) := by
 have ht1 := N.ht1
 have ht2 := N.ht2
 have hnm := N.hn
 have hwb := widN_bd t leaf
 rw [N.hv] at hwb
 have hmb := maxN_pos t leaf
 rw [N.hm] at hmb
 have hfit := fitN t leaf
 rw [N.hm, N.hv] at hfit
 have hcap := Sl.cap hKs
 refine zin 90 Tryz.func29 ?_
 refine xa 2 [.int .i64 t, .bool leaf, .slice ak n ck, .slice av n cv] 67 fun b1 W1 n1 => ?_
 refine xlv 7 n1.blk.rp ?_
 refine xr 0 (args := #[.agg #[.int .i64 t, .bool leaf, .slice ak n ck, .slice av n cv]]) (node_Right t leaf n m v K Vs ak av ck cv _ N (hKs.below n1.below) (hVs.below n1.below)) fun W2 hb2 => ?_
 refine xd 7 .z ?_
 have k1'1 := (n1.blk.below hb2).below (below_drew W2)
 refine xb (.e [0] 1) 0 k1'1 ?_
 refine xb (.e [2] 3) 1 k1'1 ?_
 refine xb (.e [5] 6) 0 k1'1 ?_
 refine xb (.e [7] 8) 1 k1'1 ?_
 refine xr (.o [] 4) (args := #[.int .i64 t, .bool leaf]) (node_WidthN t leaf v N.hv ht1 ht2 _) fun W3 hb3 => ?_
 refine xr (.o [] 9) (args := #[.int .i64 t, .bool leaf]) (node_MaxN t leaf m N.hm ht1 ht2 _) fun W4 hb4 => ?_
 refine xd (.r [10, 11] 3) .z ?_
 have k1'2 := ((k1'1.below hb3).below hb4).below (below_drew W4)
 refine xb (.e [0] 1) 1 k1'2 ?_
 refine xb (.e [4] 5) 0 k1'2 ?_
 refine xb (.e [6, 7] 8) 2 k1'2 ?_
 refine xr (.o [9, 10, 11, 12, 13, 14, 15] 2) (args := #[.bool leaf]) (node_flag leaf _) fun W5 hb5 => ?_
 refine xbs (.o [3] 16) 6 [.int .i64 1, .int .i64 (flagN leaf), .int .i64 1, .int .i64 t, .int .i64 2, .int .i64 (↑n : Int), .int .i64 2, .int .i64 (↑v : Int), .int .i64 2, .int .i64 (↑m : Int), .int .i64 4, .int .i64 0] 84 fun b6 W6 n6 => ?_
 have hB'1 := Bl.next (Bl.next (Bl.next (Bl.next (Bl.next (Bl.next n1.below hb2) (below_drew W2)) hb3) hb4) (below_drew W4)) hb5
 refine yc (.o [] 17) (args := #[.slice (some ⟨b6, 0, none⟩) 6 6]) .z (Pack_node b6 (flagN leaf) t (n : Int) (v : Int) (m : Int) (flagN_bd leaf).1 (flagN_bd leaf).2 (by omega) (by omega) (by omega) (by omega) (by omega) (by omega) (by omega) (by omega) _ n6.blk) ?_
 rintro _ W7 ⟨_, rfl, hb7, p2, c2, rfl, h2⟩
 have hs7 := (Bl.next hB'1 n6.below).size
 refine ⟨hb7, ?_⟩
 refine xmk (.r [18, 19, 20, 21, 22] 4) fun _ _ _ _ zJ zQ zo zx zy zK => op_make 244 (.int .u8 0) 1 1 ((List.replicate 244 (0 : UInt8)).map bv) zo zx zy Tryz.underlying22 (by kernel_rfl) rfl (by omega) (by omega) (zerosB 244) fun b8 W8 n8 => ?_
 have h2'1 := own_mono h2 hs7
 have r8_h2 := own_ne h2'1 n8
 refine zK _ _ ?_
 have o8 := own_of_blk (size := 1) (n := 244) n8.blk (n8.ge (Bl.next (Bl.next hB'1 n6.below) hb7)) (by rw [List.length_map, List.length_replicate]) (by unfold maxLen; omega)
 have h2'2 := own_below h2'1 n8.below
 have hB'2 := Bl.next (Bl.next (Bl.next hB'1 n6.below) hb7) n8.below
 refine xbi 7 (t2 := 22) fun _ _ _ _ zJ zQ zo zx zy zK => op_copy (dLen := 244) (dCap := 244) (off := 0) 12 ((headB t leaf n m v).map bv) ((nodeP m v (headB t leaf n m v) K Vs 0).map bv) zo Tryz.underlying22 (by kernel_rfl) zx zy (own_sl h2'2) o8 (by simp [headB_len]) (by omega) (by omega) (bv_one _) hB'2.size (by simp [nodeP, putB, headB_len]) fun W9 o9 hg9 hb9 => ?_
 refine zK _ _ ?_
 have k1'3 := ((((k1'2.below hb5).below n6.below).below hb7).below n8.below).grown hg9 o8 (by decide)
 refine xb 6 2 k1'3 ?_
 have hB'3 := hB'2.trans hb9
 have k6'1 := ((n6.blk.below hb7).below n8.below).grown hg9 o8 (by decide)
 refine zl 5 90 (fun zm zkv V => ∃ (i : Nat), zkv = [(1, .pointer (some ⟨b1, 0, none⟩)), (2, .slice none 0 0), (3, .int .i64 0), (4, .int .i64 (↑v : Int)), (5, .int .i64 (↑m : Int)), (8, .slice (some ⟨b8, 0, none⟩) 244 244), (52, .slice ak n ck), (53, .int .i64 (↑n : Int)), (54, .int .i64 (↑i : Int))] ∧ zm = n - ((↑i : Int)).toNat ∧ Below w.heap.size w V ∧ Blk V b1 ([.int .i64 t, .bool leaf, .slice ak n ck, .slice av n cv]) 67 ∧ Blk V b6 ([.int .i64 1, .int .i64 (flagN leaf), .int .i64 1, .int .i64 t, .int .i64 2, .int .i64 (↑n : Int), .int .i64 2, .int .i64 (↑v : Int), .int .i64 2, .int .i64 (↑m : Int), .int .i64 4, .int .i64 0]) 84 ∧ V.ownsRow w.heap.size 5 1 (.slice (some ⟨b8, 0, none⟩) 244 244) 244 ((nodeP m v (headB t leaf n m v) K Vs i).map bv) ∧ i ≤ n) ⟨0, rfl, rfl, hB'3, k1'3, k6'1, o9, Nat.zero_le _⟩ ?_
 rintro _ _ W10 ⟨i, rfl, rfl, hB_10, k10_b1, k10_b6, ho, hi⟩ J10 hJ10 r10
 have hb9 : i < n → i * v + v ≤ m * v := fun h => by have h9 : (i + 1) * v ≤ m * v := Nat.mul_le_mul_right v (by omega); rw [Nat.add_mul, Nat.one_mul] at h9; exact h9
 refine xid 6 ((↑i : Int) < (↑n : Int)) (fun hc11 => ?_) (fun hc11 => ?_)
 · refine xx 7 _ n i 1 (IntsN.elem hKs N.hK (k := i) (by omega)).1 ?_
   refine xl 0 ((IntsN.elem (hKs.below hB_10) N.hK (k := i) (by omega)).2) ?_
   refine xbs 8 1 [.int .i64 8, .int .i64 (K.getD i 0)] 84 fun b12 W12 n12 => ?_
   have d12_b6 := n12.ne k10_b6
   refine xc 0 (args := #[.slice (some ⟨b12, 0, none⟩) 1 1]) (Pack_8 b12 (K.getD i 0) (N.hk0 i (by omega)).1 _ n12.blk) ?_
   rintro _ W13 ⟨_, rfl, hb13, p3, c3, rfl, h3⟩
   have hs13 := (Bl.next hB_10 n12.below).size
   refine xwm 11 ((↑i : Int) * 8) (↑(i * 8) : Int) ?_
   refine xwm 0 (12 + (↑(i * 8) : Int)) (↑(12 + (i * 8)) : Int) ?_
   refine xsL 0 (fun _ _ _ _ zo zx zy V => run_sliceL (k := (12 + (i * 8))) (b := b8) (off := 0) (n := 244) (c := 244) (i := (↑(12 + (i * 8)) : Int)) (ki := .i64) 1 zo zx zy rfl (by omega) (by omega) Tryz.underlying22 (by kernel_rfl) V) ?_
   have ho'1 := own_below (own_below ho n12.below) hb13
   have h3'1 := own_mono h3 hs13
   have hB'4 := Bl.next (Bl.next hB_10 n12.below) hb13
   refine xbi 1 (t2 := 22) fun _ _ _ _ zJ zQ zo zx zy zK => op_copy (dLen := (244 - (12 + (i * 8)))) (dCap := (244 - (12 + (i * 8)))) (off := (0 + (12 + (i * 8)) * 1)) 8 ((leB (K.getD i 0) 8).map bv) ((putB (nodeP m v (headB t leaf n m v) K Vs i) (12 + i * 8) (leB (K.getD i 0) 8)).map bv) zo Tryz.underlying22 (by kernel_rfl) zx zy (own_sl h3'1) ho'1 (by simp [leB_len]) (by omega) (by omega) (bv_one _) hB'4.size (by simp [putB, leB_len, List.map_take, List.map_drop]) fun W14 o14 hg14 hb14 => ?_
   refine zK _ _ ?_
   refine xd 2 (.t w.heap.size [5]) ?_
   refine xwm (.e [0, 1] 2) ((↑m : Int) * 8) (↑(m * 8) : Int) ?_
   refine xwm (.e [] 3) (12 + (↑(m * 8) : Int)) (↑(12 + (m * 8)) : Int) ?_
   refine xwm (.e [4, 5] 6) ((↑i : Int) * (↑v : Int)) (↑(i * v) : Int) ?_
   refine xwm (.e [] 7) ((↑(12 + (m * 8)) : Int) + (↑(i * v) : Int)) (↑((12 + (m * 8)) + (i * v)) : Int) ?_
   refine xsL (.e [] 8) (fun _ _ _ _ zo zx zy V => run_sliceL (k := ((12 + (m * 8)) + (i * v))) (b := b8) (off := 0) (n := 244) (c := 244) (i := (↑((12 + (m * 8)) + (i * v)) : Int)) (ki := .i64) 1 zo zx zy rfl (by omega) (by omega) Tryz.underlying22 (by kernel_rfl) V) ?_
   have k10_b1'1 := (((k10_b1.below n12.below).below hb13).grown hg14 ho'1 (by decide)).below (below_drew W14)
   refine xbt (.e [9] 10) 3 w.heap.size [5] k10_b1'1 ?_
   refine xx (.e [11] 12) _ n i 1 (Strs.elem hVs N.hV (k := i) (by omega)).1 ?_
   have hB'5 := Bl.next (hB'4.trans hb14) (below_drew W14)
   refine xlt (.e [] 13) (.t w.heap.size [5]) (fun V hV => (Strs.elem (hVs.below (sft_keep hB'5 hV (Nat.le_refl _))) N.hV (k := i) (by omega)).2) ?_
   have o14'1 := own_below o14 (below_drew W14)
   refine ybi (.o [] 14) (t2 := 9) (.t w.heap.size [5]) fun _ _ _ _ zJ zQ zo zx zy zK => op_copyS (dLen := (244 - ((12 + (m * 8)) + (i * v)))) (dCap := (244 - ((12 + (m * 8)) + (i * v)))) (off := (0 + ((12 + (m * 8)) + (i * v)) * 1)) (Vs.getD i []) ((nodeP m v (headB t leaf n m v) K Vs (i + 1)).map bv) zo Tryz.underlying22 (by kernel_rfl) zx zy o14'1 (by rw [N.hw i (by omega)]; omega) (by rw [N.hw i (by omega)]; omega) hB'5.size (by simp [nodeP, putB, List.map_take, List.map_drop]) fun W15 o15 hg15 hb15 => ?_
   refine zK _ _ (sft_grown hb15 hg15 o14'1 (by decide)) ?_
   refine xwm 4 ((↑i : Int) + 1) (↑(i + 1) : Int) ?_
   have hB'6 := hB'5.trans hb15
   have k10_b1'2 := k10_b1'1.grown hg15 o14'1 (by decide)
   have k10_b6'1 := ((((k10_b6.below n12.below).below hb13).grown hg14 ho'1 (by decide)).below (below_drew W14)).grown hg15 o14'1 (by decide)
   exact ze 2 (hJ10 _ _ _ ⟨i + 1, rfl, rfl, hB'6, k10_b1'2, k10_b6'1, o15, by omega⟩ (by omega))
 refine xe 13 (.tuple #[.slice (some ⟨b8, 0, none⟩) 244 244, .int .i64 0]) ?_
 have e : i = n := by omega
 subst e
 exact ⟨_, rfl, hB_10, _, _, rfl, ho⟩
end Go.Proofs.YtolblnjohaooaaaGreat
namespace Go.Proofs.YtolblnjohaooaaaGreat
open Go.RowKit Go.Extern.Stop Go.Stop Go.Extern
set_option linter.unusedVariables false
attribute [local irreducible] wpList wpAnyH Code.wp Oper.wp Go

set_option maxRecDepth 100000 in
set_option maxHeartbeats 1000000 in
theorem alloc_Image (ba b : Nat) (v x : Value) (w : World) (hk : Blk w ba [v, x, .pointer (some ⟨b, 0, none⟩)] 59) :
    Calls Tryz.prog 8 #[.pointer (some ⟨ba, 0, none⟩)] w (Ret (.pointer (some ⟨b, 0, none⟩)) w) := by
 refine zin 9 Tryz.func8 ?_
 refine xr 9 (args := #[.pointer (some ⟨ba, 0, none⟩)]) (alloc_nobody ba b _ _ _ hk) fun W1 hb1 => ?_
 have hk'1 := hk.below hb1
 refine xb 10 2 hk'1 ?_
 exact xe 4 (.pointer (some ⟨b, 0, none⟩)) ⟨rfl, hb1⟩
/-- an entry: its key, its value, its block -/
abbrev Ent := Int × List UInt8 × Int
def entD : Ent := (0, [], 0)
def entC (x : Ent) : List Value := [.int .i64 x.1, .string ⟨x.2.1.toArray⟩, .int .i64 x.2.2]
theorem entC_len (x : Ent) : (entC x).length = 3 := rfl
/-- the key ahead of entry i -/
def lastK (l : List Ent) : Nat → Int
  | 0 => -1
  | i + 1 => (l.getD i entD).1
/-- entries that a tree may be built of -/
structure EntsOk (v : Nat) (l : List Ent) : Prop where
  hk : ∀ i, i < l.length → 0 ≤ (l.getD i entD).1 ∧ (l.getD i entD).1 ≤ 281474976710655
  hs : ∀ j, j + 1 < l.length → (l.getD j entD).1 < (l.getD (j + 1) entD).1
  hw : ∀ i, i < l.length → (l.getD i entD).2.1.length = v
theorem EntsOk.last {v : Nat} {l : List Ent} (E : EntsOk v l) {i : Nat} (h : i < l.length) : lastK l i < (l.getD i entD).1 := by
  cases i with
  | zero => have := (E.hk 0 h).1; simp only [lastK]; omega
  | succ j => exact E.hs j h
theorem levs_ge (x : Nat) : x ≤ (levs x).sum := by
  by_cases h : x ≤ 1
  · rw [levs_one h]; simp
  · rw [levs_more h]; simp
theorem nodN_pos (t : Int) (n : Nat) : 1 ≤ nodN t n := by
  have h1 := levs_ge (ovN n (maxN t true)); have h2 := ovN_pos n (maxN t true); unfold nodN levL; omega
set_option maxRecDepth 100000 in
set_option maxHeartbeats 4000000 in
theorem build_right (t : Int) (v : Nat) (a : Option Addr) (c : Nat) (l : List Ent) (w : World) (ht1 : 1 ≤ t) (ht2 : t ≤ 5) (hv : widN t true = v) (E : EntsOk v l) (h : Sts entC w (.slice a l.length c) l) (hn : l.length ≤ 32768) :
    Calls Tryz.prog 15 #[.int .i64 t, .slice a l.length c] w (Ret (.bool true) w) := by
 have hwb := widN_bd t true
 rw [hv] at hwb
 have hnp := nodN_pos t l.length
 refine zin 45 Tryz.func15 ?_
 refine xr 8 (args := #[.int .i64 t, .bool true]) (node_WidthN t true v hv ht1 ht2 _) fun W1 hb1 => ?_
 refine xgk 9 [12, 13] (show (((↑v : Int) == (0 : Int)) : Bool) = false from by simp; omega) ?_
 refine xr 3 (args := #[.int .i64 t, .int .i64 (↑l.length : Int)]) (tall_Nodes t l.length _ ht1 ht2 hn) fun W3 hb3 => ?_
 refine xk 4 (show (((↑(nodN t l.length) : Int) == (0 : Int)) : Bool) = false from by simp; omega) ?_
 have hB := Bl.next hb1 hb3
 refine zl 16 45 (fun zm zkv V => ∃ (i : Nat), zkv = [(5, .int .i64 (↑v : Int)), (6, .int .i64 (lastK l i)), (20, .slice a l.length c), (21, .int .i64 (↑l.length : Int)), (22, .int .i64 (↑i : Int))] ∧ zm = l.length - ((↑i : Int)).toNat ∧ Below w.heap.size w V ∧ i ≤ l.length) ⟨0, rfl, rfl, hB, Nat.zero_le _⟩ ?_
 rintro _ _ W4 ⟨i, rfl, rfl, hB_4, hi⟩ J4 hJ4 r4
 refine xid 6 ((↑i : Int) < (↑l.length : Int)) (fun hc5 => ?_) (fun hc5 => ?_)
 · refine xx 6 _ l.length i 3 (Sts.cell h entC_len entD (k := i) (i := 0) (by omega) rfl).1 ?_
   refine xlv 0 (Sts.rp (k := i) (h.below hB_4) entC_len entD (by omega) (by decide)) ?_
   refine xa 0 [.int .i64 0, .string ⟨#[]⟩, .int .i64 0] 26 fun b6 W6 n6 => ?_
   refine xsv 0 n6.blk [.int .i64 ((l.getD i entD).1), .string ⟨((l.getD i entD).2.1).toArray⟩, .int .i64 ((l.getD i entD).2.2)] fun W7 u7 k7 => ?_
   have g6 := n6.ge hB_4
   refine xb 6 0 k7 ?_
   refine xgk 3 [29, 30] (show (decide ((l.getD i entD).1 ≤ (lastK l i)) : Bool) = false from decide_eq_false (by have := E.last (i := i) (by omega); omega)) ?_
   refine xb 1 0 k7 ?_
   refine xgk 3 [33, 34, 35] (show (decide ((l.getD i entD).1 > (281474976710655 : Int)) : Bool) = false from decide_eq_false (by have := (E.hk i (by omega)).2; omega)) ?_
   refine xb 1 1 k7 ?_
   refine xk 6 (show (((↑((l.getD i entD).2.1).length : Int) != (↑v : Int)) : Bool) = false from by rw [E.hw i (by omega)]; simp) ?_
   refine xb 4 0 k7 ?_
   refine xw 5 ((↑i : Int) + 1) ?_
   have hB'1 := u7.below (Bl.next hB_4 n6.below) g6
   exact ze 2 (hJ4 _ _ _ ⟨i + 1, rfl, rfl, hB'1, by omega⟩ (by omega))
 exact xe 11 (.bool true) ⟨rfl, hB_4⟩
end Go.Proofs.YtolblnjohaooaaaGreat
namespace Go.Proofs.YtolblnjohaooaaaGreat
open Go.RowKit Go.Extern.Stop Go.Stop Go.Extern
set_option linter.unusedVariables false
attribute [local irreducible] wpList wpAnyH Code.wp Oper.wp Go

set_option maxRecDepth 100000 in
set_option maxHeartbeats 1000000 in
theorem slices_Backward (p : Option Addr) (n c : Nat) (w : World) :
    Calls Tryz.prog 56 #[.slice p n c] w (fun e w' => ∃ b, e = .returned (.func (.func 67) #[] #[.pointer (some ⟨b, 0, none⟩)]) ∧ Below w.heap.size w w' ∧ w.heap.size ≤ b ∧ Blk w' b [.slice p n c] 33) := by
 refine zin 4 Tryz.func56 ?_
 refine xa 2 [.slice p n c] 33 fun b1 W1 n1 => ?_
 have g1 := n1.ge (Below.refl w.heap.size _)
 exact xe 10 (.func (.func 67) #[] #[.pointer (some ⟨b1, 0, none⟩)]) ⟨_, rfl, n1.below, g1, n1.blk⟩
end Go.Proofs.YtolblnjohaooaaaGreat
namespace Go.Proofs.YtolblnjohaooaaaGreat
open Go.RowKit Go.Extern.Stop Go.Stop Go.Extern
set_option linter.unusedVariables false
attribute [local irreducible] wpList wpAnyH Code.wp Oper.wp Go

attribute [local go_sem] Oper.semAt_some
theorem Upd.of_put (w : World) (D : Nat) (o : Obj) : Upd w D (w.putObj D o) := ⟨rfl, rfl, rfl, by simp [World.putObj], fun k hk => World.putObj_heap_other hk⟩
/-- a record of deferred calls at block D -/
def Dfr (D : Nat) (w : World) : Prop := w.heap[D]? = some (.deferred (some []))
theorem Dfr.below {D : Nat} {w W : World} (h : Dfr D w) (hb : Below w.heap.size w W) : Dfr D W := (hb.block D (Array.getElem?_eq_some_iff.1 h).1).trans h
theorem Dfr.ne {D b : Nat} {w : World} {cs : List Value} {t : TypeId} (h : Dfr D w) (k : Blk w b cs t) : b ≠ D := by
  rintro rfl
  have h' : w.heap[b]? = _ := h
  rw [show w.heap[b]? = _ from k] at h'
  cases h'
theorem Dfr.upd {D b : Nat} {w W : World} {cs : List Value} {t : TypeId} (h : Dfr D w) (u : Upd w b W) (k : Blk w b cs t) : Dfr D W := (u.block D fun e => h.ne k e.symm).trans h
theorem Dfr.row {D : Nat} {w : World} {base e size n : Nat} {v : Value} {xs : List Value} (h : Dfr D w) (k : w.ownsRow base e size v n xs) : ∀ g, v.ownBlock = some g → g ≠ D := by
  rintro g hg rfl
  rcases k.2 with ⟨rfl, _⟩ | ⟨g', cap, cur, rfl, _, hh, _⟩
  · cases hg
  · simp only [Value.ownBlock, Option.some.injEq] at hg
    subst hg
    rw [show w.heap[g']? = _ from h] at hh
    cases hh
theorem Dfr.grown {D : Nat} {w W : World} {base e size n : Nat} {v : Value} {xs : List Value} (h : Dfr D w) (hg : w.grownBy W v.ownBlock) (k : w.ownsRow base e size v n xs) : Dfr D W :=
  (hg.block D (Array.getElem?_eq_some_iff.1 h).1 fun q => h.row k D q.symm rfl).trans h
theorem g_endM {P : Program} {fn : Func} {R : Ending → World → Prop} {a : Act} {w : World} {D : Nat} (hK : Dfr D w) (v : Value) (hd : a.defers = [{ target := .collected D, args := #[] }]) (hr : (results fn a.tmps).run P (w.putObj D (.deferred none)) = .ok v (w.putObj D (.deferred none))) (h : R (.returned v) (w.putObj D (.deferred none))) : bodyPostM Fence.wide 4 P fn R .normal a w :=
  by
  show LeavesInM _ _ _ _ a.tmps R a.defers .returning w
  rw [hd]
  exact ⟨by simp, .inl ⟨_, _, rfl, run_takeDeferred hK, _, hr, h⟩⟩
def noPan (Q : Exit → Act → World → Prop) : Exit → Act → World → Prop
  | .normal, a, w => Q .normal a w
  | .ret, a, w => Q .ret a w
  | _, _, _ => False
theorem g_nopan {P : Program} {c : Code} {Q : Exit → Act → World → Prop} {a : Act} {w : World} (h : c.wp P (noPan Q) a w) : c.wp P Q a w := wp_mono h fun e a w q => by cases e <;> first | exact q | exact q.elim
theorem own_ty_ne {w : World} {base size n b : Nat} {e t : TypeId} {v : Value} {xs cs : List Value} (k : w.ownsRow base e size v n xs) (q : Blk w b cs t) (hne : e ≠ t) : ∀ g, v.ownBlock = some g → g ≠ b := by
  rintro g hg rfl
  rcases k.2 with ⟨rfl, _⟩ | ⟨g', cap, cur, rfl, _, hh, _⟩
  · cases hg
  · simp only [Value.ownBlock, Option.some.injEq] at hg
    subst hg
    rw [show w.heap[g']? = _ from q] at hh
    simp only [Option.some.injEq, Obj.cells.injEq] at hh
    exact hne hh.2.1.symm
theorem keepsO_below {w W : World} (h : Below w.heap.size w W) : KeepsOthers w W := ⟨h.size, fun b o hb _ => (h.block b (Array.getElem?_eq_some_iff.1 hb).1).trans hb⟩
theorem keepsO_upd {w W : World} {b : Nat} {cs : List Value} {t : TypeId} (u : Upd w b W) (k : Blk w b cs t) : KeepsOthers w W := ⟨Nat.le_of_eq u.size.symm, fun d o hd ho => (u.block d (by rintro rfl; rw [show w.heap[d]? = _ from k] at hd; cases hd; cases ho)).trans hd⟩
theorem Dfr.only_new {T : List TypeId} {a w W : World} {b : Nat} (h : Only T a w) (hbb : BelowBut w b W) (hb : a.heap.size ≤ b) : Only T a W := fun k cs t fr hk ht => by
  have h0 := (Array.getElem?_eq_some_iff.1 hk).1
  have h1 := h k cs t fr hk ht
  rw [hbb.block k (Array.getElem?_eq_some_iff.1 h1).1 (by omega)]; exact h1
theorem BelowBut.own3 {w W : World} {b base size n : Nat} {e : TypeId} {v : Value} {xs : List Value} (h : BelowBut w b W) (k : w.ownsRow base e size v n xs) (hs : ∀ j, v.ownBlock = some j → j ≠ b) : W.ownsRow base e size v n xs := by
  obtain ⟨h1, h2⟩ := k
  refine ⟨h1, ?_⟩
  rcases h2 with h2 | ⟨g, cap, cur, rfl, hg, hh, r⟩
  · exact Or.inl h2
  · exact Or.inr ⟨g, cap, cur, rfl, hg, by rw [h.block g (Array.getElem?_eq_some_iff.1 hh).1 (hs g rfl)]; exact hh, r⟩
theorem ownFrom_but {β : Type} {w : World} {b B : Nat} (hB : w.heap.size ≤ B) : OwnFrom B (fun (_ : β) W => BelowBut w b W) := fun _ W W' row hs hg hr =>
  ⟨hg.os.trans hs.os, hg.tape.trans hs.tape, hg.output.trans hs.output, Nat.le_trans hs.size hg.size, fun k hk hne => (hg.block k (Nat.lt_of_lt_of_le hk hs.size) (fun e => by have := (hr k e.symm).1; omega)).trans (hs.block k hk hne)⟩
theorem ErrV.turn {A B : World} {row : Option Nat} {l : List (Option Int)} {c : Option Int} {v : Value} (h : ErrV A l c v) (hg : A.grownBy B row) (hr : ∀ r, row = some r → ∃ o : Obj, A.heap[r]? = some o ∧ o.isCells = false) : ErrV B l c v := h.kept fun _ _ k => k.turn hg hr
/-- the blocks of the way, seen from below -/
def atW (way : List Int) (pre : List (Fin way.length)) (bs : List Int) : List Int := (pre.map fun j => way[qOf j]?.getD 0).reverse ++ bs
theorem atW_snoc (way : List Int) (pre : List (Fin way.length)) (x : Fin way.length) (bs : List Int) : atW way (pre ++ [x]) bs = (way[qOf x]?.getD 0) :: atW way pre bs := by simp [atW]
theorem atW_all (way bs : List Int) : atW way (List.finRange way.length) bs = way ++ bs := by
  unfold atW
  congr 1
  apply List.ext_getElem
  · simp
  · intro i h1 h2
    simp only [List.length_reverse, List.length_map, List.length_finRange] at h1
    rw [List.getElem_reverse, List.getElem_map]
    simp only [List.length_map, List.length_finRange, List.getElem_finRange, qOf]
    have e : way.length - 1 - (way.length - 1 - i) = i := by omega
    simp [e, h2]
theorem ErrV.one {w : World} {l : List (Option Int)} {c : Option Int} {v : Value} (h : ErrV w l c v) : v.oneCell' = true := by
  rcases h.nil_or with ⟨_, rfl⟩ | ⟨_, t, x, rfl⟩ <;> rfl
theorem ErrV.iface {w : World} {l : List (Option Int)} {c : Int} {v : Value} (h : ErrV w l (some c) v) : ∃ t x, v = .iface t x := by
  rcases h.nil_or with ⟨q, _⟩ | ⟨_, q⟩
  · simp [noErr] at q
  · exact q
theorem atL_some {b c : Int} {l : List (Option Int)} : atL b l (some c) = some b :: l := by simp [atL, noErr]
theorem one_one {v : Value} (h : v.oneCell' = true) : ∀ u ∈ [v], u.oneCell' = true := by simpa using h
def NoteP (B bw : Nat) (c0 c1 c2 c3 c5 c6 c7 c8 c9 : Value) (nf : Nat) (fs : List Value) (l : List Int) (ec : Int) (w : World) (e : Ending) (w' : World) : Prop :=
  ∃ u p c ty x, e = .returned u ∧ Below B w w' ∧ Only [74, 30] w w' ∧ Blk w' bw [c0, c1, c2, c3, .slice p (nf + 1) c, c5, c6, c7, c8, c9] 74 ∧ w'.ownsRow B 30 1 (.slice p (nf + 1) c) (nf + 1) (fs ++ [.iface ty x]) ∧ ErrV w' (l.map some) (some ec) (.iface ty x)
set_option maxRecDepth 100000 in
set_option maxHeartbeats 4000000 in
theorem walker_note (B bw : Nat) (c0 c1 c2 c3 c5 c6 c7 c9 : Value) (pf : Option Addr) (nf cf : Nat) (fs : List Value) (pw : Option Addr) (cw : Nat) (way bs : List Int) (ec : Int) (ty : TypeId) (ev : Value) (w : World) (hBb : B ≤ bw) (hBw : B ≤ w.heap.size) (kW : Blk w bw [c0, c1, c2, c3, .slice pf nf cf, c5, c6, c7, .slice pw way.length cw, c9] 74) (hF : w.ownsRow B 30 1 (.slice pf nf cf) nf fs) (hway : w.ownsRow B 3 1 (.slice pw way.length cw) way.length (way.map (Value.int .i64))) (hE : ErrV w (bs.map some) (some ec) (.iface ty ev)) (hwl : way.length ≤ 1000000) (hnf : nf ≤ 1000000) :
    Calls Tryz.prog 42 #[.pointer (some ⟨bw, 0, none⟩), .iface ty ev] w (NoteP B bw c0 c1 c2 c3 c5 c6 c7 (.slice pw way.length cw) c9 nf fs (way ++ bs) ec w) := by
  refine calls_of_marks Tryz.func42 rfl ?_
  refine g_fr ⟨#[.pointer (some ⟨bw, 0, none⟩), .iface ty ev, undef, undef, undef, undef, undef, undef, undef, undef, undef, undef, undef, undef, undef, undef, undef, undef, undef, undef, undef, undef, undef, undef, undef, undef, undef, undef], []⟩ (by kernel_rfl) ?_
  refine wp_seq ?_
  refine wp_region_lit ?_
  refine g_op (by kernel_rfl) (op_box [.iface ty ev] rfl (by kernel_rfl) ?_)
  intro b1 W1 n1
  have d1_bw := n1.ne kW
  have g1 := n1.ge0 (Below.refl B _)
  have r1_hF := own_ne hF n1
  have hO : Only [74, 30] w _ := (Only.of_below n1.below)
  have hB := Bl.nextB (Below.refl B w) hBw n1.below
  replace kW := kW.below n1.below
  replace hF := own_below hF n1.below
  replace hway := own_below hway n1.below
  replace hE := hE.below n1.below
  have k1 := n1.blk
  refine wpList_nil ?_
  refine wp_seq ?_
  refine wp_seq ?_
  refine wp_region_lit ?_
  refine g_pv 3 [(6, .pointer (some ⟨bw, 0, none⟩)), (7, .pointer (some ⟨bw, 0, none⟩)), (8, .pointer (some ⟨bw, 8, none⟩))] (by kernel_rfl) ?_
  refine g_op (by kernel_rfl) (op_load ⟨bw, 8, none⟩ (.slice pw way.length cw) rfl (by kernel_rfl) (by kernel_rfl) (kW.cell (i := 8) rfl) ?_)
  have lt2_bw := kW.lt
  have lt2_b1 := k1.lt
  have hs2 : w.heap.size ≤ (W1).heap.size := hB.size
  refine g_op (by kernel_rfl) (op_call (lb := #[]) 56 #[.slice pw way.length cw] rfl (by kernel_rfl) (fun _ _ => by kernel_rfl) (by kernel_rfl) ((slices_Backward pw way.length cw _).mono ?_))
  rintro e W2 ⟨bk2, rfl, hb2, hg2, kk2⟩
  refine ⟨_, rfl, ?_⟩
  replace hO := hO.trans (Only.of_below hb2)
  replace hB := Bl.nextB hB hBw hb2
  replace kW := kW.below hb2
  replace k1 := k1.below hb2
  replace hF := own_below hF hb2
  replace hway := own_below hway hb2
  replace hE := hE.below hb2
  have gb2 : w.heap.size ≤ bk2 := Nat.le_trans hs2 hg2
  have nb2_bw : bk2 ≠ bw := by omega
  have nb2_b1 : bk2 ≠ b1 := by omega
  refine wpList_nil ?_
  refine wp_block ?_
  have hzk := kk2.lt
  have hz3 := k1.lt
  have hst := back_stops bk2 (fun b => b < W2.heap.size ∧ b ≠ b1) (.slice pw way.length cw) way W2 (fun b h => h.1) ⟨hzk, nb2_b1⟩ (by omega) (own_sl hway) (fun _ b off n cap q => by cases q; exact ⟨(hway.lt b rfl).2, own_ty_ne hway k1 (by decide) b rfl⟩) (kk2.cell (i := 0) rfl)
  refine g_fr ⟨#[.pointer (some ⟨bw, 0, none⟩), .iface ty ev, undef, .pointer (some ⟨b1, 0, none⟩), undef, undef, .pointer (some ⟨bw, 0, none⟩), .pointer (some ⟨bw, 0, none⟩), .pointer (some ⟨bw, 8, none⟩), .slice pw way.length cw, .func (.func 67) #[] #[.pointer (some ⟨bk2, 0, none⟩)], undef, undef, undef, undef, undef, undef, undef, undef, undef, undef, undef, undef, undef, undef, undef, undef, undef], []⟩ (by kernel_rfl) ?_
  refine wp_range (g := .tmp 10) (gf := 67) (lb := #[.pointer (some ⟨bk2, 0, none⟩)]) rfl (enters_of Tryz.func67 (by kernel_rfl) rfl) _ (fun b h => h.1) hst (fun _ => rfl)
    (fun pre W => (∃ v', Blk W b1 [v'] 30 ∧ ErrV W ((atW way pre bs).map some) (some ec) v') ∧ BelowBut W2 b1 W)
    (fun _ _ _ => False) ?own (fun _ _ _ _ _ h _ _ => h) ⟨⟨_, k1, hE⟩, (Below.refl _ _).but _⟩
    (fun x a' _ => a' = { tmps := #[.pointer (some ⟨bw, 0, none⟩), .iface ty ev, undef, .pointer (some ⟨b1, 0, none⟩), undef, .int .i64 (way[qOf x]?.getD 0), .pointer (some ⟨bw, 0, none⟩), .pointer (some ⟨bw, 0, none⟩), .pointer (some ⟨bw, 8, none⟩), .slice pw way.length cw, .func (.func 67) #[] #[.pointer (some ⟨bk2, 0, none⟩)], .int .i64 (qOf x : Int), .int .i64 (way[qOf x]?.getD 0), undef, undef, undef, undef, undef, undef, undef, undef, undef, undef, undef, undef, undef, undef, undef], defers := [] }) (fun _ _ _ _ _ _ h _ _ => h) ?assign ?body ?done (fun _ _ _ _ _ _ h _ => h.elim)
  case own => exact OwnFrom.and (Own.from (fun s A B row hs hg hr => by obtain ⟨v', h1, h2⟩ := hs; exact ⟨v', h1.turn hg hr, h2.turn hg hr⟩) _) (ownFrom_but (Nat.le_refl _))
  case assign =>
    rintro lr pre x W K hI hK
    unfold encB
    gi_wp2
    exact hK _ _ (KeepsFrom.refl _ _) (Keeps.refl _ _) hI rfl
  case body =>
    rintro lr pre x a' W hlr ⟨⟨v', m3, hv'⟩, hbb⟩ rfl hlt
    have mc := m3.cell (i := 0) rfl
    gi_wp2_with (refine ⟨trivial, ?_⟩; gi_at_call 43; refine (CallsIn.inRound lr (callsIn_wide.2 (fault_At _ _ _ _ _ hv'))).mono ?_; rintro e w2 ⟨r2, rfl, hb2, hE2⟩; obtain ⟨t2, x2, rfl⟩ := hE2.iface; have m4 := m3.below hb2; have mg := m4.frozen 0; have md := m4.cell (i := 0) rfl)
    have hb2s := hb2.size
    have u2 := Upd.setCell w2 b1 0 (.iface t2 x2)
    exact ⟨((keepsO_below hb2).trans (KeepsOthers.setCell _ _ _)).from _, Keeps.setCell (Keeps.of_below hb2 (fun b hb => by have := hbb.size; have := hb.1; omega)) (fun hb => hb.2 rfl) _, ⟨_, m4.set 0 _, by rw [atW_snoc, List.map_cons, ← atL_some (c := ec)]; exact (hE2.upd u2 m4 (by decide))⟩, (hbb.next hb2).upd u2⟩
  case done =>
  rintro D xs W hD rfl ⟨⟨v', m3, hv'⟩, hbb⟩ hK0
  rw [atW_all] at hv'
  have hK : Dfr D W := hK0; clear hK0
  refine g_nopan ?_
  refine g_fr ⟨#[.pointer (some ⟨bw, 0, none⟩), .iface ty ev, undef, .pointer (some ⟨b1, 0, none⟩), undef, undef, .pointer (some ⟨bw, 0, none⟩), .pointer (some ⟨bw, 0, none⟩), .pointer (some ⟨bw, 8, none⟩), .slice pw way.length cw, .func (.func 67) #[] #[.pointer (some ⟨bk2, 0, none⟩)], undef, undef, undef, undef, undef, undef, undef, undef, undef, undef, undef, undef, undef, undef, undef, undef, undef], [{ target := .collected D, args := #[] }]⟩ (by kernel_rfl) ?_
  have hv1 := hv'.one
  obtain ⟨ty', x', rfl⟩ := hv'.iface
  have hDB : w.heap.size ≤ D := Nat.le_trans (Nat.le_trans (by have := hz3; have := g1; omega) (Nat.le_refl _)) hD
  replace kW := hbb.blk kW (Ne.symm (Ne.symm d1_bw))
  replace kk2 := hbb.blk kk2 nb2_b1
  replace hF := hbb.own3 hF r1_hF
  replace hway := hbb.own2 hway k1 (by decide)
  have hB0 := hB
  replace hB := hbb.below hB (Nat.le_trans hBw g1) (Nat.le_trans hBw hB0.size)
  replace hO := Dfr.only_new hO hbb g1
  replace k1 := m3
  replace hO := hO.trans (Only.of_below (below_drew W))
  replace hB := Bl.nextB hB hBw (below_drew W)
  replace kW := kW.below (below_drew W)
  replace k1 := k1.below (below_drew W)
  replace kk2 := kk2.below (below_drew W)
  replace hF := own_below hF (below_drew W)
  replace hway := own_below hway (below_drew W)
  replace hv' := hv'.below (below_drew W)
  replace hK := hK.below (below_drew W)
  refine h_reg (Below B (W.drew)) 13 rfl #[false, false, false, false, false, false, false, false, false, false, false, false, false] rfl (by kernel_rfl) (Below.refl _ _) ?_
  intro hS3
  have hBd5 := hB
  have kd5_bw := kW
  have kd5_b1 := k1
  have kd5_bk2 := kk2
  have hOd5 := hO
  refine h_pv [0, 1, 2, 3, 4] 8 rfl #[true, true, true, true, true, false, false, false, false, false, false, false, false] [(16, .pointer (some ⟨bw, 0, none⟩)), (17, .pointer (some ⟨bw, 0, none⟩)), (18, .pointer (some ⟨bw, 0, none⟩)), (19, .pointer (some ⟨bw, 0, none⟩)), (20, .pointer (some ⟨bw, 4, none⟩))] (by kernel_rfl) (fun _ _ _ _ _ h => h) (by kernel_rfl) hS3 ?_
  refine h_two 5 6 7 rfl (by kernel_rfl) rfl rfl (by kernel_rfl) (by kernel_rfl) ?_ ?_
  · refine op_load ⟨bw, 4, none⟩ (.slice pf nf cf) rfl (by kernel_rfl) (by kernel_rfl) (kW.cell (i := 4) rfl) ?_
    have hS6 : Below B (W.drew) (W.drew) := hS3
    refine ⟨hS6, ?_⟩
    refine h_one 6 6 rfl (by kernel_rfl) rfl (by kernel_rfl) (op_load ⟨b1, 0, none⟩ (.iface ty' x') rfl (by kernel_rfl) (by kernel_rfl) (k1.cell (i := 0) rfl) ?_)
    have hS7 : Below B (W.drew) (W.drew) := hS6
    refine ⟨hS7, ?_⟩
    refine h_one 7 5 rfl (by kernel_rfl) rfl (by kernel_rfl) (op_buildSlice 30 [.iface ty' x'] rfl (by kernel_rfl) ?_)
    intro b8 W8 n8
    have d8_bw := n8.ne kW
    have d8_b1 := n8.ne k1
    have d8_bk2 := n8.ne kk2
    have g8 := n8.ge0 hB
    have r8_hF := own_ne hF n8
    replace hO := hO.trans (Only.of_below n8.below)
    replace hB := Bl.nextB hB hBw n8.below
    replace kW := kW.below n8.below
    replace k1 := k1.below n8.below
    replace kk2 := kk2.below n8.below
    replace hF := own_below hF n8.below
    replace hway := own_below hway n8.below
    replace hv' := hv'.below n8.below
    replace hK := hK.below n8.below
    have k8 := n8.blk
    have hS9 : Below B (W.drew) (W8) := Bl.nextB hS7 (Nat.le_trans hBw hBd5.size) n8.below
    refine ⟨hS9, ?_⟩
    refine h_one 8 4 rfl (by kernel_rfl) rfl (by kernel_rfl) (op_app (e := 30) (n := nf) (xs := fs) (m := 1) (news := [.iface ty' x']) (.nilIface) 1 16 (nf + 1) (fs ++ [.iface ty' x']) rfl Tryz.underlying34 (by kernel_rfl) rfl (by decide) (by kernel_rfl) hF (by kernel_rfl) (k8.sl 1 1 (by decide) (by decide)) rfl (one_one hv1) (by unfold maxLen; omega) (by omega) (Nat.le_trans hBw hB.size) (by simp) (by simp) ?_)
    intro p10 c10 W10 o10 hg10 hb10
    replace hO := hO.trans (Only.of_grown hg10 hF (by decide))
    replace kW := kW.grown hg10 hF (by decide)
    replace k1 := k1.grown3 hg10 r1_hF
    replace kk2 := kk2.grown hg10 hF (by decide)
    replace hway := own_grown hway hg10 hF (by decide)
    replace hv' := hv'.grown hg10 hF (by decide)
    replace hK := hK.grown hg10 hF
    replace hB := hB.trans hb10
    have hS11 : Below B (W.drew) (W10) := hS9.trans hb10
    refine ⟨hS11, ?_⟩
    refine h_pv [9, 10, 11] 1 rfl #[true, true, true, true, true, true, true, true, true, true, true, true, false] [(25, .pointer (some ⟨bw, 0, none⟩)), (26, .pointer (some ⟨bw, 0, none⟩)), (27, .pointer (some ⟨bw, 4, none⟩))] (by kernel_rfl) (fun _ _ _ _ _ h => h) (by kernel_rfl) hS11 ?_
    refine h_one 12 0 rfl (by kernel_rfl) rfl (by kernel_rfl) (op_store (v := .slice p10 (nf + 1) c10) (b := bw) (off := 4) rfl (by kernel_rfl) (by kernel_rfl) (by kernel_rfl) rfl kW (by first | decide | simp) ?_)
    intro W12 u12 k12
    change Blk _ _ [c0, c1, c2, c3, .slice p10 (nf + 1) c10, c5, c6, c7, .slice pw way.length cw, c9] _ at k12
    replace hO := hO.trans (Only.of_upd u12 kW (by decide))
    replace hB := u12.below hB hBb
    replace k1 := u12.blk k1 (Ne.symm d1_bw)
    replace kk2 := u12.blk kk2 nb2_bw
    replace hway := u12.own2 hway kW (by decide)
    replace hv' := hv'.upd u12 kW (by decide)
    replace hK := hK.upd u12 kW
    replace o10 := u12.own2 o10 kW (by decide)
    have hS13 : Below B (W.drew) (W12) := u12.below hS11 hBb
    refine ⟨hS13, ?_⟩
    refine h_done _ (by kernel_rfl) ?_
    exact g_endM hK (.tuple #[]) (by kernel_rfl) (by kernel_rfl) ⟨_, _, _, _, _, rfl, (Upd.of_put _ _ _).below hB (Nat.le_trans hBw hDB), Only.upd_new hO (Upd.of_put _ _ _) hDB, (Upd.of_put _ _ _).blk k12 (hK.ne k12), (Upd.of_put _ _ _).own3 o10 (hK.row o10), hv'.kept fun _ _ q => (Upd.of_put _ _ _).blk q (hK.ne q)⟩
  · refine op_load ⟨b1, 0, none⟩ (.iface ty' x') rfl (by kernel_rfl) (by kernel_rfl) (k1.cell (i := 0) rfl) ?_
    have hS14 : Below B (W.drew) (W.drew) := hS3
    refine ⟨hS14, ?_⟩
    refine h_two 5 7 6 rfl (by kernel_rfl) rfl rfl (by kernel_rfl) (by kernel_rfl) ?_ ?_
    · refine op_load ⟨bw, 4, none⟩ (.slice pf nf cf) rfl (by kernel_rfl) (by kernel_rfl) (kW.cell (i := 4) rfl) ?_
      have hS15 : Below B (W.drew) (W.drew) := hS14
      refine ⟨hS15, ?_⟩
      refine h_one 7 5 rfl (by kernel_rfl) rfl (by kernel_rfl) (op_buildSlice 30 [.iface ty' x'] rfl (by kernel_rfl) ?_)
      intro b16 W16 n16
      have d16_bw := n16.ne kW
      have d16_b1 := n16.ne k1
      have d16_bk2 := n16.ne kk2
      have g16 := n16.ge0 hB
      have r16_hF := own_ne hF n16
      replace hO := hO.trans (Only.of_below n16.below)
      replace hB := Bl.nextB hB hBw n16.below
      replace kW := kW.below n16.below
      replace k1 := k1.below n16.below
      replace kk2 := kk2.below n16.below
      replace hF := own_below hF n16.below
      replace hway := own_below hway n16.below
      replace hv' := hv'.below n16.below
      replace hK := hK.below n16.below
      have k16 := n16.blk
      have hS17 : Below B (W.drew) (W16) := Bl.nextB hS15 (Nat.le_trans hBw hBd5.size) n16.below
      refine ⟨hS17, ?_⟩
      refine h_one 8 4 rfl (by kernel_rfl) rfl (by kernel_rfl) (op_app (e := 30) (n := nf) (xs := fs) (m := 1) (news := [.iface ty' x']) (.nilIface) 1 16 (nf + 1) (fs ++ [.iface ty' x']) rfl Tryz.underlying34 (by kernel_rfl) rfl (by decide) (by kernel_rfl) hF (by kernel_rfl) (k16.sl 1 1 (by decide) (by decide)) rfl (one_one hv1) (by unfold maxLen; omega) (by omega) (Nat.le_trans hBw hB.size) (by simp) (by simp) ?_)
      intro p18 c18 W18 o18 hg18 hb18
      replace hO := hO.trans (Only.of_grown hg18 hF (by decide))
      replace kW := kW.grown hg18 hF (by decide)
      replace k1 := k1.grown3 hg18 r1_hF
      replace kk2 := kk2.grown hg18 hF (by decide)
      replace hway := own_grown hway hg18 hF (by decide)
      replace hv' := hv'.grown hg18 hF (by decide)
      replace hK := hK.grown hg18 hF
      replace hB := hB.trans hb18
      have hS19 : Below B (W.drew) (W18) := hS17.trans hb18
      refine ⟨hS19, ?_⟩
      refine h_pv [9, 10, 11] 1 rfl #[true, true, true, true, true, true, true, true, true, true, true, true, false] [(25, .pointer (some ⟨bw, 0, none⟩)), (26, .pointer (some ⟨bw, 0, none⟩)), (27, .pointer (some ⟨bw, 4, none⟩))] (by kernel_rfl) (fun _ _ _ _ _ h => h) (by kernel_rfl) hS19 ?_
      refine h_one 12 0 rfl (by kernel_rfl) rfl (by kernel_rfl) (op_store (v := .slice p18 (nf + 1) c18) (b := bw) (off := 4) rfl (by kernel_rfl) (by kernel_rfl) (by kernel_rfl) rfl kW (by first | decide | simp) ?_)
      intro W20 u20 k20
      change Blk _ _ [c0, c1, c2, c3, .slice p18 (nf + 1) c18, c5, c6, c7, .slice pw way.length cw, c9] _ at k20
      replace hO := hO.trans (Only.of_upd u20 kW (by decide))
      replace hB := u20.below hB hBb
      replace k1 := u20.blk k1 (Ne.symm d1_bw)
      replace kk2 := u20.blk kk2 nb2_bw
      replace hway := u20.own2 hway kW (by decide)
      replace hv' := hv'.upd u20 kW (by decide)
      replace hK := hK.upd u20 kW
      replace o18 := u20.own2 o18 kW (by decide)
      have hS21 : Below B (W.drew) (W20) := u20.below hS19 hBb
      refine ⟨hS21, ?_⟩
      refine h_done _ (by kernel_rfl) ?_
      exact g_endM hK (.tuple #[]) (by kernel_rfl) (by kernel_rfl) ⟨_, _, _, _, _, rfl, (Upd.of_put _ _ _).below hB (Nat.le_trans hBw hDB), Only.upd_new hO (Upd.of_put _ _ _) hDB, (Upd.of_put _ _ _).blk k20 (hK.ne k20), (Upd.of_put _ _ _).own3 o18 (hK.row o18), hv'.kept fun _ _ q => (Upd.of_put _ _ _).blk q (hK.ne q)⟩
    · refine op_buildSlice 30 [.iface ty' x'] rfl (by kernel_rfl) ?_
      intro b22 W22 n22
      have d22_bw := n22.ne kW
      have d22_b1 := n22.ne k1
      have d22_bk2 := n22.ne kk2
      have g22 := n22.ge0 hB
      have r22_hF := own_ne hF n22
      replace hO := hO.trans (Only.of_below n22.below)
      replace hB := Bl.nextB hB hBw n22.below
      replace kW := kW.below n22.below
      replace k1 := k1.below n22.below
      replace kk2 := kk2.below n22.below
      replace hF := own_below hF n22.below
      replace hway := own_below hway n22.below
      replace hv' := hv'.below n22.below
      replace hK := hK.below n22.below
      have k22 := n22.blk
      have hS23 : Below B (W.drew) (W22) := Bl.nextB hS14 (Nat.le_trans hBw hBd5.size) n22.below
      refine ⟨hS23, ?_⟩
      refine h_one 5 5 rfl (by kernel_rfl) rfl (by kernel_rfl) (op_load ⟨bw, 4, none⟩ (.slice pf nf cf) rfl (by kernel_rfl) (by kernel_rfl) (kW.cell (i := 4) rfl) ?_)
      have hS24 : Below B (W.drew) (W22) := hS23
      refine ⟨hS24, ?_⟩
      refine h_one 8 4 rfl (by kernel_rfl) rfl (by kernel_rfl) (op_app (e := 30) (n := nf) (xs := fs) (m := 1) (news := [.iface ty' x']) (.nilIface) 1 16 (nf + 1) (fs ++ [.iface ty' x']) rfl Tryz.underlying34 (by kernel_rfl) rfl (by decide) (by kernel_rfl) hF (by kernel_rfl) (k22.sl 1 1 (by decide) (by decide)) rfl (one_one hv1) (by unfold maxLen; omega) (by omega) (Nat.le_trans hBw hB.size) (by simp) (by simp) ?_)
      intro p25 c25 W25 o25 hg25 hb25
      replace hO := hO.trans (Only.of_grown hg25 hF (by decide))
      replace kW := kW.grown hg25 hF (by decide)
      replace k1 := k1.grown3 hg25 r1_hF
      replace kk2 := kk2.grown hg25 hF (by decide)
      replace hway := own_grown hway hg25 hF (by decide)
      replace hv' := hv'.grown hg25 hF (by decide)
      replace hK := hK.grown hg25 hF
      replace hB := hB.trans hb25
      have hS26 : Below B (W.drew) (W25) := hS24.trans hb25
      refine ⟨hS26, ?_⟩
      refine h_pv [9, 10, 11] 1 rfl #[true, true, true, true, true, true, true, true, true, true, true, true, false] [(25, .pointer (some ⟨bw, 0, none⟩)), (26, .pointer (some ⟨bw, 0, none⟩)), (27, .pointer (some ⟨bw, 4, none⟩))] (by kernel_rfl) (fun _ _ _ _ _ h => h) (by kernel_rfl) hS26 ?_
      refine h_one 12 0 rfl (by kernel_rfl) rfl (by kernel_rfl) (op_store (v := .slice p25 (nf + 1) c25) (b := bw) (off := 4) rfl (by kernel_rfl) (by kernel_rfl) (by kernel_rfl) rfl kW (by first | decide | simp) ?_)
      intro W27 u27 k27
      change Blk _ _ [c0, c1, c2, c3, .slice p25 (nf + 1) c25, c5, c6, c7, .slice pw way.length cw, c9] _ at k27
      replace hO := hO.trans (Only.of_upd u27 kW (by decide))
      replace hB := u27.below hB hBb
      replace k1 := u27.blk k1 (Ne.symm d1_bw)
      replace kk2 := u27.blk kk2 nb2_bw
      replace hway := u27.own2 hway kW (by decide)
      replace hv' := hv'.upd u27 kW (by decide)
      replace hK := hK.upd u27 kW
      replace o25 := u27.own2 o25 kW (by decide)
      have hS28 : Below B (W.drew) (W27) := u27.below hS26 hBb
      refine ⟨hS28, ?_⟩
      refine h_done _ (by kernel_rfl) ?_
      exact g_endM hK (.tuple #[]) (by kernel_rfl) (by kernel_rfl) ⟨_, _, _, _, _, rfl, (Upd.of_put _ _ _).below hB (Nat.le_trans hBw hDB), Only.upd_new hO (Upd.of_put _ _ _) hDB, (Upd.of_put _ _ _).blk k27 (hK.ne k27), (Upd.of_put _ _ _).own3 o25 (hK.row o25), hv'.kept fun _ _ q => (Upd.of_put _ _ _).blk q (hK.ne q)⟩
end Go.Proofs.YtolblnjohaooaaaGreat
namespace Go.Proofs.YtolblnjohaooaaaGreat
open Go.RowKit Go.Extern.Stop Go.Stop Go.Extern
set_option linter.unusedVariables false
attribute [local irreducible] wpList wpAnyH Code.wp Oper.wp Go

/-- whether x is in l -/
def hasI (l : List Int) (x : Int) : Bool := l.any fun y => decide (x = y)
theorem hasI_true {l : List Int} {x : Int} {i : Nat} (hi : i < l.length) (h : x = l.getD i 0) : hasI l x = true := by
  unfold hasI
  rw [List.any_eq_true]
  exact ⟨l[i], List.getElem_mem _, by rw [decide_eq_true_iff, h]; simp [hi]⟩
theorem hasI_false {l : List Int} {x : Int} (h : ∀ j, j < l.length → x ≠ l.getD j 0) : hasI l x = false := by
  unfold hasI
  rw [List.any_eq_false]
  intro y hy
  obtain ⟨j, hj, rfl⟩ := List.getElem_of_mem hy
  have := h j hj
  simpa [hj] using this
set_option maxRecDepth 100000 in
set_option maxHeartbeats 1000000 in
theorem indexI (a : Option Addr) (c : Nat) (l : List Int) (x : Int) (w : World) (h : Ints w (.slice a l.length c) l) (hln : l.length ≤ 1000000) :
    Calls Tryz.prog 68 #[.slice a l.length c, .int .i64 x] w (fun e w' => (hasI l x = false ∧ e = .returned (.int .i64 (-1)) ∧ Below w.heap.size w w') ∨ (hasI l x = true ∧ ∃ i : Nat, e = .returned (.int .i64 (i : Int)) ∧ Below w.heap.size w w')) := by
 refine zin 19 Tryz.func68 ?_
 have hB := Below.refl w.heap.size w
 refine zl 14 19 (fun zm zkv V => ∃ (i : Nat), zkv = [(0, .slice a l.length c), (1, .int .i64 x), (7, .int .i64 (↑l.length : Int)), (8, .int .i64 (↑i : Int))] ∧ zm = l.length - ((↑i : Int)).toNat ∧ Below w.heap.size w V ∧ i ≤ l.length ∧ (∀ j, j < i → x ≠ l.getD j 0)) ⟨0, rfl, rfl, hB, Nat.zero_le _, ?_⟩ ?_
 · exact fun j hj => absurd hj (by omega)
 rintro _ _ W1 ⟨i, rfl, rfl, hB_1, hi, hz⟩ J1 hJ1 r1
 refine xid 6 ((↑i : Int) < (↑l.length : Int)) (fun hc2 => ?_) (fun hc2 => ?_)
 · refine xx 15 _ l.length i 1 (Ints.elem h (k := i) (by omega)).1 ?_
   refine xl 0 ((Ints.elem (h.below hB_1) (k := i) (by omega)).2) ?_
   refine xie 3 x (l.getD i 0) (fun hc3 => ?_) (fun hc3 => ?_)
   · exact xe 12 (.int .i64 (↑i : Int)) (.inr ⟨hasI_true (i := i) (by omega) (by omega), _, rfl, hB_1⟩)
   refine xwm 4 ((↑i : Int) + 1) (↑(i + 1) : Int) ?_
   exact ze 2 (hJ1 _ _ _ ⟨i + 1, rfl, rfl, hB_1, by omega, fun j hj => (Nat.lt_or_ge j i).elim (hz j) (fun q => by obtain rfl : j = i := (by omega); omega)⟩ (by omega))
 exact xe 11 (.int .i64 (-1)) (.inl ⟨hasI_false (fun j hj => hz j (by omega)), rfl, hB_1⟩)
set_option maxRecDepth 100000 in
set_option maxHeartbeats 1000000 in
theorem containsI (a : Option Addr) (c : Nat) (l : List Int) (x : Int) (w : World) (h : Ints w (.slice a l.length c) l) (hln : l.length ≤ 1000000) :
    Calls Tryz.prog 57 #[.slice a l.length c, .int .i64 x] w (Ret (.bool (hasI l x)) w) := by
 refine zin 9 Tryz.func57 ?_
 refine xc 9 (args := #[.slice a l.length c, .int .i64 x]) (indexI a c l x _ (h.below (Below.refl w.heap.size _)) hln) ?_
 rintro e W1 hq1
 rcases hq1 with ⟨hz, rfl, hb1⟩ | ⟨hz, i0, rfl, hb1⟩
 · refine xe 5 (.bool false) ?_
   rw [hz]; exact ⟨rfl, hb1⟩
 refine xe 5 (.bool (decide ((↑i0 : Int) ≥ (0 : Int)))) ?_
 rw [hz, show decide ((↑i0 : Int) ≥ (0 : Int)) = true from decide_eq_true (by omega)]; exact ⟨rfl, hb1⟩
end Go.Proofs.YtolblnjohaooaaaGreat
namespace Go.Proofs.YtolblnjohaooaaaGreat
open Go.RowKit
set_option linter.unusedVariables false
attribute [local go_sem] Oper.semAt_some

def splitL (hi : Int) (l : List Int) : List (Int × Int) := (List.range l.length).map (partAt hi l)
/-- the child of number i -/
def childI (lo hi : Int) (l : List Int) (i : Int) : (Int × Int) × Int :=
  if fitsI lo hi l = 0 then if 0 ≤ i ∧ i < l.length then (partAt hi l i.toNat, 0) else ((0, 0), 3) else ((0, 0), fitsI lo hi l)

theorem child_bad {lo hi i : Int} {l : List Int} (h : fitsI lo hi l ≠ 0) : childI lo hi l i = ((0, 0), fitsI lo hi l) := by simp [childI, h]
theorem child_out {lo hi i : Int} {l : List Int} (h : fitsI lo hi l = 0) (hi' : ¬ (0 ≤ i ∧ i < l.length)) : childI lo hi l i = ((0, 0), 3) := by simp only [childI, h, if_true]; rw [if_neg hi']
theorem child_in {lo hi : Int} {l : List Int} {i : Nat} (h : fitsI lo hi l = 0) (hi' : i < l.length) : childI lo hi l i = (partAt hi l i, 0) := by
  simp only [childI, h, if_true]; rw [if_pos ⟨by omega, by omega⟩]; simp
theorem each_none {i : Int} {n : Nat} (h : ∀ x ∈ List.finRange n, (qOf x : Int) ≠ i) : ¬ (0 ≤ i ∧ i < n) := fun ⟨h1, h2⟩ => by
  refine h ⟨n - 1 - i.toNat, by omega⟩ (by simp) ?_
  simp only [qOf]; omega
theorem each_last {lo hi i : Int} {l : List Int} {x : Fin l.length} (hf : fitsI lo hi l = 0) (hx : (qOf x : Int) = i) : childI lo hi l i = (partAt hi l (qOf x), 0) := by
  rw [← hx]; exact child_in hf (by have := x.2; simp only [qOf]; omega)
theorem below_child {w w' : World} {B : Nat} (h : Below w.heap.size w w') (hB : w.heap.size ≤ B) {i j k : Nat} {x y z : Value} {C : Nat} (hC : w.heap.size ≤ C) :
    Below w.heap.size w (((w'.setCell ⟨B, i, none⟩ x).setCell ⟨B, j, none⟩ y).setCell ⟨C, k, none⟩ z) := ((h.setCell hB _).setCell hB _).setCell hC _

/-- the result's cells when the rounds of pre are over -/
def outStep (hi : Int) (l : List Int) (cs : List Value) (x : Fin l.length) : List Value :=
  (cs.set (qOf x * 2) (.int .i64 (partAt hi l (qOf x)).1)).set (qOf x * 2 + 1) (.int .i64 (partAt hi l (qOf x)).2)
def outC (hi : Int) (l : List Int) (pre : List (Fin l.length)) : List Value := pre.foldl (outStep hi l) (zeros [.int .i64 0, .int .i64 0] l.length)
theorem outC_snoc (hi : Int) (l : List Int) (pre : List (Fin l.length)) (x : Fin l.length) : outC hi l (pre ++ [x]) = outStep hi l (outC hi l pre) x := by simp [outC]
theorem outFold_length (hi : Int) (l : List Int) : ∀ (pre : List (Fin l.length)) (cs : List Value), (pre.foldl (outStep hi l) cs).length = cs.length
  | [], _ => rfl
  | x :: pre, cs => by rw [List.foldl_cons, outFold_length hi l pre]; simp [outStep]
theorem outC_length (hi : Int) (l : List Int) (pre : List (Fin l.length)) : (outC hi l pre).length = l.length * 2 := by
  rw [outC, outFold_length, zeros_length]; rfl
theorem outFold_get (hi : Int) (l : List Int) (q : Nat) (hq : q < l.length) : ∀ (pre : List (Fin l.length)) (cs : List Value), cs.length = l.length * 2 →
    ((∃ x ∈ pre, qOf x = q) ∨ (cs[q * 2]? = some (.int .i64 (partAt hi l q).1) ∧ cs[q * 2 + 1]? = some (.int .i64 (partAt hi l q).2))) →
    (pre.foldl (outStep hi l) cs)[q * 2]? = some (.int .i64 (partAt hi l q).1) ∧ (pre.foldl (outStep hi l) cs)[q * 2 + 1]? = some (.int .i64 (partAt hi l q).2)
  | [], cs, hl, h => by
    rcases h with ⟨x, hx, _⟩ | h
    · cases hx
    · exact h
  | x :: pre, cs, hl, h => by
    rw [List.foldl_cons]
    refine outFold_get hi l q hq pre _ (by simp [outStep, hl]) ?_
    by_cases hx : qOf x = q
    · subst hx
      refine .inr ⟨?_, ?_⟩
      · simp only [outStep]; rw [List.getElem?_set_ne (by omega), List.getElem?_set_self (by omega)]
      · simp only [outStep]; rw [List.getElem?_set_self (by simp; omega)]
    · rcases h with ⟨y, hy, hyq⟩ | h
      · rcases List.mem_cons.1 hy with rfl | hy
        · exact absurd hyq hx
        · exact .inl ⟨y, hy, hyq⟩
      · refine .inr ⟨?_, ?_⟩
        · simp only [outStep]; rw [List.getElem?_set_ne (by omega), List.getElem?_set_ne (by omega)]; exact h.1
        · simp only [outStep]; rw [List.getElem?_set_ne (by omega), List.getElem?_set_ne (by omega)]; exact h.2
theorem outC_all (hi : Int) (l : List Int) : outC hi l (List.finRange l.length) = flat2 (splitL hi l) := by
  have hs : (splitL hi l).length = l.length := by simp [splitL]
  have hg : ∀ q, q < l.length → (splitL hi l)[q]? = some (partAt hi l q) := fun q hq => by simp [splitL, hq]
  apply List.ext_getElem?
  intro j
  by_cases hj : j < l.length * 2
  · have hq : j / 2 < l.length := by omega
    have h := outFold_get hi l (j / 2) hq (List.finRange l.length) (zeros [.int .i64 0, .int .i64 0] l.length) (by rw [zeros_length]; rfl)
      (.inl ⟨⟨l.length - 1 - j / 2, by omega⟩, by simp, by simp only [qOf]; omega⟩)
    by_cases h2 : j % 2 = 0
    · have e : j = j / 2 * 2 := by omega
      rw [e, flat2_even, hg _ hq]; exact h.1
    · have e : j = j / 2 * 2 + 1 := by omega
      rw [e, flat2_odd, hg _ hq]; exact h.2
  · rw [List.getElem?_eq_none (by rw [outC_length]; omega), List.getElem?_eq_none (by rw [flat2_length, hs]; omega)]
def splitR (lo hi : Int) (l : List Int) : List (Int × Int) := if fitsI lo hi l = 0 then splitL hi l else []
theorem Tryz.info77 : (Tryz.prog.info? 77).map (fun i => (i.zero, i.size, i.bytes)) = some (some (.agg #[.int .i64 0, .int .i64 0]), 2, 16) := by kernel_rfl

set_option maxRecDepth 100000 in
set_option maxHeartbeats 2000000 in
theorem span_split2 (lo hi : Int) (v : Value) (l : List Int) (w : World) (hlen : l.length ≤ 1000000) (hl : Ints w v l) :
    Calls Tryz.prog 46 #[spanV lo hi, v] w (RetS (fun w' r => Pairs w' r (splitR lo hi l) ∧ (fitsI lo hi l = 0 → ∃ g, r = .slice (some ⟨g, 0, none⟩) l.length l.length ∧ w.heap.size ≤ g ∧ Blk w' g (flat2 (splitL hi l)) 77)) w) := by
  obtain ⟨i0, hi0, hz0, hz1, hz2⟩ := info_parts Tryz.info77
  have hmk := fun w => make_zeros (P := Tryz.prog) (t := 95) (e := 77) (i := i0) [.int .i64 0, .int .i64 0] Tryz.underlying95 hi0 hz0 rfl hz1 hz2 l.length (by omega) (by omega) w
  clear hi0 hz0 hz1 hz2
  unfold spanV
  refine calls_of_marks Tryz.func46 rfl ?_
  simp only [Tryz.ntmps46, List.size_toArray, List.length_cons, List.length_nil, Nat.reduceAdd, Nat.reduceSub, Array.replicate_succ, Array.replicate_zero, List.push_toArray, List.append_toArray, List.nil_append, List.cons_append]
  go_wp2_with fail
  refine (span_fits lo hi v l _ (hl.below (Bl.box _ _))).mono ?_
  rintro e w' ⟨rfl, hb⟩
  have k0 := Blk.below (Blk.new w [.int .i64 lo, .int .i64 hi] 77) hb
  have hB : Below w.heap.size w w' := Bl.next (Bl.box _ _) hb
  have hl' := hl.below hB
  have HB : l.length ≠ 0 → ∀ {b off n cap : Nat}, v = .slice (some ⟨b, off, none⟩) n cap → b < w.heap.size := fun h _ _ _ _ e => hl.blk h e
  clear hb hl
  obtain ⟨a, c, rfl⟩ := hl'.slice
  have z0 := k0.lt
  have c00 := k0.cell (i := 0) rfl
  have c01 := k0.cell (i := 1) rfl
  by_cases hf : fitsI lo hi l = 0
  case neg =>
    have hf2 : (fitsI lo hi l != 0) = true := by simpa using hf
    have HF := Lib.hid hf; clear hf
    go_wp2_with fail
    refine ⟨_, results_tmp rfl _ _ _, ?_⟩
    have e : splitR lo hi l = [] := by simp [splitR, HF.out]
    rw [e]
    exact ⟨_, rfl, hB, .inl ⟨_, _, rfl, rfl, rfl⟩, fun q => absurd q HF.out⟩
  have hf2 : (fitsI lo hi l != 0) = false := by simpa using hf
  have HF := Lib.hid hf; clear hf
  go_wp2_with fail
  refine (span_each lo hi a l.length c _).mono ?_
  rintro e W1 ⟨rfl, hW1⟩
  have hz : w'.heap.size + 4 = W1.heap.size := by rw [hW1]; simp
  have hb1 : Below w'.heap.size w' W1 := by rw [hW1]; exact Bl.next (Bl.next (Bl.next (Bl.box _ _) (Bl.box _ _)) (Bl.box _ _)) (Bl.box _ _)
  have s1 : W1.cell? ⟨w'.heap.size + 1 + 1, 1, none⟩ = some (.int .i64 hi) := by rw [hW1]; simp [go_sem]
  have s2 : W1.cell? ⟨w'.heap.size + 1 + 1 + 1, 0, none⟩ = some (.slice a l.length c) := by rw [hW1]; simp [go_sem]
  have m1 : Blk W1 w'.heap.size (zeros [.int .i64 0, .int .i64 0] l.length) 77 := by rw [hW1]; exact (((Blk.new w' _ _).alloc _).alloc _).alloc _
  have m2 : Blk W1 (w'.heap.size + 1) [.slice (some ⟨w'.heap.size, 0, none⟩) l.length l.length] 95 := by
    rw [hW1]; have := ((Blk.new (w'.alloc (.cells (zeros [.int .i64 0, .int .i64 0] l.length).toArray 77)) [.slice (some ⟨w'.heap.size, 0, none⟩) l.length l.length] 95).alloc (.cells #[.int .i64 lo, .int .i64 hi] 77)).alloc (.cells #[.slice a l.length c] 33)
    simpa using this
  have hB1 := Bl.next hB hb1
  have hl1 := hl'.below hb1
  have hst := each_stops (w'.heap.size + 1 + 1) (w'.heap.size + 1 + 1 + 1) (fun b => b < W1.heap.size ∧ b ≠ w'.heap.size) hi (.slice a l.length c) l W1 (fun b h => h.1) (by omega) (by omega) (by omega) hl1 ?hvp s1 s2
  case hvp => exact fun h b off n' cap e => by have := HB h e; have := hB1.size; exact ⟨by omega, by omega⟩
  clear hW1 s1 s2 hmk
  go_wp2_with fail
  refine wp_range (g := .tmp 17) (gf := 74) (lb := #[.pointer (some ⟨w'.heap.size + 1 + 1, 0, none⟩), .pointer (some ⟨w'.heap.size + 1 + 1 + 1, 0, none⟩)]) rfl (enters_of Tryz.func74 (by kernel_rfl) rfl) _ (fun b h => h.1) hst (fun _ => rfl)
    (fun pre W => (Blk W w'.heap.size (outC hi l pre) 77 ∧ Blk W (w'.heap.size + 1) [.slice (some ⟨w'.heap.size, 0, none⟩) l.length l.length] 95) ∧ (Below w.heap.size w W ∧ W1.heap.size ≤ W.heap.size))
    (fun _ _ _ => False) ?own (fun _ _ _ _ _ h _ _ => h) ⟨⟨m1, m2⟩, hB1, Nat.le_refl _⟩
    (fun x a' W => ∃ Bx, W1.heap.size ≤ Bx ∧ Blk W Bx [.int .i64 (partAt hi l (qOf x)).1, .int .i64 (partAt hi l (qOf x)).2] 77 ∧
      a' = { tmps := #[.agg #[.int .i64 lo, .int .i64 hi], .slice a l.length c, .pointer (some ⟨w.heap.size, 0, none⟩), undef, .slice none 0 0, .pointer (some ⟨w'.heap.size + 1, 0, none⟩), .int .i64 (qOf x : Int), .pointer (some ⟨Bx, 0, none⟩), .agg #[.int .i64 lo, .int .i64 hi], .slice a l.length c, .int .i64 (fitsI lo hi l), .bool false, .slice a l.length c, .int .i64 l.length, .slice (some ⟨w'.heap.size, 0, none⟩) l.length l.length, .agg #[.int .i64 lo, .int .i64 hi], .slice a l.length c, .func (.func 74) #[] #[.pointer (some ⟨w'.heap.size + 1 + 1, 0, none⟩), .pointer (some ⟨w'.heap.size + 1 + 1 + 1, 0, none⟩)], .int .i64 (qOf x : Int), spanV (partAt hi l (qOf x)).1 (partAt hi l (qOf x)).2, undef, undef, undef, undef, undef], defers := [] }) ?ownax ?assign ?body ?done ?stop
  case own => exact OwnFrom.and (Own.from (fun s A B row hs hg hr => ⟨hs.1.turn hg hr, hs.2.turn hg hr⟩) _) (OwnFrom.and (ownFrom_below (Nat.le_refl _) hB1.size) ownFrom_size)
  case ownax => exact fun x a' => Own.from (fun s A B row hs hg hr => by obtain ⟨Bx, h1, h2, h3⟩ := hs; exact ⟨Bx, h1, h2.turn hg hr, h3⟩) _
  case assign =>
    rintro lr pre x W K ⟨⟨h1, h2⟩, hbW, hsz⟩ hK
    unfold encE
    gi_wp2
    exact hK _ _ ((KeepsOthers.alloc _ _).from _) (Keeps.of_below (Bl.box W _) (fun b hb => by have := hb.1; omega)) ⟨⟨h1.alloc _, h2.alloc _⟩, Bl.next hbW (Bl.box _ _), by simp; omega⟩ ⟨W.heap.size, hsz, Blk.new W _ _, rfl⟩
  case body =>
    rintro lr pre x a' W hlr ⟨⟨h1, h2⟩, hbW, hsz⟩ ⟨Bx, hBx, hx, rfl⟩ hlt
    have cx0 := hx.cell (i := 0) rfl
    have cx1 := hx.cell (i := 1) rfl
    have ci := h2.cell (i := 0) rfl
    have hq : qOf x < l.length := by have := x.2; simp only [qOf]; omega
    have hol := outC_length hi l pre
    obtain ⟨u0, hu0⟩ : ∃ u0, (outC hi l pre)[qOf x * 2]? = some u0 := ⟨_, List.getElem?_eq_getElem (by omega)⟩
    obtain ⟨u1, hu1⟩ : ∃ u1, (outC hi l pre)[qOf x * 2 + 1]? = some u1 := ⟨_, List.getElem?_eq_getElem (by omega)⟩
    have cu0 := h1.cell hu0
    have cu1 := h1.cell hu1
    have fu0 := h1.frozen (qOf x * 2)
    have fu1 := h1.frozen (qOf x * 2 + 1)
    clear hu0 hu1 hol
    gi_wp2
    refine ⟨((KeepsOthers.setCell _ _ _).trans (KeepsOthers.setCell _ _ _)).from _, ((Keeps.refl _ W).setCell (by simp) _).setCell (by simp) _, ⟨by rw [outC_snoc]; exact (h1.set _ _).set _ _, (h2.other (by simp) _).other (by simp) _⟩, (hbW.setCell (Nat.le_of_lt z0) _).setCell (Nat.le_of_lt z0) _, by simpa [World.setCell] using hsz⟩
  case done =>
    rintro D xs W hD rfl ⟨⟨h1, h2⟩, hbW, hsz⟩ hK
    have ci := h2.cell (i := 0) rfl
    have hlt : D < W.heap.size := (Array.getElem?_eq_some_iff.1 hK).1
    rw [outC_all] at h1
    have hs : (splitL hi l).length = l.length := by simp [splitL]
    have hR : Pairs (W.putObj D (.deferred none)) (.slice (some ⟨w'.heap.size, 0, none⟩) l.length l.length) (splitL hi l) := by
      have h1' := h1.put hK rfl (.deferred none)
      exact .inr ⟨_, 0, l.length, by rw [hs], by omega, by unfold maxLen; omega, fun j x hj => by rw [Nat.zero_add]; exact h1'.cell hj⟩
    have HR := Lib.hid hR
    have HR2 := Lib.hid (h1.put hK rfl (.deferred none))
    clear hR h1 hs
    go_wp2_with fail
    refine ⟨by simp, .inl ⟨_, _, rfl, run_takeDeferred hK, _, results_tmp rfl _ _ _, ?_⟩⟩
    have e : splitR lo hi l = splitL hi l := by simp [splitR, HF.out]
    rw [e]
    exact ⟨_, rfl, below_put hbW (by have := hB1.size; omega) hlt _, HR.out, fun _ => ⟨_, rfl, hB.size, HR2.out⟩⟩
  case stop => exact fun _ _ _ _ _ _ h _ => h.elim
theorem span_split (lo hi : Int) (v : Value) (l : List Int) (w : World) (hlen : l.length ≤ 1000000) (hl : Ints w v l) :
    Calls Tryz.prog 46 #[spanV lo hi, v] w (RetS (fun w' r => Pairs w' r (splitR lo hi l)) w) :=
  (span_split2 lo hi v l w hlen hl).mono fun e w' ⟨r, h1, h2, h3, _⟩ => ⟨r, h1, h2, h3⟩
end Go.Proofs.YtolblnjohaooaaaGreat
namespace Go.Proofs.YtolblnjohaooaaaGreat
open Go.RowKit Go.Extern.Stop Go.Stop Go.Extern
set_option linter.unusedVariables false
attribute [local irreducible] wpList wpAnyH Code.wp Oper.wp Go

/-- the number of the error of a node that is looked at, as the one below way, for the span lo hi -/
def lookE (l : List UInt8) (way : List Int) (no tree lo hi deep : Int) : Int :=
  if hasI way no = true then 11 else if 16 ≤ way.length then 10 else if nodeErr l no tree ≠ 0 then nodeErr l no tree else if fitsI lo hi (keysI (inB l no) (nodC (inB l no))) ≠ 0 then 9 else
    if nodL (inB l no) = true ∧ deep ≠ 0 ∧ deep ≠ ((way.length + 1 : Nat) : Int) then 10 else 0
def LookP (B bw : Nat) (cs : List Value) (l : List UInt8) (way : List Int) (no tree lo hi deep : Int) (w : World) (e : Ending) (w' : World) : Prop :=
  Below B w w' ∧ Only [74] w w' ∧ Blk w' bw cs 74 ∧
  ((lookE l way no tree lo hi deep ≠ 0 ∧ ∃ a4 b4 k4 n4 c4 v4 m4 d4 ty x, e = .returned (.tuple #[.agg #[.int .i64 a4, .bool b4, .slice k4 n4 c4, .slice v4 m4 d4], .iface ty x]) ∧ ErrV w' [some no] (some (lookE l way no tree lo hi deep)) (.iface ty x)) ∨
   (lookE l way no tree lo hi deep = 0 ∧ nodeErr l no tree = 0 ∧ ∃ kp kc vp vc, e = .returned (.tuple #[.agg #[.int .i64 (nodT (inB l no)), .bool (nodL (inB l no)), .slice kp (nodC (inB l no)) kc, .slice vp (nodC (inB l no)) vc], .nilIface]) ∧
    w'.ownsRow w.heap.size 3 1 (.slice kp (nodC (inB l no)) kc) (nodC (inB l no)) ((keysI (inB l no) (nodC (inB l no))).map (Value.int .i64)) ∧ w'.ownsRow w.heap.size 9 1 (.slice vp (nodC (inB l no)) vc) (nodC (inB l no)) ((valsL (inB l no) (nodC (inB l no))).map sv)))
theorem intsN_of {w : World} {v : Value} {n : Nat} {l : List Int} (h : Sl w v n (l.map (Value.int .i64))) (hl : l.length = n) : Ints w v l := by subst hl; exact h
set_option maxRecDepth 100000 in
set_option maxHeartbeats 4000000 in
theorem walker_look (B Bi b bw : Nat) (p : Option Addr) (n c : Nat) (l : List UInt8) (c0 c1 c4 c7 c9 : Value) (pw : Option Addr) (cw : Nat) (way : List Int) (no tree lo hi deep looked : Int) (w : World) (hBb : B ≤ bw) (hBw : B ≤ w.heap.size) (kW : Blk w bw [c0, c1, .int .i64 deep, .int .i64 looked, c4, .pointer (some ⟨b, 0, none⟩), .int .i64 tree, c7, .slice pw way.length cw, c9] 74) (hway : w.ownsRow B 3 1 (.slice pw way.length cw) way.length (way.map (Value.int .i64))) (hI : ImgR Bi b p n c l w) (hwl : way.length ≤ 1000000) (hl0 : 0 ≤ looked) (hl1 : looked < 9223372036854775807) :
    Calls Tryz.prog 44 #[.pointer (some ⟨bw, 0, none⟩), .int .i64 no, .agg #[.int .i64 lo, .int .i64 hi]] w (LookP B bw [c0, c1, .int .i64 deep, .int .i64 (looked + 1), c4, .pointer (some ⟨b, 0, none⟩), .int .i64 tree, c7, .slice pw way.length cw, c9] l way no tree lo hi deep w) := by
 refine zin 97 Tryz.func44 ?_
 refine xa 2 [.int .i64 lo, .int .i64 hi] 77 fun b1 W1 n1 => ?_
 refine xa 0 [.int .i64 0, .bool false, .slice none 0 0, .slice none 0 0] 67 fun b2 W2 n2 => ?_
 have kW'1 := (kW.below n1.below).below n2.below
 refine xb 9 3 kW'1 ?_
 refine xw 0 (looked + 1) ?_
 refine xs 3 kW'1 [c0, c1, .int .i64 deep, .int .i64 (looked + 1), c4, .pointer (some ⟨b, 0, none⟩), .int .i64 tree, c7, .slice pw way.length cw, c9] fun W3 u3 k3 => ?_
 refine xb 8 8 k3 ?_
 have hway'1 := u3.own2 (own_below (own_below hway n1.below) n2.below) kW'1 (by decide)
 refine xr 1 (args := #[.slice pw way.length cw, .int .i64 no]) (containsI pw cw way no _ (own_sl hway'1) hwl) fun W4 hb4 => ?_
 refine xi 2 (hasI way no) (fun hc5 => ?_) (fun hc5 => ?_)
 · refine xc 5 (args := #[.int .i64 no, .iface 49 (.int .i64 11)]) (fault_At no (some 11) [] _ _ rfl) ?_
   rintro _ W6 ⟨r6, rfl, hb6, hv6⟩
   rw [atL_some] at hv6
   obtain ⟨t6, x6, rfl⟩ := hv6.iface
   have k2 := ((u3.blkT n2.blk kW'1 (by decide)).below hb4).below hb6
   refine xsv 0 k2 [.int .i64 0, .bool false, .slice none 0 0, .slice none 0 0] fun W7 u7 k7 => ?_
   have g2 := n2.ge0 (Bl.nextB (Below.refl B w) hBw n1.below)
   have hB := u7.below (Bl.nextB (Bl.nextB (u3.below (Bl.nextB (Bl.nextB (Below.refl B w) hBw n1.below) hBw n2.below) hBb) hBw hb4) hBw hb6) (Nat.le_trans hBw g2)
   have hO := (Only.upd_new (((((show Only [74] w _ from (Only.of_below n1.below)).trans (Only.of_below n2.below)).trans (Only.of_upd u3 kW'1 (by decide))).trans (Only.of_below hb4)).trans (Only.of_below hb6)) u7 g2)
   have k3'1 := u7.blkT ((k3.below hb4).below hb6) k2 (by decide)
   have hv6'1 := hv6.upd u7 k2 (by decide)
   exact xec 5 k7 (.tuple #[.agg #[.int .i64 0, .bool false, .slice none 0 0, .slice none 0 0], .iface t6 (x6)]) ⟨hB, hO, k3'1, .inl ⟨by (unfold lookE; (repeat' split) <;> first | rfl | assumption | decide | omega | exact absurd (Eq.trans (Eq.symm ‹hasI _ _ = true›) ‹hasI _ _ = false›) (by decide) | (rename_i q; exact absurd ⟨by assumption, by assumption, by assumption⟩ q) | (rename_i q; obtain ⟨q1, q2, q3⟩ := q; exact absurd (Eq.trans (Eq.symm q1) ‹nodL _ = false›) (by decide)) | (rename_i q; obtain ⟨q1, q2, q3⟩ := q; omega)), _, _, _, _, _, _, _, _, _, _, rfl, by (unfold lookE; (repeat' split) <;> first | exact hv6'1 | (exfalso; omega) | contradiction | exact absurd (Eq.trans (Eq.symm ‹hasI _ _ = true›) ‹hasI _ _ = false›) (by decide) | (rename_i q; exact absurd ⟨by assumption, by assumption, by assumption⟩ q) | (rename_i q; obtain ⟨q1, q2, q3⟩ := q; exact absurd (Eq.trans (Eq.symm q1) ‹nodL _ = false›) (by decide)) | (rename_i q; obtain ⟨q1, q2, q3⟩ := q; omega))⟩⟩
 have k3'2 := k3.below hb4
 refine xb 8 8 k3'2 ?_
 refine xid 4 ((↑way.length : Int) ≥ (16 : Int)) (fun hc8 => ?_) (fun hc8 => ?_)
 · refine xc 5 (args := #[.int .i64 no, .iface 49 (.int .i64 10)]) (fault_At no (some 10) [] _ _ rfl) ?_
   rintro _ W9 ⟨r9, rfl, hb9, hv9⟩
   rw [atL_some] at hv9
   obtain ⟨t9, x9, rfl⟩ := hv9.iface
   have k2 := ((u3.blkT n2.blk kW'1 (by decide)).below hb4).below hb9
   refine xsv 0 k2 [.int .i64 0, .bool false, .slice none 0 0, .slice none 0 0] fun W10 u10 k10 => ?_
   have g2 := n2.ge0 (Bl.nextB (Below.refl B w) hBw n1.below)
   have hB := u10.below (Bl.nextB (Bl.nextB (u3.below (Bl.nextB (Bl.nextB (Below.refl B w) hBw n1.below) hBw n2.below) hBb) hBw hb4) hBw hb9) (Nat.le_trans hBw g2)
   have hO := (Only.upd_new (((((show Only [74] w _ from (Only.of_below n1.below)).trans (Only.of_below n2.below)).trans (Only.of_upd u3 kW'1 (by decide))).trans (Only.of_below hb4)).trans (Only.of_below hb9)) u10 g2)
   have k3'3 := u10.blkT (k3'2.below hb9) k2 (by decide)
   have hv9'1 := hv9.upd u10 k2 (by decide)
   exact xec 5 k10 (.tuple #[.agg #[.int .i64 0, .bool false, .slice none 0 0, .slice none 0 0], .iface t9 (x9)]) ⟨hB, hO, k3'3, .inl ⟨by (unfold lookE; (repeat' split) <;> first | rfl | assumption | decide | omega | exact absurd (Eq.trans (Eq.symm ‹hasI _ _ = true›) ‹hasI _ _ = false›) (by decide) | (rename_i q; exact absurd ⟨by assumption, by assumption, by assumption⟩ q) | (rename_i q; obtain ⟨q1, q2, q3⟩ := q; exact absurd (Eq.trans (Eq.symm q1) ‹nodL _ = false›) (by decide)) | (rename_i q; obtain ⟨q1, q2, q3⟩ := q; omega)), _, _, _, _, _, _, _, _, _, _, rfl, by (unfold lookE; (repeat' split) <;> first | exact hv9'1 | (exfalso; omega) | contradiction | exact absurd (Eq.trans (Eq.symm ‹hasI _ _ = true›) ‹hasI _ _ = false›) (by decide) | (rename_i q; exact absurd ⟨by assumption, by assumption, by assumption⟩ q) | (rename_i q; obtain ⟨q1, q2, q3⟩ := q; exact absurd (Eq.trans (Eq.symm q1) ‹nodL _ = false›) (by decide)) | (rename_i q; obtain ⟨q1, q2, q3⟩ := q; omega))⟩⟩
 refine xd 3 (.t B [67]) ?_
 have k3'4 := k3'2.below (below_drew W4)
 refine xbt (.e [0, 1, 2] 3) 5 B [67] k3'4 ?_
 refine xbt (.e [4, 5, 6, 7] 8) 6 B [67] k3'4 ?_
 refine xm2 0 9 13 ?_ ?_
 · have hI'1 := ((((hI.below n1.below).below n2.below).only (Only.of_upd (T := [74]) u3 kW'1 (by decide)) (by decide)).below hb4).below (below_drew W4)
   refine yc 0 (args := #[.pointer (some ⟨b, 0, none⟩), .int .i64 no, .int .i64 tree]) (.t B [67]) (block_Node Bi b p n c l no tree _ hI'1) ?_
   rintro e W11 hq11
   rcases hq11 with ⟨he, bf, rfl, hb11, hv⟩ | ⟨he, kp, kc, vp, vc, rfl, hb11, hk, hv_⟩
   · refine ⟨(SF.of_below _ hb11), ?_⟩
     refine xa (.o [10, 11, 12] 13) [.int .i64 0, .bool false, .slice none 0 0, .slice none 0 0] 67 fun b12 W12 n12 => ?_
     have k2 := (((u3.blkT n2.blk kW'1 (by decide)).below hb4).below (below_drew W4)).below hb11
     have d12_b2 := n12.ne k2
     have hB := Bl.nextB (Bl.nextB (Bl.nextB (u3.below (Bl.nextB (Bl.nextB (Below.refl B w) hBw n1.below) hBw n2.below) hBb) hBw hb4) hBw (below_drew W4)) hBw hb11
     have g12 := n12.ge0 hB
     refine ysv (.o [] 14) n12.blk [.int .i64 0, .bool false, .slice none 0 0, .slice none 0 0] (.t B [67]) fun W13 u13 k13 => ⟨(sft_upd u13 n12.blk (Nat.le_trans hBw g12) (by decide)), ?_⟩
     refine xlv (.r [15] 14) k13.rp ?_
     have k2'1 := u13.blk (k2.below n12.below) (Ne.symm (Ne.symm d12_b2))
     refine xsv 1 k2'1 [.int .i64 0, .bool false, .slice none 0 0, .slice none 0 0] fun W14 u14 k14 => ?_
     have g2 := n2.ge0 (Bl.nextB (Below.refl B w) hBw n1.below)
     have hB'1 := u14.below (u13.below (Bl.nextB hB hBw n12.below) (Nat.le_trans hBw g12)) (Nat.le_trans hBw g2)
     have hO := (Only.upd_new (Only.upd_new (((((((show Only [74] w _ from (Only.of_below n1.below)).trans (Only.of_below n2.below)).trans (Only.of_upd u3 kW'1 (by decide))).trans (Only.of_below hb4)).trans (Only.of_below (below_drew W4))).trans (Only.of_below hb11)).trans (Only.of_below n12.below)) u13 g12) u14 g2)
     have k3'5 := u14.blkT (u13.blkT ((k3'4.below hb11).below n12.below) n12.blk (by decide)) k2'1 (by decide)
     have hv'1 := ((hv.below n12.below).upd u13 n12.blk (by decide)).upd u14 k2'1 (by decide)
     exact xec 6 k14 (.tuple #[.agg #[.int .i64 0, .bool false, .slice none 0 0, .slice none 0 0], .iface 112 (.pointer (some ⟨bf, 0, none⟩))]) ⟨hB'1, hO, k3'5, .inl ⟨by (unfold lookE; (repeat' split) <;> first | rfl | assumption | decide | omega | exact absurd (Eq.trans (Eq.symm ‹hasI _ _ = true›) ‹hasI _ _ = false›) (by decide) | (rename_i q; exact absurd ⟨by assumption, by assumption, by assumption⟩ q) | (rename_i q; obtain ⟨q1, q2, q3⟩ := q; exact absurd (Eq.trans (Eq.symm q1) ‹nodL _ = false›) (by decide)) | (rename_i q; obtain ⟨q1, q2, q3⟩ := q; omega)), _, _, _, _, _, _, _, _, _, _, rfl, by (unfold lookE; (repeat' split) <;> first | exact hv'1 | (exfalso; omega) | contradiction | exact absurd (Eq.trans (Eq.symm ‹hasI _ _ = true›) ‹hasI _ _ = false›) (by decide) | (rename_i q; exact absurd ⟨by assumption, by assumption, by assumption⟩ q) | (rename_i q; obtain ⟨q1, q2, q3⟩ := q; exact absurd (Eq.trans (Eq.symm q1) ‹nodL _ = false›) (by decide)) | (rename_i q; obtain ⟨q1, q2, q3⟩ := q; omega))⟩⟩
   have hs11 := (Bl.nextB (Bl.nextB (u3.below (Bl.nextB (Bl.nextB (Below.refl B w) hBw n1.below) hBw n2.below) hBb) hBw hb4) hBw (below_drew W4)).size
   refine ⟨(SF.of_below _ hb11), ?_⟩
   refine xa (.o [10, 11, 12] 13) [.int .i64 0, .bool false, .slice none 0 0, .slice none 0 0] 67 fun b15 W15 n15 => ?_
   have k2 := (((u3.blkT n2.blk kW'1 (by decide)).below hb4).below (below_drew W4)).below hb11
   have d15_b2 := n15.ne k2
   have hB := Bl.nextB (Bl.nextB (Bl.nextB (u3.below (Bl.nextB (Bl.nextB (Below.refl B w) hBw n1.below) hBw n2.below) hBb) hBw hb4) hBw (below_drew W4)) hBw hb11
   have g15 := n15.ge0 hB
   refine ysv (.o [] 14) n15.blk [.int .i64 (nodT (inB l no)), .bool (nodL (inB l no)), .slice kp (nodC (inB l no)) kc, .slice vp (nodC (inB l no)) vc] (.t B [67]) fun W16 u16 k16 => ⟨(sft_upd u16 n15.blk (Nat.le_trans hBw g15) (by decide)), ?_⟩
   have k1 := u16.blkT (((((u3.blkT (n1.blk.below n2.below) kW'1 (by decide)).below hb4).below (below_drew W4)).below hb11).below n15.below) n15.blk (by decide)
   refine xlv (.r [15] 14) k1.rp ?_
   refine xb 1 2 k16 ?_
   have hk'1 := u16.own2 (own_below (own_mono hk hs11) n15.below) n15.blk (by decide)
   refine xr 0 (args := #[.agg #[.int .i64 lo, .int .i64 hi], .slice kp (nodC (inB l no)) kc]) (span_fits lo hi _ (keysI (inB l no) (nodC (inB l no))) _ (intsN_of (own_sl hk'1) (keysI_len _ _))) fun W17 hb17 => ?_
   refine xin 4 (fitsI lo hi (keysI (inB l no) (nodC (inB l no)))) (0 : Int) (fun hc18 => ?_) (fun hc18 => ?_)
   · refine xd 1 (.t B [67]) ?_
     refine xm2 (.b [1, 2]) 0 3 ?_ ?_
     · have k16'1 := (k16.below hb17).below (below_drew W17)
       refine xlv 0 k16'1.rp ?_
       refine yc (.o [] 3) (args := #[.int .i64 no, .iface 49 (.int .i64 9)]) (.t B [67]) (fault_At no (some 9) [] _ _ rfl) ?_
       rintro _ W19 ⟨r19, rfl, hb19, hv19⟩
       refine ⟨(SF.of_below _ hb19), ?_⟩
       rw [atL_some] at hv19
       obtain ⟨t19, x19, rfl⟩ := hv19.iface
       have k2'2 := (((u16.blk (k2.below n15.below) (Ne.symm (Ne.symm d15_b2))).below hb17).below (below_drew W17)).below hb19
       have g2 := n2.ge0 (Bl.nextB (Below.refl B w) hBw n1.below)
       refine ysv (.o [] 4) k2'2 [.int .i64 (nodT (inB l no)), .bool (nodL (inB l no)), .slice kp (nodC (inB l no)) kc, .slice vp (nodC (inB l no)) vc] (.t B [67]) fun W20 u20 k20 => ⟨(sft_upd u20 k2'2 (Nat.le_trans hBw g2) (by decide)), ?_⟩
       have hB'2 := u20.below (Bl.nextB (Bl.nextB (Bl.nextB (u16.below (Bl.nextB hB hBw n15.below) (Nat.le_trans hBw g15)) hBw hb17) hBw (below_drew W17)) hBw hb19) (Nat.le_trans hBw g2)
       have hO := (Only.upd_new ((((Only.upd_new (((((((show Only [74] w _ from (Only.of_below n1.below)).trans (Only.of_below n2.below)).trans (Only.of_upd u3 kW'1 (by decide))).trans (Only.of_below hb4)).trans (Only.of_below (below_drew W4))).trans (Only.of_below hb11)).trans (Only.of_below n15.below)) u16 g15).trans (Only.of_below hb17)).trans (Only.of_below (below_drew W17))).trans (Only.of_below hb19)) u20 g2)
       have k3'6 := u20.blkT ((((u16.blkT ((k3'4.below hb11).below n15.below) n15.blk (by decide)).below hb17).below (below_drew W17)).below hb19) k2'2 (by decide)
       have hv19'1 := hv19.upd u20 k2'2 (by decide)
       exact xec (.r [5] 5) k20 (.tuple #[.agg #[.int .i64 (nodT (inB l no)), .bool (nodL (inB l no)), .slice kp (nodC (inB l no)) kc, .slice vp (nodC (inB l no)) vc], .iface t19 (x19)]) ⟨hB'2, hO, k3'6, .inl ⟨by (unfold lookE; (repeat' split) <;> first | rfl | assumption | decide | omega | exact absurd (Eq.trans (Eq.symm ‹hasI _ _ = true›) ‹hasI _ _ = false›) (by decide) | (rename_i q; exact absurd ⟨by assumption, by assumption, by assumption⟩ q) | (rename_i q; obtain ⟨q1, q2, q3⟩ := q; exact absurd (Eq.trans (Eq.symm q1) ‹nodL _ = false›) (by decide)) | (rename_i q; obtain ⟨q1, q2, q3⟩ := q; omega)), _, _, _, _, _, _, _, _, _, _, rfl, by (unfold lookE; (repeat' split) <;> first | exact hv19'1 | (exfalso; omega) | contradiction | exact absurd (Eq.trans (Eq.symm ‹hasI _ _ = true›) ‹hasI _ _ = false›) (by decide) | (rename_i q; exact absurd ⟨by assumption, by assumption, by assumption⟩ q) | (rename_i q; obtain ⟨q1, q2, q3⟩ := q; exact absurd (Eq.trans (Eq.symm q1) ‹nodL _ = false›) (by decide)) | (rename_i q; obtain ⟨q1, q2, q3⟩ := q; omega))⟩⟩
     refine yc 0 (args := #[.int .i64 no, .iface 49 (.int .i64 9)]) (.t B [67]) (fault_At no (some 9) [] _ _ rfl) ?_
     rintro _ W21 ⟨r21, rfl, hb21, hv21⟩
     refine ⟨(SF.of_below _ hb21), ?_⟩
     rw [atL_some] at hv21
     obtain ⟨t21, x21, rfl⟩ := hv21.iface
     have k16'2 := ((k16.below hb17).below (below_drew W17)).below hb21
     refine xlv (.o [] 0) k16'2.rp ?_
     have k2'3 := (((u16.blk (k2.below n15.below) (Ne.symm (Ne.symm d15_b2))).below hb17).below (below_drew W17)).below hb21
     have g2 := n2.ge0 (Bl.nextB (Below.refl B w) hBw n1.below)
     refine ysv (.o [] 4) k2'3 [.int .i64 (nodT (inB l no)), .bool (nodL (inB l no)), .slice kp (nodC (inB l no)) kc, .slice vp (nodC (inB l no)) vc] (.t B [67]) fun W22 u22 k22 => ⟨(sft_upd u22 k2'3 (Nat.le_trans hBw g2) (by decide)), ?_⟩
     have hB'3 := u22.below (Bl.nextB (Bl.nextB (Bl.nextB (u16.below (Bl.nextB hB hBw n15.below) (Nat.le_trans hBw g15)) hBw hb17) hBw (below_drew W17)) hBw hb21) (Nat.le_trans hBw g2)
     have hO := (Only.upd_new ((((Only.upd_new (((((((show Only [74] w _ from (Only.of_below n1.below)).trans (Only.of_below n2.below)).trans (Only.of_upd u3 kW'1 (by decide))).trans (Only.of_below hb4)).trans (Only.of_below (below_drew W4))).trans (Only.of_below hb11)).trans (Only.of_below n15.below)) u16 g15).trans (Only.of_below hb17)).trans (Only.of_below (below_drew W17))).trans (Only.of_below hb21)) u22 g2)
     have k3'7 := u22.blkT ((((u16.blkT ((k3'4.below hb11).below n15.below) n15.blk (by decide)).below hb17).below (below_drew W17)).below hb21) k2'3 (by decide)
     have hv21'1 := hv21.upd u22 k2'3 (by decide)
     exact xec (.r [5] 5) k22 (.tuple #[.agg #[.int .i64 (nodT (inB l no)), .bool (nodL (inB l no)), .slice kp (nodC (inB l no)) kc, .slice vp (nodC (inB l no)) vc], .iface t21 (x21)]) ⟨hB'3, hO, k3'7, .inl ⟨by (unfold lookE; (repeat' split) <;> first | rfl | assumption | decide | omega | exact absurd (Eq.trans (Eq.symm ‹hasI _ _ = true›) ‹hasI _ _ = false›) (by decide) | (rename_i q; exact absurd ⟨by assumption, by assumption, by assumption⟩ q) | (rename_i q; obtain ⟨q1, q2, q3⟩ := q; exact absurd (Eq.trans (Eq.symm q1) ‹nodL _ = false›) (by decide)) | (rename_i q; obtain ⟨q1, q2, q3⟩ := q; omega)), _, _, _, _, _, _, _, _, _, _, rfl, by (unfold lookE; (repeat' split) <;> first | exact hv21'1 | (exfalso; omega) | contradiction | exact absurd (Eq.trans (Eq.symm ‹hasI _ _ = true›) ‹hasI _ _ = false›) (by decide) | (rename_i q; exact absurd ⟨by assumption, by assumption, by assumption⟩ q) | (rename_i q; obtain ⟨q1, q2, q3⟩ := q; exact absurd (Eq.trans (Eq.symm q1) ‹nodL _ = false›) (by decide)) | (rename_i q; obtain ⟨q1, q2, q3⟩ := q; omega))⟩⟩
   refine xd 1 .z ?_
   have k16'3 := (k16.below hb17).below (below_drew W17)
   refine xb (.e [0] 1) 1 k16'3 ?_
   refine xg (.b [2]) [69, 70] (nodL (inB l no)) (fun hc23 => ?_) (fun hc23 => ?_)
   · have k3'8 := ((u16.blkT ((k3'4.below hb11).below n15.below) n15.blk (by decide)).below hb17).below (below_drew W17)
     refine xb (.e [3, 4, 5, 6] 7) 2 k3'8 ?_
     refine xg (.b [8, 9, 10]) [76, 77, 78] (deep != (0 : Int)) (fun hc24 => ?_) (fun hc24 => ?_)
     · have hc24 := ne_of_bne hc24
       refine xb (.e [11, 12, 13, 14] 15) 2 k3'8 ?_
       refine xb (.e [16, 17, 18] 19) 8 k3'8 ?_
       refine xwm (.e [20] 21) ((↑way.length : Int) + 1) (↑(way.length + 1) : Int) ?_
       refine xin (.r [22, 23, 24] 2) deep (↑(way.length + 1) : Int) (fun hc25 => ?_) (fun hc25 => ?_)
       · refine xd 1 (.t B [67]) ?_
         refine xm2 (.b [1, 2]) 0 3 ?_ ?_
         · have k16'4 := k16'3.below (below_drew W17.drew)
           refine xlv 0 k16'4.rp ?_
           refine yc (.o [] 3) (args := #[.int .i64 no, .iface 49 (.int .i64 10)]) (.t B [67]) (fault_At no (some 10) [] _ _ rfl) ?_
           rintro _ W26 ⟨r26, rfl, hb26, hv26⟩
           refine ⟨(SF.of_below _ hb26), ?_⟩
           rw [atL_some] at hv26
           obtain ⟨t26, x26, rfl⟩ := hv26.iface
           have k2'4 := ((((u16.blk (k2.below n15.below) (Ne.symm (Ne.symm d15_b2))).below hb17).below (below_drew W17)).below (below_drew W17.drew)).below hb26
           have g2 := n2.ge0 (Bl.nextB (Below.refl B w) hBw n1.below)
           refine ysv (.o [] 4) k2'4 [.int .i64 (nodT (inB l no)), .bool (nodL (inB l no)), .slice kp (nodC (inB l no)) kc, .slice vp (nodC (inB l no)) vc] (.t B [67]) fun W27 u27 k27 => ⟨(sft_upd u27 k2'4 (Nat.le_trans hBw g2) (by decide)), ?_⟩
           have hB'4 := u27.below (Bl.nextB (Bl.nextB (Bl.nextB (Bl.nextB (u16.below (Bl.nextB hB hBw n15.below) (Nat.le_trans hBw g15)) hBw hb17) hBw (below_drew W17)) hBw (below_drew W17.drew)) hBw hb26) (Nat.le_trans hBw g2)
           have hO := (Only.upd_new (((((Only.upd_new (((((((show Only [74] w _ from (Only.of_below n1.below)).trans (Only.of_below n2.below)).trans (Only.of_upd u3 kW'1 (by decide))).trans (Only.of_below hb4)).trans (Only.of_below (below_drew W4))).trans (Only.of_below hb11)).trans (Only.of_below n15.below)) u16 g15).trans (Only.of_below hb17)).trans (Only.of_below (below_drew W17))).trans (Only.of_below (below_drew W17.drew))).trans (Only.of_below hb26)) u27 g2)
           have k3'9 := u27.blkT ((k3'8.below (below_drew W17.drew)).below hb26) k2'4 (by decide)
           have hv26'1 := hv26.upd u27 k2'4 (by decide)
           exact xec (.r [5] 5) k27 (.tuple #[.agg #[.int .i64 (nodT (inB l no)), .bool (nodL (inB l no)), .slice kp (nodC (inB l no)) kc, .slice vp (nodC (inB l no)) vc], .iface t26 (x26)]) ⟨hB'4, hO, k3'9, .inl ⟨by (unfold lookE; (repeat' split) <;> first | rfl | assumption | decide | omega | exact absurd (Eq.trans (Eq.symm ‹hasI _ _ = true›) ‹hasI _ _ = false›) (by decide) | (rename_i q; exact absurd ⟨by assumption, by assumption, by assumption⟩ q) | (rename_i q; obtain ⟨q1, q2, q3⟩ := q; exact absurd (Eq.trans (Eq.symm q1) ‹nodL _ = false›) (by decide)) | (rename_i q; obtain ⟨q1, q2, q3⟩ := q; omega)), _, _, _, _, _, _, _, _, _, _, rfl, by (unfold lookE; (repeat' split) <;> first | exact hv26'1 | (exfalso; omega) | contradiction | exact absurd (Eq.trans (Eq.symm ‹hasI _ _ = true›) ‹hasI _ _ = false›) (by decide) | (rename_i q; exact absurd ⟨by assumption, by assumption, by assumption⟩ q) | (rename_i q; obtain ⟨q1, q2, q3⟩ := q; exact absurd (Eq.trans (Eq.symm q1) ‹nodL _ = false›) (by decide)) | (rename_i q; obtain ⟨q1, q2, q3⟩ := q; omega))⟩⟩
         refine yc 0 (args := #[.int .i64 no, .iface 49 (.int .i64 10)]) (.t B [67]) (fault_At no (some 10) [] _ _ rfl) ?_
         rintro _ W28 ⟨r28, rfl, hb28, hv28⟩
         refine ⟨(SF.of_below _ hb28), ?_⟩
         rw [atL_some] at hv28
         obtain ⟨t28, x28, rfl⟩ := hv28.iface
         have k16'5 := (k16'3.below (below_drew W17.drew)).below hb28
         refine xlv (.o [] 0) k16'5.rp ?_
         have k2'5 := ((((u16.blk (k2.below n15.below) (Ne.symm (Ne.symm d15_b2))).below hb17).below (below_drew W17)).below (below_drew W17.drew)).below hb28
         have g2 := n2.ge0 (Bl.nextB (Below.refl B w) hBw n1.below)
         refine ysv (.o [] 4) k2'5 [.int .i64 (nodT (inB l no)), .bool (nodL (inB l no)), .slice kp (nodC (inB l no)) kc, .slice vp (nodC (inB l no)) vc] (.t B [67]) fun W29 u29 k29 => ⟨(sft_upd u29 k2'5 (Nat.le_trans hBw g2) (by decide)), ?_⟩
         have hB'5 := u29.below (Bl.nextB (Bl.nextB (Bl.nextB (Bl.nextB (u16.below (Bl.nextB hB hBw n15.below) (Nat.le_trans hBw g15)) hBw hb17) hBw (below_drew W17)) hBw (below_drew W17.drew)) hBw hb28) (Nat.le_trans hBw g2)
         have hO := (Only.upd_new (((((Only.upd_new (((((((show Only [74] w _ from (Only.of_below n1.below)).trans (Only.of_below n2.below)).trans (Only.of_upd u3 kW'1 (by decide))).trans (Only.of_below hb4)).trans (Only.of_below (below_drew W4))).trans (Only.of_below hb11)).trans (Only.of_below n15.below)) u16 g15).trans (Only.of_below hb17)).trans (Only.of_below (below_drew W17))).trans (Only.of_below (below_drew W17.drew))).trans (Only.of_below hb28)) u29 g2)
         have k3'10 := u29.blkT ((k3'8.below (below_drew W17.drew)).below hb28) k2'5 (by decide)
         have hv28'1 := hv28.upd u29 k2'5 (by decide)
         exact xec (.r [5] 5) k29 (.tuple #[.agg #[.int .i64 (nodT (inB l no)), .bool (nodL (inB l no)), .slice kp (nodC (inB l no)) kc, .slice vp (nodC (inB l no)) vc], .iface t28 (x28)]) ⟨hB'5, hO, k3'10, .inl ⟨by (unfold lookE; (repeat' split) <;> first | rfl | assumption | decide | omega | exact absurd (Eq.trans (Eq.symm ‹hasI _ _ = true›) ‹hasI _ _ = false›) (by decide) | (rename_i q; exact absurd ⟨by assumption, by assumption, by assumption⟩ q) | (rename_i q; obtain ⟨q1, q2, q3⟩ := q; exact absurd (Eq.trans (Eq.symm q1) ‹nodL _ = false›) (by decide)) | (rename_i q; obtain ⟨q1, q2, q3⟩ := q; omega)), _, _, _, _, _, _, _, _, _, _, rfl, by (unfold lookE; (repeat' split) <;> first | exact hv28'1 | (exfalso; omega) | contradiction | exact absurd (Eq.trans (Eq.symm ‹hasI _ _ = true›) ‹hasI _ _ = false›) (by decide) | (rename_i q; exact absurd ⟨by assumption, by assumption, by assumption⟩ q) | (rename_i q; obtain ⟨q1, q2, q3⟩ := q; exact absurd (Eq.trans (Eq.symm q1) ‹nodL _ = false›) (by decide)) | (rename_i q; obtain ⟨q1, q2, q3⟩ := q; omega))⟩⟩
       refine xlv 5 k16'3.rp ?_
       have k2'6 := ((u16.blk (k2.below n15.below) (Ne.symm (Ne.symm d15_b2))).below hb17).below (below_drew W17)
       refine xsv 0 k2'6 [.int .i64 (nodT (inB l no)), .bool (nodL (inB l no)), .slice kp (nodC (inB l no)) kc, .slice vp (nodC (inB l no)) vc] fun W30 u30 k30 => ?_
       have g2 := n2.ge0 (Bl.nextB (Below.refl B w) hBw n1.below)
       have hB'6 := u30.below (Bl.nextB (Bl.nextB (u16.below (Bl.nextB hB hBw n15.below) (Nat.le_trans hBw g15)) hBw hb17) hBw (below_drew W17)) (Nat.le_trans hBw g2)
       have hO := (Only.upd_new (((Only.upd_new (((((((show Only [74] w _ from (Only.of_below n1.below)).trans (Only.of_below n2.below)).trans (Only.of_upd u3 kW'1 (by decide))).trans (Only.of_below hb4)).trans (Only.of_below (below_drew W4))).trans (Only.of_below hb11)).trans (Only.of_below n15.below)) u16 g15).trans (Only.of_below hb17)).trans (Only.of_below (below_drew W17))) u30 g2)
       have k3'11 := u30.blkT k3'8 k2'6 (by decide)
       have hk'2 := u30.own2 (own_below (own_below hk'1 hb17) (below_drew W17)) k2'6 (by decide)
       have hv_'1 := u30.own2 (own_below (own_below (u16.own2 (own_below (own_mono hv_ hs11) n15.below) n15.blk (by decide)) hb17) (below_drew W17)) k2'6 (by decide)
       exact xec 4 k30 (.tuple #[.agg #[.int .i64 (nodT (inB l no)), .bool (nodL (inB l no)), .slice kp (nodC (inB l no)) kc, .slice vp (nodC (inB l no)) vc], .nilIface]) ⟨hB'6, hO, k3'11, .inr ⟨by (unfold lookE; (repeat' split) <;> first | rfl | assumption | decide | omega | exact absurd (Eq.trans (Eq.symm ‹hasI _ _ = true›) ‹hasI _ _ = false›) (by decide) | (rename_i q; exact absurd ⟨by assumption, by assumption, by assumption⟩ q) | (rename_i q; obtain ⟨q1, q2, q3⟩ := q; exact absurd (Eq.trans (Eq.symm q1) ‹nodL _ = false›) (by decide)) | (rename_i q; obtain ⟨q1, q2, q3⟩ := q; omega)), by assumption, _, _, _, _, rfl, hk'2, hv_'1⟩⟩
     have hc24 := eq_of_bne_false hc24
     refine xlv (.r [11, 12, 13, 14, 15, 16, 17, 18, 19, 20, 21, 22, 23, 24] 8) k16'3.rp ?_
     have k2'7 := ((u16.blk (k2.below n15.below) (Ne.symm (Ne.symm d15_b2))).below hb17).below (below_drew W17)
     refine xsv 0 k2'7 [.int .i64 (nodT (inB l no)), .bool (nodL (inB l no)), .slice kp (nodC (inB l no)) kc, .slice vp (nodC (inB l no)) vc] fun W31 u31 k31 => ?_
     have g2 := n2.ge0 (Bl.nextB (Below.refl B w) hBw n1.below)
     have hB'7 := u31.below (Bl.nextB (Bl.nextB (u16.below (Bl.nextB hB hBw n15.below) (Nat.le_trans hBw g15)) hBw hb17) hBw (below_drew W17)) (Nat.le_trans hBw g2)
     have hO := (Only.upd_new (((Only.upd_new (((((((show Only [74] w _ from (Only.of_below n1.below)).trans (Only.of_below n2.below)).trans (Only.of_upd u3 kW'1 (by decide))).trans (Only.of_below hb4)).trans (Only.of_below (below_drew W4))).trans (Only.of_below hb11)).trans (Only.of_below n15.below)) u16 g15).trans (Only.of_below hb17)).trans (Only.of_below (below_drew W17))) u31 g2)
     have k3'12 := u31.blkT k3'8 k2'7 (by decide)
     have hk'3 := u31.own2 (own_below (own_below hk'1 hb17) (below_drew W17)) k2'7 (by decide)
     have hv_'2 := u31.own2 (own_below (own_below (u16.own2 (own_below (own_mono hv_ hs11) n15.below) n15.blk (by decide)) hb17) (below_drew W17)) k2'7 (by decide)
     exact xec 4 k31 (.tuple #[.agg #[.int .i64 (nodT (inB l no)), .bool (nodL (inB l no)), .slice kp (nodC (inB l no)) kc, .slice vp (nodC (inB l no)) vc], .nilIface]) ⟨hB'7, hO, k3'12, .inr ⟨by (unfold lookE; (repeat' split) <;> first | rfl | assumption | decide | omega | exact absurd (Eq.trans (Eq.symm ‹hasI _ _ = true›) ‹hasI _ _ = false›) (by decide) | (rename_i q; exact absurd ⟨by assumption, by assumption, by assumption⟩ q) | (rename_i q; obtain ⟨q1, q2, q3⟩ := q; exact absurd (Eq.trans (Eq.symm q1) ‹nodL _ = false›) (by decide)) | (rename_i q; obtain ⟨q1, q2, q3⟩ := q; omega)), by assumption, _, _, _, _, rfl, hk'3, hv_'2⟩⟩
   refine xlv (.r [3, 4, 5, 6, 7, 8, 9, 10, 11, 12, 13, 14, 15, 16, 17, 18, 19, 20, 21, 22, 23, 24] 8) k16'3.rp ?_
   have k2'8 := ((u16.blk (k2.below n15.below) (Ne.symm (Ne.symm d15_b2))).below hb17).below (below_drew W17)
   refine xsv 0 k2'8 [.int .i64 (nodT (inB l no)), .bool (nodL (inB l no)), .slice kp (nodC (inB l no)) kc, .slice vp (nodC (inB l no)) vc] fun W32 u32 k32 => ?_
   have g2 := n2.ge0 (Bl.nextB (Below.refl B w) hBw n1.below)
   have hB'8 := u32.below (Bl.nextB (Bl.nextB (u16.below (Bl.nextB hB hBw n15.below) (Nat.le_trans hBw g15)) hBw hb17) hBw (below_drew W17)) (Nat.le_trans hBw g2)
   have hO := (Only.upd_new (((Only.upd_new (((((((show Only [74] w _ from (Only.of_below n1.below)).trans (Only.of_below n2.below)).trans (Only.of_upd u3 kW'1 (by decide))).trans (Only.of_below hb4)).trans (Only.of_below (below_drew W4))).trans (Only.of_below hb11)).trans (Only.of_below n15.below)) u16 g15).trans (Only.of_below hb17)).trans (Only.of_below (below_drew W17))) u32 g2)
   have k3'13 := u32.blkT (((u16.blkT ((k3'4.below hb11).below n15.below) n15.blk (by decide)).below hb17).below (below_drew W17)) k2'8 (by decide)
   have hk'4 := u32.own2 (own_below (own_below hk'1 hb17) (below_drew W17)) k2'8 (by decide)
   have hv_'3 := u32.own2 (own_below (own_below (u16.own2 (own_below (own_mono hv_ hs11) n15.below) n15.blk (by decide)) hb17) (below_drew W17)) k2'8 (by decide)
   exact xec 4 k32 (.tuple #[.agg #[.int .i64 (nodT (inB l no)), .bool (nodL (inB l no)), .slice kp (nodC (inB l no)) kc, .slice vp (nodC (inB l no)) vc], .nilIface]) ⟨hB'8, hO, k3'13, .inr ⟨by (unfold lookE; (repeat' split) <;> first | rfl | assumption | decide | omega | exact absurd (Eq.trans (Eq.symm ‹hasI _ _ = true›) ‹hasI _ _ = false›) (by decide) | (rename_i q; exact absurd ⟨by assumption, by assumption, by assumption⟩ q) | (rename_i q; obtain ⟨q1, q2, q3⟩ := q; exact absurd (Eq.trans (Eq.symm q1) ‹nodL _ = false›) (by decide)) | (rename_i q; obtain ⟨q1, q2, q3⟩ := q; omega)), by assumption, _, _, _, _, rfl, hk'4, hv_'3⟩⟩
 refine xa 0 [.int .i64 0, .bool false, .slice none 0 0, .slice none 0 0] 67 fun b33 W33 n33 => ?_
 have k2 := ((u3.blkT n2.blk kW'1 (by decide)).below hb4).below (below_drew W4)
 have d33_b2 := n33.ne k2
 have hB := Bl.nextB (Bl.nextB (u3.below (Bl.nextB (Bl.nextB (Below.refl B w) hBw n1.below) hBw n2.below) hBb) hBw hb4) hBw (below_drew W4)
 have hI'2 := (((((hI.below n1.below).below n2.below).only (Only.of_upd (T := [74]) u3 kW'1 (by decide)) (by decide)).below hb4).below (below_drew W4)).below n33.below
 refine yc (.o [] 9) (args := #[.pointer (some ⟨b, 0, none⟩), .int .i64 no, .int .i64 tree]) (.t B [67]) (block_Node Bi b p n c l no tree _ hI'2) ?_
 rintro e W34 hq34
 rcases hq34 with ⟨he, bf, rfl, hb34, hv⟩ | ⟨he, kp, kc, vp, vc, rfl, hb34, hk, hv_⟩
 · refine ⟨(SF.of_below _ hb34), ?_⟩
   have k33 := n33.blk.below hb34
   have g33 := n33.ge0 hB
   refine ysv (.o [10, 11, 12] 14) k33 [.int .i64 0, .bool false, .slice none 0 0, .slice none 0 0] (.t B [67]) fun W35 u35 k35 => ⟨(sft_upd u35 k33 (Nat.le_trans hBw g33) (by decide)), ?_⟩
   refine xlv (.r [15] 14) k35.rp ?_
   have k2'9 := u35.blk ((k2.below n33.below).below hb34) (Ne.symm (Ne.symm d33_b2))
   refine xsv 1 k2'9 [.int .i64 0, .bool false, .slice none 0 0, .slice none 0 0] fun W36 u36 k36 => ?_
   have g2 := n2.ge0 (Bl.nextB (Below.refl B w) hBw n1.below)
   have hB'9 := u36.below (u35.below (Bl.nextB (Bl.nextB hB hBw n33.below) hBw hb34) (Nat.le_trans hBw g33)) (Nat.le_trans hBw g2)
   have hO := (Only.upd_new (Only.upd_new (((((((show Only [74] w _ from (Only.of_below n1.below)).trans (Only.of_below n2.below)).trans (Only.of_upd u3 kW'1 (by decide))).trans (Only.of_below hb4)).trans (Only.of_below (below_drew W4))).trans (Only.of_below n33.below)).trans (Only.of_below hb34)) u35 g33) u36 g2)
   have k3'14 := u36.blkT (u35.blkT ((k3'4.below n33.below).below hb34) k33 (by decide)) k2'9 (by decide)
   have hv'2 := (hv.upd u35 k33 (by decide)).upd u36 k2'9 (by decide)
   exact xec 6 k36 (.tuple #[.agg #[.int .i64 0, .bool false, .slice none 0 0, .slice none 0 0], .iface 112 (.pointer (some ⟨bf, 0, none⟩))]) ⟨hB'9, hO, k3'14, .inl ⟨by (unfold lookE; (repeat' split) <;> first | rfl | assumption | decide | omega | exact absurd (Eq.trans (Eq.symm ‹hasI _ _ = true›) ‹hasI _ _ = false›) (by decide) | (rename_i q; exact absurd ⟨by assumption, by assumption, by assumption⟩ q) | (rename_i q; obtain ⟨q1, q2, q3⟩ := q; exact absurd (Eq.trans (Eq.symm q1) ‹nodL _ = false›) (by decide)) | (rename_i q; obtain ⟨q1, q2, q3⟩ := q; omega)), _, _, _, _, _, _, _, _, _, _, rfl, by (unfold lookE; (repeat' split) <;> first | exact hv'2 | (exfalso; omega) | contradiction | exact absurd (Eq.trans (Eq.symm ‹hasI _ _ = true›) ‹hasI _ _ = false›) (by decide) | (rename_i q; exact absurd ⟨by assumption, by assumption, by assumption⟩ q) | (rename_i q; obtain ⟨q1, q2, q3⟩ := q; exact absurd (Eq.trans (Eq.symm q1) ‹nodL _ = false›) (by decide)) | (rename_i q; obtain ⟨q1, q2, q3⟩ := q; omega))⟩⟩
 have hs34 := (Bl.nextB hB hBw n33.below).size
 refine ⟨(SF.of_below _ hb34), ?_⟩
 have k33 := n33.blk.below hb34
 have g33 := n33.ge0 hB
 refine ysv (.o [10, 11, 12] 14) k33 [.int .i64 (nodT (inB l no)), .bool (nodL (inB l no)), .slice kp (nodC (inB l no)) kc, .slice vp (nodC (inB l no)) vc] (.t B [67]) fun W37 u37 k37 => ⟨(sft_upd u37 k33 (Nat.le_trans hBw g33) (by decide)), ?_⟩
 have k1 := u37.blkT (((((u3.blkT (n1.blk.below n2.below) kW'1 (by decide)).below hb4).below (below_drew W4)).below n33.below).below hb34) k33 (by decide)
 refine xlv (.r [15] 14) k1.rp ?_
 refine xb 1 2 k37 ?_
 have hk'5 := u37.own2 (own_mono hk hs34) k33 (by decide)
 refine xr 0 (args := #[.agg #[.int .i64 lo, .int .i64 hi], .slice kp (nodC (inB l no)) kc]) (span_fits lo hi _ (keysI (inB l no) (nodC (inB l no))) _ (intsN_of (own_sl hk'5) (keysI_len _ _))) fun W38 hb38 => ?_
 refine xin 4 (fitsI lo hi (keysI (inB l no) (nodC (inB l no)))) (0 : Int) (fun hc39 => ?_) (fun hc39 => ?_)
 · refine xd 1 (.t B [67]) ?_
   refine xm2 (.b [1, 2]) 0 3 ?_ ?_
   · have k37'1 := (k37.below hb38).below (below_drew W38)
     refine xlv 0 k37'1.rp ?_
     refine yc (.o [] 3) (args := #[.int .i64 no, .iface 49 (.int .i64 9)]) (.t B [67]) (fault_At no (some 9) [] _ _ rfl) ?_
     rintro _ W40 ⟨r40, rfl, hb40, hv40⟩
     refine ⟨(SF.of_below _ hb40), ?_⟩
     rw [atL_some] at hv40
     obtain ⟨t40, x40, rfl⟩ := hv40.iface
     have k2'10 := (((u37.blk ((k2.below n33.below).below hb34) (Ne.symm (Ne.symm d33_b2))).below hb38).below (below_drew W38)).below hb40
     have g2 := n2.ge0 (Bl.nextB (Below.refl B w) hBw n1.below)
     refine ysv (.o [] 4) k2'10 [.int .i64 (nodT (inB l no)), .bool (nodL (inB l no)), .slice kp (nodC (inB l no)) kc, .slice vp (nodC (inB l no)) vc] (.t B [67]) fun W41 u41 k41 => ⟨(sft_upd u41 k2'10 (Nat.le_trans hBw g2) (by decide)), ?_⟩
     have hB'10 := u41.below (Bl.nextB (Bl.nextB (Bl.nextB (u37.below (Bl.nextB (Bl.nextB hB hBw n33.below) hBw hb34) (Nat.le_trans hBw g33)) hBw hb38) hBw (below_drew W38)) hBw hb40) (Nat.le_trans hBw g2)
     have hO := (Only.upd_new ((((Only.upd_new (((((((show Only [74] w _ from (Only.of_below n1.below)).trans (Only.of_below n2.below)).trans (Only.of_upd u3 kW'1 (by decide))).trans (Only.of_below hb4)).trans (Only.of_below (below_drew W4))).trans (Only.of_below n33.below)).trans (Only.of_below hb34)) u37 g33).trans (Only.of_below hb38)).trans (Only.of_below (below_drew W38))).trans (Only.of_below hb40)) u41 g2)
     have k3'15 := u41.blkT ((((u37.blkT ((k3'4.below n33.below).below hb34) k33 (by decide)).below hb38).below (below_drew W38)).below hb40) k2'10 (by decide)
     have hv40'1 := hv40.upd u41 k2'10 (by decide)
     exact xec (.r [5] 5) k41 (.tuple #[.agg #[.int .i64 (nodT (inB l no)), .bool (nodL (inB l no)), .slice kp (nodC (inB l no)) kc, .slice vp (nodC (inB l no)) vc], .iface t40 (x40)]) ⟨hB'10, hO, k3'15, .inl ⟨by (unfold lookE; (repeat' split) <;> first | rfl | assumption | decide | omega | exact absurd (Eq.trans (Eq.symm ‹hasI _ _ = true›) ‹hasI _ _ = false›) (by decide) | (rename_i q; exact absurd ⟨by assumption, by assumption, by assumption⟩ q) | (rename_i q; obtain ⟨q1, q2, q3⟩ := q; exact absurd (Eq.trans (Eq.symm q1) ‹nodL _ = false›) (by decide)) | (rename_i q; obtain ⟨q1, q2, q3⟩ := q; omega)), _, _, _, _, _, _, _, _, _, _, rfl, by (unfold lookE; (repeat' split) <;> first | exact hv40'1 | (exfalso; omega) | contradiction | exact absurd (Eq.trans (Eq.symm ‹hasI _ _ = true›) ‹hasI _ _ = false›) (by decide) | (rename_i q; exact absurd ⟨by assumption, by assumption, by assumption⟩ q) | (rename_i q; obtain ⟨q1, q2, q3⟩ := q; exact absurd (Eq.trans (Eq.symm q1) ‹nodL _ = false›) (by decide)) | (rename_i q; obtain ⟨q1, q2, q3⟩ := q; omega))⟩⟩
   refine yc 0 (args := #[.int .i64 no, .iface 49 (.int .i64 9)]) (.t B [67]) (fault_At no (some 9) [] _ _ rfl) ?_
   rintro _ W42 ⟨r42, rfl, hb42, hv42⟩
   refine ⟨(SF.of_below _ hb42), ?_⟩
   rw [atL_some] at hv42
   obtain ⟨t42, x42, rfl⟩ := hv42.iface
   have k37'2 := ((k37.below hb38).below (below_drew W38)).below hb42
   refine xlv (.o [] 0) k37'2.rp ?_
   have k2'11 := (((u37.blk ((k2.below n33.below).below hb34) (Ne.symm (Ne.symm d33_b2))).below hb38).below (below_drew W38)).below hb42
   have g2 := n2.ge0 (Bl.nextB (Below.refl B w) hBw n1.below)
   refine ysv (.o [] 4) k2'11 [.int .i64 (nodT (inB l no)), .bool (nodL (inB l no)), .slice kp (nodC (inB l no)) kc, .slice vp (nodC (inB l no)) vc] (.t B [67]) fun W43 u43 k43 => ⟨(sft_upd u43 k2'11 (Nat.le_trans hBw g2) (by decide)), ?_⟩
   have hB'11 := u43.below (Bl.nextB (Bl.nextB (Bl.nextB (u37.below (Bl.nextB (Bl.nextB hB hBw n33.below) hBw hb34) (Nat.le_trans hBw g33)) hBw hb38) hBw (below_drew W38)) hBw hb42) (Nat.le_trans hBw g2)
   have hO := (Only.upd_new ((((Only.upd_new (((((((show Only [74] w _ from (Only.of_below n1.below)).trans (Only.of_below n2.below)).trans (Only.of_upd u3 kW'1 (by decide))).trans (Only.of_below hb4)).trans (Only.of_below (below_drew W4))).trans (Only.of_below n33.below)).trans (Only.of_below hb34)) u37 g33).trans (Only.of_below hb38)).trans (Only.of_below (below_drew W38))).trans (Only.of_below hb42)) u43 g2)
   have k3'16 := u43.blkT ((((u37.blkT ((k3'4.below n33.below).below hb34) k33 (by decide)).below hb38).below (below_drew W38)).below hb42) k2'11 (by decide)
   have hv42'1 := hv42.upd u43 k2'11 (by decide)
   exact xec (.r [5] 5) k43 (.tuple #[.agg #[.int .i64 (nodT (inB l no)), .bool (nodL (inB l no)), .slice kp (nodC (inB l no)) kc, .slice vp (nodC (inB l no)) vc], .iface t42 (x42)]) ⟨hB'11, hO, k3'16, .inl ⟨by (unfold lookE; (repeat' split) <;> first | rfl | assumption | decide | omega | exact absurd (Eq.trans (Eq.symm ‹hasI _ _ = true›) ‹hasI _ _ = false›) (by decide) | (rename_i q; exact absurd ⟨by assumption, by assumption, by assumption⟩ q) | (rename_i q; obtain ⟨q1, q2, q3⟩ := q; exact absurd (Eq.trans (Eq.symm q1) ‹nodL _ = false›) (by decide)) | (rename_i q; obtain ⟨q1, q2, q3⟩ := q; omega)), _, _, _, _, _, _, _, _, _, _, rfl, by (unfold lookE; (repeat' split) <;> first | exact hv42'1 | (exfalso; omega) | contradiction | exact absurd (Eq.trans (Eq.symm ‹hasI _ _ = true›) ‹hasI _ _ = false›) (by decide) | (rename_i q; exact absurd ⟨by assumption, by assumption, by assumption⟩ q) | (rename_i q; obtain ⟨q1, q2, q3⟩ := q; exact absurd (Eq.trans (Eq.symm q1) ‹nodL _ = false›) (by decide)) | (rename_i q; obtain ⟨q1, q2, q3⟩ := q; omega))⟩⟩
 refine xd 1 .z ?_
 have k37'3 := (k37.below hb38).below (below_drew W38)
 refine xb (.e [0] 1) 1 k37'3 ?_
 refine xg (.b [2]) [69, 70] (nodL (inB l no)) (fun hc44 => ?_) (fun hc44 => ?_)
 · have k3'17 := ((u37.blkT ((k3'4.below n33.below).below hb34) k33 (by decide)).below hb38).below (below_drew W38)
   refine xb (.e [3, 4, 5, 6] 7) 2 k3'17 ?_
   refine xg (.b [8, 9, 10]) [76, 77, 78] (deep != (0 : Int)) (fun hc45 => ?_) (fun hc45 => ?_)
   · have hc45 := ne_of_bne hc45
     refine xb (.e [11, 12, 13, 14] 15) 2 k3'17 ?_
     refine xb (.e [16, 17, 18] 19) 8 k3'17 ?_
     refine xwm (.e [20] 21) ((↑way.length : Int) + 1) (↑(way.length + 1) : Int) ?_
     refine xin (.r [22, 23, 24] 2) deep (↑(way.length + 1) : Int) (fun hc46 => ?_) (fun hc46 => ?_)
     · refine xd 1 (.t B [67]) ?_
       refine xm2 (.b [1, 2]) 0 3 ?_ ?_
       · have k37'4 := k37'3.below (below_drew W38.drew)
         refine xlv 0 k37'4.rp ?_
         refine yc (.o [] 3) (args := #[.int .i64 no, .iface 49 (.int .i64 10)]) (.t B [67]) (fault_At no (some 10) [] _ _ rfl) ?_
         rintro _ W47 ⟨r47, rfl, hb47, hv47⟩
         refine ⟨(SF.of_below _ hb47), ?_⟩
         rw [atL_some] at hv47
         obtain ⟨t47, x47, rfl⟩ := hv47.iface
         have k2'12 := ((((u37.blk ((k2.below n33.below).below hb34) (Ne.symm (Ne.symm d33_b2))).below hb38).below (below_drew W38)).below (below_drew W38.drew)).below hb47
         have g2 := n2.ge0 (Bl.nextB (Below.refl B w) hBw n1.below)
         refine ysv (.o [] 4) k2'12 [.int .i64 (nodT (inB l no)), .bool (nodL (inB l no)), .slice kp (nodC (inB l no)) kc, .slice vp (nodC (inB l no)) vc] (.t B [67]) fun W48 u48 k48 => ⟨(sft_upd u48 k2'12 (Nat.le_trans hBw g2) (by decide)), ?_⟩
         have hB'12 := u48.below (Bl.nextB (Bl.nextB (Bl.nextB (Bl.nextB (u37.below (Bl.nextB (Bl.nextB hB hBw n33.below) hBw hb34) (Nat.le_trans hBw g33)) hBw hb38) hBw (below_drew W38)) hBw (below_drew W38.drew)) hBw hb47) (Nat.le_trans hBw g2)
         have hO := (Only.upd_new (((((Only.upd_new (((((((show Only [74] w _ from (Only.of_below n1.below)).trans (Only.of_below n2.below)).trans (Only.of_upd u3 kW'1 (by decide))).trans (Only.of_below hb4)).trans (Only.of_below (below_drew W4))).trans (Only.of_below n33.below)).trans (Only.of_below hb34)) u37 g33).trans (Only.of_below hb38)).trans (Only.of_below (below_drew W38))).trans (Only.of_below (below_drew W38.drew))).trans (Only.of_below hb47)) u48 g2)
         have k3'18 := u48.blkT ((k3'17.below (below_drew W38.drew)).below hb47) k2'12 (by decide)
         have hv47'1 := hv47.upd u48 k2'12 (by decide)
         exact xec (.r [5] 5) k48 (.tuple #[.agg #[.int .i64 (nodT (inB l no)), .bool (nodL (inB l no)), .slice kp (nodC (inB l no)) kc, .slice vp (nodC (inB l no)) vc], .iface t47 (x47)]) ⟨hB'12, hO, k3'18, .inl ⟨by (unfold lookE; (repeat' split) <;> first | rfl | assumption | decide | omega | exact absurd (Eq.trans (Eq.symm ‹hasI _ _ = true›) ‹hasI _ _ = false›) (by decide) | (rename_i q; exact absurd ⟨by assumption, by assumption, by assumption⟩ q) | (rename_i q; obtain ⟨q1, q2, q3⟩ := q; exact absurd (Eq.trans (Eq.symm q1) ‹nodL _ = false›) (by decide)) | (rename_i q; obtain ⟨q1, q2, q3⟩ := q; omega)), _, _, _, _, _, _, _, _, _, _, rfl, by (unfold lookE; (repeat' split) <;> first | exact hv47'1 | (exfalso; omega) | contradiction | exact absurd (Eq.trans (Eq.symm ‹hasI _ _ = true›) ‹hasI _ _ = false›) (by decide) | (rename_i q; exact absurd ⟨by assumption, by assumption, by assumption⟩ q) | (rename_i q; obtain ⟨q1, q2, q3⟩ := q; exact absurd (Eq.trans (Eq.symm q1) ‹nodL _ = false›) (by decide)) | (rename_i q; obtain ⟨q1, q2, q3⟩ := q; omega))⟩⟩
       refine yc 0 (args := #[.int .i64 no, .iface 49 (.int .i64 10)]) (.t B [67]) (fault_At no (some 10) [] _ _ rfl) ?_
       rintro _ W49 ⟨r49, rfl, hb49, hv49⟩
       refine ⟨(SF.of_below _ hb49), ?_⟩
       rw [atL_some] at hv49
       obtain ⟨t49, x49, rfl⟩ := hv49.iface
       have k37'5 := (k37'3.below (below_drew W38.drew)).below hb49
       refine xlv (.o [] 0) k37'5.rp ?_
       have k2'13 := ((((u37.blk ((k2.below n33.below).below hb34) (Ne.symm (Ne.symm d33_b2))).below hb38).below (below_drew W38)).below (below_drew W38.drew)).below hb49
       have g2 := n2.ge0 (Bl.nextB (Below.refl B w) hBw n1.below)
       refine ysv (.o [] 4) k2'13 [.int .i64 (nodT (inB l no)), .bool (nodL (inB l no)), .slice kp (nodC (inB l no)) kc, .slice vp (nodC (inB l no)) vc] (.t B [67]) fun W50 u50 k50 => ⟨(sft_upd u50 k2'13 (Nat.le_trans hBw g2) (by decide)), ?_⟩
       have hB'13 := u50.below (Bl.nextB (Bl.nextB (Bl.nextB (Bl.nextB (u37.below (Bl.nextB (Bl.nextB hB hBw n33.below) hBw hb34) (Nat.le_trans hBw g33)) hBw hb38) hBw (below_drew W38)) hBw (below_drew W38.drew)) hBw hb49) (Nat.le_trans hBw g2)
       have hO := (Only.upd_new (((((Only.upd_new (((((((show Only [74] w _ from (Only.of_below n1.below)).trans (Only.of_below n2.below)).trans (Only.of_upd u3 kW'1 (by decide))).trans (Only.of_below hb4)).trans (Only.of_below (below_drew W4))).trans (Only.of_below n33.below)).trans (Only.of_below hb34)) u37 g33).trans (Only.of_below hb38)).trans (Only.of_below (below_drew W38))).trans (Only.of_below (below_drew W38.drew))).trans (Only.of_below hb49)) u50 g2)
       have k3'19 := u50.blkT ((k3'17.below (below_drew W38.drew)).below hb49) k2'13 (by decide)
       have hv49'1 := hv49.upd u50 k2'13 (by decide)
       exact xec (.r [5] 5) k50 (.tuple #[.agg #[.int .i64 (nodT (inB l no)), .bool (nodL (inB l no)), .slice kp (nodC (inB l no)) kc, .slice vp (nodC (inB l no)) vc], .iface t49 (x49)]) ⟨hB'13, hO, k3'19, .inl ⟨by (unfold lookE; (repeat' split) <;> first | rfl | assumption | decide | omega | exact absurd (Eq.trans (Eq.symm ‹hasI _ _ = true›) ‹hasI _ _ = false›) (by decide) | (rename_i q; exact absurd ⟨by assumption, by assumption, by assumption⟩ q) | (rename_i q; obtain ⟨q1, q2, q3⟩ := q; exact absurd (Eq.trans (Eq.symm q1) ‹nodL _ = false›) (by decide)) | (rename_i q; obtain ⟨q1, q2, q3⟩ := q; omega)), _, _, _, _, _, _, _, _, _, _, rfl, by (unfold lookE; (repeat' split) <;> first | exact hv49'1 | (exfalso; omega) | contradiction | exact absurd (Eq.trans (Eq.symm ‹hasI _ _ = true›) ‹hasI _ _ = false›) (by decide) | (rename_i q; exact absurd ⟨by assumption, by assumption, by assumption⟩ q) | (rename_i q; obtain ⟨q1, q2, q3⟩ := q; exact absurd (Eq.trans (Eq.symm q1) ‹nodL _ = false›) (by decide)) | (rename_i q; obtain ⟨q1, q2, q3⟩ := q; omega))⟩⟩
     refine xlv 5 k37'3.rp ?_
     have k2'14 := ((u37.blk ((k2.below n33.below).below hb34) (Ne.symm (Ne.symm d33_b2))).below hb38).below (below_drew W38)
     refine xsv 0 k2'14 [.int .i64 (nodT (inB l no)), .bool (nodL (inB l no)), .slice kp (nodC (inB l no)) kc, .slice vp (nodC (inB l no)) vc] fun W51 u51 k51 => ?_
     have g2 := n2.ge0 (Bl.nextB (Below.refl B w) hBw n1.below)
     have hB'14 := u51.below (Bl.nextB (Bl.nextB (u37.below (Bl.nextB (Bl.nextB hB hBw n33.below) hBw hb34) (Nat.le_trans hBw g33)) hBw hb38) hBw (below_drew W38)) (Nat.le_trans hBw g2)
     have hO := (Only.upd_new (((Only.upd_new (((((((show Only [74] w _ from (Only.of_below n1.below)).trans (Only.of_below n2.below)).trans (Only.of_upd u3 kW'1 (by decide))).trans (Only.of_below hb4)).trans (Only.of_below (below_drew W4))).trans (Only.of_below n33.below)).trans (Only.of_below hb34)) u37 g33).trans (Only.of_below hb38)).trans (Only.of_below (below_drew W38))) u51 g2)
     have k3'20 := u51.blkT k3'17 k2'14 (by decide)
     have hk'6 := u51.own2 (own_below (own_below hk'5 hb38) (below_drew W38)) k2'14 (by decide)
     have hv_'4 := u51.own2 (own_below (own_below (u37.own2 (own_mono hv_ hs34) k33 (by decide)) hb38) (below_drew W38)) k2'14 (by decide)
     exact xec 4 k51 (.tuple #[.agg #[.int .i64 (nodT (inB l no)), .bool (nodL (inB l no)), .slice kp (nodC (inB l no)) kc, .slice vp (nodC (inB l no)) vc], .nilIface]) ⟨hB'14, hO, k3'20, .inr ⟨by (unfold lookE; (repeat' split) <;> first | rfl | assumption | decide | omega | exact absurd (Eq.trans (Eq.symm ‹hasI _ _ = true›) ‹hasI _ _ = false›) (by decide) | (rename_i q; exact absurd ⟨by assumption, by assumption, by assumption⟩ q) | (rename_i q; obtain ⟨q1, q2, q3⟩ := q; exact absurd (Eq.trans (Eq.symm q1) ‹nodL _ = false›) (by decide)) | (rename_i q; obtain ⟨q1, q2, q3⟩ := q; omega)), by assumption, _, _, _, _, rfl, hk'6, hv_'4⟩⟩
   have hc45 := eq_of_bne_false hc45
   refine xlv (.r [11, 12, 13, 14, 15, 16, 17, 18, 19, 20, 21, 22, 23, 24] 8) k37'3.rp ?_
   have k2'15 := ((u37.blk ((k2.below n33.below).below hb34) (Ne.symm (Ne.symm d33_b2))).below hb38).below (below_drew W38)
   refine xsv 0 k2'15 [.int .i64 (nodT (inB l no)), .bool (nodL (inB l no)), .slice kp (nodC (inB l no)) kc, .slice vp (nodC (inB l no)) vc] fun W52 u52 k52 => ?_
   have g2 := n2.ge0 (Bl.nextB (Below.refl B w) hBw n1.below)
   have hB'15 := u52.below (Bl.nextB (Bl.nextB (u37.below (Bl.nextB (Bl.nextB hB hBw n33.below) hBw hb34) (Nat.le_trans hBw g33)) hBw hb38) hBw (below_drew W38)) (Nat.le_trans hBw g2)
   have hO := (Only.upd_new (((Only.upd_new (((((((show Only [74] w _ from (Only.of_below n1.below)).trans (Only.of_below n2.below)).trans (Only.of_upd u3 kW'1 (by decide))).trans (Only.of_below hb4)).trans (Only.of_below (below_drew W4))).trans (Only.of_below n33.below)).trans (Only.of_below hb34)) u37 g33).trans (Only.of_below hb38)).trans (Only.of_below (below_drew W38))) u52 g2)
   have k3'21 := u52.blkT k3'17 k2'15 (by decide)
   have hk'7 := u52.own2 (own_below (own_below hk'5 hb38) (below_drew W38)) k2'15 (by decide)
   have hv_'5 := u52.own2 (own_below (own_below (u37.own2 (own_mono hv_ hs34) k33 (by decide)) hb38) (below_drew W38)) k2'15 (by decide)
   exact xec 4 k52 (.tuple #[.agg #[.int .i64 (nodT (inB l no)), .bool (nodL (inB l no)), .slice kp (nodC (inB l no)) kc, .slice vp (nodC (inB l no)) vc], .nilIface]) ⟨hB'15, hO, k3'21, .inr ⟨by (unfold lookE; (repeat' split) <;> first | rfl | assumption | decide | omega | exact absurd (Eq.trans (Eq.symm ‹hasI _ _ = true›) ‹hasI _ _ = false›) (by decide) | (rename_i q; exact absurd ⟨by assumption, by assumption, by assumption⟩ q) | (rename_i q; obtain ⟨q1, q2, q3⟩ := q; exact absurd (Eq.trans (Eq.symm q1) ‹nodL _ = false›) (by decide)) | (rename_i q; obtain ⟨q1, q2, q3⟩ := q; omega)), by assumption, _, _, _, _, rfl, hk'7, hv_'5⟩⟩
 refine xlv (.r [3, 4, 5, 6, 7, 8, 9, 10, 11, 12, 13, 14, 15, 16, 17, 18, 19, 20, 21, 22, 23, 24] 8) k37'3.rp ?_
 have k2'16 := ((u37.blk ((k2.below n33.below).below hb34) (Ne.symm (Ne.symm d33_b2))).below hb38).below (below_drew W38)
 refine xsv 0 k2'16 [.int .i64 (nodT (inB l no)), .bool (nodL (inB l no)), .slice kp (nodC (inB l no)) kc, .slice vp (nodC (inB l no)) vc] fun W53 u53 k53 => ?_
 have g2 := n2.ge0 (Bl.nextB (Below.refl B w) hBw n1.below)
 have hB'16 := u53.below (Bl.nextB (Bl.nextB (u37.below (Bl.nextB (Bl.nextB hB hBw n33.below) hBw hb34) (Nat.le_trans hBw g33)) hBw hb38) hBw (below_drew W38)) (Nat.le_trans hBw g2)
 have hO := (Only.upd_new (((Only.upd_new (((((((show Only [74] w _ from (Only.of_below n1.below)).trans (Only.of_below n2.below)).trans (Only.of_upd u3 kW'1 (by decide))).trans (Only.of_below hb4)).trans (Only.of_below (below_drew W4))).trans (Only.of_below n33.below)).trans (Only.of_below hb34)) u37 g33).trans (Only.of_below hb38)).trans (Only.of_below (below_drew W38))) u53 g2)
 have k3'22 := u53.blkT (((u37.blkT ((k3'4.below n33.below).below hb34) k33 (by decide)).below hb38).below (below_drew W38)) k2'16 (by decide)
 have hk'8 := u53.own2 (own_below (own_below hk'5 hb38) (below_drew W38)) k2'16 (by decide)
 have hv_'6 := u53.own2 (own_below (own_below (u37.own2 (own_mono hv_ hs34) k33 (by decide)) hb38) (below_drew W38)) k2'16 (by decide)
 exact xec 4 k53 (.tuple #[.agg #[.int .i64 (nodT (inB l no)), .bool (nodL (inB l no)), .slice kp (nodC (inB l no)) kc, .slice vp (nodC (inB l no)) vc], .nilIface]) ⟨hB'16, hO, k3'22, .inr ⟨by (unfold lookE; (repeat' split) <;> first | rfl | assumption | decide | omega | exact absurd (Eq.trans (Eq.symm ‹hasI _ _ = true›) ‹hasI _ _ = false›) (by decide) | (rename_i q; exact absurd ⟨by assumption, by assumption, by assumption⟩ q) | (rename_i q; obtain ⟨q1, q2, q3⟩ := q; exact absurd (Eq.trans (Eq.symm q1) ‹nodL _ = false›) (by decide)) | (rename_i q; obtain ⟨q1, q2, q3⟩ := q; omega)), by assumption, _, _, _, _, rfl, hk'8, hv_'6⟩⟩
end Go.Proofs.YtolblnjohaooaaaGreat
namespace Go.Proofs.YtolblnjohaooaaaGreat
open Go.RowKit Go.Extern.Stop Go.Stop Go.Extern
set_option linter.unusedVariables false
attribute [local irreducible] wpList wpAnyH Code.wp Oper.wp Go

/-- a leaf's first k entries -/
def leafL (K : List Int) (Vs : List (List UInt8)) (no : Int) (k : Nat) : List Ent := (List.range k).map fun j => (K.getD j 0, Vs.getD j [], no)
theorem leafL_len (K : List Int) (Vs : List (List UInt8)) (no : Int) (k : Nat) : (leafL K Vs no k).length = k := by simp [leafL]
theorem leafL_snoc (K : List Int) (Vs : List (List UInt8)) (no : Int) (k : Nat) : leafL K Vs no (k + 1) = leafL K Vs no k ++ [(K.getD k 0, Vs.getD k [], no)] := by simp [leafL, List.range_succ]
theorem leaf_row (es : List Ent) (K : List Int) (Vs : List (List UInt8)) (no : Int) (k : Nat) : (es ++ leafL K Vs no k).flatMap entC ++ [.int .i64 (K.getD k 0), .string ⟨(Vs.getD k []).toArray⟩, .int .i64 no] = (es ++ leafL K Vs no (k + 1)).flatMap entC := by
  rw [leafL_snoc, ← List.append_assoc, List.flatMap_append (xs := es ++ leafL K Vs no k)]
  rfl
def LeafP (B bw : Nat) (c1 c3 c4 c5 c6 c7 : Value) (pw : Option Addr) (cw : Nat) (way : List Int) (c9 : Value) (es : List Ent) (K : List Int) (Vs : List (List UInt8)) (no : Int) (n : Nat) (w : World) (e : Ending) (w' : World) : Prop :=
  ∃ u pe ce, e = .returned u ∧ Below B w w' ∧ Only [74, 26] w w' ∧ Blk w' bw [.slice pe (es.length + n) ce, c1, .int .i64 (↑(way.length + 1) : Int), c3, c4, c5, c6, c7, .slice pw way.length cw, c9] 74 ∧ w'.ownsRow B 26 3 (.slice pe (es.length + n) ce) (es.length + n) ((es ++ leafL K Vs no n).flatMap entC)
set_option maxRecDepth 100000 in
set_option maxHeartbeats 4000000 in
theorem walker_leaf (B bw : Nat) (c1 c2 c3 c4 c5 c6 c7 c9 : Value) (pe : Option Addr) (ce : Nat) (es : List Ent) (pw : Option Addr) (cw : Nat) (way : List Int) (no : Int) (nt : Int) (nl : Bool) (kp vp : Option Addr) (n kc vc : Nat) (K : List Int) (Vs : List (List UInt8)) (w : World) (hBb : B ≤ bw) (hBw : B ≤ w.heap.size) (kW : Blk w bw [.slice pe es.length ce, c1, c2, c3, c4, c5, c6, c7, .slice pw way.length cw, c9] 74) (hE : w.ownsRow B 26 3 (.slice pe es.length ce) es.length (es.flatMap entC)) (hKs : ∀ W, Below B w W → Only [74, 26] w W → Sl W (.slice kp n kc) n (K.map (Value.int .i64))) (hVs : ∀ W, Below B w W → Only [74, 26] w W → Sl W (.slice vp n vc) n (Vs.map sv)) (hKl : K.length = n) (hVl : Vs.length = n) (hwl : way.length ≤ 1000000) (hn : es.length + n ≤ 1000000) :
    Calls Tryz.prog 45 #[.pointer (some ⟨bw, 0, none⟩), .int .i64 no, .agg #[.int .i64 nt, .bool nl, .slice kp n kc, .slice vp n vc]] w (LeafP B bw c1 c3 c4 c5 c6 c7 pw cw way c9 es K Vs no n w) := by
 refine zin 46 Tryz.func45 ?_
 refine xa 2 [.int .i64 nt, .bool nl, .slice kp n kc, .slice vp n vc] 67 fun b1 W1 n1 => ?_
 have kW'1 := kW.below n1.below
 refine xb 8 8 kW'1 ?_
 refine xwm 1 ((↑way.length : Int) + 1) (↑(way.length + 1) : Int) ?_
 refine xs 3 kW'1 [.slice pe es.length ce, c1, .int .i64 (↑(way.length + 1) : Int), c3, c4, c5, c6, c7, .slice pw way.length cw, c9] fun W2 u2 k2 => ?_
 have k1 := u2.blkT n1.blk kW'1 (by decide)
 refine xb 5 2 k1 ?_
 have hE'1 := u2.own2 (own_below hE n1.below) kW'1 (by decide)
 have hB := u2.below (Bl.nextB (Below.refl B w) hBw n1.below) hBb
 have hO := (show Only [74, 26] w _ from (Only.of_below n1.below)).trans (Only.of_upd u2 kW'1 (by decide))
 refine zl 5 46 (fun zm zkv V => ∃ (i : Nat) (pe : Option Addr) (ce : Nat), zkv = [(0, .pointer (some ⟨bw, 0, none⟩)), (1, .int .i64 no), (5, .pointer (some ⟨b1, 0, none⟩)), (19, .slice kp n kc), (20, .int .i64 (↑n : Int)), (21, .int .i64 (↑i : Int))] ∧ zm = n - ((↑i : Int)).toNat ∧ Below B w V ∧ Only [74, 26] w V ∧ Blk V bw ([.slice pe (es.length + i) ce, c1, .int .i64 (↑(way.length + 1) : Int), c3, c4, c5, c6, c7, .slice pw way.length cw, c9]) 74 ∧ Blk V b1 ([.int .i64 nt, .bool nl, .slice kp n kc, .slice vp n vc]) 67 ∧ V.ownsRow B 26 3 (.slice pe (es.length + i) ce) (es.length + i) ((es ++ leafL K Vs no i).flatMap entC) ∧ i ≤ n) ⟨0, _, _, rfl, rfl, hB, hO, k2, k1, (by simpa [leafL] using hE'1), Nat.zero_le _⟩ ?_
 rintro _ _ W3 ⟨i, pe, ce, rfl, rfl, hB_3, hO_3, k3_bw, k3_b1, hE, hi⟩ J3 hJ3 r3
 refine xid 6 ((↑i : Int) < (↑n : Int)) (fun hc4 => ?_) (fun hc4 => ?_)
 · refine xx 7 _ n i 1 (IntsN.elem (hKs _ hB_3 hO_3) hKl (k := i) (by omega)).1 ?_
   refine xl 0 ((IntsN.elem (hKs _ hB_3 hO_3) hKl (k := i) (by omega)).2) ?_
   refine xd 4 (.t B [74, 26]) ?_
   have k3_b1'1 := k3_b1.below (below_drew W3)
   refine xbt (.e [0, 1, 2, 3, 4, 6, 7] 8) 3 B [74, 26] k3_b1'1 ?_
   have hB'1 := Bl.nextB hB_3 hBw (below_drew W3)
   have hO'1 := hO_3.trans (Only.of_below (below_drew W3))
   refine xx (.e [9] 10) _ n i 1 (Strs.elem (hVs _ hB'1 hO'1) hVl (k := i) (by omega)).1 ?_
   refine xlt (.e [] 11) (.t B [74, 26]) (fun V hV => (Strs.elem (hVs _ (sft_keep hB'1 hV hBw) (hO'1.trans hV.2)) hVl (k := i) (by omega)).2) ?_
   refine xm2 (.b [12, 13]) 5 14 ?_ ?_
   · have k3_bw'1 := k3_bw.below (below_drew W3)
     refine xb 0 0 k3_bw'1 ?_
     refine xbs (.o [] 14) 1 [.int .i64 (K.getD i 0), .string ⟨(Vs.getD i []).toArray⟩, .int .i64 no] 26 fun b5 W5 n5 => ?_
     have g5 := n5.ge0 hB'1
     have hE'2 := own_below hE (below_drew W3)
     have r5_hE := own_ne hE'2 n5
     have hE'3 := own_below hE'2 n5.below
     have hB'2 := Bl.nextB hB'1 hBw n5.below
     refine ybi (.o [] 15) (.t B [74, 26]) fun _ _ _ _ zJ zQ zo zx zy zK => op_app (m := 1) (news := [.int .i64 (K.getD i 0), .string ⟨(Vs.getD i []).toArray⟩, .int .i64 no]) (.agg #[.int .i64 0, .string ⟨#[]⟩, .int .i64 0]) 3 32 ((es.length + (i + 1))) (((es ++ leafL K Vs no (i + 1)).flatMap entC)) zo Tryz.underlying23 (by kernel_rfl) rfl (by decide) zx hE'3 zy (n5.blk.sl 1 1 (by decide) (by decide)) rfl (by simp [Value.oneCell']) (by unfold maxLen; omega) (by omega) (Nat.le_trans hBw hB'2.size) (by omega) (leaf_row _ _ _ _ _) fun px6 cx6 W6 o6 hg6 hb6 => ?_
     refine zK _ _ (sft_grown hb6 hg6 hE'3 (by decide)) ?_
     have k3_bw'2 := (k3_bw'1.below n5.below).grown hg6 hE'3 (by decide)
     refine ys (.o [16, 17, 18] 19) k3_bw'2 [.slice px6 (es.length + (i + 1)) cx6, c1, .int .i64 (↑(way.length + 1) : Int), c3, c4, c5, c6, c7, .slice pw way.length cw, c9] (.t B [74, 26]) fun W7 u7 k7 => ⟨(sft_upd u7 k3_bw'2 hBb (by decide)), ?_⟩
     refine xwm 4 ((↑i : Int) + 1) (↑(i + 1) : Int) ?_
     have hB'3 := u7.below (hB'2.trans hb6) hBb
     have hO'2 := ((hO'1.trans (Only.of_below n5.below)).trans (Only.of_grown hg6 hE'3 (by decide))).trans (Only.of_upd u7 k3_bw'2 (by decide))
     have k3_b1'2 := u7.blkT ((k3_b1'1.below n5.below).grown hg6 hE'3 (by decide)) k3_bw'2 (by decide)
     have o6'1 := u7.own2 o6 k3_bw'2 (by decide)
     exact ze 2 (hJ3 _ _ _ ⟨i + 1, _, _, rfl, rfl, hB'3, hO'2, k7, k3_b1'2, o6'1, by omega⟩ (by omega))
   refine xbs 0 1 [.int .i64 (K.getD i 0), .string ⟨(Vs.getD i []).toArray⟩, .int .i64 no] 26 fun b8 W8 n8 => ?_
   have g8 := n8.ge0 hB'1
   have hE'4 := own_below hE (below_drew W3)
   have r8_hE := own_ne hE'4 n8
   have k3_bw'3 := (k3_bw.below (below_drew W3)).below n8.below
   refine xb (.o [] 5) 0 k3_bw'3 ?_
   have hE'5 := own_below hE'4 n8.below
   have hB'4 := Bl.nextB hB'1 hBw n8.below
   refine ybi (.o [] 15) (.t B [74, 26]) fun _ _ _ _ zJ zQ zo zx zy zK => op_app (m := 1) (news := [.int .i64 (K.getD i 0), .string ⟨(Vs.getD i []).toArray⟩, .int .i64 no]) (.agg #[.int .i64 0, .string ⟨#[]⟩, .int .i64 0]) 3 32 ((es.length + (i + 1))) (((es ++ leafL K Vs no (i + 1)).flatMap entC)) zo Tryz.underlying23 (by kernel_rfl) rfl (by decide) zx hE'5 zy (n8.blk.sl 1 1 (by decide) (by decide)) rfl (by simp [Value.oneCell']) (by unfold maxLen; omega) (by omega) (Nat.le_trans hBw hB'4.size) (by omega) (leaf_row _ _ _ _ _) fun px9 cx9 W9 o9 hg9 hb9 => ?_
   refine zK _ _ (sft_grown hb9 hg9 hE'5 (by decide)) ?_
   have k3_bw'4 := k3_bw'3.grown hg9 hE'5 (by decide)
   refine ys (.o [16, 17, 18] 19) k3_bw'4 [.slice px9 (es.length + (i + 1)) cx9, c1, .int .i64 (↑(way.length + 1) : Int), c3, c4, c5, c6, c7, .slice pw way.length cw, c9] (.t B [74, 26]) fun W10 u10 k10 => ⟨(sft_upd u10 k3_bw'4 hBb (by decide)), ?_⟩
   refine xwm 4 ((↑i : Int) + 1) (↑(i + 1) : Int) ?_
   have hB'5 := u10.below (hB'4.trans hb9) hBb
   have hO'3 := ((hO'1.trans (Only.of_below n8.below)).trans (Only.of_grown hg9 hE'5 (by decide))).trans (Only.of_upd u10 k3_bw'4 (by decide))
   have k3_b1'3 := u10.blkT ((k3_b1'1.below n8.below).grown hg9 hE'5 (by decide)) k3_bw'4 (by decide)
   have o9'1 := u10.own2 o9 k3_bw'4 (by decide)
   exact ze 2 (hJ3 _ _ _ ⟨i + 1, _, _, rfl, rfl, hB'5, hO'3, k10, k3_b1'3, o9'1, by omega⟩ (by omega))
 refine xe 4 (.tuple #[]) ?_
 obtain rfl : i = n := by omega
 exact ⟨_, _, _, rfl, hB_3, hO_3, k3_bw, hE⟩
end Go.Proofs.YtolblnjohaooaaaGreat
namespace Go.Proofs.YtolblnjohaooaaaGreat
open Go.RowKit Go.Extern.Stop Go.Stop Go.Extern
set_option linter.unusedVariables false
/-- two rows lie apart -/
def Apart (u v : Value) : Prop := ∀ j, u.ownBlock = some j → v.ownBlock ≠ some j
theorem Apart.symm {u v : Value} (h : Apart u v) : Apart v u := fun j h1 h2 => h j h2 h1
theorem Apart.grow {w : World} {u v u' : Value} {base e size n : Nat} {xs : List Value} (h : Apart u v) (k : w.ownsRow base e size v n xs) (hl : u'.ownBlock = u.ownBlock ∨ u'.ownBlock = some w.heap.size) : Apart u' v := by
  rintro j h1 h2
  rcases hl with hl | hl
  · exact h j (hl ▸ h1) h2
  · rw [hl, Option.some.injEq] at h1
    subst h1
    have := (k.lt _ h2).2
    omega
theorem Apart.row {w W : World} {u v : Value} {base e size n : Nat} {xs : List Value} (h : Apart u v) (k : w.ownsRow base e size v n xs) (hg : w.grownBy W u.ownBlock) : W.ownsRow base e size v n xs := by
  obtain ⟨h1, h2⟩ := k
  refine ⟨h1, ?_⟩
  rcases h2 with h2 | ⟨g, cap, cur, rfl, hb, hh, r⟩
  · exact Or.inl h2
  · exact Or.inr ⟨g, cap, cur, rfl, hb, (hg.block g (Array.getElem?_eq_some_iff.1 hh).1 (fun q => h g q.symm rfl)).trans hh, r⟩
theorem Apart.of_lt {w W : World} {u v : Value} {base base2 e e2 size size2 n n2 : Nat} {xs ys : List Value} (k : w.ownsRow base e size u n xs) (q : W.ownsRow base2 e2 size2 v n2 ys) (h : w.heap.size ≤ base2) : Apart u v := fun j h1 h2 => by
  have := (k.lt j h1).2
  have := (q.lt j h2).1
  omega
theorem Apart.nil (v : Value) : Apart (.slice none 0 0) v := fun j h => by cases h
/-- a row cut short at its end is a row -/
theorem own_cut {w : World} {base e n m c : Nat} {p : Option Addr} {xs : List Value} (k : w.ownsRow base e 1 (.slice p n c) n xs) (hm : m ≤ n) (hp : p.isSome = true) : w.ownsRow base e 1 (.slice p m c) m (xs.take m) := by
  obtain ⟨h1, h2⟩ := k
  refine ⟨by rw [List.length_take]; omega, ?_⟩
  rcases h2 with ⟨h2, _⟩ | ⟨g, cap, cur, hv, hb, hh, hc, hr1, hr2, hr3⟩
  · cases h2; cases hp
  · simp only [Value.slice.injEq] at hv
    obtain ⟨rfl, _, rfl⟩ := hv
    refine Or.inr ⟨g, c, cur, rfl, hb, hh, by omega, hr1, hr2, ?_⟩
    rw [← hr3, List.take_take]
    congr 1
    omega
theorem op_app_at {P : Program} {a : Act} {w : World} {K : Act → World → Prop} {Q : Exit → Act → World → Prop} {o : Oper} {s x : Operand} {t e te : TypeId} {base : Nat} {v : Value} {n : Nat} {xs : List Value} {b m c : Nat} {news : List Value} (z : Value) (size bytes n' : Nat) (xs' : List Value)
    (ho : o.op = .call { callee := .builtin .append, args := #[s, x], argTypes := #[t, t] }) (ht : P.underlying t = some (.slice e)) (hi : (P.info? e).map (fun i => (i.zero, i.size, i.bytes)) = some (some z, size, bytes)) (hzs : z.cells.size = size) (hsz : 0 < size) (hs : a.eval s = v)
    (hown : w.ownsRow base e size v n xs) (hx : a.eval x = .slice (some ⟨b, 0, none⟩) m c) (hnew : Blk w b news te) (hl : news.length = m * size) (h1 : ∀ u ∈ news, u.oneCell' = true) (h63 : n + m ≤ maxLen) (hbytes : (n + m) * bytes ≤ 140737488355328) (hbase : base ≤ w.heap.size) (hn : n + m = n') (hxs : xs ++ news = xs')
    (h : ∀ p c W, W.ownsRow base e size (.slice p n' c) n' xs' → w.grownBy W v.ownBlock → Below base w W → ((Value.slice p n' c).ownBlock = v.ownBlock ∨ (Value.slice p n' c).ownBlock = some w.heap.size) → K (a.put o.dst (.slice p n' c)) W) : o.wp P a w K Q := by
  cases hq : P.info? e with
  | none => simp [hq] at hi
  | some i =>
    simp only [hq, Option.map_some, Option.some.injEq, Prod.mk.injEq] at hi
    have hc : ∀ j u, news[j]? = some u → w.cell? ((⟨b, 0, none⟩ : Addr).add j) = some u := fun j u hj => by
      have hc := hnew.cell hj
      by_cases h0 : j = 0
      · subst h0; simpa [Addr.add] using hc
      · simpa [Addr.add, h0] using hc
    obtain ⟨v', W, hr, h2, h3, _, h5⟩ := run_append_own_at (P := P) w base t o.type e i z size bytes ht hq hi.1 hi.2.1 hi.2.2 hzs hsz v n xs hown ⟨b, 0, none⟩ m c news hl hc h1 h63 hbytes hbase
    subst hn hxs
    obtain ⟨p, c2, rfl⟩ := (own_sl h2).slice
    unfold Oper.wp execOp
    simp only [ho, resolve, invoke, builtin, Sem.run_bind, Sem.run_pure, Result.andThen_ok, List.map_toArray, List.map_cons, List.map_nil, hs, hx, hr]
    exact h p c2 W h2 h3 (grown_below h3 hown (Nat.le_refl _) hbase) h5
end Go.Proofs.YtolblnjohaooaaaGreat
namespace Go.Proofs.YtolblnjohaooaaaGreat
open Go.RowKit Go.Extern.Stop Go.Stop Go.Extern
set_option linter.unusedVariables false
section
variable {P : Program} {a : Act} {w : World} {K : Act → World → Prop} {Q : Exit → Act → World → Prop}
theorem strCells_bv (l : List UInt8) : Lib.strCells ⟨l.toArray⟩ = l.map bv := by
  unfold Lib.strCells bv
  simp
theorem op_appS {o : Oper} {s x : Operand} {t u e : TypeId} {base : Nat} {v : Value} {n : Nat} {xs : List Value} (l : List UInt8) (n' : Nat) (xs' : List Value) (ho : o.op = .call { callee := .builtin .append, args := #[s, x], argTypes := #[t, u] })
    (ht : P.underlying t = some (.slice e)) (hu : P.underlying u = some .string) (hi : (P.info? e).map (fun i => (i.zero, i.size, i.bytes)) = some (some (.int .u8 0), 1, 1)) (hs : a.eval s = v) (hown : w.ownsRow base e 1 v n xs) (hx : a.eval x = .string ⟨l.toArray⟩)
    (hb : n + l.length ≤ 100000000) (hbase : base ≤ w.heap.size) (hn : n + l.length = n') (hxs : xs ++ l.map bv = xs')
    (h : ∀ b c W, W.ownsRow base e 1 (.slice b n' c) n' xs' → w.grownBy W v.ownBlock → Below base w W → K (a.put o.dst (.slice b n' c)) W) : o.wp P a w K Q := by
  cases hq : P.info? e with
  | none => simp [hq] at hi
  | some i =>
    simp only [hq, Option.map_some, Option.some.injEq, Prod.mk.injEq] at hi
    have hsz : (⟨l.toArray⟩ : ByteArray).size = l.length := by simp [ByteArray.size]
    obtain ⟨v', W, hr, h2, h3, _⟩ := Lib.run_append_own_string (P := P) w base t u o.type e i ht hu hq hi.1 hi.2.1 hi.2.2 v n xs hown ⟨l.toArray⟩ (by rw [hsz]; unfold maxLen; omega) (by rw [hsz]; omega) hbase
    rw [hsz, strCells_bv] at h2
    subst hn hxs
    obtain ⟨b, c, rfl⟩ := (own_sl h2).slice
    unfold Oper.wp execOp
    simp only [ho, resolve, invoke, builtin, Sem.run_bind, Sem.run_pure, Result.andThen_ok, List.map_toArray, List.map_cons, List.map_nil, hs, hx, hr]
    exact h b c W h2 h3 (grown_below h3 hown (Nat.le_refl _) hbase)
theorem elemAddr_own (g k : Nat) : elemAddr (some ⟨g, 0, none⟩) (k * 1) = ⟨g, k, none⟩ := by
  simp [elemAddr, Addr.add]; exact fun h => h.symm
theorem op_storeRow {o : Oper} {t e : TypeId} {x y : Operand} {g n c k base : Nat} {xs : List Value} {v : Value} (ho : o.op = .store t x y) (hx : a.eval x = .pointer (some (elemAddr (some ⟨g, 0, none⟩) (k * 1)))) (hy : a.eval y = v)
    (hi : (P.info? t).map (·.size) = some 1) (h1 : v.oneCell' = true) (hown : w.ownsRow base e 1 (.slice (some ⟨g, 0, none⟩) n c) n xs) (hk : k < n)
    (h : ∀ W, Upd w g W → W.ownsRow base e 1 (.slice (some ⟨g, 0, none⟩) n c) n (xs.set k v) → K (a.put o.dst undef) W) : o.wp P a w K Q := by
  obtain ⟨hl, h2⟩ := hown
  rcases h2 with ⟨h2, _⟩ | ⟨g', cap, cur, hv, hg, hh, hc, hm, hsz, htk⟩
  · cases h2
  · simp only [Value.slice.injEq, Option.some.injEq, Addr.mk.injEq] at hv
    obtain ⟨⟨rfl, _⟩, _, rfl⟩ := hv
    have hb : Blk w g cur.toList e := by unfold Blk; simpa using hh
    rw [elemAddr_own] at hx
    refine op_store ho hx hy hi h1 hb (by simp; omega) fun W hu hW => h W hu ⟨by simpa using hl, .inr ⟨g, c, (cur.toList.set k v).toArray, rfl, hg, hW, hc, hm, by simpa using hsz, ?_⟩⟩
    rw [← htk]
    simp [List.take_set]
end
section
variable {P : Program} {ops : Array Oper} {Q : Exit → Act → World → Prop} {a a' : Act} {w : World} {S : World → Prop} {md : Region.Mode} {L L' : Array Bool} {fuel : Nat}
theorem h_three {o o2 o3 : Oper} (i j m fuel : Nat) {f0 : Nat} (hf : f0 = fuel + 1) (hr : Region.ready md ops L = [i, j, m]) (ho : ops.toList[i]? = some o) (ho2 : ops.toList[j]? = some o2) (ho3 : ops.toList[m]? = some o3) (hw : Region.wanted o (yielded ops a.tmps) = true) (hw2 : Region.wanted o2 (yielded ops a.tmps) = true) (hw3 : Region.wanted o3 (yielded ops a.tmps) = true)
    (h : o.wp P a w (fun a' w' => S w' ∧ wpAnyH P md ops Q S fuel (L.setIfInBounds i true) a' w') Q) (h2 : o2.wp P a w (fun a' w' => S w' ∧ wpAnyH P md ops Q S fuel (L.setIfInBounds j true) a' w') Q) (h3 : o3.wp P a w (fun a' w' => S w' ∧ wpAnyH P md ops Q S fuel (L.setIfInBounds m true) a' w') Q) : wpAnyH P md ops Q S f0 L a w := by
  subst hf
  refine wpAnyH_all hr (by simp) fun k hk => ?_
  have ho' : ops[i]? = some o := by rw [← ho]; simp
  have ho2' : ops[j]? = some o2 := by rw [← ho2]; simp
  have ho3' : ops[m]? = some o3 := by rw [← ho3]; simp
  rcases List.mem_cons.1 hk with rfl | hk
  · unfold wpOp; simp only [ho', hw, if_true]; exact .inl h
  · rcases List.mem_cons.1 hk with rfl | hk
    · unfold wpOp; simp only [ho2', hw2, if_true]; exact .inl h2
    · obtain rfl : k = m := by simpa using hk
      unfold wpOp; simp only [ho3', hw3, if_true]; exact .inl h3
end
theorem res_tc {P : Program} {fn : Func} {tmps : Array Value} {w : World} {k j : Nat} {t : TypeId} {b off : Nat} {cs : List Value} {d : TypeDesc} {u : Value} (hfn : fn.results = #[.tmp j, .cell k t]) (e : tmps.getD k undef = .pointer (some ⟨b, off, none⟩)) (e2 : tmps.getD j undef = u) (hc : w.rangeAt b off cs)
    (hu : P.underlying t = some d) (hd : d.isRow = true) (hi : (P.info? t).map (·.size) = some cs.length) : (results fn tmps).run P w = .ok (.tuple #[u, .agg cs.toArray]) w := by
  have h := run_loadVar_mid w b off t cs d hc hu hd hi
  have e' : tmps[k]?.getD undef = .pointer (some ⟨b, off, none⟩) := by simpa using e
  have e2' : tmps[j]?.getD undef = u := by simpa using e2
  simp [results, hfn, e', e2', asAddr, h]
theorem own_ge {w : World} {base e size g n c : Nat} {xs : List Value} (h : w.ownsRow base e size (.slice (some ⟨g, 0, none⟩) n c) n xs) : base ≤ g := (h.lt g rfl).1
theorem own_blk {w : World} {base e size g n c : Nat} {xs : List Value} (h : w.ownsRow base e size (.slice (some ⟨g, 0, none⟩) n c) n xs) : ∃ cs, Blk w g cs e := by
  rcases h.2 with ⟨h2, _⟩ | ⟨g', cap, cur, hv, hg, hh, _⟩
  · cases h2
  · simp only [Value.slice.injEq, Option.some.injEq, Addr.mk.injEq] at hv
    obtain ⟨⟨rfl, _⟩, _⟩ := hv
    exact ⟨cur.toList, by unfold Blk; simpa using hh⟩
theorem own_blk_ne {w : World} {base e size g n c b : Nat} {t : TypeId} {xs cs : List Value} (k : Blk w b cs t) (h : w.ownsRow base e size (.slice (some ⟨g, 0, none⟩) n c) n xs) (hne : t ≠ e) : b ≠ g := by
  rintro rfl
  obtain ⟨cs', k'⟩ := own_blk h
  have h1 : w.heap[b]? = some (.cells cs.toArray t (0, 0)) := k
  rw [show w.heap[b]? = some (.cells cs'.toArray e (0, 0)) from k'] at h1
  simp only [Option.some.injEq, Obj.cells.injEq] at h1
  exact hne h1.2.1.symm
theorem Only.of_updRow {T : List TypeId} {w W : World} {base e size g n c : Nat} {xs : List Value} (u : Upd w g W) (h : w.ownsRow base e size (.slice (some ⟨g, 0, none⟩) n c) n xs) (hT : T.contains e = true) : Only T w W := by
  obtain ⟨cs, k⟩ := own_blk h
  exact Only.of_upd u k hT
theorem Upd.ownRow {w W : World} {base base2 e e2 size size2 g n c n2 : Nat} {v : Value} {xs ys : List Value} (u : Upd w g W) (h : w.ownsRow base2 e2 size2 v n2 ys) (o : w.ownsRow base e size (.slice (some ⟨g, 0, none⟩) n c) n xs) (hne : e2 ≠ e) : W.ownsRow base2 e2 size2 v n2 ys := by
  obtain ⟨cs, k⟩ := own_blk o
  exact u.own2 h k hne
end Go.Proofs.YtolblnjohaooaaaGreat
namespace Go.Proofs.YtolblnjohaooaaaGreat
open Go.RowKit Go.Extern.Stop Go.Stop Go.Extern
set_option linter.unusedVariables false
attribute [local irreducible] wpList wpAnyH Code.wp Oper.wp Go

theorem op_strBytes {P : Program} {a : Act} {w : World} {K : Act → World → Prop} {Q : Exit → Act → World → Prop} {o : Oper} {src dst e : TypeId} {x : Operand} (l : List UInt8) (ho : o.op = .convert src dst x) (hx : a.eval x = .string ⟨l.toArray⟩)
    (hs : P.underlying src = some .string) (hd : P.underlying dst = some (.slice e)) (he : P.underlying e = some (.int .u8)) (hl : l.length ≤ 1000000)
    (k : ∀ b c W, Below w.heap.size w W → Bys W (.slice (some ⟨b, 0, none⟩) l.length c) l → K (a.put o.dst (.slice (some ⟨b, 0, none⟩) l.length c)) W) : o.wp P a w K Q := by
  have hr := run_bytes_of_string (P := P) w src dst e ⟨l.toArray⟩ hs hd he
  have hsz : (⟨l.toArray⟩ : ByteArray).size = l.length := by simp [ByteArray.size]
  rw [hsz] at hr
  obtain ⟨W1, hW1⟩ : ∃ W1, W1 = w.drew.alloc (.cells (bytesRow ⟨l.toArray⟩ (grownCap w l.length 0 e)) e ((bytesRow ⟨l.toArray⟩ (grownCap w l.length 0 e)).size, (bytesRow ⟨l.toArray⟩ (grownCap w l.length 0 e)).size + 1)) := ⟨_, rfl⟩
  rw [← hW1] at hr
  have h2 : (execOp a.eval o).run P w = .ok (.value (.slice (some ⟨w.heap.size, 0, none⟩) l.length (grownCap w l.length 0 e))) W1 := by
    simp only [execOp, ho, hx, Sem.run_bind, hr]; rfl
  refine op_val h2 (k _ _ _ (by rw [hW1]; exact (below_drew w).trans (show Below w.drew.heap.size w.drew _ from Bl.box w.drew _)) (.inr ⟨w.heap.size, 0, _, rfl, grownCap_ge w l.length 0 e, grownCap_le_maxLen w l.length 0 e (by unfold maxLen; omega), fun j y hj => ?_⟩))
  have hjl : j < l.length := by have := (List.getElem?_eq_some_iff.1 hj).1; simpa using this
  have hb := bytesRow_at ⟨l.toArray⟩ (grownCap w l.length 0 e) j (by simpa using hjl)
  have hy : y = .int .u8 ((l.toArray[j]'(by simpa using hjl)).toNat : Int) := by
    rw [List.getElem?_map, List.getElem?_eq_getElem hjl] at hj
    simp only [Option.map_some, Option.some.injEq] at hj
    rw [← hj]; rfl
  have hh : W1.heap[w.heap.size]? = some (.cells (bytesRow ⟨l.toArray⟩ (grownCap w l.length 0 e)) e ((bytesRow ⟨l.toArray⟩ (grownCap w l.length 0 e)).size, (bytesRow ⟨l.toArray⟩ (grownCap w l.length 0 e)).size + 1)) := by rw [hW1]; exact heap_alloc_new w.drew _
  rw [hy]
  simp [World.cell?, hh, hb]
/-- a root's number, by the four bytes of a value -/
def rootE (s : List UInt8) : Int := if s.length = 4 then (if 1 ≤ rawN s 0 4 ∧ rawN s 0 4 ≤ 14399 then 0 else 2) else 7
def rootN (s : List UInt8) : Nat := if rootE s = 0 then rawN s 0 4 else 0
theorem loop_len (bs : ByteArray) (i : Nat) (r : List UInt8) (h : i ≤ bs.size) : (ByteArray.toList.loop bs i r).length = r.length + (bs.size - i) := by
  rw [ByteArray.toList.loop]
  split
  · rename_i h2
    rw [loop_len bs (i + 1) _ (by omega)]
    simp; omega
  · simp; omega
termination_by bs.size - i
theorem toList_len (bs : ByteArray) : bs.toList.length = bs.size := by
  unfold ByteArray.toList; rw [loop_len _ _ _ (Nat.zero_le _)]; simp
theorem four_ne (n : Int) : ((⟨(leB n 4).toArray⟩ : ByteArray).toList == (⟨#[]⟩ : ByteArray).toList) = false := by
  cases hq : ((⟨(leB n 4).toArray⟩ : ByteArray).toList == (⟨#[]⟩ : ByteArray).toList) with
  | false => rfl
  | true =>
    have e := congrArg List.length (eq_of_beq hq)
    rw [toList_len, toList_len] at e
    simp [ByteArray.size, leB_len] at e
set_option maxRecDepth 100000 in
set_option maxHeartbeats 1000000 in
theorem value_rootR (w : World) :
    Calls Tryz.prog 41 #[] w (RetS (fun w' r => ∃ b, r = .slice (some ⟨b, 0, none⟩) 1 1 ∧ w.heap.size ≤ b ∧ Blk w' b [.int .i64 4, .int .i64 1, .int .i64 14399] 108) w) := by
 refine zin 3 Tryz.func41 ?_
 refine xbs 8 1 [.int .i64 4, .int .i64 1, .int .i64 14399] 108 fun b1 W1 n1 => ?_
 have g1 := n1.ge (Below.refl w.heap.size _)
 exact xe 4 (.slice (some ⟨b1, 0, none⟩) 1 1) ⟨_, rfl, n1.below, _, rfl, g1, n1.blk⟩
set_option maxRecDepth 100000 in
set_option maxHeartbeats 1000000 in
theorem value_putR (gl : Nat) (an : Option Addr) (cn : Nat) (n : Int) (w : World) (hl : Blk w gl [.int .i64 4, .int .i64 1, .int .i64 14399] 108) (hn : Sl w (.slice an 1 cn) 1 [.int .i64 n]) (h1 : 1 ≤ n) (h2 : n ≤ 14399) :
    Calls Tryz.prog 40 #[.slice (some ⟨gl, 0, none⟩) 1 1, .slice an 1 cn] w (Ret (.string ⟨(leB n 4).toArray⟩) w) := by
 have hlo := h1
 have hhi := h2
 clear h2
 refine zin 51 Tryz.func40 ?_
 refine xu 19 2 ?_
 refine xlv 15 hl.rp ?_
 refine xa 0 [.int .i64 0, .int .i64 0, .int .i64 0] 108 fun b1 W1 n1 => ?_
 have d1_gl := n1.ne hl
 refine xsv 1 n1.blk [.int .i64 4, .int .i64 1, .int .i64 14399] fun W2 u2 k2 => ?_
 have g1 := n1.ge (Below.refl w.heap.size _)
 refine xd 4 .z ?_
 refine xx (.e [0, 1] 2) _ 1 0 1 (Ints.elem (l := [n]) hn (k := 0) (by simp)).1 ?_
 have hB := Bl.next (u2.below n1.below g1) (below_drew W2)
 refine xl (.e [] 3) ((Ints.elem (l := [n]) (hn.below hB) (k := 0) (by simp)).2) ?_
 have k2'1 := k2.below (below_drew W2)
 refine xb (.e [4] 5) 1 k2'1 ?_
 refine xgk (.b [6, 7]) [23, 24] (show (decide (n < (1 : Int)) : Bool) = false from decide_eq_false (by omega)) ?_
 refine xx (.e [8, 9] 10) _ 1 0 1 (Ints.elem (l := [n]) hn (k := 0) (by simp)).1 ?_
 refine xl (.e [] 11) ((Ints.elem (l := [n]) (hn.below hB) (k := 0) (by simp)).2) ?_
 refine xb (.e [12] 13) 2 k2'1 ?_
 refine xk (.r [14, 15] 2) (show (decide (n > (14399 : Int)) : Bool) = false from decide_eq_false (by omega)) ?_
 refine xd 3 .z ?_
 have k2'2 := k2'1.below (below_drew W2.drew)
 refine xb (.e [0] 1) 0 k2'2 ?_
 refine xx (.e [2, 3] 4) _ 1 0 1 (Ints.elem (l := [n]) hn (k := 0) (by simp)).1 ?_
 have hB'1 := Bl.next hB (below_drew W2.drew)
 refine xl (.e [] 5) ((Ints.elem (l := [n]) (hn.below hB'1) (k := 0) (by simp)).2) ?_
 refine xbs (.o [6] 7) 1 [.int .i64 4, .int .i64 n] 84 fun b4 W4 n4 => ?_
 have g4 := n4.ge hB'1
 refine yc (.o [] 8) (args := #[.slice (some ⟨b4, 0, none⟩) 1 1]) .z (Pack_4 b4 n (by omega) (by omega) _ n4.blk) ?_
 rintro _ W5 ⟨_, rfl, hb5, p2, c2, rfl, h2⟩
 have hs5 := (Bl.next hB'1 n4.below).size
 refine ⟨hb5, ?_⟩
 have o6 := World.ownsRow_nil W5 w.heap.size 5 1
 have h2'1 := own_mono h2 hs5
 have hB'2 := Bl.next (Bl.next hB'1 n4.below) hb5
 refine xbi (.r [9, 10, 11, 12, 13] 5) fun _ _ _ _ zJ zQ zo zx zy zK => op_app (m := 4) (news := (leB n 4).map bv) (.int .u8 0) 1 1 (4) ((leB n 4).map bv) zo Tryz.underlying22 (by kernel_rfl) rfl (by decide) zx o6 zy (own_sl h2'1) (by simp [leB_len]) (bv_one _) (by unfold maxLen; omega) (by omega) hB'2.size (by rfl) (by simp) fun p7 c7 W7 o7 hg7 hb7 => ?_
 refine zK _ _ ?_
 refine xcv0 24 (fun _ _ _ zo zx => run_bstr zo zx (bys_of (own_sl o7) (leB_len _ _)) (leB_len _ _) Tryz.underlying22 Tryz.underlying5 Tryz.underlying9) ?_
 have hB'3 := hB'2.trans hb7
 exact xe 4 (.string ⟨(leB n 4).toArray⟩) ⟨rfl, hB'3⟩
set_option maxRecDepth 100000 in
set_option maxHeartbeats 1000000 in
theorem value_putX (gl : Nat) (an : Option Addr) (cn : Nat) (n : Int) (w : World) (hl : Blk w gl [.int .i64 4, .int .i64 1, .int .i64 14399] 108) (hn : Sl w (.slice an 1 cn) 1 [.int .i64 n]) (h : ¬ (1 ≤ n ∧ n ≤ 14399)) :
    Calls Tryz.prog 40 #[.slice (some ⟨gl, 0, none⟩) 1 1, .slice an 1 cn] w (Ret (.string ⟨#[]⟩) w) := by
 refine zin 51 Tryz.func40 ?_
 refine xu 19 2 ?_
 refine xlv 15 hl.rp ?_
 refine xa 0 [.int .i64 0, .int .i64 0, .int .i64 0] 108 fun b1 W1 n1 => ?_
 have d1_gl := n1.ne hl
 refine xsv 1 n1.blk [.int .i64 4, .int .i64 1, .int .i64 14399] fun W2 u2 k2 => ?_
 have g1 := n1.ge (Below.refl w.heap.size _)
 refine xd 4 .z ?_
 refine xx (.e [0, 1] 2) _ 1 0 1 (Ints.elem (l := [n]) hn (k := 0) (by simp)).1 ?_
 have hB := Bl.next (u2.below n1.below g1) (below_drew W2)
 refine xl (.e [] 3) ((Ints.elem (l := [n]) (hn.below hB) (k := 0) (by simp)).2) ?_
 have k2'1 := k2.below (below_drew W2)
 refine xb (.e [4] 5) 1 k2'1 ?_
 refine xg (.b [6, 7]) [23, 24] (decide (n < (1 : Int))) (fun hc3 => ?_) (fun hc3 => ?_)
 · have hc3 := of_decide_eq_true hc3
   exact xe (.r [8, 9, 10, 11, 12, 13, 14, 15] 15) (.string ⟨#[]⟩) ⟨rfl, hB⟩
 have hc3 := of_decide_eq_false hc3
 refine xx (.e [8, 9] 10) _ 1 0 1 (Ints.elem (l := [n]) hn (k := 0) (by simp)).1 ?_
 refine xl (.e [] 11) ((Ints.elem (l := [n]) (hn.below hB) (k := 0) (by simp)).2) ?_
 refine xb (.e [12] 13) 2 k2'1 ?_
 refine xk (.r [14, 15] 2) (show (decide (n > (14399 : Int)) : Bool) = true from decide_eq_true (by omega)) ?_
 exact xe 12 (.string ⟨#[]⟩) ⟨rfl, hB⟩
set_option maxRecDepth 100000 in
set_option maxHeartbeats 1000000 in
theorem value_read_len (gl : Nat) (s : List UInt8) (w : World) (hl : Blk w gl [.int .i64 4, .int .i64 1, .int .i64 14399] 108) (hs : s.length ≤ 1000) (h4 : s.length ≠ 4) :
    Calls Tryz.prog 75 #[.slice (some ⟨gl, 0, none⟩) 1 1, .string ⟨s.toArray⟩] w (RetS (fun w' r => ∃ p c, r = .tuple #[.slice p 1 c, .int .i64 7] ∧ w'.ownsRow w.heap.size 3 1 (.slice p 1 c) 1 [.int .i64 0]) w) := by
 refine zin 54 Tryz.func75 ?_
 refine xu 25 2 ?_
 refine xlv 14 hl.rp ?_
 refine xa 0 [.int .i64 0, .int .i64 0, .int .i64 0] 108 fun b1 W1 n1 => ?_
 have d1_gl := n1.ne hl
 refine xsv 0 n1.blk [.int .i64 4, .int .i64 1, .int .i64 14399] fun W2 u2 k2 => ?_
 have g1 := n1.ge (Below.refl w.heap.size _)
 refine xb 6 0 k2 ?_
 refine xbs 0 1 [.int .i64 4] 3 fun b3 W3 n3 => ?_
 have o4 := World.ownsRow_nil W3 w.heap.size 3 1
 have hB := Bl.next (u2.below n1.below g1) n3.below
 refine xbi 0 fun _ _ _ _ zJ zQ zo zx zy zK => op_app (m := 1) (news := [.int .i64 4]) (.int .i64 0) 1 8 (1) ([Value.int .i64 4]) zo Tryz.underlying33 (by kernel_rfl) rfl (by decide) zx o4 zy (n3.blk.sl 1 1 (by decide) (by decide)) rfl (by simp [Value.oneCell']) (by unfold maxLen; omega) (by omega) hB.size (by rfl) (by rfl) fun p5 c5 W5 o5 hg5 hb5 => ?_
 refine zK _ _ ?_
 have k2'1 := (k2.below n3.below).grown hg5 o4 (by decide)
 refine xb 6 0 k2'1 ?_
 refine xk 31 (show (((↑s.length : Int) != (4 : Int)) : Bool) = true from bne_iff_ne.2 (by omega)) ?_
 refine xmk 4 fun _ _ _ _ zJ zQ zo zx zy zK => op_make 1 (.int .i64 0) 1 8 [Value.int .i64 0] zo zx zy Tryz.underlying33 (by kernel_rfl) rfl (by omega) (by omega) (rfl) fun b6 W6 n6 => ?_
 have hB'1 := hB.trans hb5
 have g6 := n6.ge hB'1
 have r6_o5 := own_ne o5 n6
 refine zK _ _ ?_
 have hB'2 := Bl.next hB'1 n6.below
 have o6 := own_of_blk (size := 1) (n := 1) n6.blk g6 (rfl) (by unfold maxLen; omega)
 exact xe 6 (.tuple #[.slice (some ⟨b6, 0, none⟩) 1 1, .int .i64 7]) ⟨_, rfl, hB'2, _, _, rfl, o6⟩
set_option maxRecDepth 100000 in
set_option maxHeartbeats 1000000 in
theorem value_read_ok (gl : Nat) (s : List UInt8) (w : World) (hl : Blk w gl [.int .i64 4, .int .i64 1, .int .i64 14399] 108) (hs : s.length ≤ 1000) (h4 : s.length = 4) (h1 : 1 ≤ rawN s 0 4) (h2 : rawN s 0 4 ≤ 14399) :
    Calls Tryz.prog 75 #[.slice (some ⟨gl, 0, none⟩) 1 1, .string ⟨s.toArray⟩] w (RetS (fun w' r => ∃ p c, r = .tuple #[.slice p 1 c, .int .i64 0] ∧ w'.ownsRow w.heap.size 3 1 (.slice p 1 c) 1 [.int .i64 (↑(rawN s 0 4) : Int)]) w) := by
 refine zin 54 Tryz.func75 ?_
 refine xu 25 2 ?_
 refine xlv 14 hl.rp ?_
 refine xa 0 [.int .i64 0, .int .i64 0, .int .i64 0] 108 fun b1 W1 n1 => ?_
 have d1_gl := n1.ne hl
 refine xsv 0 n1.blk [.int .i64 4, .int .i64 1, .int .i64 14399] fun W2 u2 k2 => ?_
 have g1 := n1.ge (Below.refl w.heap.size _)
 refine xb 6 0 k2 ?_
 refine xbs 0 1 [.int .i64 4] 3 fun b3 W3 n3 => ?_
 have o4 := World.ownsRow_nil W3 w.heap.size 3 1
 have hB := Bl.next (u2.below n1.below g1) n3.below
 refine xbi 0 fun _ _ _ _ zJ zQ zo zx zy zK => op_app (m := 1) (news := [.int .i64 4]) (.int .i64 0) 1 8 (1) ([Value.int .i64 4]) zo Tryz.underlying33 (by kernel_rfl) rfl (by decide) zx o4 zy (n3.blk.sl 1 1 (by decide) (by decide)) rfl (by simp [Value.oneCell']) (by unfold maxLen; omega) (by omega) hB.size (by rfl) (by rfl) fun p5 c5 W5 o5 hg5 hb5 => ?_
 refine zK _ _ ?_
 have k2'1 := (k2.below n3.below).grown hg5 o4 (by decide)
 refine xb 6 0 k2'1 ?_
 refine xk 31 (show (((↑s.length : Int) != (4 : Int)) : Bool) = false from by rw [h4]; rfl) ?_
 refine xcf 5 fun _ _ _ zJ zQ zo zx zK => op_strBytes s zo zx Tryz.underlying9 Tryz.underlying22 Tryz.underlying5 (by omega) ?_
 intro bz cz W6 hb6 hbz
 refine zK _ _ ?_
 have o5'1 := own_below o5 hb6
 refine xc 1 (args := #[.slice (some ⟨bz, 0, none⟩) s.length cz, .slice p5 1 c5]) (Unpack_okN (some ⟨bz, 0, none⟩) s.length cz s p5 c5 1 [4] [rawN s 0 4] _ rfl rfl rfl (by decide) (by simp; omega) (by omega) (by decide) hbz (own_sl o5'1) (fun i hi => by obtain rfl : i = 0 := (by simpa using hi); have := rawN_lt4 s 0 4 (by decide); simp [unpL]; omega)) ?_
 rintro _ W7 ⟨_, rfl, hb7, p5, c5, rfl, h5⟩
 have hs7 := (Bl.next (hB.trans hb5) hb6).size
 have hl'1 := ((((u2.blk (hl.below n1.below) (Ne.symm (Ne.symm d1_gl))).below n3.below).grown hg5 o4 (by decide)).below hb6).below hb7
 have h5'1 := own_mono h5 hs7
 refine xr 15 (args := #[.slice (some ⟨gl, 0, none⟩) 1 1, .slice p5 1 c5]) (value_putR gl p5 c5 (↑(rawN s 0 4) : Int) _ hl'1 (own_sl h5'1) (by omega) (by omega)) fun W8 hb8 => ?_
 refine xk 4 (show (((⟨(leB (↑(rawN s 0 4) : Int) 4).toArray⟩ : ByteArray).toList == (⟨#[]⟩ : ByteArray).toList) : Bool) = false from four_ne _) ?_
 have hB'1 := Bl.next (Bl.next (Bl.next (hB.trans hb5) hb6) hb7) hb8
 have h5'2 := own_below h5'1 hb8
 exact xe 10 (.tuple #[.slice p5 1 c5, .int .i64 0]) ⟨_, rfl, hB'1, _, _, rfl, h5'2⟩
set_option maxRecDepth 100000 in
set_option maxHeartbeats 1000000 in
theorem value_read_bad (gl : Nat) (s : List UInt8) (w : World) (hl : Blk w gl [.int .i64 4, .int .i64 1, .int .i64 14399] 108) (hs : s.length ≤ 1000) (h4 : s.length = 4) (h1 : ¬ (1 ≤ (rawN s 0 4 : Int) ∧ (rawN s 0 4 : Int) ≤ 14399)) :
    Calls Tryz.prog 75 #[.slice (some ⟨gl, 0, none⟩) 1 1, .string ⟨s.toArray⟩] w (RetS (fun w' r => ∃ p c, r = .tuple #[.slice p 1 c, .int .i64 2] ∧ w'.ownsRow w.heap.size 3 1 (.slice p 1 c) 1 [.int .i64 0]) w) := by
 refine zin 54 Tryz.func75 ?_
 refine xu 25 2 ?_
 refine xlv 14 hl.rp ?_
 refine xa 0 [.int .i64 0, .int .i64 0, .int .i64 0] 108 fun b1 W1 n1 => ?_
 have d1_gl := n1.ne hl
 refine xsv 0 n1.blk [.int .i64 4, .int .i64 1, .int .i64 14399] fun W2 u2 k2 => ?_
 have g1 := n1.ge (Below.refl w.heap.size _)
 refine xb 6 0 k2 ?_
 refine xbs 0 1 [.int .i64 4] 3 fun b3 W3 n3 => ?_
 have o4 := World.ownsRow_nil W3 w.heap.size 3 1
 have hB := Bl.next (u2.below n1.below g1) n3.below
 refine xbi 0 fun _ _ _ _ zJ zQ zo zx zy zK => op_app (m := 1) (news := [.int .i64 4]) (.int .i64 0) 1 8 (1) ([Value.int .i64 4]) zo Tryz.underlying33 (by kernel_rfl) rfl (by decide) zx o4 zy (n3.blk.sl 1 1 (by decide) (by decide)) rfl (by simp [Value.oneCell']) (by unfold maxLen; omega) (by omega) hB.size (by rfl) (by rfl) fun p5 c5 W5 o5 hg5 hb5 => ?_
 refine zK _ _ ?_
 have k2'1 := (k2.below n3.below).grown hg5 o4 (by decide)
 refine xb 6 0 k2'1 ?_
 refine xk 31 (show (((↑s.length : Int) != (4 : Int)) : Bool) = false from by rw [h4]; rfl) ?_
 refine xcf 5 fun _ _ _ zJ zQ zo zx zK => op_strBytes s zo zx Tryz.underlying9 Tryz.underlying22 Tryz.underlying5 (by omega) ?_
 intro bz cz W6 hb6 hbz
 refine zK _ _ ?_
 have o5'1 := own_below o5 hb6
 refine xc 1 (args := #[.slice (some ⟨bz, 0, none⟩) s.length cz, .slice p5 1 c5]) (Unpack_okN (some ⟨bz, 0, none⟩) s.length cz s p5 c5 1 [4] [rawN s 0 4] _ rfl rfl rfl (by decide) (by simp; omega) (by omega) (by decide) hbz (own_sl o5'1) (fun i hi => by obtain rfl : i = 0 := (by simpa using hi); have := rawN_lt4 s 0 4 (by decide); simp [unpL]; omega)) ?_
 rintro _ W7 ⟨_, rfl, hb7, p5, c5, rfl, h5⟩
 have hs7 := (Bl.next (hB.trans hb5) hb6).size
 have hl'1 := ((((u2.blk (hl.below n1.below) (Ne.symm (Ne.symm d1_gl))).below n3.below).grown hg5 o4 (by decide)).below hb6).below hb7
 have h5'1 := own_mono h5 hs7
 refine xr 15 (args := #[.slice (some ⟨gl, 0, none⟩) 1 1, .slice p5 1 c5]) (value_putX gl p5 c5 (↑(rawN s 0 4) : Int) _ hl'1 (own_sl h5'1) (by omega)) fun W8 hb8 => ?_
 refine xmk 9 fun _ _ _ _ zJ zQ zo zx zy zK => op_make 1 (.int .i64 0) 1 8 [Value.int .i64 0] zo zx zy Tryz.underlying33 (by kernel_rfl) rfl (by omega) (by omega) (rfl) fun b9 W9 n9 => ?_
 have hB'1 := Bl.next (Bl.next (Bl.next (hB.trans hb5) hb6) hb7) hb8
 have g9 := n9.ge hB'1
 have o5'2 := own_below (own_below o5'1 hb7) hb8
 have r9_o5 := own_ne o5'2 n9
 have h5'2 := own_below h5'1 hb8
 have r9_h5 := own_ne h5'2 n9
 refine zK _ _ ?_
 have hB'2 := Bl.next hB'1 n9.below
 have o9 := own_of_blk (size := 1) (n := 1) n9.blk g9 (rfl) (by unfold maxLen; omega)
 exact xe 6 (.tuple #[.slice (some ⟨b9, 0, none⟩) 1 1, .int .i64 2]) ⟨_, rfl, hB'2, _, _, rfl, o9⟩
theorem value_readR (gl : Nat) (s : List UInt8) (w : World) (hl : Blk w gl [.int .i64 4, .int .i64 1, .int .i64 14399] 108) (hs : s.length ≤ 1000) : Calls Tryz.prog 75 #[.slice (some ⟨gl, 0, none⟩) 1 1, .string ⟨s.toArray⟩] w (RetS (fun w' r => ∃ p c, r = .tuple #[.slice p 1 c, .int .i64 (rootE s)] ∧ w'.ownsRow w.heap.size 3 1 (.slice p 1 c) 1 [.int .i64 (rootN s : Int)]) w) := by
  by_cases h4 : s.length = 4
  · by_cases h1 : 1 ≤ rawN s 0 4 ∧ rawN s 0 4 ≤ 14399
    · have he : rootE s = 0 := by unfold rootE; rw [if_pos h4, if_pos h1]
      rw [he, rootN, if_pos he]
      exact value_read_ok gl s w hl hs h4 h1.1 h1.2
    · have he : rootE s = 2 := by unfold rootE; rw [if_pos h4, if_neg h1]
      rw [he, rootN, if_neg (by rw [he]; decide)]
      exact value_read_bad gl s w hl hs h4 (by omega)
  · have he : rootE s = 7 := by unfold rootE; rw [if_neg h4]
    rw [he, rootN, if_neg (by rw [he]; decide)]
    exact value_read_len gl s w hl hs h4
set_option maxRecDepth 100000 in
set_option maxHeartbeats 1000000 in
theorem value_ReadRoot (s : List UInt8) (w : World) (hs : s.length ≤ 1000) :
    Calls Tryz.prog 61 #[.string ⟨s.toArray⟩] w (Ret (.tuple #[.int .i64 (rootN s : Int), .int .i64 (rootE s)]) w) := by
 refine zin 16 Tryz.func61 ?_
 refine xc 8 (args := #[]) (value_rootR _) ?_
 rintro _ W1 ⟨_, rfl, hb1, gl, rfl, gg, kl⟩
 refine xc 1 (args := #[.slice (some ⟨gl, 0, none⟩) 1 1, .string ⟨s.toArray⟩]) (value_readR gl s _ kl hs) ?_
 rintro _ W2 ⟨_, rfl, hb2, p5, c5, rfl, h5⟩
 have h5'1 := own_mono h5 hb1.size
 refine xx 10 _ 1 0 1 (Ints.elem (l := [(rootN s : Int)]) (own_sl h5'1) (k := 0) (by simp)).1 ?_
 refine xl 0 ((Ints.elem (l := [(rootN s : Int)]) (own_sl h5'1) (k := 0) (by simp)).2) ?_
 have hB := Bl.next hb1 hb2
 exact xe 6 (.tuple #[.int .i64 (↑(rootN s) : Int), .int .i64 (rootE s)]) ⟨rfl, hB⟩
end Go.Proofs.YtolblnjohaooaaaGreat
namespace Go.Proofs.YtolblnjohaooaaaGreat
open Go.RowKit Go.Extern.Stop Go.Stop Go.Extern
set_option linter.unusedVariables false
/-- what a walker has found so far; a fault: the blocks of its way, and its number -/
structure WS where
  es : List Ent
  bs : List Int
  deep : Int
  looked : Nat
  fs : List (List Int × Int)
  dry : Bool
def noteW (way bs : List Int) (c : Int) (s : WS) : WS := { s with fs := s.fs ++ [(way ++ bs, c)] }
/-- the child of the inner node no, its value val, its span p; V: the visit one deeper -/
def childW (V : List Int → Int → Int → Int → WS → WS) (way : List Int) (no : Int) (val : List UInt8) (p : Int × Int) (s : WS) : WS :=
  if rootE val = 0 then V (way ++ [no]) (rootN val : Int) p.1 p.2 s else noteW way [no] (rootE val) s
def nodK (l : List UInt8) (no : Int) : List Int := keysI (inB l no) (nodC (inB l no))
def nodV (l : List UInt8) (no : Int) : List (List UInt8) := valsL (inB l no) (nodC (inB l no))
/-- child number i, unless the fuel is used up -/
def roundW (V : List Int → Int → Int → Int → WS → WS) (l : List UInt8) (way : List Int) (no hi : Int) (s : WS) (i : Nat) : WS :=
  if s.dry = true then s else childW V way no ((nodV l no).getD i []) (partAt hi (nodK l no) i) s
def loopW (V : List Int → Int → Int → Int → WS → WS) (l : List UInt8) (way : List Int) (no hi : Int) (k : Nat) (s : WS) : WS := (List.range k).foldl (roundW V l way no hi) s
/-- a visit at most d deep -/
def visitF (l : List UInt8) (tree fuel : Int) : Nat → List Int → Int → Int → Int → WS → WS
  | 0, _, _, _, _, s => s
  | d + 1, way, no, lo, hi, s =>
    if fuel ≤ s.looked then { noteW way [no] 12 s with dry := true }
    else if lookE l way no tree lo hi s.deep ≠ 0 then noteW way [no] (lookE l way no tree lo hi s.deep) { s with looked := s.looked + 1 }
    else if nodL (inB l no) = true then { s with looked := s.looked + 1, bs := s.bs ++ [no], deep := ((way.length + 1 : Nat) : Int), es := s.es ++ leafL (nodK l no) (nodV l no) no (nodC (inB l no)) }
    else loopW (visitF l tree fuel d) l way no hi (nodC (inB l no)) { s with looked := s.looked + 1, bs := s.bs ++ [no] }
theorem loopW_succ (V : List Int → Int → Int → Int → WS → WS) (l : List UInt8) (way : List Int) (no hi : Int) (k : Nat) (s : WS) : loopW V l way no hi (k + 1) s = roundW V l way no hi (loopW V l way no hi k s) k := by
  simp [loopW, List.range_succ]
theorem roundW_dry (V : List Int → Int → Int → Int → WS → WS) (l : List UInt8) (way : List Int) (no hi : Int) (s : WS) (i : Nat) (h : s.dry = true) : roundW V l way no hi s i = s := by simp [roundW, h]
/-- once the fuel is used up nothing comes -/
theorem loopW_dry (V : List Int → Int → Int → Int → WS → WS) (l : List UInt8) (way : List Int) (no hi : Int) (s : WS) {k n : Nat} (hk : k ≤ n) (h : (loopW V l way no hi k s).dry = true) : loopW V l way no hi n s = loopW V l way no hi k s := by
  induction n with
  | zero => obtain rfl : k = 0 := by omega
            rfl
  | succ n ih =>
    rcases Nat.lt_or_ge n k with q | q
    · obtain rfl : k = n + 1 := by omega
      rfl
    · rw [loopW_succ, ih q, roundW_dry _ _ _ _ _ _ _ h]
/-- the faults lie in memory -/
def FltsW (w : World) : List (List Int × Int) → List Value → Prop
  | [], [] => True
  | f :: r, v :: q => ErrV w (f.1.map some) (some f.2) v ∧ FltsW w r q
  | _, _ => False
theorem FltsW.kept {w W : World} (hb : ∀ blk cs, Blk w blk cs 114 → Blk W blk cs 114) : ∀ {fs : List (List Int × Int)} {vs : List Value}, FltsW w fs vs → FltsW W fs vs
  | [], [], h => h
  | _ :: _, _ :: _, h => ⟨h.1.kept hb, FltsW.kept hb h.2⟩
  | [], _ :: _, h => h.elim
  | _ :: _, [], h => h.elim
theorem FltsW.only {T : List TypeId} {w W : World} {fs : List (List Int × Int)} {vs : List Value} (h : FltsW w fs vs) (k : Only T w W) (hT : T.contains 114 = false) : FltsW W fs vs := h.kept fun _ _ q => q.only k hT
theorem FltsW.below {w W : World} {fs : List (List Int × Int)} {vs : List Value} (h : FltsW w fs vs) (hb : Below w.heap.size w W) : FltsW W fs vs := h.kept fun _ _ q => q.below hb
theorem FltsW.snoc {w : World} {f : List Int × Int} {v : Value} (hv : ErrV w (f.1.map some) (some f.2) v) : ∀ {fs : List (List Int × Int)} {vs : List Value}, FltsW w fs vs → FltsW w (fs ++ [f]) (vs ++ [v])
  | [], [], _ => ⟨hv, trivial⟩
  | _ :: _, _ :: _, h => ⟨h.1, FltsW.snoc hv h.2⟩
  | [], _ :: _, h => h.elim
  | _ :: _, [], h => h.elim
/-- a walker's state in memory -/
structure WalkR (B bw Bi b : Nat) (pi : Option Addr) (ni ci : Nat) (l : List UInt8) (tree fuel : Int) (way : List Int) (s : WS) (pe pb pf pw : Option Addr) (ce cb cf cw : Nat) (fv : List Value) (w : World) : Prop where
  blk : Blk w bw [.slice pe s.es.length ce, .slice pb s.bs.length cb, .int .i64 s.deep, .int .i64 (s.looked : Int), .slice pf s.fs.length cf, .pointer (some ⟨b, 0, none⟩), .int .i64 tree, .int .i64 fuel, .slice pw way.length cw, .bool s.dry] 74
  ents : w.ownsRow B 26 3 (.slice pe s.es.length ce) s.es.length (s.es.flatMap entC)
  blks : w.ownsRow B 3 1 (.slice pb s.bs.length cb) s.bs.length (s.bs.map (Value.int .i64))
  flts : w.ownsRow B 30 1 (.slice pf s.fs.length cf) s.fs.length fv
  fltv : FltsW w s.fs fv
  ways : w.ownsRow B 3 1 (.slice pw way.length cw) way.length (way.map (Value.int .i64))
  apart : Apart (.slice pb s.bs.length cb) (.slice pw way.length cw)
  img : ImgR Bi b pi ni ci l w
/-- what a visit does: the state s becomes the state t -/
def VisitP (B bw Bi b : Nat) (pi : Option Addr) (ni ci : Nat) (l : List UInt8) (tree fuel : Int) (way : List Int) (t : WS) (w : World) (e : Ending) (w' : World) : Prop :=
  ∃ u pe pb pf pw ce cb cf cw fv, e = .returned u ∧ Below B w w' ∧ Only [74, 26, 3, 30] w w' ∧ WalkR B bw Bi b pi ni ci l tree fuel way t pe pb pf pw ce cb cf cw fv w'
end Go.Proofs.YtolblnjohaooaaaGreat
namespace Go.Proofs.YtolblnjohaooaaaGreat
open Go.RowKit Go.Extern.Stop Go.Stop Go.Extern
set_option linter.unusedVariables false
attribute [local irreducible] wpList wpAnyH Code.wp Oper.wp Go

theorem own_some {w : World} {base e n c : Nat} {p : Option Addr} {xs : List Value} (k : w.ownsRow base e 1 (.slice p n c) n xs) (hn : 0 < n) : p.isSome = true ∧ n ≤ c := by
  rcases k.2 with ⟨h, _⟩ | ⟨g, cap, cur, hv, _, _, hc, _⟩
  · simp only [Value.slice.injEq] at h; omega
  · simp only [Value.slice.injEq] at hv
    obtain ⟨rfl, _, rfl⟩ := hv
    exact ⟨rfl, hc⟩
theorem way_cut {w : World} {base e c : Nat} {p : Option Addr} {way : List Int} {no : Int} (k : w.ownsRow base e 1 (.slice p (way ++ [no]).length c) (way ++ [no]).length ((way ++ [no]).map (Value.int .i64))) : w.ownsRow base e 1 (.slice p way.length c) way.length (way.map (Value.int .i64)) := by
  have h := own_cut (m := way.length) k (by simp) (own_some k (by simp)).1
  rwa [List.map_append, List.take_left' (by simp)] at h
theorem only_we {w w' : World} (h : Only [74, 30] w w') : Only [74, 26, 3, 30] w w' := h.mono fun t ht => by
  simp only [List.contains_cons, List.contains_nil, Bool.or_eq_false_iff] at ht ⊢
  exact ⟨ht.1, ht.2.2.2⟩
/-- what is asked of a visit d deep at most -/
def VisitC (B bw Bi b : Nat) (pi : Option Addr) (ni ci : Nat) (l : List UInt8) (tree fuel : Int) (d : Nat) : Prop :=
  ∀ (way : List Int) (no lo hi : Int) (s : WS) (pe pb pf pw : Option Addr) (ce cb cf cw : Nat) (fv : List Value) (w : World), way.length + d = 17 → B ≤ w.heap.size → s.dry = false → WalkR B bw Bi b pi ni ci l tree fuel way s pe pb pf pw ce cb cf cw fv w →
    (visitF l tree fuel d way no lo hi s).es.length ≤ 1000000 → (visitF l tree fuel d way no lo hi s).bs.length ≤ 1000000 → (visitF l tree fuel d way no lo hi s).fs.length ≤ 1000000 →
    Calls Tryz.prog 32 #[.pointer (some ⟨bw, 0, none⟩), .int .i64 no, .agg #[.int .i64 lo, .int .i64 hi]] w (VisitP B bw Bi b pi ni ci l tree fuel way (visitF l tree fuel d way no lo hi s) w)
set_option maxRecDepth 100000 in
set_option maxHeartbeats 4000000 in
theorem walker_child (B bw Bi b : Nat) (pi : Option Addr) (ni ci : Nat) (l : List UInt8) (tree fuel : Int) (d : Nat) (hV : VisitC B bw Bi b pi ni ci l tree fuel d) (way : List Int) (no lo hi : Int) (val : List UInt8) (s : WS) (pe pb pf pw : Option Addr) (ce cb cf cw : Nat) (fv : List Value) (w : World) (hBb : B ≤ bw) (hBw : B ≤ w.heap.size) (hwd : way.length + 1 + d = 17) (hdry : s.dry = false) (hvl : val.length ≤ 1000) (hR : WalkR B bw Bi b pi ni ci l tree fuel (way ++ [no]) s pe pb pf pw ce cb cf cw fv w) (he : (childW (visitF l tree fuel d) way no val (lo, hi) s).es.length ≤ 1000000) (hb_ : (childW (visitF l tree fuel d) way no val (lo, hi) s).bs.length ≤ 1000000) (hf : (childW (visitF l tree fuel d) way no val (lo, hi) s).fs.length ≤ 1000000) :
    Calls Tryz.prog 47 #[.pointer (some ⟨bw, 0, none⟩), .int .i64 no, .string ⟨val.toArray⟩, .agg #[.int .i64 lo, .int .i64 hi]] w (VisitP B bw Bi b pi ni ci l tree fuel (way ++ [no]) (childW (visitF l tree fuel d) way no val (lo, hi) s) w) := by
 obtain ⟨kW, hEn, hBl, hFl, hFv, hWy, hAp, hI⟩ := hR
 have hwc := (own_some hWy (by simp)).2
 have hwl : (way ++ [no]).length = way.length + 1 := by simp
 refine zin 44 Tryz.func47 ?_
 refine xa 2 [.int .i64 lo, .int .i64 hi] 77 fun b1 W1 n1 => ?_
 refine xr 5 (args := #[.string ⟨val.toArray⟩]) (value_ReadRoot val _ hvl) fun W2 hb2 => ?_
 refine xie 14 (rootE val) (0 : Int) (fun hc3 => ?_) (fun hc3 => ?_)
 · have k1 := n1.blk.below hb2
   refine xlv 4 k1.rp ?_
   have hch : childW (visitF l tree fuel d) way no val (lo, hi) s = visitF l tree fuel d (way ++ [no]) (rootN val : Int) lo hi s := by unfold childW; rw [if_pos (by assumption)]
   have hB := Bl.nextB (Bl.nextB (Below.refl B w) hBw n1.below) hBw hb2
   have kW'1 := (kW.below n1.below).below hb2
   have hEn'1 := own_below (own_below hEn n1.below) hb2
   have hBl'1 := own_below (own_below hBl n1.below) hb2
   have hFl'1 := own_below (own_below hFl n1.below) hb2
   have hFv'1 := (hFv.below n1.below).below hb2
   have hWy'1 := own_below (own_below hWy n1.below) hb2
   have hI'1 := (hI.below n1.below).below hb2
   refine xc 0 (args := #[.pointer (some ⟨bw, 0, none⟩), .int .i64 (↑(rootN val) : Int), .agg #[.int .i64 lo, .int .i64 hi]]) (hV (way ++ [no]) (rootN val : Int) lo hi s pe pb pf pw ce cb cf cw fv _ (by simp; omega) (Nat.le_trans hBw hB.size) hdry ⟨kW'1, hEn'1, hBl'1, hFl'1, hFv'1, hWy'1, hAp, hI'1⟩ (by have q := he; rw [hch] at q; exact q) (by have q := hb_; rw [hch] at q; exact q) (by have q := hf; rw [hch] at q; exact q)) ?_
   rintro _ W4 ⟨u4, pe2, pb2, pf2, pw2, ce2, cb2, cf2, cw2, fv2, rfl, hb4, hO4, hR2⟩
   have hB'1 := hB.trans hb4
   have hO := ((show Only [74, 26, 3, 30] w _ from (Only.of_below n1.below)).trans (Only.of_below hb2)).trans hO4
   refine xe 4 (.tuple #[]) ?_
   rw [hch]
   exact ⟨_, _, _, _, _, _, _, _, _, _, rfl, hB'1, hO, hR2⟩
 have kW'2 := (kW.below n1.below).below hb2
 refine xb 7 8 kW'2 ?_
 refine xwm 9 ((↑((way ++ [no]).length) : Int) - 1) (↑(((way ++ [no]).length) - 1) : Int) ?_
 refine xsH 0 (fun _ _ _ _ zo zx zy V => run_sliceH (k := (((way ++ [no]).length) - 1)) (b := pw) (n := (way ++ [no]).length) (c := cw) (i := (↑(((way ++ [no]).length) - 1) : Int)) (ki := .i64) zo zx zy rfl (by omega) Tryz.underlying33 (by kernel_rfl) V) ?_
 refine xs 2 kW'2 [.slice pe s.es.length ce, .slice pb s.bs.length cb, .int .i64 s.deep, .int .i64 (s.looked : Int), .slice pf s.fs.length cf, .pointer (some ⟨b, 0, none⟩), .int .i64 tree, .int .i64 fuel, .slice pw (((way ++ [no]).length) - 1) cw, .bool s.dry] fun W5 u5 k5 => ?_
 refine xc 8 (args := #[.int .i64 no, .iface 49 (.int .i64 (rootE val))]) (fault_At no (some (rootE val)) [] _ _ rfl) ?_
 rintro _ W6 ⟨r6, rfl, hb6, hv6⟩
 rw [atL_some] at hv6
 obtain ⟨t6, x6, rfl⟩ := hv6.iface
 have k5'1 := k5.below hb6
 have hch : childW (visitF l tree fuel d) way no val (lo, hi) s = noteW way [no] (rootE val) s := by unfold childW; rw [if_neg (by assumption)]
 rw [show (way ++ [no]).length - 1 = way.length by omega] at k5'1
 have hB := Bl.nextB (u5.below (Bl.nextB (Bl.nextB (Below.refl B w) hBw n1.below) hBw hb2) hBb) hBw hb6
 have hFl'2 := own_below (u5.own2 (own_below (own_below hFl n1.below) hb2) kW'2 (by decide)) hb6
 have hWy'2 := own_below (u5.own2 (own_below (own_below hWy n1.below) hb2) kW'2 (by decide)) hb6
 refine xc 0 (args := #[.pointer (some ⟨bw, 0, none⟩), .iface t6 (x6)]) (walker_note B bw _ _ _ _ _ _ _ _ pf _ cf fv pw cw way [no] (rootE val) _ _ _ hBb (Nat.le_trans hBw hB.size) k5'1 hFl'2 (way_cut hWy'2) hv6 (by omega) (by have := hf; rw [hch] at this; simp [noteW] at this; omega)) ?_
 rintro _ W7 ⟨u7, pf2, cf2, t2, x2, rfl, hb7, hO7, kN, hFl2, hv2⟩
 refine xs 7 kN [.slice pe s.es.length ce, .slice pb s.bs.length cb, .int .i64 s.deep, .int .i64 (s.looked : Int), .slice pf2 (s.fs.length + 1) cf2, .pointer (some ⟨b, 0, none⟩), .int .i64 tree, .int .i64 fuel, .slice pw ((way ++ [no]).length) cw, .bool s.dry] fun W8 u8 k8 => ?_
 have hB'2 := u8.below (hB.trans hb7) hBb
 have hO := (((((show Only [74, 26, 3, 30] w _ from (Only.of_below n1.below)).trans (Only.of_below hb2)).trans (Only.of_upd u5 kW'2 (by decide))).trans (Only.of_below hb6)).trans (only_we hO7)).trans (Only.of_upd u8 kN (by decide))
 have hEn'2 := u8.own2 (own_only (own_below (u5.own2 (own_below (own_below hEn n1.below) hb2) kW'2 (by decide)) hb6) hO7 (by decide)) kN (by decide)
 have hBl'2 := u8.own2 (own_only (own_below (u5.own2 (own_below (own_below hBl n1.below) hb2) kW'2 (by decide)) hb6) hO7 (by decide)) kN (by decide)
 have hFl2'1 := u8.own2 hFl2 kN (by decide)
 have hv2'1 := hv2.upd u8 kN (by decide)
 have hFv'2 := (((((hFv.below n1.below).below hb2).only (Only.of_upd (T := [74]) u5 kW'2 (by decide)) (by decide)).below hb6).only hO7 (by decide)).only (Only.of_upd (T := [74]) u8 kN (by decide)) (by decide)
 have hWy'3 := u8.own2 (own_only hWy'2 hO7 (by decide)) kN (by decide)
 have hI'2 := (((((hI.below n1.below).below hb2).only (Only.of_upd (T := [74]) u5 kW'2 (by decide)) (by decide)).below hb6).only hO7 (by decide)).only (Only.of_upd (T := [74]) u8 kN (by decide)) (by decide)
 refine xe 1 (.tuple #[]) ?_
 rw [hch]
 exact ⟨_, pe, pb, pf2, pw, ce, cb, cf2, cw, _, rfl, hB'2, hO, by simpa [noteW] using k8, hEn'2, hBl'2, by simpa [noteW] using hFl2'1, FltsW.snoc hv2'1 hFv'2, hWy'3, hAp, hI'2⟩
end Go.Proofs.YtolblnjohaooaaaGreat
namespace Go.Proofs.YtolblnjohaooaaaGreat
open Go.RowKit Go.Extern.Stop Go.Stop Go.Extern
set_option linter.unusedVariables false
def Grow (s t : WS) : Prop := s.es.length ≤ t.es.length ∧ s.bs.length ≤ t.bs.length ∧ s.fs.length ≤ t.fs.length
theorem Grow.refl (s : WS) : Grow s s := ⟨Nat.le_refl _, Nat.le_refl _, Nat.le_refl _⟩
theorem Grow.trans {s t u : WS} (h : Grow s t) (k : Grow t u) : Grow s u := ⟨Nat.le_trans h.1 k.1, Nat.le_trans h.2.1 k.2.1, Nat.le_trans h.2.2 k.2.2⟩
theorem noteW_grow (way bs : List Int) (c : Int) (s : WS) : Grow s (noteW way bs c s) := ⟨Nat.le_refl _, Nat.le_refl _, by simp [noteW]⟩
theorem childW_grow {V : List Int → Int → Int → Int → WS → WS} (hV : ∀ way no lo hi s, Grow s (V way no lo hi s)) (way : List Int) (no : Int) (val : List UInt8) (p : Int × Int) (s : WS) : Grow s (childW V way no val p s) := by
  unfold childW
  split
  · exact hV _ _ _ _ _
  · exact noteW_grow _ _ _ _
theorem roundW_grow {V : List Int → Int → Int → Int → WS → WS} (hV : ∀ way no lo hi s, Grow s (V way no lo hi s)) (l : List UInt8) (way : List Int) (no hi : Int) (s : WS) (i : Nat) : Grow s (roundW V l way no hi s i) := by
  unfold roundW
  split
  · exact Grow.refl _
  · exact childW_grow hV _ _ _ _ _
theorem loopW_grow {V : List Int → Int → Int → Int → WS → WS} (hV : ∀ way no lo hi s, Grow s (V way no lo hi s)) (l : List UInt8) (way : List Int) (no hi : Int) (s : WS) {k n : Nat} (hk : k ≤ n) : Grow (loopW V l way no hi k s) (loopW V l way no hi n s) := by
  induction n with
  | zero => obtain rfl : k = 0 := by omega
            exact Grow.refl _
  | succ n ih =>
    rcases Nat.lt_or_ge n k with q | q
    · obtain rfl : k = n + 1 := by omega
      exact Grow.refl _
    · rw [loopW_succ]
      exact (ih q).trans (roundW_grow hV _ _ _ _ _ _)
theorem loopW_zero (V : List Int → Int → Int → Int → WS → WS) (l : List UInt8) (way : List Int) (no hi : Int) (s : WS) : loopW V l way no hi 0 s = s := rfl
theorem visitF_grow (l : List UInt8) (tree fuel : Int) : ∀ (d : Nat) (way : List Int) (no lo hi : Int) (s : WS), Grow s (visitF l tree fuel d way no lo hi s)
  | 0, _, _, _, _, s => Grow.refl s
  | d + 1, way, no, lo, hi, s => by
    unfold visitF
    split
    · exact ⟨Nat.le_refl _, Nat.le_refl _, by simp [noteW]⟩
    · split
      · exact ⟨Nat.le_refl _, Nat.le_refl _, by simp [noteW]⟩
      · split
        · exact ⟨by simp, by simp, Nat.le_refl _⟩
        · refine Grow.trans ⟨?_, ?_, ?_⟩ (loopW_grow (visitF_grow l tree fuel d) l way no hi _ (Nat.zero_le _))
          · exact Nat.le_refl _
          · simp [loopW_zero]
          · exact Nat.le_refl _
/-- looked never falls -/
theorem visitF_looked (l : List UInt8) (tree fuel : Int) : ∀ (d : Nat) (way : List Int) (no lo hi : Int) (s : WS), s.looked ≤ (visitF l tree fuel d way no lo hi s).looked
  | 0, _, _, _, _, s => Nat.le_refl _
  | d + 1, way, no, lo, hi, s => by
    have hl : ∀ (k : Nat) (t : WS), t.looked ≤ (loopW (visitF l tree fuel d) l way no hi k t).looked := by
      intro k t
      induction k with
      | zero => exact Nat.le_refl _
      | succ k ih =>
        rw [loopW_succ]
        refine Nat.le_trans ih ?_
        unfold roundW
        split
        · exact Nat.le_refl _
        · unfold childW
          split
          · exact visitF_looked l tree fuel d _ _ _ _ _
          · exact Nat.le_refl _
    unfold visitF
    split
    · exact Nat.le_refl _
    · split
      · exact Nat.le_succ _
      · split
        · exact Nat.le_succ _
        · exact Nat.le_trans (Nat.le_succ _) (hl (nodC (inB l no)) { s with looked := s.looked + 1, bs := s.bs ++ [no] })
section
variable {B bw Bi b : Nat} {pi : Option Addr} {ni ci : Nat} {l : List UInt8} {tree fuel : Int} {way : List Int} {s : WS} {pe pb pf pw : Option Addr} {ce cb cf cw : Nat} {fv : List Value} {w W : World}
theorem WalkR.below (h : WalkR B bw Bi b pi ni ci l tree fuel way s pe pb pf pw ce cb cf cw fv w) (hb : Below w.heap.size w W) : WalkR B bw Bi b pi ni ci l tree fuel way s pe pb pf pw ce cb cf cw fv W :=
  ⟨h.blk.below hb, own_below h.ents hb, own_below h.blks hb, own_below h.flts hb, h.fltv.below hb, own_below h.ways hb, h.apart, h.img.below hb⟩
theorem WalkR.only {T : List TypeId} (h : WalkR B bw Bi b pi ni ci l tree fuel way s pe pb pf pw ce cb cf cw fv w) (hO : Only T w W)
    (hT : T.contains 74 = false ∧ T.contains 26 = false ∧ T.contains 3 = false ∧ T.contains 30 = false ∧ T.contains 114 = false ∧ T.contains 63 = false ∧ T.contains 5 = false) : WalkR B bw Bi b pi ni ci l tree fuel way s pe pb pf pw ce cb cf cw fv W :=
  ⟨h.blk.only hO hT.1, own_only h.ents hO hT.2.1, own_only h.blks hO hT.2.2.1, own_only h.flts hO hT.2.2.2.1, h.fltv.only hO hT.2.2.2.2.1, own_only h.ways hO hT.2.2.1, h.apart, h.img.only hO ⟨hT.2.2.2.2.2.1, hT.2.2.2.2.2.2⟩⟩
end
end Go.Proofs.YtolblnjohaooaaaGreat
