/- The document's answer for layer 7, read: Width, Max, form, Read. What package span computes: All, Has, Right and Fits return the plain functions below, for any span and any slice of keys, and change nothing that lay there. What package span's iterator 'each' hands over: the spans of the children from the last one to the first, for any span and any keys; and that Child and Split return the plain functions below. What the iterator of slices.Backward hands over: the elements of a slice of ints from the last one to the first. block.Node, whatever lies in the image. (*Alloc).Image, and build.right at entries that are right. slices.Backward of ints. (*walker).note: an error noted at the blocks of the way. slices.Contains of ints. Child and Split of package span return the plain functions below, for any span and any slice of keys. (*walker).look. (*walker).leaf. append onto one of two rows of the same type: where the new row lies. What a scan computes, in plain Lean: the walker's state, a visit, and how the state lies in memory. (*walker).child, given what a visit one deeper does. The lists of a scan only grow. -/
import Derived.Test.YtinegkldgjhnpaaGreatDoorRows
import Derived.RangeFuncNested
import Derived.RangeFuncBound
import Derived.RangeFuncCalls
import Derived.RangeFuncLeaves
import Derived.Shelf.Abstract
import Derived.Shelf.RegionOpen
import Derived.OwnWalkIn
import Derived.TacticsInMore
import Derived.LoopNIn
import Derived.LoopIn
import Derived.Test.YtinegkldgjhnpaaGreatDoorMg3
namespace Go.Proofs.YtinegkldgjhnpaaGreatDoor
open Go.RowKit Go.Extern.Stop Go.Stop Go.Extern
set_option linter.unusedVariables false
attribute [local irreducible] wpList wpAnyH Code.wp Oper.wp Go

theorem ref07_WidthG (t : Int) (leaf : Bool) (w : World) : Calls Tryz.prog 119 #[.int .i64 t, .bool leaf] w (Ret (.int .i64 (widG t leaf : Int)) w) := by
  unfold widG
  by_cases h : 1 ≤ t ∧ t ≤ 5
  · rw [if_pos h]; exact ref07_Width t leaf _ rfl h.1 h.2 w
  · rw [if_neg h]; exact ref07_Width_o t leaf w h
theorem ref07_MaxG (t : Int) (leaf : Bool) (w : World) : Calls Tryz.prog 121 #[.int .i64 t, .bool leaf] w (Ret (.int .i64 (maxG t leaf : Int)) w) := by
  unfold maxG
  by_cases h : 1 ≤ t ∧ t ≤ 5
  · rw [if_pos h]; exact ref07_Max t leaf _ rfl h.1 h.2 w
  · rw [if_neg h]; exact ref07_Max_o t leaf w h
theorem zeroB_cut {l : List UInt8} {a b m : Nat} (e : a = b) : zeroB ((l.drop a).take (m - a)) = zeroB ((l.drop b).take (m - b)) := by rw [e]
theorem shape_fits {l : List UInt8} (h : shapeB l = true) : nodC l ≤ nodM l ∧ 12 + nodM l * 8 + nodM l * nodW l ≤ 244 ∧ nodM l ≤ 18 ∧ nodW l ≤ 24 ∧ nodC l * nodW l ≤ nodM l * nodW l :=
  ⟨node_shapeP h, fitG (nodT l) (nodL l), maxG_le (nodT l) (nodL l), widG_le (nodT l) (nodL l), Nat.mul_le_mul_right _ (node_shapeP h)⟩
set_option maxRecDepth 100000 in
set_option maxHeartbeats 4000000 in
theorem ref07_form (a : Option Addr) (c : Nat) (l : List UInt8) (w : World) (hl : l.length = 244) (h : Bys w (.slice a 244 c) l) :
    Calls Tryz.prog 118 #[.slice a 244 c] w (Ret (.bool (shapeB l && nodeZ l)) w) := by
 have hcap := Bys.cap h hl
 have hr0 := raw1 l 0
 have hr2 := rawN_lt l 2 2
 have hmg := maxG_le (nodT l) (nodL l)
 have hwg := widG_le (nodT l) (nodL l)
 change nodM l ≤ 18 at hmg
 change nodW l ≤ 24 at hwg
 refine zin 101 Tryz.func118 ?_
 refine xx 13 _ 244 0 1 (BysN.elem h hl (k := 0) (by omega)).1 ?_
 refine xl 0 ((BysN.elem h hl (k := 0) (by omega)).2) ?_
 refine xid 4 ((↑(l.getD 0 0).toNat : Int) > (1 : Int)) (fun hc1 => ?_) (fun hc1 => ?_)
 · refine xe 7 (.bool false) ?_
   rw [show shapeB l = false from decide_eq_false (by omega)]; exact ⟨rfl, (Below.refl w.heap.size _)⟩
 refine xbs 5 6 [.int .i64 1, .int .i64 1, .int .i64 2, .int .i64 2, .int .i64 2, .int .i64 4] 3 fun b2 W2 n2 => ?_
 refine xc 0 (args := #[.slice a 244 c, .slice (some ⟨b2, 0, none⟩) 6 6]) (ref_UnpackN a 244 c l (some ⟨b2, 0, none⟩) 6 6 [1, 1, 2, 2, 2, 4] (head6 l) _ hl rfl rfl (by decide) (by decide) (by decide) (by decide) (h.below n2.below) (n2.blk.sl 6 6 (by decide) (by decide)) (head6_bd l)) ?_
 rintro _ W3 ⟨_, rfl, hb3, p5, c5, rfl, h5⟩
 have h5'1 := own_mono h5 n2.below.size
 refine xx 10 _ 6 0 1 (nv_elem (l := head6 l) (own_sl h5'1) rfl (k := 0) (by decide)).1 ?_
 refine xl 0 ((nv_elem (l := head6 l) (own_sl h5'1) rfl (k := 0) (by decide)).2) ?_
 refine xx 7 _ 6 1 1 (nv_elem (l := head6 l) (own_sl h5'1) rfl (k := 1) (by decide)).1 ?_
 refine xl 0 ((nv_elem (l := head6 l) (own_sl h5'1) rfl (k := 1) (by decide)).2) ?_
 refine xr 1 (args := #[.int .i64 (↑(rawN l 1 1) : Int), .bool ((↑(rawN l 0 1) : Int) == (1 : Int))]) (ref07_WidthG (nodT l) (nodL l) _) fun W4 hb4 => ?_
 have h5'2 := own_below h5'1 hb4
 refine xx 6 _ 6 1 1 (nv_elem (l := head6 l) (own_sl h5'2) rfl (k := 1) (by decide)).1 ?_
 refine xl 0 ((nv_elem (l := head6 l) (own_sl h5'2) rfl (k := 1) (by decide)).2) ?_
 refine xr 1 (args := #[.int .i64 (↑(rawN l 1 1) : Int), .bool ((↑(rawN l 0 1) : Int) == (1 : Int))]) (ref07_MaxG (nodT l) (nodL l) _) fun W5 hb5 => ?_
 refine xg 9 [38, 39] ((↑(nodW l) : Int) == (0 : Int)) (fun hc6 => ?_) (fun hc6 => ?_)
 · have hc6 := eq_of_beq hc6
   have hB'1 := Bl.next (Bl.next (Bl.next n2.below hb3) hb4) hb5
   refine xe 46 (.bool false) ?_
   rw [show shapeB l = false from decide_eq_false (by omega)]; exact ⟨rfl, hB'1⟩
 have hc6 := ne_of_beq_false hc6
 have h5'3 := own_below h5'2 hb5
 refine xx 1 _ 6 3 1 (nv_elem (l := head6 l) (own_sl h5'3) rfl (k := 3) (by decide)).1 ?_
 refine xl 0 ((nv_elem (l := head6 l) (own_sl h5'3) rfl (k := 3) (by decide)).2) ?_
 refine xg 4 [44, 45, 46] ((↑(rawN l 4 2) : Int) != (↑(nodW l) : Int)) (fun hc7 => ?_) (fun hc7 => ?_)
 · have hc7 := ne_of_bne hc7
   have hB'2 := Bl.next (Bl.next (Bl.next n2.below hb3) hb4) hb5
   refine xe 39 (.bool false) ?_
   rw [show shapeB l = false from decide_eq_false (by omega)]; exact ⟨rfl, hB'2⟩
 have hc7 := eq_of_bne_false hc7
 refine xx 1 _ 6 4 1 (nv_elem (l := head6 l) (own_sl h5'3) rfl (k := 4) (by decide)).1 ?_
 refine xl 0 ((nv_elem (l := head6 l) (own_sl h5'3) rfl (k := 4) (by decide)).2) ?_
 refine xg 4 [51, 52, 53] ((↑(rawN l 6 2) : Int) != (↑(nodM l) : Int)) (fun hc8 => ?_) (fun hc8 => ?_)
 · have hc8 := ne_of_bne hc8
   have hB'3 := Bl.next (Bl.next (Bl.next n2.below hb3) hb4) hb5
   refine xe 32 (.bool false) ?_
   rw [show shapeB l = false from decide_eq_false (by omega)]; exact ⟨rfl, hB'3⟩
 have hc8 := eq_of_bne_false hc8
 refine xx 1 _ 6 5 1 (nv_elem (l := head6 l) (own_sl h5'3) rfl (k := 5) (by decide)).1 ?_
 refine xl 0 ((nv_elem (l := head6 l) (own_sl h5'3) rfl (k := 5) (by decide)).2) ?_
 refine xg 3 [57, 58, 59] ((↑(rawN l 8 4) : Int) != (0 : Int)) (fun hc9 => ?_) (fun hc9 => ?_)
 · have hc9 := ne_of_bne hc9
   have hB'4 := Bl.next (Bl.next (Bl.next n2.below hb3) hb4) hb5
   refine xe 26 (.bool false) ?_
   rw [show shapeB l = false from decide_eq_false (by omega)]; exact ⟨rfl, hB'4⟩
 have hc9 := eq_of_bne_false hc9
 refine xx 1 _ 6 2 1 (nv_elem (l := head6 l) (own_sl h5'3) rfl (k := 2) (by decide)).1 ?_
 refine xl 0 ((nv_elem (l := head6 l) (own_sl h5'3) rfl (k := 2) (by decide)).2) ?_
 refine xg 4 [64, 65, 66] (decide ((↑(rawN l 2 2) : Int) > (↑(nodM l) : Int))) (fun hc10 => ?_) (fun hc10 => ?_)
 · have hc10 := of_decide_eq_true hc10
   have hB'5 := Bl.next (Bl.next (Bl.next n2.below hb3) hb4) hb5
   refine xe 19 (.bool false) ?_
   rw [show shapeB l = false from decide_eq_false (by omega)]; exact ⟨rfl, hB'5⟩
 have hc10 := of_decide_eq_false hc10
 refine xg 3 [68, 69] (!((↑(rawN l 0 1) : Int) == (1 : Int))) (fun hc11 => ?_) (fun hc11 => ?_)
 · have hlf : rawN l 0 1 ≠ 1 := by have q : ¬ ((rawN l 0 1 : Int) = 1) := (by simpa using hc11); omega
   refine xx 1 _ 6 2 1 (nv_elem (l := head6 l) (own_sl h5'3) rfl (k := 2) (by decide)).1 ?_
   refine xl 0 ((nv_elem (l := head6 l) (own_sl h5'3) rfl (k := 2) (by decide)).2) ?_
   refine xie 5 (↑(rawN l 2 2) : Int) (0 : Int) (fun hc12 => ?_) (fun hc12 => ?_)
   · have hB'6 := Bl.next (Bl.next (Bl.next n2.below hb3) hb4) hb5
     refine xe 7 (.bool false) ?_
     rw [show shapeB l = false from decide_eq_false (by omega)]; exact ⟨rfl, hB'6⟩
   refine xx 6 _ 6 2 1 (nv_elem (l := head6 l) (own_sl h5'3) rfl (k := 2) (by decide)).1 ?_
   refine xl 0 ((nv_elem (l := head6 l) (own_sl h5'3) rfl (k := 2) (by decide)).2) ?_
   refine xwm 0 (8 * (↑(rawN l 2 2) : Int)) (↑(8 * (rawN l 2 2)) : Int) ?_
   refine xwm 0 (12 + (↑(8 * (rawN l 2 2)) : Int)) (↑(12 + (8 * (rawN l 2 2))) : Int) ?_
   refine xwm 1 (8 * (↑(nodM l) : Int)) (↑(8 * (nodM l)) : Int) ?_
   refine xwm 0 (12 + (↑(8 * (nodM l)) : Int)) (↑(12 + (8 * (nodM l))) : Int) ?_
   refine xsB 0 (fun _ _ _ _ _ zo zx zy zz V => run_sliceLHA (k := (12 + (8 * (rawN l 2 2)))) (h := (12 + (8 * (nodM l)))) (b := a) (n := 244) (c := c) (i := (↑(12 + (8 * (rawN l 2 2))) : Int)) (ki := .i64) (j := (↑(12 + (8 * (nodM l))) : Int)) (kj := .i64) 1 zo zx zy rfl zz rfl (by omega) (by omega) Tryz.underlying22 (by kernel_rfl) V) ?_
   have hr0 := raw1 l 0
   have hs : shapeB l = true := decide_eq_true ⟨by omega, by omega, by omega, by omega, by omega, by omega, by omega⟩
   obtain ⟨hcm, hfit, hmle, hwle, hcw⟩ := shape_fits hs
   unfold nodC at hcm hcw
   have hwc := Nat.mul_comm (rawN l 2 2) (nodW l)
   have hz1 : nodeZ l = (zeroB ((l.drop (12 + 8 * rawN l 2 2)).take ((12 + 8 * nodM l) - (12 + 8 * rawN l 2 2))) && zeroB ((l.drop (12 + 8 * nodM l + nodW l * rawN l 2 2)).take (244 - (12 + 8 * nodM l + nodW l * rawN l 2 2)))) := by unfold nodeZ node2 node1 node0 nodC; rw [show 12 + rawN l 2 2 * 8 = 12 + 8 * rawN l 2 2 by omega, show 12 + nodM l * 8 = 12 + 8 * nodM l by omega, Nat.mul_comm (rawN l 2 2) (nodW l)]
   have hB'7 := Bl.next (Bl.next (Bl.next n2.below hb3) hb4) hb5
   refine xr 0 (args := #[.slice (cutA a (12 + (8 * (rawN l 2 2))) c 1) ((12 + (8 * (nodM l))) - (12 + (8 * (rawN l 2 2)))) (c - (12 + (8 * (rawN l 2 2))))]) (ref_ZeroN (cutA a (12 + (8 * (rawN l 2 2))) c 1) ((12 + (8 * (nodM l))) - (12 + (8 * (rawN l 2 2)))) (c - (12 + (8 * (rawN l 2 2)))) _ _ (by simp; omega) (by omega) ((Bys.cut h hl (12 + 8 * rawN l 2 2) (12 + 8 * nodM l) (by omega) (by omega)).below hB'7)) fun W13 hb13 => ?_
   refine xg 1 [86, 87] (zeroB ((l.drop (12 + 8 * rawN l 2 2)).take ((12 + 8 * nodM l) - (12 + 8 * rawN l 2 2)))) (fun hc14 => ?_) (fun hc14 => ?_)
   · refine xwm 2 (8 * (↑(nodM l) : Int)) (↑(8 * (nodM l)) : Int) ?_
     refine xwm 0 (12 + (↑(8 * (nodM l)) : Int)) (↑(12 + (8 * (nodM l))) : Int) ?_
     have h5'4 := own_below h5'3 hb13
     refine xx 2 _ 6 2 1 (nv_elem (l := head6 l) (own_sl h5'4) rfl (k := 2) (by decide)).1 ?_
     refine xl 0 ((nv_elem (l := head6 l) (own_sl h5'4) rfl (k := 2) (by decide)).2) ?_
     refine xwm 0 ((↑(nodW l) : Int) * (↑(rawN l 2 2) : Int)) (↑((nodW l) * (rawN l 2 2)) : Int) ?_
     refine xwm 0 ((↑(12 + (8 * (nodM l))) : Int) + (↑((nodW l) * (rawN l 2 2)) : Int)) (↑((12 + (8 * (nodM l))) + ((nodW l) * (rawN l 2 2))) : Int) ?_
     refine xsL 0 (fun _ _ _ _ zo zx zy V => run_sliceLA (k := ((12 + (8 * (nodM l))) + ((nodW l) * (rawN l 2 2)))) (b := a) (n := 244) (c := c) (i := (↑((12 + (8 * (nodM l))) + ((nodW l) * (rawN l 2 2))) : Int)) (ki := .i64) 1 zo zx zy rfl (by omega) Tryz.underlying22 (by kernel_rfl) V) ?_
     have hB'8 := Bl.next hB'7 hb13
     refine xr 0 (args := #[.slice (cutA a ((12 + (8 * (nodM l))) + ((nodW l) * (rawN l 2 2))) c 1) (244 - ((12 + (8 * (nodM l))) + ((nodW l) * (rawN l 2 2)))) (c - ((12 + (8 * (nodM l))) + ((nodW l) * (rawN l 2 2))))]) (ref_ZeroN (cutA a ((12 + (8 * (nodM l))) + ((nodW l) * (rawN l 2 2))) c 1) (244 - ((12 + (8 * (nodM l))) + ((nodW l) * (rawN l 2 2)))) (c - ((12 + (8 * (nodM l))) + ((nodW l) * (rawN l 2 2)))) _ _ (by simp; omega) (by omega) ((Bys.cut h hl (12 + 8 * nodM l + nodW l * rawN l 2 2) 244 (by omega) (by omega)).below hB'8)) fun W15 hb15 => ?_
     have hB'9 := Bl.next hB'8 hb15
     refine xe 5 (.bool (zeroB ((l.drop (12 + 8 * nodM l + nodW l * rawN l 2 2)).take (244 - (12 + 8 * nodM l + nodW l * rawN l 2 2))))) ?_
     rw [hs, hz1, hc14]; exact ⟨rfl, hB'9⟩
   have hB'10 := Bl.next hB'7 hb13
   refine xe 17 (.bool false) ?_
   rw [hs, hz1, hc14]; exact ⟨rfl, hB'10⟩
 have hlf : rawN l 0 1 = 1 := by have q : ((rawN l 0 1 : Int) = 1) := (by simpa using hc11); omega
 refine xx 15 _ 6 2 1 (nv_elem (l := head6 l) (own_sl h5'3) rfl (k := 2) (by decide)).1 ?_
 refine xl 0 ((nv_elem (l := head6 l) (own_sl h5'3) rfl (k := 2) (by decide)).2) ?_
 refine xwm 0 (8 * (↑(rawN l 2 2) : Int)) (↑(8 * (rawN l 2 2)) : Int) ?_
 refine xwm 0 (12 + (↑(8 * (rawN l 2 2)) : Int)) (↑(12 + (8 * (rawN l 2 2))) : Int) ?_
 refine xwm 1 (8 * (↑(nodM l) : Int)) (↑(8 * (nodM l)) : Int) ?_
 refine xwm 0 (12 + (↑(8 * (nodM l)) : Int)) (↑(12 + (8 * (nodM l))) : Int) ?_
 refine xsB 0 (fun _ _ _ _ _ zo zx zy zz V => run_sliceLHA (k := (12 + (8 * (rawN l 2 2)))) (h := (12 + (8 * (nodM l)))) (b := a) (n := 244) (c := c) (i := (↑(12 + (8 * (rawN l 2 2))) : Int)) (ki := .i64) (j := (↑(12 + (8 * (nodM l))) : Int)) (kj := .i64) 1 zo zx zy rfl zz rfl (by omega) (by omega) Tryz.underlying22 (by kernel_rfl) V) ?_
 have hr0 := raw1 l 0
 have hs : shapeB l = true := decide_eq_true ⟨by omega, by omega, by omega, by omega, by omega, by omega, by omega⟩
 obtain ⟨hcm, hfit, hmle, hwle, hcw⟩ := shape_fits hs
 unfold nodC at hcm hcw
 have hwc := Nat.mul_comm (rawN l 2 2) (nodW l)
 have hz1 : nodeZ l = (zeroB ((l.drop (12 + 8 * rawN l 2 2)).take ((12 + 8 * nodM l) - (12 + 8 * rawN l 2 2))) && zeroB ((l.drop (12 + 8 * nodM l + nodW l * rawN l 2 2)).take (244 - (12 + 8 * nodM l + nodW l * rawN l 2 2)))) := by unfold nodeZ node2 node1 node0 nodC; rw [show 12 + rawN l 2 2 * 8 = 12 + 8 * rawN l 2 2 by omega, show 12 + nodM l * 8 = 12 + 8 * nodM l by omega, Nat.mul_comm (rawN l 2 2) (nodW l)]
 have hB'11 := Bl.next (Bl.next (Bl.next n2.below hb3) hb4) hb5
 refine xr 0 (args := #[.slice (cutA a (12 + (8 * (rawN l 2 2))) c 1) ((12 + (8 * (nodM l))) - (12 + (8 * (rawN l 2 2)))) (c - (12 + (8 * (rawN l 2 2))))]) (ref_ZeroN (cutA a (12 + (8 * (rawN l 2 2))) c 1) ((12 + (8 * (nodM l))) - (12 + (8 * (rawN l 2 2)))) (c - (12 + (8 * (rawN l 2 2)))) _ _ (by simp; omega) (by omega) ((Bys.cut h hl (12 + 8 * rawN l 2 2) (12 + 8 * nodM l) (by omega) (by omega)).below hB'11)) fun W16 hb16 => ?_
 refine xg 1 [86, 87] (zeroB ((l.drop (12 + 8 * rawN l 2 2)).take ((12 + 8 * nodM l) - (12 + 8 * rawN l 2 2)))) (fun hc17 => ?_) (fun hc17 => ?_)
 · refine xwm 2 (8 * (↑(nodM l) : Int)) (↑(8 * (nodM l)) : Int) ?_
   refine xwm 0 (12 + (↑(8 * (nodM l)) : Int)) (↑(12 + (8 * (nodM l))) : Int) ?_
   have h5'5 := own_below h5'3 hb16
   refine xx 2 _ 6 2 1 (nv_elem (l := head6 l) (own_sl h5'5) rfl (k := 2) (by decide)).1 ?_
   refine xl 0 ((nv_elem (l := head6 l) (own_sl h5'5) rfl (k := 2) (by decide)).2) ?_
   refine xwm 0 ((↑(nodW l) : Int) * (↑(rawN l 2 2) : Int)) (↑((nodW l) * (rawN l 2 2)) : Int) ?_
   refine xwm 0 ((↑(12 + (8 * (nodM l))) : Int) + (↑((nodW l) * (rawN l 2 2)) : Int)) (↑((12 + (8 * (nodM l))) + ((nodW l) * (rawN l 2 2))) : Int) ?_
   refine xsL 0 (fun _ _ _ _ zo zx zy V => run_sliceLA (k := ((12 + (8 * (nodM l))) + ((nodW l) * (rawN l 2 2)))) (b := a) (n := 244) (c := c) (i := (↑((12 + (8 * (nodM l))) + ((nodW l) * (rawN l 2 2))) : Int)) (ki := .i64) 1 zo zx zy rfl (by omega) Tryz.underlying22 (by kernel_rfl) V) ?_
   have hB'12 := Bl.next hB'11 hb16
   refine xr 0 (args := #[.slice (cutA a ((12 + (8 * (nodM l))) + ((nodW l) * (rawN l 2 2))) c 1) (244 - ((12 + (8 * (nodM l))) + ((nodW l) * (rawN l 2 2)))) (c - ((12 + (8 * (nodM l))) + ((nodW l) * (rawN l 2 2))))]) (ref_ZeroN (cutA a ((12 + (8 * (nodM l))) + ((nodW l) * (rawN l 2 2))) c 1) (244 - ((12 + (8 * (nodM l))) + ((nodW l) * (rawN l 2 2)))) (c - ((12 + (8 * (nodM l))) + ((nodW l) * (rawN l 2 2)))) _ _ (by simp; omega) (by omega) ((Bys.cut h hl (12 + 8 * nodM l + nodW l * rawN l 2 2) 244 (by omega) (by omega)).below hB'12)) fun W18 hb18 => ?_
   have hB'13 := Bl.next hB'12 hb18
   refine xe 5 (.bool (zeroB ((l.drop (12 + 8 * nodM l + nodW l * rawN l 2 2)).take (244 - (12 + 8 * nodM l + nodW l * rawN l 2 2))))) ?_
   rw [hs, hz1, hc17]; exact ⟨rfl, hB'13⟩
 have hB'14 := Bl.next hB'11 hb16
 refine xe 17 (.bool false) ?_
 rw [hs, hz1, hc17]; exact ⟨rfl, hB'14⟩
def RGetP (l : List UInt8) (k w : Nat) (W : World) (e : Ending) (w' : World) : Prop :=
  (rawN l k w < 9223372036854775808 ∧ e = .returned (.tuple #[.int .i64 (rawN l k w : Int), .int .i64 0]) ∧ Below W.heap.size W w') ∨ (¬ rawN l k w < 9223372036854775808 ∧ e = .returned (.tuple #[.int .i64 0, .int .i64 2]) ∧ Below W.heap.size W w')
theorem ref_GetP (a : Option Addr) (n c k w : Nat) (l : List UInt8) (W : World) (hn : l.length = n) (hw : w = 1 ∨ w = 2 ∨ w = 4 ∨ w = 8) (hk : k + w ≤ n) (hl : n ≤ 100000000) (h : Bys W (.slice a n c) l) (ki wi : Int) (hki : ki = (k : Int)) (hwi : wi = (w : Int)) :
    Calls Tryz.prog 120 #[.slice a n c, .int .i64 ki, .int .i64 wi] W (RGetP l k w W) := by
  subst hn hwi hki
  by_cases hq : rawN l k w < 9223372036854775808
  · refine (ref_Get_ok a c k w l W hw hk hl h hq).mono ?_
    rintro e V ⟨rfl, hb⟩; exact .inl ⟨hq, rfl, hb⟩
  · refine (ref_Get_big a c k w l W hw hk hl h hq).mono ?_
    rintro e V ⟨rfl, hb⟩; exact .inr ⟨hq, rfl, hb⟩
theorem keyE_big {l : List UInt8} {i : Nat} (h : 281474976710655 < rawN l (12 + i * 8) 8) : keyE l i = 2 := by unfold keyE keyN; rw [if_pos h]
theorem keyE_low {l : List UInt8} {i : Nat} (h : ¬ 281474976710655 < rawN l (12 + i * 8) 8) (h0 : 0 < i) (h1 : (rawN l (12 + i * 8) 8 : Int) ≤ (keysI l i).getD (i - 1) 0) : keyE l i = 8 := by
  rw [keysI_get l (by omega)] at h1
  change ¬ 281474976710655 < keyN l i at h
  change (keyN l i : Int) ≤ _ at h1
  unfold keyE
  rw [if_neg h, if_pos ⟨h0, by omega⟩]
theorem keyE_ok {l : List UInt8} {i : Nat} (h : ¬ 281474976710655 < rawN l (12 + i * 8) 8) (h0 : ¬ 0 < i) : keyE l i = 0 := by
  change ¬ 281474976710655 < keyN l i at h
  unfold keyE; rw [if_neg h, if_neg fun q => h0 q.1]
theorem keyE_ok2 {l : List UInt8} {i : Nat} (h : ¬ 281474976710655 < rawN l (12 + i * 8) 8) (h0 : 0 < i) (h1 : ¬ (rawN l (12 + i * 8) 8 : Int) ≤ (keysI l i).getD (i - 1) 0) : keyE l i = 0 := by
  rw [keysI_get l (by omega)] at h1
  change ¬ 281474976710655 < keyN l i at h
  change ¬ (keyN l i : Int) ≤ _ at h1
  unfold keyE
  rw [if_neg h, if_neg fun q => h1 (by have := q.2; omega)]
theorem valN_cut {a : Option Addr} {c i : Nat} {l : List UInt8} {w : World} (h : Bys w (.slice a 244 c) l) (hl : l.length = 244) (hb : 12 + 8 * nodM l + nodW l * i + nodW l ≤ 244) :
    Bys w (.slice (cutA a (12 + 8 * nodM l + nodW l * i) c 1) (12 + 8 * nodM l + nodW l * i + nodW l - (12 + 8 * nodM l + nodW l * i)) (c - (12 + 8 * nodM l + nodW l * i))) (valN l i) := by
  have := Bys.cut h hl (12 + 8 * nodM l + nodW l * i) (12 + 8 * nodM l + nodW l * i + nodW l) (by omega) hb
  unfold valN
  rw [show 12 + nodM l * 8 + i * nodW l = 12 + 8 * nodM l + nodW l * i by rw [Nat.mul_comm i]; omega]
  rw [show (l.drop (12 + 8 * nodM l + nodW l * i)).take (nodW l) = (l.drop (12 + 8 * nodM l + nodW l * i)).take (12 + 8 * nodM l + nodW l * i + nodW l - (12 + 8 * nodM l + nodW l * i)) by rw [Nat.add_sub_cancel_left]]
  exact this
theorem valN_cutlen {i : Nat} {l : List UInt8} (hl : l.length = 244) (hb : 12 + 8 * nodM l + nodW l * i + nodW l ≤ 244) : (valN l i).length = 12 + 8 * nodM l + nodW l * i + nodW l - (12 + 8 * nodM l + nodW l * i) := by
  unfold valN; simp only [List.length_take, List.length_drop]; rw [Nat.mul_comm i]; omega
theorem rawC {l : List UInt8} (h : nodC l ≤ 18) : (l.getD 2 0).toNat = nodC l := by
  have e : rawN l 2 2 = (l.getD 2 0).toNat + 256 * (l.getD 3 0).toNat := raw2 l 2
  unfold nodC at h ⊢
  omega
def RNodeP (l : List UInt8) (w : World) (e : Ending) (w' : World) : Prop :=
  (nodeE l ≠ 0 ∧ e = .returned (.tuple #[.agg #[.int .i64 0, .bool false, .slice none 0 0, .slice none 0 0], .int .i64 (nodeE l)]) ∧ Below w.heap.size w w') ∨
  (nodeE l = 0 ∧ ∃ kp kc vp vc, e = .returned (.tuple #[.agg #[.int .i64 (nodT l), .bool (nodL l), .slice kp (nodC l) kc, .slice vp (nodC l) vc], .int .i64 0]) ∧ Below w.heap.size w w' ∧
    w'.ownsRow w.heap.size 3 1 (.slice kp (nodC l) kc) (nodC l) ((keysI l (nodC l)).map (Value.int .i64)) ∧ w'.ownsRow w.heap.size 9 1 (.slice vp (nodC l) vc) (nodC l) ((valsL l (nodC l)).map sv))
set_option maxRecDepth 100000 in
set_option maxHeartbeats 4000000 in
theorem ref07_Read (a : Option Addr) (c : Nat) (l : List UInt8) (w : World) (hl : l.length = 244) (h : Bys w (.slice a 244 c) l) :
    Calls Tryz.prog 75 #[.slice a 244 c] w (RNodeP l w) := by
 have hcap := Bys.cap h hl
 refine zin 94 Tryz.func75 ?_
 refine xa 2 [.int .i64 0, .bool false, .slice none 0 0, .slice none 0 0] 52 fun b1 W1 n1 => ?_
 refine xr 7 (args := #[.slice a 244 c]) (ref07_form a c l _ hl (h.below n1.below)) fun W2 hb2 => ?_
 refine xi 3 (!(shapeB l && nodeZ l)) (fun hc3 => ?_) (fun hc3 => ?_)
 · have he : nodeE l = 7 := by unfold nodeE; by_cases q : shapeB l = true <;> simp_all
   have k1 := n1.blk.below hb2
   refine xsv 3 k1 [.int .i64 0, .bool false, .slice none 0 0, .slice none 0 0] fun W4 u4 k4 => ?_
   have g1 := n1.ge (Below.refl w.heap.size _)
   have hB'1 := u4.below (Bl.next n1.below hb2) g1
   exact xec 5 k4 (.tuple #[.agg #[.int .i64 0, .bool false, .slice none 0 0, .slice none 0 0], .int .i64 7]) (.inl ⟨by rw [he]; decide, by rw [he], hB'1⟩)
 have hsz : shapeB l = true ∧ nodeZ l = true := by simpa using hc3
 have hs := hsz.1
 have hnz := hsz.2
 obtain ⟨hcm, hfit, hmle, hwle, hcw⟩ := shape_fits hs
 refine xd 3 (.t w.heap.size [52]) ?_
 refine xx (.e [0] 1) _ 244 1 1 (BysN.elem h hl (k := 1) (by omega)).1 ?_
 have hB'2 := Bl.next (Bl.next n1.below hb2) (below_drew W2)
 refine xlt (.e [] 2) (.t w.heap.size [52]) (fun V hV => (BysN.elem (h.below (sft_keep hB'2 hV (Nat.le_refl _))) hl (k := 1) (by omega)).2) ?_
 refine xq (.e [] 3) (congrArg (Value.int .i64) (show (IntKind.i64.wrap (↑(l.getD 1 0).toNat : Int) : Int) = (nodT l) from by unfold nodT; rw [raw1]; exact i64_nat (by have := (l.getD 1 0).toNat_lt; omega))) ?_
 refine xx (.e [4] 5) _ 244 0 1 (BysN.elem h hl (k := 0) (by omega)).1 ?_
 refine xlt (.e [] 6) (.t w.heap.size [52]) (fun V hV => (BysN.elem (h.below (sft_keep hB'2 hV (Nat.le_refl _))) hl (k := 0) (by omega)).2) ?_
 refine xa (.o [7, 8] 9) [.int .i64 0, .bool false, .slice none 0 0, .slice none 0 0] 52 fun b5 W5 n5 => ?_
 have k1 := (n1.blk.below hb2).below (below_drew W2)
 have d5_b1 := n5.ne k1
 have g5 := n5.ge hB'2
 refine ysv (.o [] 10) n5.blk [.int .i64 (nodT l), .bool ((↑(l.getD 0 0).toNat : Int) == (1 : Int)), .slice none 0 0, .slice none 0 0] (.t w.heap.size [52]) fun W6 u6 k6 => ⟨(sft_upd u6 n5.blk g5 (by decide)), ?_⟩
 refine xb 5 0 k6 ?_
 refine xb 1 1 k6 ?_
 refine xr 0 (args := #[.int .i64 (nodT l), .bool ((↑(l.getD 0 0).toNat : Int) == (1 : Int))]) (ref07_WidthG (nodT l) (nodL l) _) fun W7 hb7 => ?_
 have hB'3 := Bl.next (u6.below (Bl.next hB'2 n5.below) g5) hb7
 have k1'1 := (u6.blk (k1.below n5.below) (Ne.symm (Ne.symm d5_b1))).below hb7
 have k6'1 := k6.below hb7
 refine zl 10 94 (fun zm zkv V => ∃ (i : Nat) (kp : Option Addr) (kc : Nat) (vp : Option Addr) (vc : Nat), zkv = [(0, .slice a 244 c), (2, .pointer (some ⟨b1, 0, none⟩)), (4, .pointer (some ⟨b5, 0, none⟩)), (5, .int .i64 (↑(nodW l) : Int)), (6, .int .i64 (↑i : Int))] ∧ zm = nodC l - ((↑i : Int)).toNat ∧ Below w.heap.size w V ∧ Blk V b1 ([.int .i64 0, .bool false, .slice none 0 0, .slice none 0 0]) 52 ∧ Blk V b5 ([.int .i64 (nodT l), .bool ((↑(l.getD 0 0).toNat : Int) == (1 : Int)), .slice kp i kc, .slice vp i vc]) 52 ∧ V.ownsRow w.heap.size 3 1 (.slice kp i kc) i ((keysI l i).map (Value.int .i64)) ∧ V.ownsRow w.heap.size 9 1 (.slice vp i vc) i ((valsL l i).map sv) ∧ i ≤ nodC l ∧ keysErr l i = 0) ⟨0, none, 0, none, 0, rfl, rfl, hB'3, k1'1, k6'1, World.ownsRow_nil _ _ _ _, World.ownsRow_nil _ _ _ _, Nat.zero_le _, rfl⟩ ?_
 rintro _ _ W8 ⟨i, kp, kc, vp, vc, rfl, rfl, hB_8, k8_b1, k8_b5, hK, hV, hi, hz⟩ J8 hJ8 r8
 have hiw : (i + 1) * nodW l = i * nodW l + nodW l := Nat.succ_mul i (nodW l)
 have hiw2 : i < nodC l → (i + 1) * nodW l ≤ nodM l * nodW l := fun hh => Nat.mul_le_mul_right _ (by omega)
 have hiw3 := Nat.mul_comm i (nodW l)
 refine xx 5 _ 244 2 1 (BysN.elem h hl (k := 2) (by omega)).1 ?_
 refine xl 0 ((BysN.elem (h.below hB_8) hl (k := 2) (by omega)).2) ?_
 refine xq 0 (congrArg (Value.int .i64) (show (IntKind.i64.wrap (↑(l.getD 2 0).toNat : Int) : Int) = (↑(nodC l) : Int) from by rw [rawC (by omega)]; exact i64_nat (by omega))) ?_
 refine xid 3 ((↑i : Int) < (↑(nodC l) : Int)) (fun hc9 => ?_) (fun hc9 => ?_)
 · refine xwm 8 (8 * (↑i : Int)) (↑(8 * i) : Int) ?_
   refine xwm 0 (12 + (↑(8 * i) : Int)) (↑(12 + (8 * i)) : Int) ?_
   refine xc 0 (args := #[.slice a 244 c, .int .i64 (↑(12 + (8 * i)) : Int), .int .i64 8]) (ref_GetP a 244 c (12 + i * 8) 8 l _ hl (by decide) (by omega) (by decide) (h.below hB_8) _ 8 (by omega) rfl) ?_
   rintro e W10 hq10
   rcases hq10 with ⟨hgk, rfl, hb10⟩ | ⟨hgk, rfl, hb10⟩
   · refine xid 18 ((↑(rawN l (12 + i * 8) 8) : Int) > (281474976710655 : Int)) (fun hc11 => ?_) (fun hc11 => ?_)
     · have k8_b1'1 := k8_b1.below hb10
       refine xsv 3 k8_b1'1 [.int .i64 0, .bool false, .slice none 0 0, .slice none 0 0] fun W12 u12 k12 => ?_
       have g1 := n1.ge (Below.refl w.heap.size _)
       have hB'4 := u12.below (Bl.next hB_8 hb10) g1
       refine xec 10 k12 (.tuple #[.agg #[.int .i64 0, .bool false, .slice none 0 0, .slice none 0 0], .int .i64 2]) ?_
       have hke : keyE l i = 2 := keyE_big (by omega)
       have he : nodeE l = 2 := by unfold nodeE; rw [if_pos hs, if_pos hnz, keysErr_at hz (by rw [hke]; decide) (by omega), hke]
       exact .inl ⟨by rw [he]; decide, by rw [he], hB'4⟩
     refine xg 8 [52, 53] (decide ((↑i : Int) > (0 : Int))) (fun hc13 => ?_) (fun hc13 => ?_)
     · have hc13 := of_decide_eq_true hc13
       have k8_b5'1 := k8_b5.below hb10
       refine xb 2 2 k8_b5'1 ?_
       refine xwm 1 ((↑i : Int) - 1) (↑(i - 1) : Int) ?_
       have hK'1 := own_below hK hb10
       refine xx 0 _ i (i - 1) 1 (IntsN.elem (own_sl hK'1) (keysI_len l i) (k := (i - 1)) (by omega)).1 ?_
       refine xl 0 ((IntsN.elem (own_sl hK'1) (keysI_len l i) (k := (i - 1)) (by omega)).2) ?_
       refine xid 4 ((↑(rawN l (12 + i * 8) 8) : Int) ≤ ((keysI l i).getD (i - 1) 0)) (fun hc14 => ?_) (fun hc14 => ?_)
       · have k8_b1'2 := k8_b1.below hb10
         refine xsv 3 k8_b1'2 [.int .i64 0, .bool false, .slice none 0 0, .slice none 0 0] fun W15 u15 k15 => ?_
         have g1 := n1.ge (Below.refl w.heap.size _)
         have hB'5 := u15.below (Bl.next hB_8 hb10) g1
         refine xec 10 k15 (.tuple #[.agg #[.int .i64 0, .bool false, .slice none 0 0, .slice none 0 0], .int .i64 8]) ?_
         have hke : keyE l i = 8 := keyE_low (by omega) (by omega) (by omega)
         have he : nodeE l = 8 := by unfold nodeE; rw [if_pos hs, if_pos hnz, keysErr_at hz (by rw [hke]; decide) (by omega), hke]
         exact .inl ⟨by rw [he]; decide, by rw [he], hB'5⟩
       refine xb 5 0 k8_b5'1 ?_
       refine xb 1 1 k8_b5'1 ?_
       refine xr 0 (args := #[.int .i64 (nodT l), .bool ((↑(l.getD 0 0).toNat : Int) == (1 : Int))]) (ref07_MaxG (nodT l) (nodL l) _) fun W16 hb16 => ?_
       refine xwm 0 (8 * (↑(nodM l) : Int)) (↑(8 * (nodM l)) : Int) ?_
       refine xwm 0 (12 + (↑(8 * (nodM l)) : Int)) (↑(12 + (8 * (nodM l))) : Int) ?_
       refine xwm 2 ((↑(nodW l) : Int) * (↑i : Int)) (↑((nodW l) * i) : Int) ?_
       refine xwm 0 ((↑(12 + (8 * (nodM l))) : Int) + (↑((nodW l) * i) : Int)) (↑((12 + (8 * (nodM l))) + ((nodW l) * i)) : Int) ?_
       have k8_b5'2 := k8_b5'1.below hb16
       refine xb 6 2 k8_b5'2 ?_
       refine xbs 1 1 [.int .i64 (↑(rawN l (12 + i * 8) 8) : Int)] 3 fun b17 W17 n17 => ?_
       have hB'6 := Bl.next (Bl.next hB_8 hb10) hb16
       have g17 := n17.ge hB'6
       have hK'2 := own_below hK'1 hb16
       have r17_hK := own_ne hK'2 n17
       have hK'3 := own_below hK'2 n17.below
       have hB'7 := Bl.next hB'6 n17.below
       refine xbi 0 fun _ _ _ _ zJ zQ zo zx zy zK => op_app (m := 1) (news := [.int .i64 (↑(rawN l (12 + i * 8) 8) : Int)]) (.int .i64 0) 1 8 (i + 1) ((keysI l (i + 1)).map (Value.int .i64)) zo Tryz.underlying26 (by kernel_rfl) rfl (by decide) zx hK'3 zy (n17.blk.sl 1 1 (by decide) (by decide)) rfl (by simp [Value.oneCell']) (by unfold maxLen; omega) (by omega) hB'7.size (by rfl) (by rw [keysI_snoc, List.map_append]; rfl) fun px18 cx18 W18 o18 hg18 hb18 => ?_
       refine zK _ _ ?_
       have k8_b5'3 := (k8_b5'2.below n17.below).grown hg18 hK'3 (by decide)
       refine xs 1 k8_b5'3 [.int .i64 (nodT l), .bool ((↑(l.getD 0 0).toNat : Int) == (1 : Int)), .slice px18 (i + 1) cx18, .slice vp i vc] fun W19 u19 k19 => ?_
       refine xd 2 (.t w.heap.size [9, 52]) ?_
       refine xwm (.e [0, 2, 3, 4, 5] 6) ((↑((12 + (8 * (nodM l))) + ((nodW l) * i)) : Int) + (↑(nodW l) : Int)) (↑(((12 + (8 * (nodM l))) + ((nodW l) * i)) + (nodW l)) : Int) ?_
       refine xsB (.e [] 7) (fun _ _ _ _ _ zo zx zy zz V => run_sliceLHA (k := ((12 + (8 * (nodM l))) + ((nodW l) * i))) (h := (((12 + (8 * (nodM l))) + ((nodW l) * i)) + (nodW l))) (b := a) (n := 244) (c := c) (i := (↑((12 + (8 * (nodM l))) + ((nodW l) * i)) : Int)) (ki := .i64) (j := (↑(((12 + (8 * (nodM l))) + ((nodW l) * i)) + (nodW l)) : Int)) (kj := .i64) 1 zo zx zy rfl zz rfl (by omega) (by omega) Tryz.underlying22 (by kernel_rfl) V) ?_
       have hV'1 := own_below (u19.own2 (own_grown (own_below (own_below (own_below hV hb10) hb16) n17.below) hg18 hK'3 (by decide)) k8_b5'3 (by decide)) (below_drew W19)
       have hB'8 := Bl.next (u19.below (hB'7.trans hb18) g5) (below_drew W19)
       refine xcvt (.e [] 8) (.t w.heap.size [9, 52]) (fun _ _ _ zo zx V hV'1 => run_bstr zo zx ((valN_cut (i := i) h hl (by omega)).below (sft_keep hB'8 hV'1 (Nat.le_refl _))) (valN_cutlen (i := i) hl (by omega)) Tryz.underlying22 Tryz.underlying5 Tryz.underlying9) ?_
       refine xm2 0 1 9 ?_ ?_
       · have k19'1 := k19.below (below_drew W19)
         refine xb 0 3 k19'1 ?_
         refine xbs (.o [] 9) 1 [.string ⟨(valN l i).toArray⟩] 9 fun b20 W20 n20 => ?_
         have g20 := n20.ge hB'8
         have r20_hV := own_ne hV'1 n20
         have hV'2 := own_below hV'1 n20.below
         have hB'9 := Bl.next hB'8 n20.below
         refine ybi (.o [] 10) (.t w.heap.size [9, 52]) fun _ _ _ _ zJ zQ zo zx zy zK => op_app (m := 1) (news := [.string ⟨(valN l i).toArray⟩]) (.string ⟨#[]⟩) 1 16 (i + 1) ((valsL l (i + 1)).map sv) zo Tryz.underlying50 (by kernel_rfl) rfl (by decide) zx hV'2 zy (n20.blk.sl 1 1 (by decide) (by decide)) rfl (by simp [Value.oneCell']) (by unfold maxLen; omega) (by omega) hB'9.size (by rfl) (by rw [valsL_snoc, List.map_append]; rfl) fun px21 cx21 W21 o21 hg21 hb21 => ?_
         refine zK _ _ (sft_grown hb21 hg21 hV'2 (by decide)) ?_
         have k19'2 := (k19'1.below n20.below).grown hg21 hV'2 (by decide)
         refine ys (.o [11] 12) k19'2 [.int .i64 (nodT l), .bool ((↑(l.getD 0 0).toNat : Int) == (1 : Int)), .slice px18 (i + 1) cx18, .slice px21 (i + 1) cx21] (.t w.heap.size [9, 52]) fun W22 u22 k22 => ⟨(sft_upd u22 k19'2 g5 (by decide)), ?_⟩
         refine xwm 5 ((↑i : Int) + 1) (↑(i + 1) : Int) ?_
         have hB'10 := u22.below (hB'9.trans hb21) g5
         have k8_b1'3 := u22.blk ((((u19.blk ((((k8_b1.below hb10).below hb16).below n17.below).grown hg18 hK'3 (by decide)) (Ne.symm (Ne.symm d5_b1))).below (below_drew W19)).below n20.below).grown hg21 hV'2 (by decide)) (Ne.symm (Ne.symm d5_b1))
         have o18'1 := u22.own2 (own_grown (own_below (own_below (u19.own2 o18 k8_b5'3 (by decide)) (below_drew W19)) n20.below) hg21 hV'2 (by decide)) k19'2 (by decide)
         have o21'1 := u22.own2 o21 k19'2 (by decide)
         exact ze 2 (hJ8 _ _ _ ⟨i + 1, _, _, _, _, rfl, rfl, hB'10, k8_b1'3, k22, o18'1, o21'1, by omega, keysErr_next hz (keyE_ok2 (by omega) (by omega) (by omega))⟩ (by omega))
       refine xbs 0 1 [.string ⟨(valN l i).toArray⟩] 9 fun b23 W23 n23 => ?_
       have g23 := n23.ge hB'8
       have r23_hV := own_ne hV'1 n23
       have k19'3 := (k19.below (below_drew W19)).below n23.below
       refine xb (.o [] 1) 3 k19'3 ?_
       have hV'3 := own_below hV'1 n23.below
       have hB'11 := Bl.next hB'8 n23.below
       refine ybi (.o [] 10) (.t w.heap.size [9, 52]) fun _ _ _ _ zJ zQ zo zx zy zK => op_app (m := 1) (news := [.string ⟨(valN l i).toArray⟩]) (.string ⟨#[]⟩) 1 16 (i + 1) ((valsL l (i + 1)).map sv) zo Tryz.underlying50 (by kernel_rfl) rfl (by decide) zx hV'3 zy (n23.blk.sl 1 1 (by decide) (by decide)) rfl (by simp [Value.oneCell']) (by unfold maxLen; omega) (by omega) hB'11.size (by rfl) (by rw [valsL_snoc, List.map_append]; rfl) fun px24 cx24 W24 o24 hg24 hb24 => ?_
       refine zK _ _ (sft_grown hb24 hg24 hV'3 (by decide)) ?_
       have k19'4 := k19'3.grown hg24 hV'3 (by decide)
       refine ys (.o [11] 12) k19'4 [.int .i64 (nodT l), .bool ((↑(l.getD 0 0).toNat : Int) == (1 : Int)), .slice px18 (i + 1) cx18, .slice px24 (i + 1) cx24] (.t w.heap.size [9, 52]) fun W25 u25 k25 => ⟨(sft_upd u25 k19'4 g5 (by decide)), ?_⟩
       refine xwm 5 ((↑i : Int) + 1) (↑(i + 1) : Int) ?_
       have hB'12 := u25.below (hB'11.trans hb24) g5
       have k8_b1'4 := u25.blk ((((u19.blk ((((k8_b1.below hb10).below hb16).below n17.below).grown hg18 hK'3 (by decide)) (Ne.symm (Ne.symm d5_b1))).below (below_drew W19)).below n23.below).grown hg24 hV'3 (by decide)) (Ne.symm (Ne.symm d5_b1))
       have o18'2 := u25.own2 (own_grown (own_below (own_below (u19.own2 o18 k8_b5'3 (by decide)) (below_drew W19)) n23.below) hg24 hV'3 (by decide)) k19'4 (by decide)
       have o24'1 := u25.own2 o24 k19'4 (by decide)
       exact ze 2 (hJ8 _ _ _ ⟨i + 1, _, _, _, _, rfl, rfl, hB'12, k8_b1'4, k25, o18'2, o24'1, by omega, keysErr_next hz (keyE_ok2 (by omega) (by omega) (by omega))⟩ (by omega))
     have hc13 := of_decide_eq_false hc13
     have k8_b5'4 := k8_b5.below hb10
     refine xb 17 0 k8_b5'4 ?_
     refine xb 1 1 k8_b5'4 ?_
     refine xr 0 (args := #[.int .i64 (nodT l), .bool ((↑(l.getD 0 0).toNat : Int) == (1 : Int))]) (ref07_MaxG (nodT l) (nodL l) _) fun W26 hb26 => ?_
     refine xwm 0 (8 * (↑(nodM l) : Int)) (↑(8 * (nodM l)) : Int) ?_
     refine xwm 0 (12 + (↑(8 * (nodM l)) : Int)) (↑(12 + (8 * (nodM l))) : Int) ?_
     refine xwm 2 ((↑(nodW l) : Int) * (↑i : Int)) (↑((nodW l) * i) : Int) ?_
     refine xwm 0 ((↑(12 + (8 * (nodM l))) : Int) + (↑((nodW l) * i) : Int)) (↑((12 + (8 * (nodM l))) + ((nodW l) * i)) : Int) ?_
     have k8_b5'5 := k8_b5'4.below hb26
     refine xb 6 2 k8_b5'5 ?_
     refine xbs 1 1 [.int .i64 (↑(rawN l (12 + i * 8) 8) : Int)] 3 fun b27 W27 n27 => ?_
     have hB'13 := Bl.next (Bl.next hB_8 hb10) hb26
     have g27 := n27.ge hB'13
     have hK'4 := own_below (own_below hK hb10) hb26
     have r27_hK := own_ne hK'4 n27
     have hK'5 := own_below hK'4 n27.below
     have hB'14 := Bl.next hB'13 n27.below
     refine xbi 0 fun _ _ _ _ zJ zQ zo zx zy zK => op_app (m := 1) (news := [.int .i64 (↑(rawN l (12 + i * 8) 8) : Int)]) (.int .i64 0) 1 8 (i + 1) ((keysI l (i + 1)).map (Value.int .i64)) zo Tryz.underlying26 (by kernel_rfl) rfl (by decide) zx hK'5 zy (n27.blk.sl 1 1 (by decide) (by decide)) rfl (by simp [Value.oneCell']) (by unfold maxLen; omega) (by omega) hB'14.size (by rfl) (by rw [keysI_snoc, List.map_append]; rfl) fun px28 cx28 W28 o28 hg28 hb28 => ?_
     refine zK _ _ ?_
     have k8_b5'6 := (k8_b5'5.below n27.below).grown hg28 hK'5 (by decide)
     refine xs 1 k8_b5'6 [.int .i64 (nodT l), .bool ((↑(l.getD 0 0).toNat : Int) == (1 : Int)), .slice px28 (i + 1) cx28, .slice vp i vc] fun W29 u29 k29 => ?_
     refine xd 2 (.t w.heap.size [9, 52]) ?_
     refine xwm (.e [0, 2, 3, 4, 5] 6) ((↑((12 + (8 * (nodM l))) + ((nodW l) * i)) : Int) + (↑(nodW l) : Int)) (↑(((12 + (8 * (nodM l))) + ((nodW l) * i)) + (nodW l)) : Int) ?_
     refine xsB (.e [] 7) (fun _ _ _ _ _ zo zx zy zz V => run_sliceLHA (k := ((12 + (8 * (nodM l))) + ((nodW l) * i))) (h := (((12 + (8 * (nodM l))) + ((nodW l) * i)) + (nodW l))) (b := a) (n := 244) (c := c) (i := (↑((12 + (8 * (nodM l))) + ((nodW l) * i)) : Int)) (ki := .i64) (j := (↑(((12 + (8 * (nodM l))) + ((nodW l) * i)) + (nodW l)) : Int)) (kj := .i64) 1 zo zx zy rfl zz rfl (by omega) (by omega) Tryz.underlying22 (by kernel_rfl) V) ?_
     have hV'4 := own_below (u29.own2 (own_grown (own_below (own_below (own_below hV hb10) hb26) n27.below) hg28 hK'5 (by decide)) k8_b5'6 (by decide)) (below_drew W29)
     have hB'15 := Bl.next (u29.below (hB'14.trans hb28) g5) (below_drew W29)
     refine xcvt (.e [] 8) (.t w.heap.size [9, 52]) (fun _ _ _ zo zx V hV'4 => run_bstr zo zx ((valN_cut (i := i) h hl (by omega)).below (sft_keep hB'15 hV'4 (Nat.le_refl _))) (valN_cutlen (i := i) hl (by omega)) Tryz.underlying22 Tryz.underlying5 Tryz.underlying9) ?_
     refine xm2 0 1 9 ?_ ?_
     · have k29'1 := k29.below (below_drew W29)
       refine xb 0 3 k29'1 ?_
       refine xbs (.o [] 9) 1 [.string ⟨(valN l i).toArray⟩] 9 fun b30 W30 n30 => ?_
       have g30 := n30.ge hB'15
       have r30_hV := own_ne hV'4 n30
       have hV'5 := own_below hV'4 n30.below
       have hB'16 := Bl.next hB'15 n30.below
       refine ybi (.o [] 10) (.t w.heap.size [9, 52]) fun _ _ _ _ zJ zQ zo zx zy zK => op_app (m := 1) (news := [.string ⟨(valN l i).toArray⟩]) (.string ⟨#[]⟩) 1 16 (i + 1) ((valsL l (i + 1)).map sv) zo Tryz.underlying50 (by kernel_rfl) rfl (by decide) zx hV'5 zy (n30.blk.sl 1 1 (by decide) (by decide)) rfl (by simp [Value.oneCell']) (by unfold maxLen; omega) (by omega) hB'16.size (by rfl) (by rw [valsL_snoc, List.map_append]; rfl) fun px31 cx31 W31 o31 hg31 hb31 => ?_
       refine zK _ _ (sft_grown hb31 hg31 hV'5 (by decide)) ?_
       have k29'2 := (k29'1.below n30.below).grown hg31 hV'5 (by decide)
       refine ys (.o [11] 12) k29'2 [.int .i64 (nodT l), .bool ((↑(l.getD 0 0).toNat : Int) == (1 : Int)), .slice px28 (i + 1) cx28, .slice px31 (i + 1) cx31] (.t w.heap.size [9, 52]) fun W32 u32 k32 => ⟨(sft_upd u32 k29'2 g5 (by decide)), ?_⟩
       refine xwm 5 ((↑i : Int) + 1) (↑(i + 1) : Int) ?_
       have hB'17 := u32.below (hB'16.trans hb31) g5
       have k8_b1'5 := u32.blk ((((u29.blk ((((k8_b1.below hb10).below hb26).below n27.below).grown hg28 hK'5 (by decide)) (Ne.symm (Ne.symm d5_b1))).below (below_drew W29)).below n30.below).grown hg31 hV'5 (by decide)) (Ne.symm (Ne.symm d5_b1))
       have o28'1 := u32.own2 (own_grown (own_below (own_below (u29.own2 o28 k8_b5'6 (by decide)) (below_drew W29)) n30.below) hg31 hV'5 (by decide)) k29'2 (by decide)
       have o31'1 := u32.own2 o31 k29'2 (by decide)
       exact ze 2 (hJ8 _ _ _ ⟨i + 1, _, _, _, _, rfl, rfl, hB'17, k8_b1'5, k32, o28'1, o31'1, by omega, keysErr_next hz (keyE_ok (by omega) (by omega))⟩ (by omega))
     refine xbs 0 1 [.string ⟨(valN l i).toArray⟩] 9 fun b33 W33 n33 => ?_
     have g33 := n33.ge hB'15
     have r33_hV := own_ne hV'4 n33
     have k29'3 := (k29.below (below_drew W29)).below n33.below
     refine xb (.o [] 1) 3 k29'3 ?_
     have hV'6 := own_below hV'4 n33.below
     have hB'18 := Bl.next hB'15 n33.below
     refine ybi (.o [] 10) (.t w.heap.size [9, 52]) fun _ _ _ _ zJ zQ zo zx zy zK => op_app (m := 1) (news := [.string ⟨(valN l i).toArray⟩]) (.string ⟨#[]⟩) 1 16 (i + 1) ((valsL l (i + 1)).map sv) zo Tryz.underlying50 (by kernel_rfl) rfl (by decide) zx hV'6 zy (n33.blk.sl 1 1 (by decide) (by decide)) rfl (by simp [Value.oneCell']) (by unfold maxLen; omega) (by omega) hB'18.size (by rfl) (by rw [valsL_snoc, List.map_append]; rfl) fun px34 cx34 W34 o34 hg34 hb34 => ?_
     refine zK _ _ (sft_grown hb34 hg34 hV'6 (by decide)) ?_
     have k29'4 := k29'3.grown hg34 hV'6 (by decide)
     refine ys (.o [11] 12) k29'4 [.int .i64 (nodT l), .bool ((↑(l.getD 0 0).toNat : Int) == (1 : Int)), .slice px28 (i + 1) cx28, .slice px34 (i + 1) cx34] (.t w.heap.size [9, 52]) fun W35 u35 k35 => ⟨(sft_upd u35 k29'4 g5 (by decide)), ?_⟩
     refine xwm 5 ((↑i : Int) + 1) (↑(i + 1) : Int) ?_
     have hB'19 := u35.below (hB'18.trans hb34) g5
     have k8_b1'6 := u35.blk ((((u29.blk ((((k8_b1.below hb10).below hb26).below n27.below).grown hg28 hK'5 (by decide)) (Ne.symm (Ne.symm d5_b1))).below (below_drew W29)).below n33.below).grown hg34 hV'6 (by decide)) (Ne.symm (Ne.symm d5_b1))
     have o28'2 := u35.own2 (own_grown (own_below (own_below (u29.own2 o28 k8_b5'6 (by decide)) (below_drew W29)) n33.below) hg34 hV'6 (by decide)) k29'4 (by decide)
     have o34'1 := u35.own2 o34 k29'4 (by decide)
     exact ze 2 (hJ8 _ _ _ ⟨i + 1, _, _, _, _, rfl, rfl, hB'19, k8_b1'6, k35, o28'2, o34'1, by omega, keysErr_next hz (keyE_ok (by omega) (by omega))⟩ (by omega))
   have k8_b1'7 := k8_b1.below hb10
   refine xsv 22 k8_b1'7 [.int .i64 0, .bool false, .slice none 0 0, .slice none 0 0] fun W36 u36 k36 => ?_
   have g1 := n1.ge (Below.refl w.heap.size _)
   have hB'20 := u36.below (Bl.next hB_8 hb10) g1
   refine xec 10 k36 (.tuple #[.agg #[.int .i64 0, .bool false, .slice none 0 0, .slice none 0 0], .int .i64 2]) ?_
   have hke : keyE l i = 2 := keyE_big (by omega)
   have he : nodeE l = 2 := by unfold nodeE; rw [if_pos hs, if_pos hnz, keysErr_at hz (by rw [hke]; decide) (by omega), hke]
   exact .inl ⟨by rw [he]; decide, by rw [he], hB'20⟩
 refine xlv 7 k8_b5.rp ?_
 refine xsv 0 k8_b1 [.int .i64 (nodT l), .bool ((↑(l.getD 0 0).toNat : Int) == (1 : Int)), .slice kp i kc, .slice vp i vc] fun W37 u37 k37 => ?_
 have g1 := n1.ge (Below.refl w.heap.size _)
 have hB'21 := u37.below hB_8 g1
 have hK'6 := u37.own2 hK k8_b1 (by decide)
 have hV'7 := u37.own2 hV k8_b1 (by decide)
 refine xec 4 k37 (.tuple #[.agg #[.int .i64 (nodT l), .bool ((↑(l.getD 0 0).toNat : Int) == (1 : Int)), .slice kp i kc, .slice vp i vc], .int .i64 0]) ?_
 obtain rfl : i = nodC l := by omega
 exact .inr ⟨by unfold nodeE; rw [if_pos hs, if_pos hnz, hz], _, _, _, _, rfl, hB'21, hK'6, hV'7⟩
end Go.Proofs.YtinegkldgjhnpaaGreatDoor
namespace Go.Proofs.YtinegkldgjhnpaaGreatDoor
open Go.RowKit
set_option linter.unusedVariables false

def hasB (lo hi k : Int) : Bool := decide (lo ≤ k ∧ k < hi)
def rightB (lo hi : Int) : Bool := decide (0 ≤ lo ∧ lo ≤ hi ∧ hi ≤ 281474976710656)
def SortP (l : List Int) : Prop := ∀ k, k < l.length → 1 ≤ k → l[k-1]?.getD 0 < l[k]?.getD 0
instance (l : List Int) : Decidable (SortP l) := by unfold SortP; infer_instance
def fitsI (lo hi : Int) (l : List Int) : Int :=
  if rightB lo hi then if SortP l then if ∀ k ∈ l, lo ≤ k ∧ k < hi then 0 else 9 else 8 else 1
@[go_sem] def spanV (lo hi : Int) : Value := .agg #[.int .i64 lo, .int .i64 hi]

theorem SortP.lt {l : List Int} (h : SortP l) : ∀ (j i : Nat), i < j → j < l.length → l[i]?.getD 0 < l[j]?.getD 0 := by
  intro j
  induction j with
  | zero => intro i h1; omega
  | succ j ih =>
    intro i h1 h2
    have h3 := h (j + 1) h2 (by omega)
    simp only [Nat.add_sub_cancel] at h3
    by_cases hij : i = j
    · subst hij; exact h3
    · exact Int.lt_trans (ih i (by omega) (by omega)) h3
theorem SortP.one (l : List Int) : SortP (l.take 1) := by
  intro k h1 h2; simp at h1; omega
theorem SortP.succ {l : List Int} {k : Nat} {x y : Int} (h : SortP (l.take k)) (hx : l[k-1]? = some x) (hy : l[k]? = some y) (hxy : x < y) : SortP (l.take (k + 1)) := by
  intro j h1 h2
  have hjk : j < k + 1 := by simp at h1; omega
  rw [List.getElem?_take, List.getElem?_take, if_pos (by omega), if_pos hjk]
  by_cases hj : j = k
  · subst hj; rw [hx, hy]; exact hxy
  · have := h j (by simp at h1 ⊢; omega) h2
    rw [List.getElem?_take, List.getElem?_take, if_pos (by omega), if_pos (by omega)] at this
    exact this
theorem fits_right {lo hi : Int} {l : List Int} (h : rightB lo hi = false) : fitsI lo hi l = 1 := by simp [fitsI, h]
theorem fits_order {lo hi : Int} {l : List Int} {k : Nat} {x y : Int} (h : rightB lo hi = true) (hk : 1 ≤ k) (hx : l[k-1]? = some x) (hy : l[k]? = some y) (hxy : y ≤ x) : fitsI lo hi l = 8 := by
  have hn : ¬ SortP l := fun hs => by
    have hlt : k < l.length := by rcases List.getElem?_eq_some_iff.1 hy with ⟨h, _⟩; exact h
    have := hs k hlt hk
    rw [hx, hy] at this
    simp at this; omega
  simp [fitsI, h, hn]
theorem fits_nil {lo hi : Int} (h : rightB lo hi = true) : fitsI lo hi [] = 0 := by
  have hs : SortP [] := fun k h1 => by simp at h1
  simp [fitsI, h, hs]
theorem SortP.all {l : List Int} {k : Nat} (h : SortP (l.take k)) (hk : l.length ≤ k) : SortP l := by rwa [List.take_of_length_le hk] at h
theorem hasB_iff {lo hi k : Int} : hasB lo hi k = true ↔ lo ≤ k ∧ k < hi := by simp [hasB]
theorem fits_in {lo hi : Int} {l : List Int} {x y : Int} (h : rightB lo hi = true) (hs : SortP l) (hx : l[0]? = some x) (hy : l[l.length - 1]? = some y) (ha : hasB lo hi x = true) (hb : hasB lo hi y = true) : fitsI lo hi l = 0 := by
  have hall : ∀ k ∈ l, lo ≤ k ∧ k < hi := by
    intro k hk
    obtain ⟨i, hi', rfl⟩ := List.mem_iff_getElem.1 hk
    rw [hasB_iff] at ha hb
    have e : l[i]? = some l[i] := by simp
    have h1 : x ≤ l[i] := by
      by_cases h0 : i = 0
      · subst h0; rw [hx] at e; injection e with e; omega
      · have := hs.lt i 0 (by omega) hi'
        rw [hx, e] at this; simp at this; omega
    have h2 : l[i] ≤ y := by
      by_cases h0 : i = l.length - 1
      · subst h0; rw [hy] at e; injection e with e; omega
      · have := hs.lt (l.length - 1) i (by omega) (by omega)
        rw [hy, e] at this; simp at this; omega
    omega
  simp only [fitsI, h, if_true, hs]
  rw [if_pos hall]
theorem fits_out {lo hi : Int} {l : List Int} {i : Nat} {x : Int} (h : rightB lo hi = true) (hs : SortP l) (hx : l[i]? = some x) (ha : hasB lo hi x = false) : fitsI lo hi l = 9 := by
  have hn : ¬ ∀ k ∈ l, lo ≤ k ∧ k < hi := fun hall => by
    have := hasB_iff.2 (hall x (List.mem_of_getElem? hx))
    rw [ha] at this; cases this
  simp only [fitsI, h, if_true, hs]
  rw [if_neg hn]

set_option maxHeartbeats 400000 in
theorem span_all (w : World) : Calls Tryz.prog 38 #[] w (Ret (spanV 0 281474976710656) w) := by
  go_enter Tryz.func38, Tryz.ntmps38
  go_wp2
  exact bodyPost_ret (v := spanV 0 281474976710656) (by simp [results, Tryz.results38, go_sem, spanV]) rfl ⟨rfl, Bl.box _ _⟩
set_option maxHeartbeats 400000 in
theorem span_has (lo hi k : Int) (w : World) : Calls Tryz.prog 159 #[spanV lo hi, .int .i64 k] w (Ret (.bool (hasB lo hi k)) w) := by
  unfold spanV
  go_enter Tryz.func159, Tryz.ntmps159
  go_wp2
  all_goals go_ret
  all_goals refine ⟨?_, Bl.box _ _⟩
  all_goals (unfold hasB; congr 2; simp; omega)
set_option maxHeartbeats 400000 in
theorem span_right (lo hi : Int) (w : World) : Calls Tryz.prog 158 #[spanV lo hi] w (Ret (.bool (rightB lo hi)) w) := by
  unfold spanV
  go_enter Tryz.func158, Tryz.ntmps158
  go_wp2_with fail
  refine (span_all _).mono ?_
  rintro e w' ⟨rfl, hb⟩
  have hz : w.heap.size < w'.heap.size := ltB hb (by simp)
  have h0 := getC hb (p := ⟨w.heap.size, 0, none⟩) (v := .int .i64 lo) (by simp [go_sem])
  have h1 := getC hb (p := ⟨w.heap.size, 1, none⟩) (v := .int .i64 hi) (by simp [go_sem])
  unfold spanV
  go_wp2_with fail
  all_goals go_ret
  all_goals refine ⟨?_, Bl.next (Bl.next (Bl.box w _) hb) (Bl.box _ _)⟩
  all_goals (unfold rightB; congr 2; simp [*]; try omega)

set_option maxHeartbeats 1000000 in
theorem span_fits (lo hi : Int) (v : Value) (l : List Int) (w : World) (hl : Ints w v l) :
    Calls Tryz.prog 126 #[spanV lo hi, v] w (Ret (.int .i64 (fitsI lo hi l)) w) := by
  by_cases hr : rightB lo hi = true
  case neg =>
    have hr' : rightB lo hi = false := by simpa using hr
    unfold spanV
    rcases hl with ⟨a0, c0, rfl, hl0, hl⟩ | ⟨b, off, cap, rfl, hcap, hmax, hc⟩
    all_goals
      go_enter Tryz.func126, Tryz.ntmps126
      go_wp2_with fail
      refine (span_right _ _ _).mono ?_
      rintro e w' ⟨rfl, hb⟩
      go_wp2_with fail
      go_ret
      exact ⟨by rw [fits_right hr']; rfl, Bl.next (Bl.box w _) hb⟩
  rcases hl with ⟨a0, c0, rfl, hl0, hl⟩ | ⟨b, off, cap, rfl, hcap, hmax, hc⟩
  · obtain rfl : l = [] := by simpa using hl
    unfold spanV
    go_enter Tryz.func126, Tryz.ntmps126
    go_wp2_with fail
    refine (span_right _ _ _).mono ?_
    rintro e w' ⟨rfl, hb⟩
    go_wp2_with fail
    go_loop [5] (fun i => i = .int .i64 1) (fun _ => 0)
    case atStart => exact rfl
    case round =>
      obtain rfl := hrel
      go_wp2_with fail
      refine wp_region_ext (by kernel_rfl) (by kernel_rfl) ?_
      repeat (go_big_quiet_step (fail))
      refine wpQuiet_nil ?_
      intro wx
      go_wp2_with fail
      go_ret
      exact ⟨by rw [fits_nil hr]; rfl, Bl.next (Bl.next (Bl.box w _) hb) wx.below⟩
  · unfold maxLen at hmax
    unfold spanV
    go_enter Tryz.func126, Tryz.ntmps126
    go_wp2_with fail
    refine (span_right _ _ _).mono ?_
    rintro e w' ⟨rfl, hb⟩
    have hz : w.heap.size < w'.heap.size := ltB hb (by simp)
    have h0 := getC hb (p := ⟨w.heap.size, 0, none⟩) (v := .int .i64 lo) (by simp [go_sem])
    have h1 := getC hb (p := ⟨w.heap.size, 1, none⟩) (v := .int .i64 hi) (by simp [go_sem])
    have hB := Bl.next (Bl.box w _) hb
    have HC := Lib.hid (fun j x (hj : l[j]? = some x) => getC hb (getA _ (hc j (.int .i64 x) (by simp [hj]))))
    clear hc hb
    go_wp2_with fail
    go_loopw [5] (fun i wr => ∃ k : Nat, 1 ≤ k ∧ i = .int .i64 k ∧ SortP (l.take k) ∧ Below w'.heap.size w' wr) (fun i _ => l.length - (intOf i).toNat)
    case atStart => exact ⟨1, by omega, rfl, SortP.one l, Below.refl _ _⟩
    case round =>
      obtain ⟨k, hk1, rfl, hs, hbr⟩ := hrel
      have HS := Lib.hid hs; clear hs
      by_cases hlt : k < l.length
      · obtain ⟨x, hx⟩ : ∃ x, l[k-1]? = some x := ⟨l[k-1], by simp⟩
        obtain ⟨y, hy⟩ : ∃ y, l[k]? = some y := ⟨l[k], by simp⟩
        have hcx := getC hbr (HC.out _ _ hx)
        have hcy := getC hbr (HC.out _ _ hy)
        have HX := Lib.hid hx; clear hx
        have HY := Lib.hid hy; clear hy
        go_wp2_with fail
        go_quiet (fail)
        go_wp2_with fail
        · go_ret
          exact ⟨by rw [fits_order hr hk1 HX.out HY.out (by assumption)]; rfl, Bl.next hB (Bl.drewN hbr _)⟩
        · go_roundw
          case rel => exact ⟨k + 1, by omega, by go_num, HS.out.succ HX.out HY.out (by assumption), Bl.drewN hbr _⟩
          case measure => simp [intOf]; omega
      · have hkk : l.length ≤ k := by omega
        by_cases h0l : l.length = 0
        · obtain rfl : l = [] := List.length_eq_zero_iff.mp h0l
          clear h0l
          go_wp2_with fail
          go_quiet (fail)
          go_wp2_with fail
          go_ret
          exact ⟨by rw [fits_nil hr]; rfl, Bl.next hB (Bl.drewN hbr _)⟩
        · obtain ⟨x, hx⟩ : ∃ x, l[0]? = some x := ⟨l[0], by simp⟩
          obtain ⟨y, hy⟩ : ∃ y, l[l.length-1]? = some y := ⟨l[l.length-1], by simp⟩
          have hpos : 0 < l.length := by omega
          have e0 : ∀ z : Ext wr, z.val.cell? ⟨w.heap.size, 0, none⟩ = some (.int .i64 lo) := fun z => z.get (getC hbr h0)
          have e1 : ∀ z : Ext wr, z.val.cell? ⟨w.heap.size, 1, none⟩ = some (.int .i64 hi) := fun z => z.get (getC hbr h1)
          have e2 : ∀ z : Ext wr, z.val.cell? ⟨b, off, none⟩ = some (.int .i64 x) := fun z => z.get (getC hbr (HC.out 0 _ hx))
          have e3 : ∀ z : Ext wr, z.val.cell? ⟨b, off + (l.length - 1), none⟩ = some (.int .i64 y) := fun z => z.get (getC hbr (HC.out _ _ hy))
          have HX := Lib.hid hx; clear hx
          have HY := Lib.hid hy; clear hy
          by_cases ha : hasB lo hi x = true
          · by_cases hb2 : hasB lo hi y = true
            · go_wp2_with fail
              refine wp_region_ext (by kernel_rfl) (by kernel_rfl) ?_
              repeat (go_big_quiet_step (exact Ret.ext (span_has _ _ _ _)))
              refine wpQuiet_nil ?_
              intro wx
              go_wp2_with fail
              go_ret
              exact ⟨by rw [fits_in hr (HS.out.all hkk) HX.out HY.out ha hb2]; rfl, Bl.next (Bl.next hB hbr) wx.below⟩
            · have hb2 : hasB lo hi y = false := by simpa using hb2
              go_wp2_with fail
              refine wp_region_ext (by kernel_rfl) (by kernel_rfl) ?_
              repeat (go_big_quiet_step (exact Ret.ext (span_has _ _ _ _)))
              refine wpQuiet_nil ?_
              intro wx
              go_wp2_with fail
              go_ret
              exact ⟨by rw [fits_out hr (HS.out.all hkk) HY.out hb2]; rfl, Bl.next (Bl.next hB hbr) wx.below⟩
          · have ha : hasB lo hi x = false := by simpa using ha
            go_wp2_with fail
            refine wp_region_ext (by kernel_rfl) (by kernel_rfl) ?_
            repeat (go_big_quiet_step (exact Ret.ext (span_has _ _ _ _)))
            refine wpQuiet_nil ?_
            intro wx
            go_wp2_with fail
            go_ret
            exact ⟨by rw [fits_out hr (HS.out.all hkk) HX.out ha]; rfl, Bl.next (Bl.next hB hbr) wx.below⟩
end Go.Proofs.YtinegkldgjhnpaaGreatDoor
namespace Go.Proofs.YtinegkldgjhnpaaGreatDoor
open Go.RowKit
set_option linter.unusedVariables false
attribute [local go_sem] Oper.semAt_some

/-- the children's spans -/
def partAt (hi : Int) (l : List Int) (i : Nat) : Int × Int := (l[i]?.getD 0, l[i+1]?.getD hi)
/-- what comes as number j: the child's number -/
def qOf {n : Nat} (j : Fin n) : Nat := n - 1 - j.val
def encE (hi : Int) (l : List Int) (j : Fin l.length) : Array Value := #[.int .i64 (qOf j : Int), spanV (partAt hi l (qOf j)).1 (partAt hi l (qOf j)).2]
theorem fin_take_succ {n k : Nat} (h : k < n) : (List.finRange n).take (k + 1) = (List.finRange n).take k ++ [⟨k, h⟩] := by
  rw [List.take_succ_eq_append_getElem (by simpa using h)]; simp
theorem fin_take_all (n : Nat) : (List.finRange n).take n = List.finRange n := List.take_of_length_le (by simp)
theorem fin_take_length {n k : Nat} (h : k ≤ n) : ((List.finRange n).take k).length = k := by simp [h]

set_option maxRecDepth 100000 in
set_option maxHeartbeats 2000000 in
theorem each1_in (l Bs Bk : Nat) (p : Nat → Prop) (hi : Int) (b off cap : Nat) (zs : List Int) (hlen : zs.length ≤ 9223372036854775807) (hb' : zs.length = 0 ∨ p b) (hBk : p Bk) (J Jx : List (Fin zs.length) → World → Prop)
    (hY : ∀ pre x W, J pre W → pre.length < zs.length → YieldAt Fence.wide 2 Tryz.prog l (encE hi zs x) W fun e W' =>
      (e = .returned (.bool true) ∧ J (pre ++ [x]) W' ∧ Keeps p W W') ∨ (e = .returned (.bool false) ∧ Jx (pre ++ [x]) W'))
    (W : World) (hc1 : W.cell? ⟨Bs, 1, none⟩ = some (.int .i64 hi)) (hck : W.cell? ⟨Bk, 0, none⟩ = some (.slice (some ⟨b, off, none⟩) zs.length cap))
    (hc : ∀ j x, zs[j]? = some x → W.cell? ⟨b, off + j, none⟩ = some (.int .i64 x)) (h0 : J [] W) :
    CallsIn Fence.wide 3 Tryz.prog 160 #[.func (.yield l) #[] #[], .pointer (some ⟨Bs, 0, none⟩), .pointer (some ⟨Bk, 0, none⟩)] W fun e W' => (∃ v, e = .returned v) ∧
      ((∃ ys, ys = List.finRange zs.length ∧ J ys W') ∨ (∃ pre, (∃ k, k ≤ zs.length ∧ pre = (List.finRange zs.length).take k) ∧ Jx pre W')) := by
  refine callsIn_of_wp Tryz.func160 rfl trivial ?_ rfl
  simp only [Tryz.ntmps160, List.size_toArray, List.length_cons, List.length_nil, Nat.reduceAdd, Nat.reduceSub, Array.replicate_succ, Array.replicate_zero, List.push_toArray, List.append_toArray, List.nil_append, List.cons_append]
  gi_wp2
  gi_loopw [4, 5] (fun h i wr => ∃ k : Nat, k ≤ zs.length ∧ i = .int .i64 ((zs.length : Int) - 1 - k) ∧ h = .int .i64 (zs[zs.length - k]?.getD hi) ∧ J ((List.finRange zs.length).take k) wr ∧ Keeps p W wr)
    (fun _ i _ => ((intOf i) + 1).toNat)
  case atStart => exact ⟨0, Nat.zero_le _, by simp, by simp, h0, Keeps.refl _ _⟩
  case round =>
    obtain ⟨k, hk, rfl, rfl, hJs, hnx⟩ := hrel
    generalize hhv : zs[zs.length - k]?.getD hi = hv
    by_cases hlt : k < zs.length
    · have hb : p b := hb'.resolve_left (by omega)
      obtain ⟨x, hx⟩ : ∃ x, zs[zs.length - 1 - k]? = some x := ⟨zs[zs.length - 1 - k], by simp⟩
      have hck' := (hnx.cell (a := ⟨Bk, 0, none⟩) hBk).trans hck
      have hcx := (hnx.cell (a := ⟨b, off + (zs.length - 1 - k), none⟩) hb).trans (hc _ _ hx)
      obtain ⟨q, hq⟩ : ∃ q : Nat, q = zs.length - 1 - k := ⟨_, rfl⟩
      have hqi : ((zs.length : Int) - 1 - k) = (q : Int) := by omega
      have hql : q < zs.length := by omega
      obtain ⟨fn, tmps, assign, body, hy, hR⟩ := hY _ ⟨k, hlt⟩ wr hJs (by rw [fin_take_length hk]; exact hlt)
      have hE : encE hi zs ⟨k, hlt⟩ = #[.int .i64 (q : Int), .agg #[.int .i64 x, .int .i64 hv]] := by
        have e0 : zs[q]? = some x := by rw [hq]; exact hx
        have e1 : q + 1 = zs.length - k := by omega
        have e2 : qOf (⟨k, hlt⟩ : Fin zs.length) = q := hq.symm
        simp only [encE, partAt, spanV, e2, e0, e1, hhv, Option.getD_some]
      rw [hE] at hy
      rw [← hq] at hcx
      rw [hqi]
      have HQ := Lib.hid hq; clear hq
      have HI := Lib.hid hqi; clear hqi
      have HX := Lib.hid hx; clear hx
      have HV := Lib.hid hhv; clear hhv
      have HE := Lib.hid hE; clear hE
      gi_wp2
      refine hR.mono ?_
      rintro e W3 (⟨rfl, hJ3, hk3⟩ | ⟨rfl, hJx3⟩)
      · have hck3 := (hk3.cell (a := ⟨Bk, 0, none⟩) hBk).trans hck'
        have hcx3 := (hk3.cell (a := ⟨b, off + q, none⟩) hb).trans hcx
        gi_wp2
        go_roundw
        case rel =>
          refine ⟨k + 1, by omega, ?_, ?_, by rw [fin_take_succ hlt]; exact hJ3, hnx.trans hk3⟩
          · exact congrArg (Value.int .i64) (by have := HI.out; omega)
          · have h1 : zs.length - (k + 1) = q := by have := HQ.out; omega
            have := HX.out
            rw [← HQ.out] at this
            rw [h1, this]; rfl
        case measure => simp [intOf]
      · gi_wp2
        refine bodyPost_ret (results_none rfl _ _ _) rfl ?_
        exact ⟨⟨_, rfl⟩, .inr ⟨_, ⟨k + 1, by omega, by rw [fin_take_succ hlt]⟩, hJx3⟩⟩
    · obtain rfl : k = zs.length := by omega
      have hneg : ((zs.length : Int) - 1 - zs.length) = -1 := by omega
      rw [hneg]
      clear hneg hhv
      rw [fin_take_all] at hJs
      have HJ := Lib.hid hJs; clear hJs
      gi_wp2
      go_end0
      exact ⟨⟨_, rfl⟩, .inl ⟨_, rfl, HJ.out⟩⟩

set_option maxRecDepth 100000 in
set_option maxHeartbeats 1000000 in
theorem each1_nil_in {α : Type} (l Bs Bk : Nat) (hi : Int) (J : List α → World → Prop) (W : World) (hc1 : W.cell? ⟨Bs, 1, none⟩ = some (.int .i64 hi)) {a0 : Option Addr} {c0 : Nat} (hck : W.cell? ⟨Bk, 0, none⟩ = some (.slice a0 0 c0)) (h0 : J [] W) :
    CallsIn Fence.wide 3 Tryz.prog 160 #[.func (.yield l) #[] #[], .pointer (some ⟨Bs, 0, none⟩), .pointer (some ⟨Bk, 0, none⟩)] W fun e W' => (∃ v, e = .returned v) ∧ J [] W' := by
  refine callsIn_of_wp Tryz.func160 rfl trivial ?_ rfl
  simp only [Tryz.ntmps160, List.size_toArray, List.length_cons, List.length_nil, Nat.reduceAdd, Nat.reduceSub, Array.replicate_succ, Array.replicate_zero, List.push_toArray, List.append_toArray, List.nil_append, List.cons_append]
  gi_wp2
  gi_loopw [4, 5] (fun _ i wr => i = .int .i64 (-1) ∧ J [] wr) (fun _ _ _ => 0)
  case atStart => exact ⟨rfl, h0⟩
  case round =>
    obtain ⟨rfl, hJs⟩ := hrel
    gi_wp2
    go_end0
    exact ⟨⟨_, rfl⟩, hJs⟩

theorem each_stops (Bs Bk : Nat) (p : Nat → Prop) (hi : Int) (v : Value) (zs : List Int) (w : World) (hp : ∀ b, p b → b < w.heap.size) (hk : p Bk) (hs : p Bs) (hlen : zs.length ≤ 9223372036854775807) (hv : Ints w v zs)
    (hvp : zs.length ≠ 0 → ∀ b off n cap, v = .slice (some ⟨b, off, none⟩) n cap → p b)
    (hc1 : w.cell? ⟨Bs, 1, none⟩ = some (.int .i64 hi)) (hck : w.cell? ⟨Bk, 0, none⟩ = some v) :
    SeqStopsK Fence.wide 3 Tryz.prog 160 #[.pointer (some ⟨Bs, 0, none⟩), .pointer (some ⟨Bk, 0, none⟩)] (encE hi zs) (Keeps p)
      (fun ys => ys = List.finRange zs.length) (fun pre => ∃ k, k ≤ zs.length ∧ pre = (List.finRange zs.length).take k) zs.length w := fun l J Jx W hW _ _ hY h0 => by
  have hc1' := getC hW hc1
  have hck' := getC hW hck
  rcases hv with ⟨a0, c0, rfl, h1, h2⟩ | ⟨b, off, cap, rfl, hcap, hmax, hcs⟩
  · obtain rfl : zs = [] := by simpa using h2
    exact (each1_nil_in l Bs Bk hi J W hc1' hck' h0).mono fun e W' ⟨he, hj⟩ => ⟨he, .inl ⟨_, rfl, hj⟩⟩
  · refine each1_in l Bs Bk p hi b off cap zs hlen ?_ hk J Jx hY W hc1' hck' (fun j x hj => getC hW (hcs j _ (by simp [hj]))) h0
    by_cases h : zs.length = 0
    · exact .inl h
    · exact .inr (hvp h _ _ _ _ rfl)

set_option maxHeartbeats 400000 in
theorem span_each (lo hi : Int) (a : Option Addr) (n c : Nat) (w : World) : Calls Tryz.prog 127 #[spanV lo hi, .slice a n c] w fun e w' =>
    e = .returned (.func (.func 160) #[] #[.pointer (some ⟨w.heap.size, 0, none⟩), .pointer (some ⟨w.heap.size + 1, 0, none⟩)]) ∧
    w' = (w.alloc (.cells #[.int .i64 lo, .int .i64 hi] 96)).alloc (.cells #[.slice a n c] 26) := by
  unfold spanV
  go_enter Tryz.func127, Tryz.ntmps127
  go_wp2
  go_ret
  exact ⟨rfl, rfl⟩
end Go.Proofs.YtinegkldgjhnpaaGreatDoor
namespace Go.Proofs.YtinegkldgjhnpaaGreatDoor
open Go.RowKit
set_option linter.unusedVariables false
attribute [local go_sem] Oper.semAt_some
def encB (l : List Int) (j : Fin l.length) : Array Value := #[.int .i64 (qOf j : Int), .int .i64 (l[qOf j]?.getD 0)]
set_option maxRecDepth 100000 in
set_option maxHeartbeats 2000000 in
theorem back1_in (l Bk : Nat) (p : Nat → Prop) (b off cap : Nat) (zs : List Int) (hlen : zs.length ≤ 9223372036854775807) (hb' : zs.length = 0 ∨ p b) (hBk : p Bk) (J Jx : List (Fin zs.length) → World → Prop)
    (hY : ∀ pre x W, J pre W → pre.length < zs.length → YieldAt Fence.wide 2 Tryz.prog l (encB zs x) W fun e W' =>
      (e = .returned (.bool true) ∧ J (pre ++ [x]) W' ∧ Keeps p W W') ∨ (e = .returned (.bool false) ∧ Jx (pre ++ [x]) W'))
    (W : World) (hck : W.cell? ⟨Bk, 0, none⟩ = some (.slice (some ⟨b, off, none⟩) zs.length cap))
    (hc : ∀ j x, zs[j]? = some x → W.cell? ⟨b, off + j, none⟩ = some (.int .i64 x)) (h0 : J [] W) :
    CallsIn Fence.wide 3 Tryz.prog 156 #[.func (.yield l) #[] #[], .pointer (some ⟨Bk, 0, none⟩)] W fun e W' => (∃ v, e = .returned v) ∧
      ((∃ ys, ys = List.finRange zs.length ∧ J ys W') ∨ (∃ pre, (∃ k, k ≤ zs.length ∧ pre = (List.finRange zs.length).take k) ∧ Jx pre W')) := by
  refine callsIn_of_wp Tryz.func156 rfl trivial ?_ rfl
  simp only [Tryz.ntmps156, List.size_toArray, List.length_cons, List.length_nil, Nat.reduceAdd, Nat.reduceSub, Array.replicate_succ, Array.replicate_zero, List.push_toArray, List.append_toArray, List.nil_append, List.cons_append]
  gi_wp2
  gi_loopw [3] (fun i wr => ∃ k : Nat, k ≤ zs.length ∧ i = .int .i64 ((zs.length : Int) - 1 - k) ∧ J ((List.finRange zs.length).take k) wr ∧ Keeps p W wr)
    (fun i _ => ((intOf i) + 1).toNat)
  case atStart => exact ⟨0, Nat.zero_le _, by simp, h0, Keeps.refl _ _⟩
  case round =>
    obtain ⟨k, hk, rfl, hJs, hnx⟩ := hrel
    by_cases hlt : k < zs.length
    · have hb : p b := hb'.resolve_left (by omega)
      obtain ⟨x, hx⟩ : ∃ x, zs[zs.length - 1 - k]? = some x := ⟨zs[zs.length - 1 - k], by simp⟩
      have hck' := (hnx.cell (a := ⟨Bk, 0, none⟩) hBk).trans hck
      have hcx := (hnx.cell (a := ⟨b, off + (zs.length - 1 - k), none⟩) hb).trans (hc _ _ hx)
      obtain ⟨q, hq⟩ : ∃ q : Nat, q = zs.length - 1 - k := ⟨_, rfl⟩
      have hqi : ((zs.length : Int) - 1 - k) = (q : Int) := by omega
      have hql : q < zs.length := by omega
      obtain ⟨fn, tmps, assign, body, hy, hR⟩ := hY _ ⟨k, hlt⟩ wr hJs (by rw [fin_take_length hk]; exact hlt)
      have hE : encB zs ⟨k, hlt⟩ = #[.int .i64 (q : Int), .int .i64 x] := by
        have e0 : zs[q]? = some x := by rw [hq]; exact hx
        have e2 : qOf (⟨k, hlt⟩ : Fin zs.length) = q := hq.symm
        simp only [encB, e2, e0, Option.getD_some]
      rw [hE] at hy
      rw [← hq] at hcx
      rw [hqi]
      have HQ := Lib.hid hq; clear hq
      have HI := Lib.hid hqi; clear hqi
      have HX := Lib.hid hx; clear hx
      have HE := Lib.hid hE; clear hE
      gi_wp2
      refine hR.mono ?_
      rintro e W3 (⟨rfl, hJ3, hk3⟩ | ⟨rfl, hJx3⟩)
      · gi_wp2
        go_roundw
        case rel =>
          refine ⟨k + 1, by omega, ?_, by rw [fin_take_succ hlt]; exact hJ3, hnx.trans hk3⟩
          exact congrArg (Value.int .i64) (by have := HI.out; omega)
        case measure => simp [intOf]
      · gi_wp2
        refine bodyPost_ret (results_none rfl _ _ _) rfl ?_
        exact ⟨⟨_, rfl⟩, .inr ⟨_, ⟨k + 1, by omega, by rw [fin_take_succ hlt]⟩, hJx3⟩⟩
    · obtain rfl : k = zs.length := by omega
      have hneg : ((zs.length : Int) - 1 - zs.length) = -1 := by omega
      rw [hneg]
      clear hneg
      rw [fin_take_all] at hJs
      have HJ := Lib.hid hJs; clear hJs
      gi_wp2
      go_end0
      exact ⟨⟨_, rfl⟩, .inl ⟨_, rfl, HJ.out⟩⟩
set_option maxRecDepth 100000 in
set_option maxHeartbeats 1000000 in
theorem back1_nil_in {α : Type} (l Bk : Nat) (J : List α → World → Prop) (W : World) {a0 : Option Addr} {c0 : Nat} (hck : W.cell? ⟨Bk, 0, none⟩ = some (.slice a0 0 c0)) (h0 : J [] W) :
    CallsIn Fence.wide 3 Tryz.prog 156 #[.func (.yield l) #[] #[], .pointer (some ⟨Bk, 0, none⟩)] W fun e W' => (∃ v, e = .returned v) ∧ J [] W' := by
  refine callsIn_of_wp Tryz.func156 rfl trivial ?_ rfl
  simp only [Tryz.ntmps156, List.size_toArray, List.length_cons, List.length_nil, Nat.reduceAdd, Nat.reduceSub, Array.replicate_succ, Array.replicate_zero, List.push_toArray, List.append_toArray, List.nil_append, List.cons_append]
  gi_wp2
  gi_loopw [3] (fun i wr => i = .int .i64 (-1) ∧ J [] wr) (fun _ _ => 0)
  case atStart => exact ⟨rfl, h0⟩
  case round =>
    obtain ⟨rfl, hJs⟩ := hrel
    gi_wp2
    go_end0
    exact ⟨⟨_, rfl⟩, hJs⟩
theorem back_stops (Bk : Nat) (p : Nat → Prop) (v : Value) (zs : List Int) (w : World) (hp : ∀ b, p b → b < w.heap.size) (hk : p Bk) (hlen : zs.length ≤ 9223372036854775807) (hv : Ints w v zs)
    (hvp : zs.length ≠ 0 → ∀ b off n cap, v = .slice (some ⟨b, off, none⟩) n cap → p b) (hck : w.cell? ⟨Bk, 0, none⟩ = some v) :
    SeqStopsK Fence.wide 3 Tryz.prog 156 #[.pointer (some ⟨Bk, 0, none⟩)] (encB zs) (Keeps p)
      (fun ys => ys = List.finRange zs.length) (fun pre => ∃ k, k ≤ zs.length ∧ pre = (List.finRange zs.length).take k) zs.length w := fun l J Jx W hW _ _ hY h0 => by
  have hck' := getC hW hck
  rcases hv with ⟨a0, c0, rfl, h1, h2⟩ | ⟨b, off, cap, rfl, hcap, hmax, hcs⟩
  · obtain rfl : zs = [] := by simpa using h2
    exact (back1_nil_in l Bk J W hck' h0).mono fun e W' ⟨he, hj⟩ => ⟨he, .inl ⟨_, rfl, hj⟩⟩
  · refine back1_in l Bk p b off cap zs hlen ?_ hk J Jx hY W hck' (fun j x hj => getC hW (hcs j _ (by simp [hj]))) h0
    by_cases h : zs.length = 0
    · exact .inl h
    · exact .inr (hvp h _ _ _ _ rfl)
end Go.Proofs.YtinegkldgjhnpaaGreatDoor
namespace Go.Proofs.YtinegkldgjhnpaaGreatDoor
open Go.RowKit Go.Extern.Stop Go.Stop Go.Extern
set_option linter.unusedVariables false
attribute [local irreducible] wpList wpAnyH Code.wp Oper.wp Go

theorem seal_OpenN (kind no : Int) (a : Option Addr) (n c : Nat) (l : List UInt8) (w : World) (hn : l.length = n) (h : Bys w (.slice a n c) l) : Calls Tryz.prog 100 #[.slice a n c, .int .i64 kind, .int .i64 no] w (OpenP kind no l w) := by
  subst hn; exact seal_Open kind no a c l w h
/-- a node, asked as a tree's: the error's number -/
def nodeTE (l : List UInt8) (tree : Int) : Int := if nodeE l = 0 then (if tree = 0 ∨ nodT l = tree then 0 else 6) else nodeE l
/-- what package block has for a node -/
def nodeErr (l : List UInt8) (no tree : Int) : Int := if inE l 2 no = 0 then nodeTE (inB l no) tree else inE l 2 no
def nodeV (l : List UInt8) (kp vp : Option Addr) (kc vc : Nat) : Value := .agg #[.int .i64 (nodT l), .bool (nodL l), .slice kp (nodC l) kc, .slice vp (nodC l) vc]
def Node1P (l : List UInt8) (tree : Int) (w : World) (e : Ending) (w' : World) : Prop :=
  (nodeTE l tree ≠ 0 ∧ ∃ a b kp n1 kc vp n2 vc, e = .returned (.tuple #[.agg #[.int .i64 a, .bool b, .slice kp n1 kc, .slice vp n2 vc], .int .i64 (nodeTE l tree)]) ∧ Below w.heap.size w w') ∨
  (nodeTE l tree = 0 ∧ ∃ kp kc vp vc, e = .returned (.tuple #[.agg #[.int .i64 (nodT l), .bool (nodL l), .slice kp (nodC l) kc, .slice vp (nodC l) vc], .int .i64 0]) ∧ Below w.heap.size w w' ∧
    w'.ownsRow w.heap.size 3 1 (.slice kp (nodC l) kc) (nodC l) ((keysI l (nodC l)).map (Value.int .i64)) ∧ w'.ownsRow w.heap.size 9 1 (.slice vp (nodC l) vc) (nodC l) ((valsL l (nodC l)).map sv))
def BlkNodeP (l : List UInt8) (no tree : Int) (w : World) (e : Ending) (w' : World) : Prop :=
  (nodeErr l no tree ≠ 0 ∧ ∃ b, e = .returned (.tuple #[.agg #[.int .i64 0, .bool false, .slice none 0 0, .slice none 0 0], .iface 67 (.pointer (some ⟨b, 0, none⟩))]) ∧ Below w.heap.size w w' ∧ ErrV w' [some no] (some (nodeErr l no tree)) (.iface 67 (.pointer (some ⟨b, 0, none⟩)))) ∨
  (nodeErr l no tree = 0 ∧ ∃ kp kc vp vc, e = .returned (.tuple #[.agg #[.int .i64 (nodT (inB l no)), .bool (nodL (inB l no)), .slice kp (nodC (inB l no)) kc, .slice vp (nodC (inB l no)) vc], .nilIface]) ∧ Below w.heap.size w w' ∧
    w'.ownsRow w.heap.size 3 1 (.slice kp (nodC (inB l no)) kc) (nodC (inB l no)) ((keysI (inB l no) (nodC (inB l no))).map (Value.int .i64)) ∧ w'.ownsRow w.heap.size 9 1 (.slice vp (nodC (inB l no)) vc) (nodC (inB l no)) ((valsL (inB l no) (nodC (inB l no))).map sv))
set_option maxRecDepth 100000 in
set_option maxHeartbeats 1000000 in
theorem node_1 (tree : Int) (bt : Nat) (a : Option Addr) (c : Nat) (l : List UInt8) (w : World) (kt : Blk w bt [.int .i64 tree] 3) (hl : l.length = 244) (h : Bys w (.slice a 244 c) l) :
    Calls Tryz.prog 57 #[.slice a 244 c, .pointer (some ⟨bt, 0, none⟩)] w (Node1P l tree w) := by
 refine zin 27 Tryz.func57 ?_
 refine xa 2 [.int .i64 0, .bool false, .slice none 0 0, .slice none 0 0] 52 fun b1 W1 n1 => ?_
 refine xc 6 (args := #[.slice a 244 c]) (node_Read a c l _ hl (h.below n1.below)) ?_
 rintro e W2 hq2
 rcases hq2 with ⟨hz, rfl, hb2⟩ | ⟨hz, kp, kc, vp, vc, rfl, hb2, hk, hv_⟩
 · refine xa 3 [.int .i64 0, .bool false, .slice none 0 0, .slice none 0 0] 52 fun b3 W3 n3 => ?_
   have k1 := n1.blk.below hb2
   have d3_b1 := n3.ne k1
   have hB'1 := Bl.next n1.below hb2
   have g3 := n3.ge hB'1
   refine xsv 0 n3.blk [.int .i64 0, .bool false, .slice none 0 0, .slice none 0 0] fun W4 u4 k4 => ?_
   refine xgk 9 [13, 14] (show (((nodeE l) == (0 : Int)) : Bool) = false from beq_false_of_ne hz) ?_
   refine xlv 16 k4.rp ?_
   have k1'1 := u4.blk (k1.below n3.below) (Ne.symm (Ne.symm d3_b1))
   refine xsv 1 k1'1 [.int .i64 0, .bool false, .slice none 0 0, .slice none 0 0] fun W6 u6 k6 => ?_
   have g1 := n1.ge (Below.refl w.heap.size _)
   have hB'2 := u6.below (u4.below (Bl.next hB'1 n3.below) g3) g1
   exact xec 4 k6 (.tuple #[.agg #[.int .i64 0, .bool false, .slice none 0 0, .slice none 0 0], .int .i64 (nodeE l)]) (.inl ⟨by unfold nodeTE; rw [if_neg hz]; exact hz, _, _, _, _, _, _, _, _, by unfold nodeTE; rw [if_neg hz], hB'2⟩)
 refine xa 3 [.int .i64 0, .bool false, .slice none 0 0, .slice none 0 0] 52 fun b7 W7 n7 => ?_
 have k1 := n1.blk.below hb2
 have d7_b1 := n7.ne k1
 have hB'3 := Bl.next n1.below hb2
 have g7 := n7.ge hB'3
 refine xsv 0 n7.blk [.int .i64 (nodT l), .bool (nodL l), .slice kp (nodC l) kc, .slice vp (nodC l) vc] fun W8 u8 k8 => ?_
 have kt'1 := u8.blkT (((kt.below n1.below).below hb2).below n7.below) n7.blk (by decide)
 refine xb 9 0 kt'1 ?_
 refine xg 3 [16, 17, 18] (tree != (0 : Int)) (fun hc9 => ?_) (fun hc9 => ?_)
 · have hc9 := ne_of_bne hc9
   refine xb 1 0 k8 ?_
   refine xb 0 0 kt'1 ?_
   refine xin 4 (nodT l) tree (fun hc10 => ?_) (fun hc10 => ?_)
   · refine xlv 2 k8.rp ?_
     have k1'2 := u8.blk (k1.below n7.below) (Ne.symm (Ne.symm d7_b1))
     refine xsv 0 k1'2 [.int .i64 (nodT l), .bool (nodL l), .slice kp (nodC l) kc, .slice vp (nodC l) vc] fun W11 u11 k11 => ?_
     have g1 := n1.ge (Below.refl w.heap.size _)
     have hB'4 := u11.below (u8.below (Bl.next hB'3 n7.below) g7) g1
     exact xec 5 k11 (.tuple #[.agg #[.int .i64 (nodT l), .bool (nodL l), .slice kp (nodC l) kc, .slice vp (nodC l) vc], .int .i64 6]) (.inl ⟨by unfold nodeTE; rw [if_pos hz, if_neg (by omega)]; decide, _, _, _, _, _, _, _, _, by unfold nodeTE; rw [if_pos hz, if_neg (by omega)], hB'4⟩)
   refine xlv 4 k8.rp ?_
   have k1'3 := u8.blk (k1.below n7.below) (Ne.symm (Ne.symm d7_b1))
   refine xsv 1 k1'3 [.int .i64 (nodT l), .bool (nodL l), .slice kp (nodC l) kc, .slice vp (nodC l) vc] fun W12 u12 k12 => ?_
   have g1 := n1.ge (Below.refl w.heap.size _)
   have hB'5 := u12.below (u8.below (Bl.next hB'3 n7.below) g7) g1
   have hk'1 := u12.own2 (u8.own2 (own_below (own_mono hk n1.below.size) n7.below) n7.blk (by decide)) k1'3 (by decide)
   have hv_'1 := u12.own2 (u8.own2 (own_below (own_mono hv_ n1.below.size) n7.below) n7.blk (by decide)) k1'3 (by decide)
   exact xec 4 k12 (.tuple #[.agg #[.int .i64 (nodT l), .bool (nodL l), .slice kp (nodC l) kc, .slice vp (nodC l) vc], .int .i64 0]) (.inr ⟨by unfold nodeTE; rw [if_pos hz, if_pos (by omega)], _, _, _, _, rfl, hB'5, hk'1, hv_'1⟩)
 have hc9 := eq_of_bne_false hc9
 refine xlv 12 k8.rp ?_
 have k1'4 := u8.blk (k1.below n7.below) (Ne.symm (Ne.symm d7_b1))
 refine xsv 1 k1'4 [.int .i64 (nodT l), .bool (nodL l), .slice kp (nodC l) kc, .slice vp (nodC l) vc] fun W13 u13 k13 => ?_
 have g1 := n1.ge (Below.refl w.heap.size _)
 have hB'6 := u13.below (u8.below (Bl.next hB'3 n7.below) g7) g1
 have hk'2 := u13.own2 (u8.own2 (own_below (own_mono hk n1.below.size) n7.below) n7.blk (by decide)) k1'4 (by decide)
 have hv_'2 := u13.own2 (u8.own2 (own_below (own_mono hv_ n1.below.size) n7.below) n7.blk (by decide)) k1'4 (by decide)
 exact xec 4 k13 (.tuple #[.agg #[.int .i64 (nodT l), .bool (nodL l), .slice kp (nodC l) kc, .slice vp (nodC l) vc], .int .i64 0]) (.inr ⟨by unfold nodeTE; rw [if_pos hz, if_pos (by omega)], _, _, _, _, rfl, hB'6, hk'2, hv_'2⟩)
set_option maxRecDepth 100000 in
set_option maxHeartbeats 1000000 in
theorem readNode (B b : Nat) (p : Option Addr) (n c : Nat) (l : List UInt8) (no tree : Int) (w : World) (hI : ImgR B b p n c l w) (bt : Nat) (kt : Blk w bt [.int .i64 tree] 3) :
    Calls Tryz.prog 56 #[.pointer (some ⟨b, 0, none⟩), .int .i64 no, .int .i64 2, .func (.func 57) #[] #[.pointer (some ⟨bt, 0, none⟩)]] w (BlkNodeP l no tree w) := by
 refine zin 56 Tryz.func56 ?_
 refine xa 2 [.int .i64 0, .bool false, .slice none 0 0, .slice none 0 0] 52 fun b1 W1 n1 => ?_
 refine xa 5 [.int .i64 0, .bool false, .slice none 0 0, .slice none 0 0] 52 fun b2 W2 n2 => ?_
 have d2_b1 := n2.ne n1.blk
 have hB := Bl.next n1.below n2.below
 refine xc 6 (args := #[.pointer (some ⟨b, 0, none⟩), .int .i64 no]) (image_Read B b p n c l no _ (hI.below hB)) ?_
 rintro e W3 hq3
 rcases hq3 with ⟨ho, vr, rfl, hb3⟩ | ⟨j, hk, hj, p2, c2, rfl, hb3, ho⟩
 · refine xd 16 (.t w.heap.size [52]) ?_
   refine xm2 (.b [1, 2, 3]) 0 4 ?_ ?_
   · have k2 := (n2.blk.below hb3).below (below_drew W3)
     refine xlv 0 k2.rp ?_
     refine yc (.o [] 4) (args := #[.int .i64 no, .iface 53 (.int .i64 3)]) (.t w.heap.size [52]) (block_told no 3 _) ?_
     rintro _ W4 ⟨_, rfl, hb4, hv4⟩
     refine ⟨(SF.of_below _ hb4), ?_⟩
     rw [if_neg (by decide), if_neg (by decide)] at hv4
     have hq4 := hv4
     obtain ⟨bf4, vf4, rfl, _, _⟩ := hq4
     have k1'1 := (((n1.blk.below n2.below).below hb3).below (below_drew W3)).below hb4
     have g1 := n1.ge (Below.refl w.heap.size _)
     refine ysv (.o [] 5) k1'1 [.int .i64 0, .bool false, .slice none 0 0, .slice none 0 0] (.t w.heap.size [52]) fun W5 u5 k5 => ⟨(sft_upd u5 k1'1 g1 (by decide)), ?_⟩
     have hB'1 := u5.below (Bl.next (Bl.next (Bl.next hB hb3) (below_drew W3)) hb4) g1
     have hv4'1 := hv4.upd u5 k1'1 (by decide)
     refine xec (.r [6] 4) k5 (.tuple #[.agg #[.int .i64 0, .bool false, .slice none 0 0, .slice none 0 0], .iface 67 (.pointer (some ⟨bf4, 0, none⟩))]) ?_
     have he : nodeErr l no tree = 3 := by unfold nodeErr; rw [inE_out hI.len ho]; rfl
     exact .inl ⟨by rw [he]; decide, _, rfl, hB'1, by rw [he]; exact hv4'1⟩
   refine yc 0 (args := #[.int .i64 no, .iface 53 (.int .i64 3)]) (.t w.heap.size [52]) (block_told no 3 _) ?_
   rintro _ W6 ⟨_, rfl, hb6, hv6⟩
   refine ⟨(SF.of_below _ hb6), ?_⟩
   rw [if_neg (by decide), if_neg (by decide)] at hv6
   have hq6 := hv6
   obtain ⟨bf6, vf6, rfl, _, _⟩ := hq6
   have k2 := ((n2.blk.below hb3).below (below_drew W3)).below hb6
   refine xlv (.o [] 0) k2.rp ?_
   have k1'2 := (((n1.blk.below n2.below).below hb3).below (below_drew W3)).below hb6
   have g1 := n1.ge (Below.refl w.heap.size _)
   refine ysv (.o [] 5) k1'2 [.int .i64 0, .bool false, .slice none 0 0, .slice none 0 0] (.t w.heap.size [52]) fun W7 u7 k7 => ⟨(sft_upd u7 k1'2 g1 (by decide)), ?_⟩
   have hB'2 := u7.below (Bl.next (Bl.next (Bl.next hB hb3) (below_drew W3)) hb6) g1
   have hv6'1 := hv6.upd u7 k1'2 (by decide)
   refine xec (.r [6] 4) k7 (.tuple #[.agg #[.int .i64 0, .bool false, .slice none 0 0, .slice none 0 0], .iface 67 (.pointer (some ⟨bf6, 0, none⟩))]) ?_
   have he : nodeErr l no tree = 3 := by unfold nodeErr; rw [inE_out hI.len ho]; rfl
   exact .inl ⟨by rw [he]; decide, _, rfl, hB'2, by rw [he]; exact hv6'1⟩
 have hs3 := (Bl.next n1.below n2.below).size
 have hj2 : j < l.length / 256 := by rw [hI.len]; exact hj
 have hlj := blkB_len hj2
 have he2 := inE_in (l := l) (kind := 2) hI.len hk hj
 have ho'1 := own_mono ho hs3
 refine xc 22 (args := #[.slice p2 256 c2, .int .i64 2, .int .i64 no]) (seal_OpenN 2 no p2 256 c2 (blkB l j) _ hlj (bys_of (own_sl ho'1) hlj)) ?_
 rintro e W8 hq8
 rcases hq8 with ⟨hs, rfl, hb8⟩ | ⟨hs, p3, c3, rfl, hb8, h3⟩
 · refine xk 14 (show (((openE 2 no (blkB l j)) != (0 : Int)) : Bool) = true from bne_iff_ne.2 hs) ?_
   refine xd 1 (.t w.heap.size [52]) ?_
   refine xm2 (.b [1, 2, 3]) 0 4 ?_ ?_
   · have k2 := ((n2.blk.below hb3).below hb8).below (below_drew W8)
     refine xlv 0 k2.rp ?_
     refine yc (.o [] 4) (args := #[.int .i64 no, .iface 53 (.int .i64 (openE 2 no (blkB l j)))]) (.t w.heap.size [52]) (block_told no (openE 2 no (blkB l j)) _) ?_
     rintro _ W9 ⟨_, rfl, hb9, hv9⟩
     refine ⟨(SF.of_below _ hb9), ?_⟩
     rw [if_neg hs, if_neg hs] at hv9
     have hq9 := hv9
     obtain ⟨bf9, vf9, rfl, _, _⟩ := hq9
     have k1'3 := ((((n1.blk.below n2.below).below hb3).below hb8).below (below_drew W8)).below hb9
     have g1 := n1.ge (Below.refl w.heap.size _)
     refine ysv (.o [] 5) k1'3 [.int .i64 0, .bool false, .slice none 0 0, .slice none 0 0] (.t w.heap.size [52]) fun W10 u10 k10 => ⟨(sft_upd u10 k1'3 g1 (by decide)), ?_⟩
     have hB'3 := u10.below (Bl.next (Bl.next (Bl.next (Bl.next hB hb3) hb8) (below_drew W8)) hb9) g1
     have hv9'1 := hv9.upd u10 k1'3 (by decide)
     refine xec (.r [6] 4) k10 (.tuple #[.agg #[.int .i64 0, .bool false, .slice none 0 0, .slice none 0 0], .iface 67 (.pointer (some ⟨bf9, 0, none⟩))]) ?_
     have he : nodeErr l no tree = openE 2 no (blkB l j) := by unfold nodeErr; rw [he2, if_neg hs]
     exact .inl ⟨by rw [he]; exact hs, _, rfl, hB'3, by rw [he]; exact hv9'1⟩
   refine yc 0 (args := #[.int .i64 no, .iface 53 (.int .i64 (openE 2 no (blkB l j)))]) (.t w.heap.size [52]) (block_told no (openE 2 no (blkB l j)) _) ?_
   rintro _ W11 ⟨_, rfl, hb11, hv11⟩
   refine ⟨(SF.of_below _ hb11), ?_⟩
   rw [if_neg hs, if_neg hs] at hv11
   have hq11 := hv11
   obtain ⟨bf11, vf11, rfl, _, _⟩ := hq11
   have k2 := (((n2.blk.below hb3).below hb8).below (below_drew W8)).below hb11
   refine xlv (.o [] 0) k2.rp ?_
   have k1'4 := ((((n1.blk.below n2.below).below hb3).below hb8).below (below_drew W8)).below hb11
   have g1 := n1.ge (Below.refl w.heap.size _)
   refine ysv (.o [] 5) k1'4 [.int .i64 0, .bool false, .slice none 0 0, .slice none 0 0] (.t w.heap.size [52]) fun W12 u12 k12 => ⟨(sft_upd u12 k1'4 g1 (by decide)), ?_⟩
   have hB'4 := u12.below (Bl.next (Bl.next (Bl.next (Bl.next hB hb3) hb8) (below_drew W8)) hb11) g1
   have hv11'1 := hv11.upd u12 k1'4 (by decide)
   refine xec (.r [6] 4) k12 (.tuple #[.agg #[.int .i64 0, .bool false, .slice none 0 0, .slice none 0 0], .iface 67 (.pointer (some ⟨bf11, 0, none⟩))]) ?_
   have he : nodeErr l no tree = openE 2 no (blkB l j) := by unfold nodeErr; rw [he2, if_neg hs]
   exact .inl ⟨by rw [he]; exact hs, _, rfl, hB'4, by rw [he]; exact hv11'1⟩
 have hs8 := (Bl.next hB hb3).size
 have h3'1 := own_mono h3 hs8
 have hin : ((blkB l j).drop 8).take 244 = inB l no := (inB_in hk).symm
 have hil := inB_len hI.len hk hj
 rw [hin] at h3'1
 have hB'5 := Bl.next (Bl.next hB hb3) hb8
 refine xc 21 (args := #[.slice p3 244 c3, .pointer (some ⟨bt, 0, none⟩)]) (node_1 tree bt p3 c3 (inB l no) _ (kt.below hB'5) hil (bys_of (own_sl h3'1) hil)) ?_
 rintro e W13 hq13
 rcases hq13 with ⟨hz, a5, b5, kp, m1, kc, vp, m2, vc, rfl, hb13⟩ | ⟨hz, kp, kc, vp, vc, rfl, hb13, hk, hv_⟩
 · refine xa 3 [.int .i64 0, .bool false, .slice none 0 0, .slice none 0 0] 52 fun b14 W14 n14 => ?_
   have k1'5 := (((n1.blk.below n2.below).below hb3).below hb8).below hb13
   have d14_b1 := n14.ne k1'5
   have k2 := ((n2.blk.below hb3).below hb8).below hb13
   have d14_b2 := n14.ne k2
   have hB'6 := Bl.next hB'5 hb13
   have g14 := n14.ge hB'6
   refine xsv 0 n14.blk [.int .i64 a5, .bool b5, .slice kp m1 kc, .slice vp m2 vc] fun W15 u15 k15 => ?_
   refine xk 10 (show (((nodeTE (inB l no) tree) != (0 : Int)) : Bool) = true from bne_iff_ne.2 hz) ?_
   refine xd 1 (.t w.heap.size [52]) ?_
   refine xm2 (.b [1, 2, 3]) 0 4 ?_ ?_
   · have k2'1 := (u15.blk (k2.below n14.below) (Ne.symm (Ne.symm d14_b2))).below (below_drew W15)
     refine xlv 0 k2'1.rp ?_
     refine yc (.o [] 4) (args := #[.int .i64 no, .iface 53 (.int .i64 (nodeTE (inB l no) tree))]) (.t w.heap.size [52]) (block_told no (nodeTE (inB l no) tree) _) ?_
     rintro _ W16 ⟨_, rfl, hb16, hv16⟩
     refine ⟨(SF.of_below _ hb16), ?_⟩
     rw [if_neg hz, if_neg hz] at hv16
     have hq16 := hv16
     obtain ⟨bf16, vf16, rfl, _, _⟩ := hq16
     have k1'6 := ((u15.blk (k1'5.below n14.below) (Ne.symm (Ne.symm d14_b1))).below (below_drew W15)).below hb16
     have g1 := n1.ge (Below.refl w.heap.size _)
     refine ysv (.o [] 5) k1'6 [.int .i64 0, .bool false, .slice none 0 0, .slice none 0 0] (.t w.heap.size [52]) fun W17 u17 k17 => ⟨(sft_upd u17 k1'6 g1 (by decide)), ?_⟩
     have hB'7 := u17.below (Bl.next (Bl.next (u15.below (Bl.next hB'6 n14.below) g14) (below_drew W15)) hb16) g1
     have hv16'1 := hv16.upd u17 k1'6 (by decide)
     refine xec (.r [6] 4) k17 (.tuple #[.agg #[.int .i64 0, .bool false, .slice none 0 0, .slice none 0 0], .iface 67 (.pointer (some ⟨bf16, 0, none⟩))]) ?_
     have he : nodeErr l no tree = nodeTE (inB l no) tree := by unfold nodeErr; rw [he2, if_pos hs]
     exact .inl ⟨by rw [he]; exact hz, _, rfl, hB'7, by rw [he]; exact hv16'1⟩
   refine yc 0 (args := #[.int .i64 no, .iface 53 (.int .i64 (nodeTE (inB l no) tree))]) (.t w.heap.size [52]) (block_told no (nodeTE (inB l no) tree) _) ?_
   rintro _ W18 ⟨_, rfl, hb18, hv18⟩
   refine ⟨(SF.of_below _ hb18), ?_⟩
   rw [if_neg hz, if_neg hz] at hv18
   have hq18 := hv18
   obtain ⟨bf18, vf18, rfl, _, _⟩ := hq18
   have k2'2 := ((u15.blk (k2.below n14.below) (Ne.symm (Ne.symm d14_b2))).below (below_drew W15)).below hb18
   refine xlv (.o [] 0) k2'2.rp ?_
   have k1'7 := ((u15.blk (k1'5.below n14.below) (Ne.symm (Ne.symm d14_b1))).below (below_drew W15)).below hb18
   have g1 := n1.ge (Below.refl w.heap.size _)
   refine ysv (.o [] 5) k1'7 [.int .i64 0, .bool false, .slice none 0 0, .slice none 0 0] (.t w.heap.size [52]) fun W19 u19 k19 => ⟨(sft_upd u19 k1'7 g1 (by decide)), ?_⟩
   have hB'8 := u19.below (Bl.next (Bl.next (u15.below (Bl.next hB'6 n14.below) g14) (below_drew W15)) hb18) g1
   have hv18'1 := hv18.upd u19 k1'7 (by decide)
   refine xec (.r [6] 4) k19 (.tuple #[.agg #[.int .i64 0, .bool false, .slice none 0 0, .slice none 0 0], .iface 67 (.pointer (some ⟨bf18, 0, none⟩))]) ?_
   have he : nodeErr l no tree = nodeTE (inB l no) tree := by unfold nodeErr; rw [he2, if_pos hs]
   exact .inl ⟨by rw [he]; exact hz, _, rfl, hB'8, by rw [he]; exact hv18'1⟩
 have hs13 := (Bl.next (Bl.next hB hb3) hb8).size
 refine xa 3 [.int .i64 0, .bool false, .slice none 0 0, .slice none 0 0] 52 fun b20 W20 n20 => ?_
 have k1'8 := (((n1.blk.below n2.below).below hb3).below hb8).below hb13
 have d20_b1 := n20.ne k1'8
 have k2 := ((n2.blk.below hb3).below hb8).below hb13
 have d20_b2 := n20.ne k2
 have hB'9 := Bl.next hB'5 hb13
 have g20 := n20.ge hB'9
 refine xsv 0 n20.blk [.int .i64 (nodT (inB l no)), .bool (nodL (inB l no)), .slice kp (nodC (inB l no)) kc, .slice vp (nodC (inB l no)) vc] fun W21 u21 k21 => ?_
 refine xlv 15 k21.rp ?_
 have k1'9 := u21.blk (k1'8.below n20.below) (Ne.symm (Ne.symm d20_b1))
 refine xsv 0 k1'9 [.int .i64 (nodT (inB l no)), .bool (nodL (inB l no)), .slice kp (nodC (inB l no)) kc, .slice vp (nodC (inB l no)) vc] fun W22 u22 k22 => ?_
 have g1 := n1.ge (Below.refl w.heap.size _)
 have hB'10 := u22.below (u21.below (Bl.next hB'9 n20.below) g20) g1
 have hk'1 := u22.own2 (u21.own2 (own_below (own_mono hk hs13) n20.below) n20.blk (by decide)) k1'9 (by decide)
 have hv_'1 := u22.own2 (u21.own2 (own_below (own_mono hv_ hs13) n20.below) n20.blk (by decide)) k1'9 (by decide)
 exact xec 4 k22 (.tuple #[.agg #[.int .i64 (nodT (inB l no)), .bool (nodL (inB l no)), .slice kp (nodC (inB l no)) kc, .slice vp (nodC (inB l no)) vc], .nilIface]) (.inr ⟨by unfold nodeErr; rw [he2, if_pos hs, hz], _, _, _, _, rfl, hB'10, hk'1, hv_'1⟩)
set_option maxRecDepth 100000 in
set_option maxHeartbeats 1000000 in
theorem block_Node (B b : Nat) (p : Option Addr) (n c : Nat) (l : List UInt8) (no tree : Int) (w : World) (hI : ImgR B b p n c l w) :
    Calls Tryz.prog 21 #[.pointer (some ⟨b, 0, none⟩), .int .i64 no, .int .i64 tree] w (BlkNodeP l no tree w) := by
 refine zin 14 Tryz.func21 ?_
 refine xa 2 [.int .i64 tree] 3 fun b1 W1 n1 => ?_
 refine xa 0 [.int .i64 0, .bool false, .slice none 0 0, .slice none 0 0] 52 fun b2 W2 n2 => ?_
 have hB := Bl.next n1.below n2.below
 have k1 := n1.blk.below n2.below
 refine xc 8 (args := #[.pointer (some ⟨b, 0, none⟩), .int .i64 no, .int .i64 2, .func (.func 57) #[] #[.pointer (some ⟨b1, 0, none⟩)]]) (readNode B b p n c l no tree _ (hI.below hB) b1 k1) ?_
 rintro e W3 hq3
 rcases hq3 with ⟨he, bf, rfl, hb3, hv⟩ | ⟨he, kp, kc, vp, vc, rfl, hb3, hk, hv_⟩
 · have k2 := n2.blk.below hb3
   refine xsv 2 k2 [.int .i64 0, .bool false, .slice none 0 0, .slice none 0 0] fun W4 u4 k4 => ?_
   have g2 := n2.ge n1.below
   have hB'1 := u4.below (Bl.next hB hb3) g2
   have hv'1 := hv.upd u4 k2 (by decide)
   exact xec 4 k4 (.tuple #[.agg #[.int .i64 0, .bool false, .slice none 0 0, .slice none 0 0], .iface 67 (.pointer (some ⟨bf, 0, none⟩))]) (.inl ⟨he, _, rfl, hB'1, hv'1⟩)
 have hs3 := (Bl.next n1.below n2.below).size
 have k2 := n2.blk.below hb3
 refine xsv 2 k2 [.int .i64 (nodT (inB l no)), .bool (nodL (inB l no)), .slice kp (nodC (inB l no)) kc, .slice vp (nodC (inB l no)) vc] fun W5 u5 k5 => ?_
 have g2 := n2.ge n1.below
 have hB'2 := u5.below (Bl.next hB hb3) g2
 have hk'1 := u5.own2 (own_mono hk hs3) k2 (by decide)
 have hv_'1 := u5.own2 (own_mono hv_ hs3) k2 (by decide)
 exact xec 4 k5 (.tuple #[.agg #[.int .i64 (nodT (inB l no)), .bool (nodL (inB l no)), .slice kp (nodC (inB l no)) kc, .slice vp (nodC (inB l no)) vc], .nilIface]) (.inr ⟨he, _, _, _, _, rfl, hB'2, hk'1, hv_'1⟩)
end Go.Proofs.YtinegkldgjhnpaaGreatDoor
namespace Go.Proofs.YtinegkldgjhnpaaGreatDoor
open Go.RowKit Go.Extern.Stop Go.Stop Go.Extern
set_option linter.unusedVariables false
attribute [local irreducible] wpList wpAnyH Code.wp Oper.wp Go

/-- an entry: its key, its value, its block -/
abbrev Ent := Int × List UInt8 × Int
def entD : Ent := (0, [], 0)
def entC (x : Ent) : List Value := [.int .i64 x.1, .string ⟨x.2.1.toArray⟩, .int .i64 x.2.2]
theorem entC_len (x : Ent) : (entC x).length = 3 := rfl
/-- the key ahead of entry i -/
def lastK (l : List Ent) : Nat → Int
  | 0 => -1
  | i + 1 => (l.getD i entD).1
/-- entries that a tree may be built of -/
structure EntsOk (v : Nat) (l : List Ent) : Prop where
  hk : ∀ i, i < l.length → 0 ≤ (l.getD i entD).1 ∧ (l.getD i entD).1 ≤ 281474976710655
  hs : ∀ j, j + 1 < l.length → (l.getD j entD).1 < (l.getD (j + 1) entD).1
  hw : ∀ i, i < l.length → (l.getD i entD).2.1.length = v
theorem EntsOk.last {v : Nat} {l : List Ent} (E : EntsOk v l) {i : Nat} (h : i < l.length) : lastK l i < (l.getD i entD).1 := by
  cases i with
  | zero => have := (E.hk 0 h).1; simp only [lastK]; omega
  | succ j => exact E.hs j h
theorem levs_ge (x : Nat) : x ≤ (levs x).sum := by
  by_cases h : x ≤ 1
  · rw [levs_one h]; simp
  · rw [levs_more h]; simp
theorem nodN_pos (t : Int) (n : Nat) : 1 ≤ nodN t n := by
  have h1 := levs_ge (ovN n (maxN t true)); have h2 := ovN_pos n (maxN t true); unfold nodN levL; omega
end Go.Proofs.YtinegkldgjhnpaaGreatDoor
namespace Go.Proofs.YtinegkldgjhnpaaGreatDoor
open Go.RowKit Go.Extern.Stop Go.Stop Go.Extern
set_option linter.unusedVariables false
attribute [local irreducible] wpList wpAnyH Code.wp Oper.wp Go

set_option maxRecDepth 100000 in
set_option maxHeartbeats 1000000 in
theorem slices_Backward (p : Option Addr) (n c : Nat) (w : World) :
    Calls Tryz.prog 124 #[.slice p n c] w (fun e w' => ∃ b, e = .returned (.func (.func 156) #[] #[.pointer (some ⟨b, 0, none⟩)]) ∧ Below w.heap.size w w' ∧ w.heap.size ≤ b ∧ Blk w' b [.slice p n c] 26) := by
 refine zin 4 Tryz.func124 ?_
 refine xa 2 [.slice p n c] 26 fun b1 W1 n1 => ?_
 have g1 := n1.ge (Below.refl w.heap.size _)
 exact xe 10 (.func (.func 156) #[] #[.pointer (some ⟨b1, 0, none⟩)]) ⟨_, rfl, n1.below, g1, n1.blk⟩
end Go.Proofs.YtinegkldgjhnpaaGreatDoor
namespace Go.Proofs.YtinegkldgjhnpaaGreatDoor
open Go.RowKit Go.Extern.Stop Go.Stop Go.Extern
set_option linter.unusedVariables false
attribute [local irreducible] wpList wpAnyH Code.wp Oper.wp Go

attribute [local go_sem] Oper.semAt_some
theorem Upd.of_put (w : World) (D : Nat) (o : Obj) : Upd w D (w.putObj D o) := ⟨rfl, rfl, rfl, by simp [World.putObj], fun k hk => World.putObj_heap_other hk⟩
/-- a record of deferred calls at block D -/
def Dfr (D : Nat) (w : World) : Prop := w.heap[D]? = some (.deferred (some []))
theorem Dfr.below {D : Nat} {w W : World} (h : Dfr D w) (hb : Below w.heap.size w W) : Dfr D W := (hb.block D (Array.getElem?_eq_some_iff.1 h).1).trans h
theorem Dfr.ne {D b : Nat} {w : World} {cs : List Value} {t : TypeId} (h : Dfr D w) (k : Blk w b cs t) : b ≠ D := by
  rintro rfl
  have h' : w.heap[b]? = _ := h
  rw [show w.heap[b]? = _ from k] at h'
  cases h'
theorem Dfr.upd {D b : Nat} {w W : World} {cs : List Value} {t : TypeId} (h : Dfr D w) (u : Upd w b W) (k : Blk w b cs t) : Dfr D W := (u.block D fun e => h.ne k e.symm).trans h
theorem Dfr.row {D : Nat} {w : World} {base e size n : Nat} {v : Value} {xs : List Value} (h : Dfr D w) (k : w.ownsRow base e size v n xs) : ∀ g, v.ownBlock = some g → g ≠ D := by
  rintro g hg rfl
  rcases k.2 with ⟨rfl, _⟩ | ⟨g', cap, cur, rfl, _, hh, _⟩
  · cases hg
  · simp only [Value.ownBlock, Option.some.injEq] at hg
    subst hg
    rw [show w.heap[g']? = _ from h] at hh
    cases hh
theorem Dfr.grown {D : Nat} {w W : World} {base e size n : Nat} {v : Value} {xs : List Value} (h : Dfr D w) (hg : w.grownBy W v.ownBlock) (k : w.ownsRow base e size v n xs) : Dfr D W :=
  (hg.block D (Array.getElem?_eq_some_iff.1 h).1 fun q => h.row k D q.symm rfl).trans h
theorem g_endM {P : Program} {fn : Func} {R : Ending → World → Prop} {a : Act} {w : World} {D : Nat} (hK : Dfr D w) (v : Value) (hd : a.defers = [{ target := .collected D, args := #[] }]) (hr : (results fn a.tmps).run P (w.putObj D (.deferred none)) = .ok v (w.putObj D (.deferred none))) (h : R (.returned v) (w.putObj D (.deferred none))) : bodyPostM Fence.wide 4 P fn R .normal a w :=
  by
  show LeavesInM _ _ _ _ a.tmps R a.defers .returning w
  rw [hd]
  exact ⟨by simp, .inl ⟨_, _, rfl, run_takeDeferred hK, _, hr, h⟩⟩
def noPan (Q : Exit → Act → World → Prop) : Exit → Act → World → Prop
  | .normal, a, w => Q .normal a w
  | .ret, a, w => Q .ret a w
  | _, _, _ => False
theorem g_nopan {P : Program} {c : Code} {Q : Exit → Act → World → Prop} {a : Act} {w : World} (h : c.wp P (noPan Q) a w) : c.wp P Q a w := wp_mono h fun e a w q => by cases e <;> first | exact q | exact q.elim
theorem own_ty_ne {w : World} {base size n b : Nat} {e t : TypeId} {v : Value} {xs cs : List Value} (k : w.ownsRow base e size v n xs) (q : Blk w b cs t) (hne : e ≠ t) : ∀ g, v.ownBlock = some g → g ≠ b := by
  rintro g hg rfl
  rcases k.2 with ⟨rfl, _⟩ | ⟨g', cap, cur, rfl, _, hh, _⟩
  · cases hg
  · simp only [Value.ownBlock, Option.some.injEq] at hg
    subst hg
    rw [show w.heap[g']? = _ from q] at hh
    simp only [Option.some.injEq, Obj.cells.injEq] at hh
    exact hne hh.2.1.symm
theorem keepsO_below {w W : World} (h : Below w.heap.size w W) : KeepsOthers w W := ⟨h.size, fun b o hb _ => (h.block b (Array.getElem?_eq_some_iff.1 hb).1).trans hb⟩
theorem keepsO_upd {w W : World} {b : Nat} {cs : List Value} {t : TypeId} (u : Upd w b W) (k : Blk w b cs t) : KeepsOthers w W := ⟨Nat.le_of_eq u.size.symm, fun d o hd ho => (u.block d (by rintro rfl; rw [show w.heap[d]? = _ from k] at hd; cases hd; cases ho)).trans hd⟩
theorem Dfr.only_new {T : List TypeId} {a w W : World} {b : Nat} (h : Only T a w) (hbb : BelowBut w b W) (hb : a.heap.size ≤ b) : Only T a W := fun k cs t fr hk ht => by
  have h0 := (Array.getElem?_eq_some_iff.1 hk).1
  have h1 := h k cs t fr hk ht
  rw [hbb.block k (Array.getElem?_eq_some_iff.1 h1).1 (by omega)]; exact h1
theorem BelowBut.own3 {w W : World} {b base size n : Nat} {e : TypeId} {v : Value} {xs : List Value} (h : BelowBut w b W) (k : w.ownsRow base e size v n xs) (hs : ∀ j, v.ownBlock = some j → j ≠ b) : W.ownsRow base e size v n xs := by
  obtain ⟨h1, h2⟩ := k
  refine ⟨h1, ?_⟩
  rcases h2 with h2 | ⟨g, cap, cur, rfl, hg, hh, r⟩
  · exact Or.inl h2
  · exact Or.inr ⟨g, cap, cur, rfl, hg, by rw [h.block g (Array.getElem?_eq_some_iff.1 hh).1 (hs g rfl)]; exact hh, r⟩
theorem ownFrom_but {β : Type} {w : World} {b B : Nat} (hB : w.heap.size ≤ B) : OwnFrom B (fun (_ : β) W => BelowBut w b W) := fun _ W W' row hs hg hr =>
  ⟨hg.os.trans hs.os, hg.tape.trans hs.tape, hg.output.trans hs.output, Nat.le_trans hs.size hg.size, fun k hk hne => (hg.block k (Nat.lt_of_lt_of_le hk hs.size) (fun e => by have := (hr k e.symm).1; omega)).trans (hs.block k hk hne)⟩
theorem ErrV.turn {A B : World} {row : Option Nat} {l : List (Option Int)} {c : Option Int} {v : Value} (h : ErrV A l c v) (hg : A.grownBy B row) (hr : ∀ r, row = some r → ∃ o : Obj, A.heap[r]? = some o ∧ o.isCells = false) : ErrV B l c v := h.kept fun _ _ k => k.turn hg hr
/-- the blocks of the way, seen from below -/
def atW (way : List Int) (pre : List (Fin way.length)) (bs : List Int) : List Int := (pre.map fun j => way[qOf j]?.getD 0).reverse ++ bs
theorem atW_snoc (way : List Int) (pre : List (Fin way.length)) (x : Fin way.length) (bs : List Int) : atW way (pre ++ [x]) bs = (way[qOf x]?.getD 0) :: atW way pre bs := by simp [atW]
theorem atW_all (way bs : List Int) : atW way (List.finRange way.length) bs = way ++ bs := by
  unfold atW
  congr 1
  apply List.ext_getElem
  · simp
  · intro i h1 h2
    simp only [List.length_reverse, List.length_map, List.length_finRange] at h1
    rw [List.getElem_reverse, List.getElem_map]
    simp only [List.length_map, List.length_finRange, List.getElem_finRange, qOf]
    have e : way.length - 1 - (way.length - 1 - i) = i := by omega
    simp [e, h2]
theorem ErrV.one {w : World} {l : List (Option Int)} {c : Option Int} {v : Value} (h : ErrV w l c v) : v.oneCell' = true := by
  rcases h.nil_or with ⟨_, rfl⟩ | ⟨_, t, x, rfl⟩ <;> rfl
theorem ErrV.iface {w : World} {l : List (Option Int)} {c : Int} {v : Value} (h : ErrV w l (some c) v) : ∃ t x, v = .iface t x := by
  rcases h.nil_or with ⟨q, _⟩ | ⟨_, q⟩
  · simp [noErr] at q
  · exact q
theorem atL_some {b c : Int} {l : List (Option Int)} : atL b l (some c) = some b :: l := by simp [atL, noErr]
theorem one_one {v : Value} (h : v.oneCell' = true) : ∀ u ∈ [v], u.oneCell' = true := by simpa using h
def NoteP (B bw : Nat) (c0 c1 c2 c3 c5 c6 c7 c8 c9 : Value) (nf : Nat) (fs : List Value) (l : List Int) (ec : Int) (w : World) (e : Ending) (w' : World) : Prop :=
  ∃ u p c ty x, e = .returned u ∧ Below B w w' ∧ Only [93, 41] w w' ∧ Blk w' bw [c0, c1, c2, c3, .slice p (nf + 1) c, c5, c6, c7, c8, c9] 93 ∧ w'.ownsRow B 41 1 (.slice p (nf + 1) c) (nf + 1) (fs ++ [.iface ty x]) ∧ ErrV w' (l.map some) (some ec) (.iface ty x)
set_option maxRecDepth 100000 in
set_option maxHeartbeats 4000000 in
theorem walker_note (B bw : Nat) (c0 c1 c2 c3 c5 c6 c7 c9 : Value) (pf : Option Addr) (nf cf : Nat) (fs : List Value) (pw : Option Addr) (cw : Nat) (way bs : List Int) (ec : Int) (ty : TypeId) (ev : Value) (w : World) (hBb : B ≤ bw) (hBw : B ≤ w.heap.size) (kW : Blk w bw [c0, c1, c2, c3, .slice pf nf cf, c5, c6, c7, .slice pw way.length cw, c9] 93) (hF : w.ownsRow B 41 1 (.slice pf nf cf) nf fs) (hway : w.ownsRow B 3 1 (.slice pw way.length cw) way.length (way.map (Value.int .i64))) (hE : ErrV w (bs.map some) (some ec) (.iface ty ev)) (hwl : way.length ≤ 1000000) (hnf : nf ≤ 1000000) :
    Calls Tryz.prog 78 #[.pointer (some ⟨bw, 0, none⟩), .iface ty ev] w (NoteP B bw c0 c1 c2 c3 c5 c6 c7 (.slice pw way.length cw) c9 nf fs (way ++ bs) ec w) := by
  refine calls_of_marks Tryz.func78 rfl ?_
  refine g_fr ⟨#[.pointer (some ⟨bw, 0, none⟩), .iface ty ev, undef, undef, undef, undef, undef, undef, undef, undef, undef, undef, undef, undef, undef, undef, undef, undef, undef, undef, undef, undef, undef, undef, undef, undef, undef, undef], []⟩ (by kernel_rfl) ?_
  refine wp_seq ?_
  refine wp_region_lit ?_
  refine g_op (by kernel_rfl) (op_box [.iface ty ev] rfl (by kernel_rfl) ?_)
  intro b1 W1 n1
  have d1_bw := n1.ne kW
  have g1 := n1.ge0 (Below.refl B _)
  have r1_hF := own_ne hF n1
  have hO : Only [93, 41] w _ := (Only.of_below n1.below)
  have hB := Bl.nextB (Below.refl B w) hBw n1.below
  replace kW := kW.below n1.below
  replace hF := own_below hF n1.below
  replace hway := own_below hway n1.below
  replace hE := hE.below n1.below
  have k1 := n1.blk
  refine wpList_nil ?_
  refine wp_seq ?_
  refine wp_seq ?_
  refine wp_region_lit ?_
  refine g_pv 3 [(6, .pointer (some ⟨bw, 0, none⟩)), (7, .pointer (some ⟨bw, 0, none⟩)), (8, .pointer (some ⟨bw, 8, none⟩))] (by kernel_rfl) ?_
  refine g_op (by kernel_rfl) (op_load ⟨bw, 8, none⟩ (.slice pw way.length cw) rfl (by kernel_rfl) (by kernel_rfl) (kW.cell (i := 8) rfl) ?_)
  have lt2_bw := kW.lt
  have lt2_b1 := k1.lt
  have hs2 : w.heap.size ≤ (W1).heap.size := hB.size
  refine g_op (by kernel_rfl) (op_call (lb := #[]) 124 #[.slice pw way.length cw] rfl (by kernel_rfl) (fun _ _ => by kernel_rfl) (by kernel_rfl) ((slices_Backward pw way.length cw _).mono ?_))
  rintro e W2 ⟨bk2, rfl, hb2, hg2, kk2⟩
  refine ⟨_, rfl, ?_⟩
  replace hO := hO.trans (Only.of_below hb2)
  replace hB := Bl.nextB hB hBw hb2
  replace kW := kW.below hb2
  replace k1 := k1.below hb2
  replace hF := own_below hF hb2
  replace hway := own_below hway hb2
  replace hE := hE.below hb2
  have gb2 : w.heap.size ≤ bk2 := Nat.le_trans hs2 hg2
  have nb2_bw : bk2 ≠ bw := by omega
  have nb2_b1 : bk2 ≠ b1 := by omega
  refine wpList_nil ?_
  refine wp_block ?_
  have hzk := kk2.lt
  have hz3 := k1.lt
  have hst := back_stops bk2 (fun b => b < W2.heap.size ∧ b ≠ b1) (.slice pw way.length cw) way W2 (fun b h => h.1) ⟨hzk, nb2_b1⟩ (by omega) (own_sl hway) (fun _ b off n cap q => by cases q; exact ⟨(hway.lt b rfl).2, own_ty_ne hway k1 (by decide) b rfl⟩) (kk2.cell (i := 0) rfl)
  refine g_fr ⟨#[.pointer (some ⟨bw, 0, none⟩), .iface ty ev, undef, .pointer (some ⟨b1, 0, none⟩), undef, undef, .pointer (some ⟨bw, 0, none⟩), .pointer (some ⟨bw, 0, none⟩), .pointer (some ⟨bw, 8, none⟩), .slice pw way.length cw, .func (.func 156) #[] #[.pointer (some ⟨bk2, 0, none⟩)], undef, undef, undef, undef, undef, undef, undef, undef, undef, undef, undef, undef, undef, undef, undef, undef, undef], []⟩ (by kernel_rfl) ?_
  refine wp_range (g := .tmp 10) (gf := 156) (lb := #[.pointer (some ⟨bk2, 0, none⟩)]) rfl (enters_of Tryz.func156 (by kernel_rfl) rfl) _ (fun b h => h.1) hst (fun _ => rfl)
    (fun pre W => (∃ v', Blk W b1 [v'] 41 ∧ ErrV W ((atW way pre bs).map some) (some ec) v') ∧ BelowBut W2 b1 W)
    (fun _ _ _ => False) ?own (fun _ _ _ _ _ h _ _ => h) ⟨⟨_, k1, hE⟩, (Below.refl _ _).but _⟩
    (fun x a' _ => a' = { tmps := #[.pointer (some ⟨bw, 0, none⟩), .iface ty ev, undef, .pointer (some ⟨b1, 0, none⟩), undef, .int .i64 (way[qOf x]?.getD 0), .pointer (some ⟨bw, 0, none⟩), .pointer (some ⟨bw, 0, none⟩), .pointer (some ⟨bw, 8, none⟩), .slice pw way.length cw, .func (.func 156) #[] #[.pointer (some ⟨bk2, 0, none⟩)], .int .i64 (qOf x : Int), .int .i64 (way[qOf x]?.getD 0), undef, undef, undef, undef, undef, undef, undef, undef, undef, undef, undef, undef, undef, undef, undef], defers := [] }) (fun _ _ _ _ _ _ h _ _ => h) ?assign ?body ?done (fun _ _ _ _ _ _ h _ => h.elim)
  case own => exact OwnFrom.and (Own.from (fun s A B row hs hg hr => by obtain ⟨v', h1, h2⟩ := hs; exact ⟨v', h1.turn hg hr, h2.turn hg hr⟩) _) (ownFrom_but (Nat.le_refl _))
  case assign =>
    rintro lr pre x W K hI hK
    unfold encB
    gi_wp2
    exact hK _ _ (KeepsFrom.refl _ _) (Keeps.refl _ _) hI rfl
  case body =>
    rintro lr pre x a' W hlr ⟨⟨v', m3, hv'⟩, hbb⟩ rfl hlt
    have mc := m3.cell (i := 0) rfl
    gi_wp2_with (refine ⟨trivial, ?_⟩; gi_at_call 79; refine (CallsIn.inRound lr (callsIn_wide.2 (fault_At _ _ _ _ _ hv'))).mono ?_; rintro e w2 ⟨r2, rfl, hb2, hE2⟩; obtain ⟨t2, x2, rfl⟩ := hE2.iface; have m4 := m3.below hb2; have mg := m4.frozen 0; have md := m4.cell (i := 0) rfl)
    have hb2s := hb2.size
    have u2 := Upd.setCell w2 b1 0 (.iface t2 x2)
    exact ⟨((keepsO_below hb2).trans (KeepsOthers.setCell _ _ _)).from _, Keeps.setCell (Keeps.of_below hb2 (fun b hb => by have := hbb.size; have := hb.1; omega)) (fun hb => hb.2 rfl) _, ⟨_, m4.set 0 _, by rw [atW_snoc, List.map_cons, ← atL_some (c := ec)]; exact (hE2.upd u2 m4 (by decide))⟩, (hbb.next hb2).upd u2⟩
  case done =>
  rintro D xs W hD rfl ⟨⟨v', m3, hv'⟩, hbb⟩ hK0
  rw [atW_all] at hv'
  have hK : Dfr D W := hK0; clear hK0
  refine g_nopan ?_
  refine g_fr ⟨#[.pointer (some ⟨bw, 0, none⟩), .iface ty ev, undef, .pointer (some ⟨b1, 0, none⟩), undef, undef, .pointer (some ⟨bw, 0, none⟩), .pointer (some ⟨bw, 0, none⟩), .pointer (some ⟨bw, 8, none⟩), .slice pw way.length cw, .func (.func 156) #[] #[.pointer (some ⟨bk2, 0, none⟩)], undef, undef, undef, undef, undef, undef, undef, undef, undef, undef, undef, undef, undef, undef, undef, undef, undef], [{ target := .collected D, args := #[] }]⟩ (by kernel_rfl) ?_
  have hv1 := hv'.one
  obtain ⟨ty', x', rfl⟩ := hv'.iface
  have hDB : w.heap.size ≤ D := Nat.le_trans (Nat.le_trans (by have := hz3; have := g1; omega) (Nat.le_refl _)) hD
  replace kW := hbb.blk kW (Ne.symm (Ne.symm d1_bw))
  replace kk2 := hbb.blk kk2 nb2_b1
  replace hF := hbb.own3 hF r1_hF
  replace hway := hbb.own2 hway k1 (by decide)
  have hB0 := hB
  replace hB := hbb.below hB (Nat.le_trans hBw g1) (Nat.le_trans hBw hB0.size)
  replace hO := Dfr.only_new hO hbb g1
  replace k1 := m3
  replace hO := hO.trans (Only.of_below (below_drew W))
  replace hB := Bl.nextB hB hBw (below_drew W)
  replace kW := kW.below (below_drew W)
  replace k1 := k1.below (below_drew W)
  replace kk2 := kk2.below (below_drew W)
  replace hF := own_below hF (below_drew W)
  replace hway := own_below hway (below_drew W)
  replace hv' := hv'.below (below_drew W)
  replace hK := hK.below (below_drew W)
  refine h_reg (Below B (W.drew)) 13 rfl #[false, false, false, false, false, false, false, false, false, false, false, false, false] rfl (by kernel_rfl) (Below.refl _ _) ?_
  intro hS3
  have hBd5 := hB
  have kd5_bw := kW
  have kd5_b1 := k1
  have kd5_bk2 := kk2
  have hOd5 := hO
  refine h_pv [0, 1, 2, 3, 4] 8 rfl #[true, true, true, true, true, false, false, false, false, false, false, false, false] [(16, .pointer (some ⟨bw, 0, none⟩)), (17, .pointer (some ⟨bw, 0, none⟩)), (18, .pointer (some ⟨bw, 0, none⟩)), (19, .pointer (some ⟨bw, 0, none⟩)), (20, .pointer (some ⟨bw, 4, none⟩))] (by kernel_rfl) (fun _ _ _ _ _ h => h) (by kernel_rfl) hS3 ?_
  refine h_two 5 6 7 rfl (by kernel_rfl) rfl rfl (by kernel_rfl) (by kernel_rfl) ?_ ?_
  · refine op_load ⟨bw, 4, none⟩ (.slice pf nf cf) rfl (by kernel_rfl) (by kernel_rfl) (kW.cell (i := 4) rfl) ?_
    have hS6 : Below B (W.drew) (W.drew) := hS3
    refine ⟨hS6, ?_⟩
    refine h_one 6 6 rfl (by kernel_rfl) rfl (by kernel_rfl) (op_load ⟨b1, 0, none⟩ (.iface ty' x') rfl (by kernel_rfl) (by kernel_rfl) (k1.cell (i := 0) rfl) ?_)
    have hS7 : Below B (W.drew) (W.drew) := hS6
    refine ⟨hS7, ?_⟩
    refine h_one 7 5 rfl (by kernel_rfl) rfl (by kernel_rfl) (op_buildSlice 41 [.iface ty' x'] rfl (by kernel_rfl) ?_)
    intro b8 W8 n8
    have d8_bw := n8.ne kW
    have d8_b1 := n8.ne k1
    have d8_bk2 := n8.ne kk2
    have g8 := n8.ge0 hB
    have r8_hF := own_ne hF n8
    replace hO := hO.trans (Only.of_below n8.below)
    replace hB := Bl.nextB hB hBw n8.below
    replace kW := kW.below n8.below
    replace k1 := k1.below n8.below
    replace kk2 := kk2.below n8.below
    replace hF := own_below hF n8.below
    replace hway := own_below hway n8.below
    replace hv' := hv'.below n8.below
    replace hK := hK.below n8.below
    have k8 := n8.blk
    have hS9 : Below B (W.drew) (W8) := Bl.nextB hS7 (Nat.le_trans hBw hBd5.size) n8.below
    refine ⟨hS9, ?_⟩
    refine h_one 8 4 rfl (by kernel_rfl) rfl (by kernel_rfl) (op_app (e := 41) (n := nf) (xs := fs) (m := 1) (news := [.iface ty' x']) (.nilIface) 1 16 (nf + 1) (fs ++ [.iface ty' x']) rfl Tryz.underlying27 (by kernel_rfl) rfl (by decide) (by kernel_rfl) hF (by kernel_rfl) (k8.sl 1 1 (by decide) (by decide)) rfl (one_one hv1) (by unfold maxLen; omega) (by omega) (Nat.le_trans hBw hB.size) (by simp) (by simp) ?_)
    intro p10 c10 W10 o10 hg10 hb10
    replace hO := hO.trans (Only.of_grown hg10 hF (by decide))
    replace kW := kW.grown hg10 hF (by decide)
    replace k1 := k1.grown3 hg10 r1_hF
    replace kk2 := kk2.grown hg10 hF (by decide)
    replace hway := own_grown hway hg10 hF (by decide)
    replace hv' := hv'.grown hg10 hF (by decide)
    replace hK := hK.grown hg10 hF
    replace hB := hB.trans hb10
    have hS11 : Below B (W.drew) (W10) := hS9.trans hb10
    refine ⟨hS11, ?_⟩
    refine h_pv [9, 10, 11] 1 rfl #[true, true, true, true, true, true, true, true, true, true, true, true, false] [(25, .pointer (some ⟨bw, 0, none⟩)), (26, .pointer (some ⟨bw, 0, none⟩)), (27, .pointer (some ⟨bw, 4, none⟩))] (by kernel_rfl) (fun _ _ _ _ _ h => h) (by kernel_rfl) hS11 ?_
    refine h_one 12 0 rfl (by kernel_rfl) rfl (by kernel_rfl) (op_store (v := .slice p10 (nf + 1) c10) (b := bw) (off := 4) rfl (by kernel_rfl) (by kernel_rfl) (by kernel_rfl) rfl kW (by first | decide | simp) ?_)
    intro W12 u12 k12
    change Blk _ _ [c0, c1, c2, c3, .slice p10 (nf + 1) c10, c5, c6, c7, .slice pw way.length cw, c9] _ at k12
    replace hO := hO.trans (Only.of_upd u12 kW (by decide))
    replace hB := u12.below hB hBb
    replace k1 := u12.blk k1 (Ne.symm d1_bw)
    replace kk2 := u12.blk kk2 nb2_bw
    replace hway := u12.own2 hway kW (by decide)
    replace hv' := hv'.upd u12 kW (by decide)
    replace hK := hK.upd u12 kW
    replace o10 := u12.own2 o10 kW (by decide)
    have hS13 : Below B (W.drew) (W12) := u12.below hS11 hBb
    refine ⟨hS13, ?_⟩
    refine h_done _ (by kernel_rfl) ?_
    exact g_endM hK (.tuple #[]) (by kernel_rfl) (by kernel_rfl) ⟨_, _, _, _, _, rfl, (Upd.of_put _ _ _).below hB (Nat.le_trans hBw hDB), Only.upd_new hO (Upd.of_put _ _ _) hDB, (Upd.of_put _ _ _).blk k12 (hK.ne k12), (Upd.of_put _ _ _).own3 o10 (hK.row o10), hv'.kept fun _ _ q => (Upd.of_put _ _ _).blk q (hK.ne q)⟩
  · refine op_load ⟨b1, 0, none⟩ (.iface ty' x') rfl (by kernel_rfl) (by kernel_rfl) (k1.cell (i := 0) rfl) ?_
    have hS14 : Below B (W.drew) (W.drew) := hS3
    refine ⟨hS14, ?_⟩
    refine h_two 5 7 6 rfl (by kernel_rfl) rfl rfl (by kernel_rfl) (by kernel_rfl) ?_ ?_
    · refine op_load ⟨bw, 4, none⟩ (.slice pf nf cf) rfl (by kernel_rfl) (by kernel_rfl) (kW.cell (i := 4) rfl) ?_
      have hS15 : Below B (W.drew) (W.drew) := hS14
      refine ⟨hS15, ?_⟩
      refine h_one 7 5 rfl (by kernel_rfl) rfl (by kernel_rfl) (op_buildSlice 41 [.iface ty' x'] rfl (by kernel_rfl) ?_)
      intro b16 W16 n16
      have d16_bw := n16.ne kW
      have d16_b1 := n16.ne k1
      have d16_bk2 := n16.ne kk2
      have g16 := n16.ge0 hB
      have r16_hF := own_ne hF n16
      replace hO := hO.trans (Only.of_below n16.below)
      replace hB := Bl.nextB hB hBw n16.below
      replace kW := kW.below n16.below
      replace k1 := k1.below n16.below
      replace kk2 := kk2.below n16.below
      replace hF := own_below hF n16.below
      replace hway := own_below hway n16.below
      replace hv' := hv'.below n16.below
      replace hK := hK.below n16.below
      have k16 := n16.blk
      have hS17 : Below B (W.drew) (W16) := Bl.nextB hS15 (Nat.le_trans hBw hBd5.size) n16.below
      refine ⟨hS17, ?_⟩
      refine h_one 8 4 rfl (by kernel_rfl) rfl (by kernel_rfl) (op_app (e := 41) (n := nf) (xs := fs) (m := 1) (news := [.iface ty' x']) (.nilIface) 1 16 (nf + 1) (fs ++ [.iface ty' x']) rfl Tryz.underlying27 (by kernel_rfl) rfl (by decide) (by kernel_rfl) hF (by kernel_rfl) (k16.sl 1 1 (by decide) (by decide)) rfl (one_one hv1) (by unfold maxLen; omega) (by omega) (Nat.le_trans hBw hB.size) (by simp) (by simp) ?_)
      intro p18 c18 W18 o18 hg18 hb18
      replace hO := hO.trans (Only.of_grown hg18 hF (by decide))
      replace kW := kW.grown hg18 hF (by decide)
      replace k1 := k1.grown3 hg18 r1_hF
      replace kk2 := kk2.grown hg18 hF (by decide)
      replace hway := own_grown hway hg18 hF (by decide)
      replace hv' := hv'.grown hg18 hF (by decide)
      replace hK := hK.grown hg18 hF
      replace hB := hB.trans hb18
      have hS19 : Below B (W.drew) (W18) := hS17.trans hb18
      refine ⟨hS19, ?_⟩
      refine h_pv [9, 10, 11] 1 rfl #[true, true, true, true, true, true, true, true, true, true, true, true, false] [(25, .pointer (some ⟨bw, 0, none⟩)), (26, .pointer (some ⟨bw, 0, none⟩)), (27, .pointer (some ⟨bw, 4, none⟩))] (by kernel_rfl) (fun _ _ _ _ _ h => h) (by kernel_rfl) hS19 ?_
      refine h_one 12 0 rfl (by kernel_rfl) rfl (by kernel_rfl) (op_store (v := .slice p18 (nf + 1) c18) (b := bw) (off := 4) rfl (by kernel_rfl) (by kernel_rfl) (by kernel_rfl) rfl kW (by first | decide | simp) ?_)
      intro W20 u20 k20
      change Blk _ _ [c0, c1, c2, c3, .slice p18 (nf + 1) c18, c5, c6, c7, .slice pw way.length cw, c9] _ at k20
      replace hO := hO.trans (Only.of_upd u20 kW (by decide))
      replace hB := u20.below hB hBb
      replace k1 := u20.blk k1 (Ne.symm d1_bw)
      replace kk2 := u20.blk kk2 nb2_bw
      replace hway := u20.own2 hway kW (by decide)
      replace hv' := hv'.upd u20 kW (by decide)
      replace hK := hK.upd u20 kW
      replace o18 := u20.own2 o18 kW (by decide)
      have hS21 : Below B (W.drew) (W20) := u20.below hS19 hBb
      refine ⟨hS21, ?_⟩
      refine h_done _ (by kernel_rfl) ?_
      exact g_endM hK (.tuple #[]) (by kernel_rfl) (by kernel_rfl) ⟨_, _, _, _, _, rfl, (Upd.of_put _ _ _).below hB (Nat.le_trans hBw hDB), Only.upd_new hO (Upd.of_put _ _ _) hDB, (Upd.of_put _ _ _).blk k20 (hK.ne k20), (Upd.of_put _ _ _).own3 o18 (hK.row o18), hv'.kept fun _ _ q => (Upd.of_put _ _ _).blk q (hK.ne q)⟩
    · refine op_buildSlice 41 [.iface ty' x'] rfl (by kernel_rfl) ?_
      intro b22 W22 n22
      have d22_bw := n22.ne kW
      have d22_b1 := n22.ne k1
      have d22_bk2 := n22.ne kk2
      have g22 := n22.ge0 hB
      have r22_hF := own_ne hF n22
      replace hO := hO.trans (Only.of_below n22.below)
      replace hB := Bl.nextB hB hBw n22.below
      replace kW := kW.below n22.below
      replace k1 := k1.below n22.below
      replace kk2 := kk2.below n22.below
      replace hF := own_below hF n22.below
      replace hway := own_below hway n22.below
      replace hv' := hv'.below n22.below
      replace hK := hK.below n22.below
      have k22 := n22.blk
      have hS23 : Below B (W.drew) (W22) := Bl.nextB hS14 (Nat.le_trans hBw hBd5.size) n22.below
      refine ⟨hS23, ?_⟩
      refine h_one 5 5 rfl (by kernel_rfl) rfl (by kernel_rfl) (op_load ⟨bw, 4, none⟩ (.slice pf nf cf) rfl (by kernel_rfl) (by kernel_rfl) (kW.cell (i := 4) rfl) ?_)
      have hS24 : Below B (W.drew) (W22) := hS23
      refine ⟨hS24, ?_⟩
      refine h_one 8 4 rfl (by kernel_rfl) rfl (by kernel_rfl) (op_app (e := 41) (n := nf) (xs := fs) (m := 1) (news := [.iface ty' x']) (.nilIface) 1 16 (nf + 1) (fs ++ [.iface ty' x']) rfl Tryz.underlying27 (by kernel_rfl) rfl (by decide) (by kernel_rfl) hF (by kernel_rfl) (k22.sl 1 1 (by decide) (by decide)) rfl (one_one hv1) (by unfold maxLen; omega) (by omega) (Nat.le_trans hBw hB.size) (by simp) (by simp) ?_)
      intro p25 c25 W25 o25 hg25 hb25
      replace hO := hO.trans (Only.of_grown hg25 hF (by decide))
      replace kW := kW.grown hg25 hF (by decide)
      replace k1 := k1.grown3 hg25 r1_hF
      replace kk2 := kk2.grown hg25 hF (by decide)
      replace hway := own_grown hway hg25 hF (by decide)
      replace hv' := hv'.grown hg25 hF (by decide)
      replace hK := hK.grown hg25 hF
      replace hB := hB.trans hb25
      have hS26 : Below B (W.drew) (W25) := hS24.trans hb25
      refine ⟨hS26, ?_⟩
      refine h_pv [9, 10, 11] 1 rfl #[true, true, true, true, true, true, true, true, true, true, true, true, false] [(25, .pointer (some ⟨bw, 0, none⟩)), (26, .pointer (some ⟨bw, 0, none⟩)), (27, .pointer (some ⟨bw, 4, none⟩))] (by kernel_rfl) (fun _ _ _ _ _ h => h) (by kernel_rfl) hS26 ?_
      refine h_one 12 0 rfl (by kernel_rfl) rfl (by kernel_rfl) (op_store (v := .slice p25 (nf + 1) c25) (b := bw) (off := 4) rfl (by kernel_rfl) (by kernel_rfl) (by kernel_rfl) rfl kW (by first | decide | simp) ?_)
      intro W27 u27 k27
      change Blk _ _ [c0, c1, c2, c3, .slice p25 (nf + 1) c25, c5, c6, c7, .slice pw way.length cw, c9] _ at k27
      replace hO := hO.trans (Only.of_upd u27 kW (by decide))
      replace hB := u27.below hB hBb
      replace k1 := u27.blk k1 (Ne.symm d1_bw)
      replace kk2 := u27.blk kk2 nb2_bw
      replace hway := u27.own2 hway kW (by decide)
      replace hv' := hv'.upd u27 kW (by decide)
      replace hK := hK.upd u27 kW
      replace o25 := u27.own2 o25 kW (by decide)
      have hS28 : Below B (W.drew) (W27) := u27.below hS26 hBb
      refine ⟨hS28, ?_⟩
      refine h_done _ (by kernel_rfl) ?_
      exact g_endM hK (.tuple #[]) (by kernel_rfl) (by kernel_rfl) ⟨_, _, _, _, _, rfl, (Upd.of_put _ _ _).below hB (Nat.le_trans hBw hDB), Only.upd_new hO (Upd.of_put _ _ _) hDB, (Upd.of_put _ _ _).blk k27 (hK.ne k27), (Upd.of_put _ _ _).own3 o25 (hK.row o25), hv'.kept fun _ _ q => (Upd.of_put _ _ _).blk q (hK.ne q)⟩
end Go.Proofs.YtinegkldgjhnpaaGreatDoor
namespace Go.Proofs.YtinegkldgjhnpaaGreatDoor
open Go.RowKit Go.Extern.Stop Go.Stop Go.Extern
set_option linter.unusedVariables false
attribute [local irreducible] wpList wpAnyH Code.wp Oper.wp Go

/-- whether x is in l -/
def hasI (l : List Int) (x : Int) : Bool := l.any fun y => decide (x = y)
theorem hasI_true {l : List Int} {x : Int} {i : Nat} (hi : i < l.length) (h : x = l.getD i 0) : hasI l x = true := by
  unfold hasI
  rw [List.any_eq_true]
  exact ⟨l[i], List.getElem_mem _, by rw [decide_eq_true_iff, h]; simp [hi]⟩
theorem hasI_false {l : List Int} {x : Int} (h : ∀ j, j < l.length → x ≠ l.getD j 0) : hasI l x = false := by
  unfold hasI
  rw [List.any_eq_false]
  intro y hy
  obtain ⟨j, hj, rfl⟩ := List.getElem_of_mem hy
  have := h j hj
  simpa [hj] using this
set_option maxRecDepth 100000 in
set_option maxHeartbeats 1000000 in
theorem indexI (a : Option Addr) (c : Nat) (l : List Int) (x : Int) (w : World) (h : Ints w (.slice a l.length c) l) (hln : l.length ≤ 1000000) :
    Calls Tryz.prog 157 #[.slice a l.length c, .int .i64 x] w (fun e w' => (hasI l x = false ∧ e = .returned (.int .i64 (-1)) ∧ Below w.heap.size w w') ∨ (hasI l x = true ∧ ∃ i : Nat, e = .returned (.int .i64 (i : Int)) ∧ Below w.heap.size w w')) := by
 refine zin 19 Tryz.func157 ?_
 have hB := Below.refl w.heap.size w
 refine zl 14 19 (fun zm zkv V => ∃ (i : Nat), zkv = [(0, .slice a l.length c), (1, .int .i64 x), (7, .int .i64 (↑l.length : Int)), (8, .int .i64 (↑i : Int))] ∧ zm = l.length - ((↑i : Int)).toNat ∧ Below w.heap.size w V ∧ i ≤ l.length ∧ (∀ j, j < i → x ≠ l.getD j 0)) ⟨0, rfl, rfl, hB, Nat.zero_le _, ?_⟩ ?_
 · exact fun j hj => absurd hj (by omega)
 rintro _ _ W1 ⟨i, rfl, rfl, hB_1, hi, hz⟩ J1 hJ1 r1
 refine xid 6 ((↑i : Int) < (↑l.length : Int)) (fun hc2 => ?_) (fun hc2 => ?_)
 · refine xx 15 _ l.length i 1 (Ints.elem h (k := i) (by omega)).1 ?_
   refine xl 0 ((Ints.elem (h.below hB_1) (k := i) (by omega)).2) ?_
   refine xie 3 x (l.getD i 0) (fun hc3 => ?_) (fun hc3 => ?_)
   · exact xe 12 (.int .i64 (↑i : Int)) (.inr ⟨hasI_true (i := i) (by omega) (by omega), _, rfl, hB_1⟩)
   refine xwm 4 ((↑i : Int) + 1) (↑(i + 1) : Int) ?_
   exact ze 2 (hJ1 _ _ _ ⟨i + 1, rfl, rfl, hB_1, by omega, fun j hj => (Nat.lt_or_ge j i).elim (hz j) (fun q => by obtain rfl : j = i := (by omega); omega)⟩ (by omega))
 exact xe 11 (.int .i64 (-1)) (.inl ⟨hasI_false (fun j hj => hz j (by omega)), rfl, hB_1⟩)
set_option maxRecDepth 100000 in
set_option maxHeartbeats 1000000 in
theorem containsI (a : Option Addr) (c : Nat) (l : List Int) (x : Int) (w : World) (h : Ints w (.slice a l.length c) l) (hln : l.length ≤ 1000000) :
    Calls Tryz.prog 125 #[.slice a l.length c, .int .i64 x] w (Ret (.bool (hasI l x)) w) := by
 refine zin 9 Tryz.func125 ?_
 refine xc 9 (args := #[.slice a l.length c, .int .i64 x]) (indexI a c l x _ (h.below (Below.refl w.heap.size _)) hln) ?_
 rintro e W1 hq1
 rcases hq1 with ⟨hz, rfl, hb1⟩ | ⟨hz, i0, rfl, hb1⟩
 · refine xe 5 (.bool false) ?_
   rw [hz]; exact ⟨rfl, hb1⟩
 refine xe 5 (.bool (decide ((↑i0 : Int) ≥ (0 : Int)))) ?_
 rw [hz, show decide ((↑i0 : Int) ≥ (0 : Int)) = true from decide_eq_true (by omega)]; exact ⟨rfl, hb1⟩
end Go.Proofs.YtinegkldgjhnpaaGreatDoor
namespace Go.Proofs.YtinegkldgjhnpaaGreatDoor
open Go.RowKit
set_option linter.unusedVariables false
attribute [local go_sem] Oper.semAt_some

def splitL (hi : Int) (l : List Int) : List (Int × Int) := (List.range l.length).map (partAt hi l)
/-- the child of number i -/
def childI (lo hi : Int) (l : List Int) (i : Int) : (Int × Int) × Int :=
  if fitsI lo hi l = 0 then if 0 ≤ i ∧ i < l.length then (partAt hi l i.toNat, 0) else ((0, 0), 3) else ((0, 0), fitsI lo hi l)

theorem child_bad {lo hi i : Int} {l : List Int} (h : fitsI lo hi l ≠ 0) : childI lo hi l i = ((0, 0), fitsI lo hi l) := by simp [childI, h]
theorem child_out {lo hi i : Int} {l : List Int} (h : fitsI lo hi l = 0) (hi' : ¬ (0 ≤ i ∧ i < l.length)) : childI lo hi l i = ((0, 0), 3) := by simp only [childI, h, if_true]; rw [if_neg hi']
theorem child_in {lo hi : Int} {l : List Int} {i : Nat} (h : fitsI lo hi l = 0) (hi' : i < l.length) : childI lo hi l i = (partAt hi l i, 0) := by
  simp only [childI, h, if_true]; rw [if_pos ⟨by omega, by omega⟩]; simp
theorem each_none {i : Int} {n : Nat} (h : ∀ x ∈ List.finRange n, (qOf x : Int) ≠ i) : ¬ (0 ≤ i ∧ i < n) := fun ⟨h1, h2⟩ => by
  refine h ⟨n - 1 - i.toNat, by omega⟩ (by simp) ?_
  simp only [qOf]; omega
theorem each_last {lo hi i : Int} {l : List Int} {x : Fin l.length} (hf : fitsI lo hi l = 0) (hx : (qOf x : Int) = i) : childI lo hi l i = (partAt hi l (qOf x), 0) := by
  rw [← hx]; exact child_in hf (by have := x.2; simp only [qOf]; omega)
theorem below_child {w w' : World} {B : Nat} (h : Below w.heap.size w w') (hB : w.heap.size ≤ B) {i j k : Nat} {x y z : Value} {C : Nat} (hC : w.heap.size ≤ C) :
    Below w.heap.size w (((w'.setCell ⟨B, i, none⟩ x).setCell ⟨B, j, none⟩ y).setCell ⟨C, k, none⟩ z) := ((h.setCell hB _).setCell hB _).setCell hC _

/-- the result's cells when the rounds of pre are over -/
def outStep (hi : Int) (l : List Int) (cs : List Value) (x : Fin l.length) : List Value :=
  (cs.set (qOf x * 2) (.int .i64 (partAt hi l (qOf x)).1)).set (qOf x * 2 + 1) (.int .i64 (partAt hi l (qOf x)).2)
def outC (hi : Int) (l : List Int) (pre : List (Fin l.length)) : List Value := pre.foldl (outStep hi l) (zeros [.int .i64 0, .int .i64 0] l.length)
theorem outC_snoc (hi : Int) (l : List Int) (pre : List (Fin l.length)) (x : Fin l.length) : outC hi l (pre ++ [x]) = outStep hi l (outC hi l pre) x := by simp [outC]
theorem outFold_length (hi : Int) (l : List Int) : ∀ (pre : List (Fin l.length)) (cs : List Value), (pre.foldl (outStep hi l) cs).length = cs.length
  | [], _ => rfl
  | x :: pre, cs => by rw [List.foldl_cons, outFold_length hi l pre]; simp [outStep]
theorem outC_length (hi : Int) (l : List Int) (pre : List (Fin l.length)) : (outC hi l pre).length = l.length * 2 := by
  rw [outC, outFold_length, zeros_length]; rfl
theorem outFold_get (hi : Int) (l : List Int) (q : Nat) (hq : q < l.length) : ∀ (pre : List (Fin l.length)) (cs : List Value), cs.length = l.length * 2 →
    ((∃ x ∈ pre, qOf x = q) ∨ (cs[q * 2]? = some (.int .i64 (partAt hi l q).1) ∧ cs[q * 2 + 1]? = some (.int .i64 (partAt hi l q).2))) →
    (pre.foldl (outStep hi l) cs)[q * 2]? = some (.int .i64 (partAt hi l q).1) ∧ (pre.foldl (outStep hi l) cs)[q * 2 + 1]? = some (.int .i64 (partAt hi l q).2)
  | [], cs, hl, h => by
    rcases h with ⟨x, hx, _⟩ | h
    · cases hx
    · exact h
  | x :: pre, cs, hl, h => by
    rw [List.foldl_cons]
    refine outFold_get hi l q hq pre _ (by simp [outStep, hl]) ?_
    by_cases hx : qOf x = q
    · subst hx
      refine .inr ⟨?_, ?_⟩
      · simp only [outStep]; rw [List.getElem?_set_ne (by omega), List.getElem?_set_self (by omega)]
      · simp only [outStep]; rw [List.getElem?_set_self (by simp; omega)]
    · rcases h with ⟨y, hy, hyq⟩ | h
      · rcases List.mem_cons.1 hy with rfl | hy
        · exact absurd hyq hx
        · exact .inl ⟨y, hy, hyq⟩
      · refine .inr ⟨?_, ?_⟩
        · simp only [outStep]; rw [List.getElem?_set_ne (by omega), List.getElem?_set_ne (by omega)]; exact h.1
        · simp only [outStep]; rw [List.getElem?_set_ne (by omega), List.getElem?_set_ne (by omega)]; exact h.2
theorem outC_all (hi : Int) (l : List Int) : outC hi l (List.finRange l.length) = flat2 (splitL hi l) := by
  have hs : (splitL hi l).length = l.length := by simp [splitL]
  have hg : ∀ q, q < l.length → (splitL hi l)[q]? = some (partAt hi l q) := fun q hq => by simp [splitL, hq]
  apply List.ext_getElem?
  intro j
  by_cases hj : j < l.length * 2
  · have hq : j / 2 < l.length := by omega
    have h := outFold_get hi l (j / 2) hq (List.finRange l.length) (zeros [.int .i64 0, .int .i64 0] l.length) (by rw [zeros_length]; rfl)
      (.inl ⟨⟨l.length - 1 - j / 2, by omega⟩, by simp, by simp only [qOf]; omega⟩)
    by_cases h2 : j % 2 = 0
    · have e : j = j / 2 * 2 := by omega
      rw [e, flat2_even, hg _ hq]; exact h.1
    · have e : j = j / 2 * 2 + 1 := by omega
      rw [e, flat2_odd, hg _ hq]; exact h.2
  · rw [List.getElem?_eq_none (by rw [outC_length]; omega), List.getElem?_eq_none (by rw [flat2_length, hs]; omega)]
def splitR (lo hi : Int) (l : List Int) : List (Int × Int) := if fitsI lo hi l = 0 then splitL hi l else []
theorem Tryz.info96 : (Tryz.prog.info? 96).map (fun i => (i.zero, i.size, i.bytes)) = some (some (.agg #[.int .i64 0, .int .i64 0]), 2, 16) := by kernel_rfl

set_option maxRecDepth 100000 in
set_option maxHeartbeats 2000000 in
theorem span_split2 (lo hi : Int) (v : Value) (l : List Int) (w : World) (hlen : l.length ≤ 1000000) (hl : Ints w v l) :
    Calls Tryz.prog 82 #[spanV lo hi, v] w (RetS (fun w' r => Pairs w' r (splitR lo hi l) ∧ (fitsI lo hi l = 0 → ∃ g, r = .slice (some ⟨g, 0, none⟩) l.length l.length ∧ w.heap.size ≤ g ∧ Blk w' g (flat2 (splitL hi l)) 96)) w) := by
  obtain ⟨i0, hi0, hz0, hz1, hz2⟩ := info_parts Tryz.info96
  have hmk := fun w => make_zeros (P := Tryz.prog) (t := 167) (e := 96) (i := i0) [.int .i64 0, .int .i64 0] Tryz.underlying167 hi0 hz0 rfl hz1 hz2 l.length (by omega) (by omega) w
  clear hi0 hz0 hz1 hz2
  unfold spanV
  refine calls_of_marks Tryz.func82 rfl ?_
  simp only [Tryz.ntmps82, List.size_toArray, List.length_cons, List.length_nil, Nat.reduceAdd, Nat.reduceSub, Array.replicate_succ, Array.replicate_zero, List.push_toArray, List.append_toArray, List.nil_append, List.cons_append]
  go_wp2_with fail
  refine (span_fits lo hi v l _ (hl.below (Bl.box _ _))).mono ?_
  rintro e w' ⟨rfl, hb⟩
  have k0 := Blk.below (Blk.new w [.int .i64 lo, .int .i64 hi] 96) hb
  have hB : Below w.heap.size w w' := Bl.next (Bl.box _ _) hb
  have hl' := hl.below hB
  have HB : l.length ≠ 0 → ∀ {b off n cap : Nat}, v = .slice (some ⟨b, off, none⟩) n cap → b < w.heap.size := fun h _ _ _ _ e => hl.blk h e
  clear hb hl
  obtain ⟨a, c, rfl⟩ := hl'.slice
  have z0 := k0.lt
  have c00 := k0.cell (i := 0) rfl
  have c01 := k0.cell (i := 1) rfl
  by_cases hf : fitsI lo hi l = 0
  case neg =>
    have hf2 : (fitsI lo hi l != 0) = true := by simpa using hf
    have HF := Lib.hid hf; clear hf
    go_wp2_with fail
    refine ⟨_, results_tmp rfl _ _ _, ?_⟩
    have e : splitR lo hi l = [] := by simp [splitR, HF.out]
    rw [e]
    exact ⟨_, rfl, hB, .inl ⟨_, _, rfl, rfl, rfl⟩, fun q => absurd q HF.out⟩
  have hf2 : (fitsI lo hi l != 0) = false := by simpa using hf
  have HF := Lib.hid hf; clear hf
  go_wp2_with fail
  refine (span_each lo hi a l.length c _).mono ?_
  rintro e W1 ⟨rfl, hW1⟩
  have hz : w'.heap.size + 4 = W1.heap.size := by rw [hW1]; simp
  have hb1 : Below w'.heap.size w' W1 := by rw [hW1]; exact Bl.next (Bl.next (Bl.next (Bl.box _ _) (Bl.box _ _)) (Bl.box _ _)) (Bl.box _ _)
  have s1 : W1.cell? ⟨w'.heap.size + 1 + 1, 1, none⟩ = some (.int .i64 hi) := by rw [hW1]; simp [go_sem]
  have s2 : W1.cell? ⟨w'.heap.size + 1 + 1 + 1, 0, none⟩ = some (.slice a l.length c) := by rw [hW1]; simp [go_sem]
  have m1 : Blk W1 w'.heap.size (zeros [.int .i64 0, .int .i64 0] l.length) 96 := by rw [hW1]; exact (((Blk.new w' _ _).alloc _).alloc _).alloc _
  have m2 : Blk W1 (w'.heap.size + 1) [.slice (some ⟨w'.heap.size, 0, none⟩) l.length l.length] 167 := by
    rw [hW1]; have := ((Blk.new (w'.alloc (.cells (zeros [.int .i64 0, .int .i64 0] l.length).toArray 96)) [.slice (some ⟨w'.heap.size, 0, none⟩) l.length l.length] 167).alloc (.cells #[.int .i64 lo, .int .i64 hi] 96)).alloc (.cells #[.slice a l.length c] 26)
    simpa using this
  have hB1 := Bl.next hB hb1
  have hl1 := hl'.below hb1
  have hst := each_stops (w'.heap.size + 1 + 1) (w'.heap.size + 1 + 1 + 1) (fun b => b < W1.heap.size ∧ b ≠ w'.heap.size) hi (.slice a l.length c) l W1 (fun b h => h.1) (by omega) (by omega) (by omega) hl1 ?hvp s1 s2
  case hvp => exact fun h b off n' cap e => by have := HB h e; have := hB1.size; exact ⟨by omega, by omega⟩
  clear hW1 s1 s2 hmk
  go_wp2_with fail
  refine wp_range (g := .tmp 17) (gf := 160) (lb := #[.pointer (some ⟨w'.heap.size + 1 + 1, 0, none⟩), .pointer (some ⟨w'.heap.size + 1 + 1 + 1, 0, none⟩)]) rfl (enters_of Tryz.func160 (by kernel_rfl) rfl) _ (fun b h => h.1) hst (fun _ => rfl)
    (fun pre W => (Blk W w'.heap.size (outC hi l pre) 96 ∧ Blk W (w'.heap.size + 1) [.slice (some ⟨w'.heap.size, 0, none⟩) l.length l.length] 167) ∧ (Below w.heap.size w W ∧ W1.heap.size ≤ W.heap.size))
    (fun _ _ _ => False) ?own (fun _ _ _ _ _ h _ _ => h) ⟨⟨m1, m2⟩, hB1, Nat.le_refl _⟩
    (fun x a' W => ∃ Bx, W1.heap.size ≤ Bx ∧ Blk W Bx [.int .i64 (partAt hi l (qOf x)).1, .int .i64 (partAt hi l (qOf x)).2] 96 ∧
      a' = { tmps := #[.agg #[.int .i64 lo, .int .i64 hi], .slice a l.length c, .pointer (some ⟨w.heap.size, 0, none⟩), undef, .slice none 0 0, .pointer (some ⟨w'.heap.size + 1, 0, none⟩), .int .i64 (qOf x : Int), .pointer (some ⟨Bx, 0, none⟩), .agg #[.int .i64 lo, .int .i64 hi], .slice a l.length c, .int .i64 (fitsI lo hi l), .bool false, .slice a l.length c, .int .i64 l.length, .slice (some ⟨w'.heap.size, 0, none⟩) l.length l.length, .agg #[.int .i64 lo, .int .i64 hi], .slice a l.length c, .func (.func 160) #[] #[.pointer (some ⟨w'.heap.size + 1 + 1, 0, none⟩), .pointer (some ⟨w'.heap.size + 1 + 1 + 1, 0, none⟩)], .int .i64 (qOf x : Int), spanV (partAt hi l (qOf x)).1 (partAt hi l (qOf x)).2, undef, undef, undef, undef, undef], defers := [] }) ?ownax ?assign ?body ?done ?stop
  case own => exact OwnFrom.and (Own.from (fun s A B row hs hg hr => ⟨hs.1.turn hg hr, hs.2.turn hg hr⟩) _) (OwnFrom.and (ownFrom_below (Nat.le_refl _) hB1.size) ownFrom_size)
  case ownax => exact fun x a' => Own.from (fun s A B row hs hg hr => by obtain ⟨Bx, h1, h2, h3⟩ := hs; exact ⟨Bx, h1, h2.turn hg hr, h3⟩) _
  case assign =>
    rintro lr pre x W K ⟨⟨h1, h2⟩, hbW, hsz⟩ hK
    unfold encE
    gi_wp2
    exact hK _ _ ((KeepsOthers.alloc _ _).from _) (Keeps.of_below (Bl.box W _) (fun b hb => by have := hb.1; omega)) ⟨⟨h1.alloc _, h2.alloc _⟩, Bl.next hbW (Bl.box _ _), by simp; omega⟩ ⟨W.heap.size, hsz, Blk.new W _ _, rfl⟩
  case body =>
    rintro lr pre x a' W hlr ⟨⟨h1, h2⟩, hbW, hsz⟩ ⟨Bx, hBx, hx, rfl⟩ hlt
    have cx0 := hx.cell (i := 0) rfl
    have cx1 := hx.cell (i := 1) rfl
    have ci := h2.cell (i := 0) rfl
    have hq : qOf x < l.length := by have := x.2; simp only [qOf]; omega
    have hol := outC_length hi l pre
    obtain ⟨u0, hu0⟩ : ∃ u0, (outC hi l pre)[qOf x * 2]? = some u0 := ⟨_, List.getElem?_eq_getElem (by omega)⟩
    obtain ⟨u1, hu1⟩ : ∃ u1, (outC hi l pre)[qOf x * 2 + 1]? = some u1 := ⟨_, List.getElem?_eq_getElem (by omega)⟩
    have cu0 := h1.cell hu0
    have cu1 := h1.cell hu1
    have fu0 := h1.frozen (qOf x * 2)
    have fu1 := h1.frozen (qOf x * 2 + 1)
    clear hu0 hu1 hol
    gi_wp2
    refine ⟨((KeepsOthers.setCell _ _ _).trans (KeepsOthers.setCell _ _ _)).from _, ((Keeps.refl _ W).setCell (by simp) _).setCell (by simp) _, ⟨by rw [outC_snoc]; exact (h1.set _ _).set _ _, (h2.other (by simp) _).other (by simp) _⟩, (hbW.setCell (Nat.le_of_lt z0) _).setCell (Nat.le_of_lt z0) _, by simpa [World.setCell] using hsz⟩
  case done =>
    rintro D xs W hD rfl ⟨⟨h1, h2⟩, hbW, hsz⟩ hK
    have ci := h2.cell (i := 0) rfl
    have hlt : D < W.heap.size := (Array.getElem?_eq_some_iff.1 hK).1
    rw [outC_all] at h1
    have hs : (splitL hi l).length = l.length := by simp [splitL]
    have hR : Pairs (W.putObj D (.deferred none)) (.slice (some ⟨w'.heap.size, 0, none⟩) l.length l.length) (splitL hi l) := by
      have h1' := h1.put hK rfl (.deferred none)
      exact .inr ⟨_, 0, l.length, by rw [hs], by omega, by unfold maxLen; omega, fun j x hj => by rw [Nat.zero_add]; exact h1'.cell hj⟩
    have HR := Lib.hid hR
    have HR2 := Lib.hid (h1.put hK rfl (.deferred none))
    clear hR h1 hs
    go_wp2_with fail
    refine ⟨by simp, .inl ⟨_, _, rfl, run_takeDeferred hK, _, results_tmp rfl _ _ _, ?_⟩⟩
    have e : splitR lo hi l = splitL hi l := by simp [splitR, HF.out]
    rw [e]
    exact ⟨_, rfl, below_put hbW (by have := hB1.size; omega) hlt _, HR.out, fun _ => ⟨_, rfl, hB.size, HR2.out⟩⟩
  case stop => exact fun _ _ _ _ _ _ h _ => h.elim
theorem span_split (lo hi : Int) (v : Value) (l : List Int) (w : World) (hlen : l.length ≤ 1000000) (hl : Ints w v l) :
    Calls Tryz.prog 82 #[spanV lo hi, v] w (RetS (fun w' r => Pairs w' r (splitR lo hi l)) w) :=
  (span_split2 lo hi v l w hlen hl).mono fun e w' ⟨r, h1, h2, h3, _⟩ => ⟨r, h1, h2, h3⟩
end Go.Proofs.YtinegkldgjhnpaaGreatDoor
namespace Go.Proofs.YtinegkldgjhnpaaGreatDoor
open Go.RowKit Go.Extern.Stop Go.Stop Go.Extern
set_option linter.unusedVariables false
attribute [local irreducible] wpList wpAnyH Code.wp Oper.wp Go

/-- the number of the error of a node that is looked at, as the one below way, for the span lo hi -/
def lookE (l : List UInt8) (way : List Int) (no tree lo hi deep : Int) : Int :=
  if hasI way no = true then 11 else if 16 ≤ way.length then 10 else if nodeErr l no tree ≠ 0 then nodeErr l no tree else if fitsI lo hi (keysI (inB l no) (nodC (inB l no))) ≠ 0 then 9 else
    if nodL (inB l no) = true ∧ deep ≠ 0 ∧ deep ≠ ((way.length + 1 : Nat) : Int) then 10 else 0
def LookP (B bw : Nat) (cs : List Value) (l : List UInt8) (way : List Int) (no tree lo hi deep : Int) (w : World) (e : Ending) (w' : World) : Prop :=
  Below B w w' ∧ Only [93] w w' ∧ Blk w' bw cs 93 ∧
  ((lookE l way no tree lo hi deep ≠ 0 ∧ ∃ a4 b4 k4 n4 c4 v4 m4 d4 ty x, e = .returned (.tuple #[.agg #[.int .i64 a4, .bool b4, .slice k4 n4 c4, .slice v4 m4 d4], .iface ty x]) ∧ ErrV w' [some no] (some (lookE l way no tree lo hi deep)) (.iface ty x)) ∨
   (lookE l way no tree lo hi deep = 0 ∧ nodeErr l no tree = 0 ∧ ∃ kp kc vp vc, e = .returned (.tuple #[.agg #[.int .i64 (nodT (inB l no)), .bool (nodL (inB l no)), .slice kp (nodC (inB l no)) kc, .slice vp (nodC (inB l no)) vc], .nilIface]) ∧
    w'.ownsRow w.heap.size 3 1 (.slice kp (nodC (inB l no)) kc) (nodC (inB l no)) ((keysI (inB l no) (nodC (inB l no))).map (Value.int .i64)) ∧ w'.ownsRow w.heap.size 9 1 (.slice vp (nodC (inB l no)) vc) (nodC (inB l no)) ((valsL (inB l no) (nodC (inB l no))).map sv)))
theorem intsN_of {w : World} {v : Value} {n : Nat} {l : List Int} (h : Sl w v n (l.map (Value.int .i64))) (hl : l.length = n) : Ints w v l := by subst hl; exact h
set_option maxRecDepth 100000 in
set_option maxHeartbeats 4000000 in
theorem walker_look (B Bi b bw : Nat) (p : Option Addr) (n c : Nat) (l : List UInt8) (c0 c1 c4 c7 c9 : Value) (pw : Option Addr) (cw : Nat) (way : List Int) (no tree lo hi deep looked : Int) (w : World) (hBb : B ≤ bw) (hBw : B ≤ w.heap.size) (kW : Blk w bw [c0, c1, .int .i64 deep, .int .i64 looked, c4, .pointer (some ⟨b, 0, none⟩), .int .i64 tree, c7, .slice pw way.length cw, c9] 93) (hway : w.ownsRow B 3 1 (.slice pw way.length cw) way.length (way.map (Value.int .i64))) (hI : ImgR Bi b p n c l w) (hwl : way.length ≤ 1000000) (hl0 : 0 ≤ looked) (hl1 : looked < 9223372036854775807) :
    Calls Tryz.prog 80 #[.pointer (some ⟨bw, 0, none⟩), .int .i64 no, .agg #[.int .i64 lo, .int .i64 hi]] w (LookP B bw [c0, c1, .int .i64 deep, .int .i64 (looked + 1), c4, .pointer (some ⟨b, 0, none⟩), .int .i64 tree, c7, .slice pw way.length cw, c9] l way no tree lo hi deep w) := by
 refine zin 97 Tryz.func80 ?_
 refine xa 2 [.int .i64 lo, .int .i64 hi] 96 fun b1 W1 n1 => ?_
 refine xa 0 [.int .i64 0, .bool false, .slice none 0 0, .slice none 0 0] 52 fun b2 W2 n2 => ?_
 have kW'1 := (kW.below n1.below).below n2.below
 refine xb 9 3 kW'1 ?_
 refine xw 0 (looked + 1) ?_
 refine xs 3 kW'1 [c0, c1, .int .i64 deep, .int .i64 (looked + 1), c4, .pointer (some ⟨b, 0, none⟩), .int .i64 tree, c7, .slice pw way.length cw, c9] fun W3 u3 k3 => ?_
 refine xb 8 8 k3 ?_
 have hway'1 := u3.own2 (own_below (own_below hway n1.below) n2.below) kW'1 (by decide)
 refine xr 1 (args := #[.slice pw way.length cw, .int .i64 no]) (containsI pw cw way no _ (own_sl hway'1) hwl) fun W4 hb4 => ?_
 refine xi 2 (hasI way no) (fun hc5 => ?_) (fun hc5 => ?_)
 · refine xc 5 (args := #[.int .i64 no, .iface 53 (.int .i64 11)]) (fault_At no (some 11) [] _ _ rfl) ?_
   rintro _ W6 ⟨r6, rfl, hb6, hv6⟩
   rw [atL_some] at hv6
   obtain ⟨t6, x6, rfl⟩ := hv6.iface
   have k2 := ((u3.blkT n2.blk kW'1 (by decide)).below hb4).below hb6
   refine xsv 0 k2 [.int .i64 0, .bool false, .slice none 0 0, .slice none 0 0] fun W7 u7 k7 => ?_
   have g2 := n2.ge0 (Bl.nextB (Below.refl B w) hBw n1.below)
   have hB := u7.below (Bl.nextB (Bl.nextB (u3.below (Bl.nextB (Bl.nextB (Below.refl B w) hBw n1.below) hBw n2.below) hBb) hBw hb4) hBw hb6) (Nat.le_trans hBw g2)
   have hO := (Only.upd_new (((((show Only [93] w _ from (Only.of_below n1.below)).trans (Only.of_below n2.below)).trans (Only.of_upd u3 kW'1 (by decide))).trans (Only.of_below hb4)).trans (Only.of_below hb6)) u7 g2)
   have k3'1 := u7.blkT ((k3.below hb4).below hb6) k2 (by decide)
   have hv6'1 := hv6.upd u7 k2 (by decide)
   exact xec 5 k7 (.tuple #[.agg #[.int .i64 0, .bool false, .slice none 0 0, .slice none 0 0], .iface t6 (x6)]) ⟨hB, hO, k3'1, .inl ⟨by (unfold lookE; (repeat' split) <;> first | rfl | assumption | decide | omega | exact absurd (Eq.trans (Eq.symm ‹hasI _ _ = true›) ‹hasI _ _ = false›) (by decide) | (rename_i q; exact absurd ⟨by assumption, by assumption, by assumption⟩ q) | (rename_i q; obtain ⟨q1, q2, q3⟩ := q; exact absurd (Eq.trans (Eq.symm q1) ‹nodL _ = false›) (by decide)) | (rename_i q; obtain ⟨q1, q2, q3⟩ := q; omega)), _, _, _, _, _, _, _, _, _, _, rfl, by (unfold lookE; (repeat' split) <;> first | exact hv6'1 | (exfalso; omega) | contradiction | exact absurd (Eq.trans (Eq.symm ‹hasI _ _ = true›) ‹hasI _ _ = false›) (by decide) | (rename_i q; exact absurd ⟨by assumption, by assumption, by assumption⟩ q) | (rename_i q; obtain ⟨q1, q2, q3⟩ := q; exact absurd (Eq.trans (Eq.symm q1) ‹nodL _ = false›) (by decide)) | (rename_i q; obtain ⟨q1, q2, q3⟩ := q; omega))⟩⟩
 have k3'2 := k3.below hb4
 refine xb 8 8 k3'2 ?_
 refine xid 4 ((↑way.length : Int) ≥ (16 : Int)) (fun hc8 => ?_) (fun hc8 => ?_)
 · refine xc 5 (args := #[.int .i64 no, .iface 53 (.int .i64 10)]) (fault_At no (some 10) [] _ _ rfl) ?_
   rintro _ W9 ⟨r9, rfl, hb9, hv9⟩
   rw [atL_some] at hv9
   obtain ⟨t9, x9, rfl⟩ := hv9.iface
   have k2 := ((u3.blkT n2.blk kW'1 (by decide)).below hb4).below hb9
   refine xsv 0 k2 [.int .i64 0, .bool false, .slice none 0 0, .slice none 0 0] fun W10 u10 k10 => ?_
   have g2 := n2.ge0 (Bl.nextB (Below.refl B w) hBw n1.below)
   have hB := u10.below (Bl.nextB (Bl.nextB (u3.below (Bl.nextB (Bl.nextB (Below.refl B w) hBw n1.below) hBw n2.below) hBb) hBw hb4) hBw hb9) (Nat.le_trans hBw g2)
   have hO := (Only.upd_new (((((show Only [93] w _ from (Only.of_below n1.below)).trans (Only.of_below n2.below)).trans (Only.of_upd u3 kW'1 (by decide))).trans (Only.of_below hb4)).trans (Only.of_below hb9)) u10 g2)
   have k3'3 := u10.blkT (k3'2.below hb9) k2 (by decide)
   have hv9'1 := hv9.upd u10 k2 (by decide)
   exact xec 5 k10 (.tuple #[.agg #[.int .i64 0, .bool false, .slice none 0 0, .slice none 0 0], .iface t9 (x9)]) ⟨hB, hO, k3'3, .inl ⟨by (unfold lookE; (repeat' split) <;> first | rfl | assumption | decide | omega | exact absurd (Eq.trans (Eq.symm ‹hasI _ _ = true›) ‹hasI _ _ = false›) (by decide) | (rename_i q; exact absurd ⟨by assumption, by assumption, by assumption⟩ q) | (rename_i q; obtain ⟨q1, q2, q3⟩ := q; exact absurd (Eq.trans (Eq.symm q1) ‹nodL _ = false›) (by decide)) | (rename_i q; obtain ⟨q1, q2, q3⟩ := q; omega)), _, _, _, _, _, _, _, _, _, _, rfl, by (unfold lookE; (repeat' split) <;> first | exact hv9'1 | (exfalso; omega) | contradiction | exact absurd (Eq.trans (Eq.symm ‹hasI _ _ = true›) ‹hasI _ _ = false›) (by decide) | (rename_i q; exact absurd ⟨by assumption, by assumption, by assumption⟩ q) | (rename_i q; obtain ⟨q1, q2, q3⟩ := q; exact absurd (Eq.trans (Eq.symm q1) ‹nodL _ = false›) (by decide)) | (rename_i q; obtain ⟨q1, q2, q3⟩ := q; omega))⟩⟩
 refine xd 3 (.t B [52]) ?_
 have k3'4 := k3'2.below (below_drew W4)
 refine xbt (.e [0, 1, 2] 3) 5 B [52] k3'4 ?_
 refine xbt (.e [4, 5, 6, 7] 8) 6 B [52] k3'4 ?_
 refine xm2 0 9 13 ?_ ?_
 · have hI'1 := ((((hI.below n1.below).below n2.below).only (Only.of_upd (T := [93]) u3 kW'1 (by decide)) (by decide)).below hb4).below (below_drew W4)
   refine yc 0 (args := #[.pointer (some ⟨b, 0, none⟩), .int .i64 no, .int .i64 tree]) (.t B [52]) (block_Node Bi b p n c l no tree _ hI'1) ?_
   rintro e W11 hq11
   rcases hq11 with ⟨he, bf, rfl, hb11, hv⟩ | ⟨he, kp, kc, vp, vc, rfl, hb11, hk, hv_⟩
   · refine ⟨(SF.of_below _ hb11), ?_⟩
     refine xa (.o [10, 11, 12] 13) [.int .i64 0, .bool false, .slice none 0 0, .slice none 0 0] 52 fun b12 W12 n12 => ?_
     have k2 := (((u3.blkT n2.blk kW'1 (by decide)).below hb4).below (below_drew W4)).below hb11
     have d12_b2 := n12.ne k2
     have hB := Bl.nextB (Bl.nextB (Bl.nextB (u3.below (Bl.nextB (Bl.nextB (Below.refl B w) hBw n1.below) hBw n2.below) hBb) hBw hb4) hBw (below_drew W4)) hBw hb11
     have g12 := n12.ge0 hB
     refine ysv (.o [] 14) n12.blk [.int .i64 0, .bool false, .slice none 0 0, .slice none 0 0] (.t B [52]) fun W13 u13 k13 => ⟨(sft_upd u13 n12.blk (Nat.le_trans hBw g12) (by decide)), ?_⟩
     refine xlv (.r [15] 14) k13.rp ?_
     have k2'1 := u13.blk (k2.below n12.below) (Ne.symm (Ne.symm d12_b2))
     refine xsv 1 k2'1 [.int .i64 0, .bool false, .slice none 0 0, .slice none 0 0] fun W14 u14 k14 => ?_
     have g2 := n2.ge0 (Bl.nextB (Below.refl B w) hBw n1.below)
     have hB'1 := u14.below (u13.below (Bl.nextB hB hBw n12.below) (Nat.le_trans hBw g12)) (Nat.le_trans hBw g2)
     have hO := (Only.upd_new (Only.upd_new (((((((show Only [93] w _ from (Only.of_below n1.below)).trans (Only.of_below n2.below)).trans (Only.of_upd u3 kW'1 (by decide))).trans (Only.of_below hb4)).trans (Only.of_below (below_drew W4))).trans (Only.of_below hb11)).trans (Only.of_below n12.below)) u13 g12) u14 g2)
     have k3'5 := u14.blkT (u13.blkT ((k3'4.below hb11).below n12.below) n12.blk (by decide)) k2'1 (by decide)
     have hv'1 := ((hv.below n12.below).upd u13 n12.blk (by decide)).upd u14 k2'1 (by decide)
     exact xec 6 k14 (.tuple #[.agg #[.int .i64 0, .bool false, .slice none 0 0, .slice none 0 0], .iface 67 (.pointer (some ⟨bf, 0, none⟩))]) ⟨hB'1, hO, k3'5, .inl ⟨by (unfold lookE; (repeat' split) <;> first | rfl | assumption | decide | omega | exact absurd (Eq.trans (Eq.symm ‹hasI _ _ = true›) ‹hasI _ _ = false›) (by decide) | (rename_i q; exact absurd ⟨by assumption, by assumption, by assumption⟩ q) | (rename_i q; obtain ⟨q1, q2, q3⟩ := q; exact absurd (Eq.trans (Eq.symm q1) ‹nodL _ = false›) (by decide)) | (rename_i q; obtain ⟨q1, q2, q3⟩ := q; omega)), _, _, _, _, _, _, _, _, _, _, rfl, by (unfold lookE; (repeat' split) <;> first | exact hv'1 | (exfalso; omega) | contradiction | exact absurd (Eq.trans (Eq.symm ‹hasI _ _ = true›) ‹hasI _ _ = false›) (by decide) | (rename_i q; exact absurd ⟨by assumption, by assumption, by assumption⟩ q) | (rename_i q; obtain ⟨q1, q2, q3⟩ := q; exact absurd (Eq.trans (Eq.symm q1) ‹nodL _ = false›) (by decide)) | (rename_i q; obtain ⟨q1, q2, q3⟩ := q; omega))⟩⟩
   have hs11 := (Bl.nextB (Bl.nextB (u3.below (Bl.nextB (Bl.nextB (Below.refl B w) hBw n1.below) hBw n2.below) hBb) hBw hb4) hBw (below_drew W4)).size
   refine ⟨(SF.of_below _ hb11), ?_⟩
   refine xa (.o [10, 11, 12] 13) [.int .i64 0, .bool false, .slice none 0 0, .slice none 0 0] 52 fun b15 W15 n15 => ?_
   have k2 := (((u3.blkT n2.blk kW'1 (by decide)).below hb4).below (below_drew W4)).below hb11
   have d15_b2 := n15.ne k2
   have hB := Bl.nextB (Bl.nextB (Bl.nextB (u3.below (Bl.nextB (Bl.nextB (Below.refl B w) hBw n1.below) hBw n2.below) hBb) hBw hb4) hBw (below_drew W4)) hBw hb11
   have g15 := n15.ge0 hB
   refine ysv (.o [] 14) n15.blk [.int .i64 (nodT (inB l no)), .bool (nodL (inB l no)), .slice kp (nodC (inB l no)) kc, .slice vp (nodC (inB l no)) vc] (.t B [52]) fun W16 u16 k16 => ⟨(sft_upd u16 n15.blk (Nat.le_trans hBw g15) (by decide)), ?_⟩
   have k1 := u16.blkT (((((u3.blkT (n1.blk.below n2.below) kW'1 (by decide)).below hb4).below (below_drew W4)).below hb11).below n15.below) n15.blk (by decide)
   refine xlv (.r [15] 14) k1.rp ?_
   refine xb 1 2 k16 ?_
   have hk'1 := u16.own2 (own_below (own_mono hk hs11) n15.below) n15.blk (by decide)
   refine xr 0 (args := #[.agg #[.int .i64 lo, .int .i64 hi], .slice kp (nodC (inB l no)) kc]) (span_fits lo hi _ (keysI (inB l no) (nodC (inB l no))) _ (intsN_of (own_sl hk'1) (keysI_len _ _))) fun W17 hb17 => ?_
   refine xin 4 (fitsI lo hi (keysI (inB l no) (nodC (inB l no)))) (0 : Int) (fun hc18 => ?_) (fun hc18 => ?_)
   · refine xd 1 (.t B [52]) ?_
     refine xm2 (.b [1, 2]) 0 3 ?_ ?_
     · have k16'1 := (k16.below hb17).below (below_drew W17)
       refine xlv 0 k16'1.rp ?_
       refine yc (.o [] 3) (args := #[.int .i64 no, .iface 53 (.int .i64 9)]) (.t B [52]) (fault_At no (some 9) [] _ _ rfl) ?_
       rintro _ W19 ⟨r19, rfl, hb19, hv19⟩
       refine ⟨(SF.of_below _ hb19), ?_⟩
       rw [atL_some] at hv19
       obtain ⟨t19, x19, rfl⟩ := hv19.iface
       have k2'2 := (((u16.blk (k2.below n15.below) (Ne.symm (Ne.symm d15_b2))).below hb17).below (below_drew W17)).below hb19
       have g2 := n2.ge0 (Bl.nextB (Below.refl B w) hBw n1.below)
       refine ysv (.o [] 4) k2'2 [.int .i64 (nodT (inB l no)), .bool (nodL (inB l no)), .slice kp (nodC (inB l no)) kc, .slice vp (nodC (inB l no)) vc] (.t B [52]) fun W20 u20 k20 => ⟨(sft_upd u20 k2'2 (Nat.le_trans hBw g2) (by decide)), ?_⟩
       have hB'2 := u20.below (Bl.nextB (Bl.nextB (Bl.nextB (u16.below (Bl.nextB hB hBw n15.below) (Nat.le_trans hBw g15)) hBw hb17) hBw (below_drew W17)) hBw hb19) (Nat.le_trans hBw g2)
       have hO := (Only.upd_new ((((Only.upd_new (((((((show Only [93] w _ from (Only.of_below n1.below)).trans (Only.of_below n2.below)).trans (Only.of_upd u3 kW'1 (by decide))).trans (Only.of_below hb4)).trans (Only.of_below (below_drew W4))).trans (Only.of_below hb11)).trans (Only.of_below n15.below)) u16 g15).trans (Only.of_below hb17)).trans (Only.of_below (below_drew W17))).trans (Only.of_below hb19)) u20 g2)
       have k3'6 := u20.blkT ((((u16.blkT ((k3'4.below hb11).below n15.below) n15.blk (by decide)).below hb17).below (below_drew W17)).below hb19) k2'2 (by decide)
       have hv19'1 := hv19.upd u20 k2'2 (by decide)
       exact xec (.r [5] 5) k20 (.tuple #[.agg #[.int .i64 (nodT (inB l no)), .bool (nodL (inB l no)), .slice kp (nodC (inB l no)) kc, .slice vp (nodC (inB l no)) vc], .iface t19 (x19)]) ⟨hB'2, hO, k3'6, .inl ⟨by (unfold lookE; (repeat' split) <;> first | rfl | assumption | decide | omega | exact absurd (Eq.trans (Eq.symm ‹hasI _ _ = true›) ‹hasI _ _ = false›) (by decide) | (rename_i q; exact absurd ⟨by assumption, by assumption, by assumption⟩ q) | (rename_i q; obtain ⟨q1, q2, q3⟩ := q; exact absurd (Eq.trans (Eq.symm q1) ‹nodL _ = false›) (by decide)) | (rename_i q; obtain ⟨q1, q2, q3⟩ := q; omega)), _, _, _, _, _, _, _, _, _, _, rfl, by (unfold lookE; (repeat' split) <;> first | exact hv19'1 | (exfalso; omega) | contradiction | exact absurd (Eq.trans (Eq.symm ‹hasI _ _ = true›) ‹hasI _ _ = false›) (by decide) | (rename_i q; exact absurd ⟨by assumption, by assumption, by assumption⟩ q) | (rename_i q; obtain ⟨q1, q2, q3⟩ := q; exact absurd (Eq.trans (Eq.symm q1) ‹nodL _ = false›) (by decide)) | (rename_i q; obtain ⟨q1, q2, q3⟩ := q; omega))⟩⟩
     refine yc 0 (args := #[.int .i64 no, .iface 53 (.int .i64 9)]) (.t B [52]) (fault_At no (some 9) [] _ _ rfl) ?_
     rintro _ W21 ⟨r21, rfl, hb21, hv21⟩
     refine ⟨(SF.of_below _ hb21), ?_⟩
     rw [atL_some] at hv21
     obtain ⟨t21, x21, rfl⟩ := hv21.iface
     have k16'2 := ((k16.below hb17).below (below_drew W17)).below hb21
     refine xlv (.o [] 0) k16'2.rp ?_
     have k2'3 := (((u16.blk (k2.below n15.below) (Ne.symm (Ne.symm d15_b2))).below hb17).below (below_drew W17)).below hb21
     have g2 := n2.ge0 (Bl.nextB (Below.refl B w) hBw n1.below)
     refine ysv (.o [] 4) k2'3 [.int .i64 (nodT (inB l no)), .bool (nodL (inB l no)), .slice kp (nodC (inB l no)) kc, .slice vp (nodC (inB l no)) vc] (.t B [52]) fun W22 u22 k22 => ⟨(sft_upd u22 k2'3 (Nat.le_trans hBw g2) (by decide)), ?_⟩
     have hB'3 := u22.below (Bl.nextB (Bl.nextB (Bl.nextB (u16.below (Bl.nextB hB hBw n15.below) (Nat.le_trans hBw g15)) hBw hb17) hBw (below_drew W17)) hBw hb21) (Nat.le_trans hBw g2)
     have hO := (Only.upd_new ((((Only.upd_new (((((((show Only [93] w _ from (Only.of_below n1.below)).trans (Only.of_below n2.below)).trans (Only.of_upd u3 kW'1 (by decide))).trans (Only.of_below hb4)).trans (Only.of_below (below_drew W4))).trans (Only.of_below hb11)).trans (Only.of_below n15.below)) u16 g15).trans (Only.of_below hb17)).trans (Only.of_below (below_drew W17))).trans (Only.of_below hb21)) u22 g2)
     have k3'7 := u22.blkT ((((u16.blkT ((k3'4.below hb11).below n15.below) n15.blk (by decide)).below hb17).below (below_drew W17)).below hb21) k2'3 (by decide)
     have hv21'1 := hv21.upd u22 k2'3 (by decide)
     exact xec (.r [5] 5) k22 (.tuple #[.agg #[.int .i64 (nodT (inB l no)), .bool (nodL (inB l no)), .slice kp (nodC (inB l no)) kc, .slice vp (nodC (inB l no)) vc], .iface t21 (x21)]) ⟨hB'3, hO, k3'7, .inl ⟨by (unfold lookE; (repeat' split) <;> first | rfl | assumption | decide | omega | exact absurd (Eq.trans (Eq.symm ‹hasI _ _ = true›) ‹hasI _ _ = false›) (by decide) | (rename_i q; exact absurd ⟨by assumption, by assumption, by assumption⟩ q) | (rename_i q; obtain ⟨q1, q2, q3⟩ := q; exact absurd (Eq.trans (Eq.symm q1) ‹nodL _ = false›) (by decide)) | (rename_i q; obtain ⟨q1, q2, q3⟩ := q; omega)), _, _, _, _, _, _, _, _, _, _, rfl, by (unfold lookE; (repeat' split) <;> first | exact hv21'1 | (exfalso; omega) | contradiction | exact absurd (Eq.trans (Eq.symm ‹hasI _ _ = true›) ‹hasI _ _ = false›) (by decide) | (rename_i q; exact absurd ⟨by assumption, by assumption, by assumption⟩ q) | (rename_i q; obtain ⟨q1, q2, q3⟩ := q; exact absurd (Eq.trans (Eq.symm q1) ‹nodL _ = false›) (by decide)) | (rename_i q; obtain ⟨q1, q2, q3⟩ := q; omega))⟩⟩
   refine xd 1 .z ?_
   have k16'3 := (k16.below hb17).below (below_drew W17)
   refine xb (.e [0] 1) 1 k16'3 ?_
   refine xg (.b [2]) [69, 70] (nodL (inB l no)) (fun hc23 => ?_) (fun hc23 => ?_)
   · have k3'8 := ((u16.blkT ((k3'4.below hb11).below n15.below) n15.blk (by decide)).below hb17).below (below_drew W17)
     refine xb (.e [3, 4, 5, 6] 7) 2 k3'8 ?_
     refine xg (.b [8, 9, 10]) [76, 77, 78] (deep != (0 : Int)) (fun hc24 => ?_) (fun hc24 => ?_)
     · have hc24 := ne_of_bne hc24
       refine xb (.e [11, 12, 13, 14] 15) 2 k3'8 ?_
       refine xb (.e [16, 17, 18] 19) 8 k3'8 ?_
       refine xwm (.e [20] 21) ((↑way.length : Int) + 1) (↑(way.length + 1) : Int) ?_
       refine xin (.r [22, 23, 24] 2) deep (↑(way.length + 1) : Int) (fun hc25 => ?_) (fun hc25 => ?_)
       · refine xd 1 (.t B [52]) ?_
         refine xm2 (.b [1, 2]) 0 3 ?_ ?_
         · have k16'4 := k16'3.below (below_drew W17.drew)
           refine xlv 0 k16'4.rp ?_
           refine yc (.o [] 3) (args := #[.int .i64 no, .iface 53 (.int .i64 10)]) (.t B [52]) (fault_At no (some 10) [] _ _ rfl) ?_
           rintro _ W26 ⟨r26, rfl, hb26, hv26⟩
           refine ⟨(SF.of_below _ hb26), ?_⟩
           rw [atL_some] at hv26
           obtain ⟨t26, x26, rfl⟩ := hv26.iface
           have k2'4 := ((((u16.blk (k2.below n15.below) (Ne.symm (Ne.symm d15_b2))).below hb17).below (below_drew W17)).below (below_drew W17.drew)).below hb26
           have g2 := n2.ge0 (Bl.nextB (Below.refl B w) hBw n1.below)
           refine ysv (.o [] 4) k2'4 [.int .i64 (nodT (inB l no)), .bool (nodL (inB l no)), .slice kp (nodC (inB l no)) kc, .slice vp (nodC (inB l no)) vc] (.t B [52]) fun W27 u27 k27 => ⟨(sft_upd u27 k2'4 (Nat.le_trans hBw g2) (by decide)), ?_⟩
           have hB'4 := u27.below (Bl.nextB (Bl.nextB (Bl.nextB (Bl.nextB (u16.below (Bl.nextB hB hBw n15.below) (Nat.le_trans hBw g15)) hBw hb17) hBw (below_drew W17)) hBw (below_drew W17.drew)) hBw hb26) (Nat.le_trans hBw g2)
           have hO := (Only.upd_new (((((Only.upd_new (((((((show Only [93] w _ from (Only.of_below n1.below)).trans (Only.of_below n2.below)).trans (Only.of_upd u3 kW'1 (by decide))).trans (Only.of_below hb4)).trans (Only.of_below (below_drew W4))).trans (Only.of_below hb11)).trans (Only.of_below n15.below)) u16 g15).trans (Only.of_below hb17)).trans (Only.of_below (below_drew W17))).trans (Only.of_below (below_drew W17.drew))).trans (Only.of_below hb26)) u27 g2)
           have k3'9 := u27.blkT ((k3'8.below (below_drew W17.drew)).below hb26) k2'4 (by decide)
           have hv26'1 := hv26.upd u27 k2'4 (by decide)
           exact xec (.r [5] 5) k27 (.tuple #[.agg #[.int .i64 (nodT (inB l no)), .bool (nodL (inB l no)), .slice kp (nodC (inB l no)) kc, .slice vp (nodC (inB l no)) vc], .iface t26 (x26)]) ⟨hB'4, hO, k3'9, .inl ⟨by (unfold lookE; (repeat' split) <;> first | rfl | assumption | decide | omega | exact absurd (Eq.trans (Eq.symm ‹hasI _ _ = true›) ‹hasI _ _ = false›) (by decide) | (rename_i q; exact absurd ⟨by assumption, by assumption, by assumption⟩ q) | (rename_i q; obtain ⟨q1, q2, q3⟩ := q; exact absurd (Eq.trans (Eq.symm q1) ‹nodL _ = false›) (by decide)) | (rename_i q; obtain ⟨q1, q2, q3⟩ := q; omega)), _, _, _, _, _, _, _, _, _, _, rfl, by (unfold lookE; (repeat' split) <;> first | exact hv26'1 | (exfalso; omega) | contradiction | exact absurd (Eq.trans (Eq.symm ‹hasI _ _ = true›) ‹hasI _ _ = false›) (by decide) | (rename_i q; exact absurd ⟨by assumption, by assumption, by assumption⟩ q) | (rename_i q; obtain ⟨q1, q2, q3⟩ := q; exact absurd (Eq.trans (Eq.symm q1) ‹nodL _ = false›) (by decide)) | (rename_i q; obtain ⟨q1, q2, q3⟩ := q; omega))⟩⟩
         refine yc 0 (args := #[.int .i64 no, .iface 53 (.int .i64 10)]) (.t B [52]) (fault_At no (some 10) [] _ _ rfl) ?_
         rintro _ W28 ⟨r28, rfl, hb28, hv28⟩
         refine ⟨(SF.of_below _ hb28), ?_⟩
         rw [atL_some] at hv28
         obtain ⟨t28, x28, rfl⟩ := hv28.iface
         have k16'5 := (k16'3.below (below_drew W17.drew)).below hb28
         refine xlv (.o [] 0) k16'5.rp ?_
         have k2'5 := ((((u16.blk (k2.below n15.below) (Ne.symm (Ne.symm d15_b2))).below hb17).below (below_drew W17)).below (below_drew W17.drew)).below hb28
         have g2 := n2.ge0 (Bl.nextB (Below.refl B w) hBw n1.below)
         refine ysv (.o [] 4) k2'5 [.int .i64 (nodT (inB l no)), .bool (nodL (inB l no)), .slice kp (nodC (inB l no)) kc, .slice vp (nodC (inB l no)) vc] (.t B [52]) fun W29 u29 k29 => ⟨(sft_upd u29 k2'5 (Nat.le_trans hBw g2) (by decide)), ?_⟩
         have hB'5 := u29.below (Bl.nextB (Bl.nextB (Bl.nextB (Bl.nextB (u16.below (Bl.nextB hB hBw n15.below) (Nat.le_trans hBw g15)) hBw hb17) hBw (below_drew W17)) hBw (below_drew W17.drew)) hBw hb28) (Nat.le_trans hBw g2)
         have hO := (Only.upd_new (((((Only.upd_new (((((((show Only [93] w _ from (Only.of_below n1.below)).trans (Only.of_below n2.below)).trans (Only.of_upd u3 kW'1 (by decide))).trans (Only.of_below hb4)).trans (Only.of_below (below_drew W4))).trans (Only.of_below hb11)).trans (Only.of_below n15.below)) u16 g15).trans (Only.of_below hb17)).trans (Only.of_below (below_drew W17))).trans (Only.of_below (below_drew W17.drew))).trans (Only.of_below hb28)) u29 g2)
         have k3'10 := u29.blkT ((k3'8.below (below_drew W17.drew)).below hb28) k2'5 (by decide)
         have hv28'1 := hv28.upd u29 k2'5 (by decide)
         exact xec (.r [5] 5) k29 (.tuple #[.agg #[.int .i64 (nodT (inB l no)), .bool (nodL (inB l no)), .slice kp (nodC (inB l no)) kc, .slice vp (nodC (inB l no)) vc], .iface t28 (x28)]) ⟨hB'5, hO, k3'10, .inl ⟨by (unfold lookE; (repeat' split) <;> first | rfl | assumption | decide | omega | exact absurd (Eq.trans (Eq.symm ‹hasI _ _ = true›) ‹hasI _ _ = false›) (by decide) | (rename_i q; exact absurd ⟨by assumption, by assumption, by assumption⟩ q) | (rename_i q; obtain ⟨q1, q2, q3⟩ := q; exact absurd (Eq.trans (Eq.symm q1) ‹nodL _ = false›) (by decide)) | (rename_i q; obtain ⟨q1, q2, q3⟩ := q; omega)), _, _, _, _, _, _, _, _, _, _, rfl, by (unfold lookE; (repeat' split) <;> first | exact hv28'1 | (exfalso; omega) | contradiction | exact absurd (Eq.trans (Eq.symm ‹hasI _ _ = true›) ‹hasI _ _ = false›) (by decide) | (rename_i q; exact absurd ⟨by assumption, by assumption, by assumption⟩ q) | (rename_i q; obtain ⟨q1, q2, q3⟩ := q; exact absurd (Eq.trans (Eq.symm q1) ‹nodL _ = false›) (by decide)) | (rename_i q; obtain ⟨q1, q2, q3⟩ := q; omega))⟩⟩
       refine xlv 5 k16'3.rp ?_
       have k2'6 := ((u16.blk (k2.below n15.below) (Ne.symm (Ne.symm d15_b2))).below hb17).below (below_drew W17)
       refine xsv 0 k2'6 [.int .i64 (nodT (inB l no)), .bool (nodL (inB l no)), .slice kp (nodC (inB l no)) kc, .slice vp (nodC (inB l no)) vc] fun W30 u30 k30 => ?_
       have g2 := n2.ge0 (Bl.nextB (Below.refl B w) hBw n1.below)
       have hB'6 := u30.below (Bl.nextB (Bl.nextB (u16.below (Bl.nextB hB hBw n15.below) (Nat.le_trans hBw g15)) hBw hb17) hBw (below_drew W17)) (Nat.le_trans hBw g2)
       have hO := (Only.upd_new (((Only.upd_new (((((((show Only [93] w _ from (Only.of_below n1.below)).trans (Only.of_below n2.below)).trans (Only.of_upd u3 kW'1 (by decide))).trans (Only.of_below hb4)).trans (Only.of_below (below_drew W4))).trans (Only.of_below hb11)).trans (Only.of_below n15.below)) u16 g15).trans (Only.of_below hb17)).trans (Only.of_below (below_drew W17))) u30 g2)
       have k3'11 := u30.blkT k3'8 k2'6 (by decide)
       have hk'2 := u30.own2 (own_below (own_below hk'1 hb17) (below_drew W17)) k2'6 (by decide)
       have hv_'1 := u30.own2 (own_below (own_below (u16.own2 (own_below (own_mono hv_ hs11) n15.below) n15.blk (by decide)) hb17) (below_drew W17)) k2'6 (by decide)
       exact xec 4 k30 (.tuple #[.agg #[.int .i64 (nodT (inB l no)), .bool (nodL (inB l no)), .slice kp (nodC (inB l no)) kc, .slice vp (nodC (inB l no)) vc], .nilIface]) ⟨hB'6, hO, k3'11, .inr ⟨by (unfold lookE; (repeat' split) <;> first | rfl | assumption | decide | omega | exact absurd (Eq.trans (Eq.symm ‹hasI _ _ = true›) ‹hasI _ _ = false›) (by decide) | (rename_i q; exact absurd ⟨by assumption, by assumption, by assumption⟩ q) | (rename_i q; obtain ⟨q1, q2, q3⟩ := q; exact absurd (Eq.trans (Eq.symm q1) ‹nodL _ = false›) (by decide)) | (rename_i q; obtain ⟨q1, q2, q3⟩ := q; omega)), by assumption, _, _, _, _, rfl, hk'2, hv_'1⟩⟩
     have hc24 := eq_of_bne_false hc24
     refine xlv (.r [11, 12, 13, 14, 15, 16, 17, 18, 19, 20, 21, 22, 23, 24] 8) k16'3.rp ?_
     have k2'7 := ((u16.blk (k2.below n15.below) (Ne.symm (Ne.symm d15_b2))).below hb17).below (below_drew W17)
     refine xsv 0 k2'7 [.int .i64 (nodT (inB l no)), .bool (nodL (inB l no)), .slice kp (nodC (inB l no)) kc, .slice vp (nodC (inB l no)) vc] fun W31 u31 k31 => ?_
     have g2 := n2.ge0 (Bl.nextB (Below.refl B w) hBw n1.below)
     have hB'7 := u31.below (Bl.nextB (Bl.nextB (u16.below (Bl.nextB hB hBw n15.below) (Nat.le_trans hBw g15)) hBw hb17) hBw (below_drew W17)) (Nat.le_trans hBw g2)
     have hO := (Only.upd_new (((Only.upd_new (((((((show Only [93] w _ from (Only.of_below n1.below)).trans (Only.of_below n2.below)).trans (Only.of_upd u3 kW'1 (by decide))).trans (Only.of_below hb4)).trans (Only.of_below (below_drew W4))).trans (Only.of_below hb11)).trans (Only.of_below n15.below)) u16 g15).trans (Only.of_below hb17)).trans (Only.of_below (below_drew W17))) u31 g2)
     have k3'12 := u31.blkT k3'8 k2'7 (by decide)
     have hk'3 := u31.own2 (own_below (own_below hk'1 hb17) (below_drew W17)) k2'7 (by decide)
     have hv_'2 := u31.own2 (own_below (own_below (u16.own2 (own_below (own_mono hv_ hs11) n15.below) n15.blk (by decide)) hb17) (below_drew W17)) k2'7 (by decide)
     exact xec 4 k31 (.tuple #[.agg #[.int .i64 (nodT (inB l no)), .bool (nodL (inB l no)), .slice kp (nodC (inB l no)) kc, .slice vp (nodC (inB l no)) vc], .nilIface]) ⟨hB'7, hO, k3'12, .inr ⟨by (unfold lookE; (repeat' split) <;> first | rfl | assumption | decide | omega | exact absurd (Eq.trans (Eq.symm ‹hasI _ _ = true›) ‹hasI _ _ = false›) (by decide) | (rename_i q; exact absurd ⟨by assumption, by assumption, by assumption⟩ q) | (rename_i q; obtain ⟨q1, q2, q3⟩ := q; exact absurd (Eq.trans (Eq.symm q1) ‹nodL _ = false›) (by decide)) | (rename_i q; obtain ⟨q1, q2, q3⟩ := q; omega)), by assumption, _, _, _, _, rfl, hk'3, hv_'2⟩⟩
   refine xlv (.r [3, 4, 5, 6, 7, 8, 9, 10, 11, 12, 13, 14, 15, 16, 17, 18, 19, 20, 21, 22, 23, 24] 8) k16'3.rp ?_
   have k2'8 := ((u16.blk (k2.below n15.below) (Ne.symm (Ne.symm d15_b2))).below hb17).below (below_drew W17)
   refine xsv 0 k2'8 [.int .i64 (nodT (inB l no)), .bool (nodL (inB l no)), .slice kp (nodC (inB l no)) kc, .slice vp (nodC (inB l no)) vc] fun W32 u32 k32 => ?_
   have g2 := n2.ge0 (Bl.nextB (Below.refl B w) hBw n1.below)
   have hB'8 := u32.below (Bl.nextB (Bl.nextB (u16.below (Bl.nextB hB hBw n15.below) (Nat.le_trans hBw g15)) hBw hb17) hBw (below_drew W17)) (Nat.le_trans hBw g2)
   have hO := (Only.upd_new (((Only.upd_new (((((((show Only [93] w _ from (Only.of_below n1.below)).trans (Only.of_below n2.below)).trans (Only.of_upd u3 kW'1 (by decide))).trans (Only.of_below hb4)).trans (Only.of_below (below_drew W4))).trans (Only.of_below hb11)).trans (Only.of_below n15.below)) u16 g15).trans (Only.of_below hb17)).trans (Only.of_below (below_drew W17))) u32 g2)
   have k3'13 := u32.blkT (((u16.blkT ((k3'4.below hb11).below n15.below) n15.blk (by decide)).below hb17).below (below_drew W17)) k2'8 (by decide)
   have hk'4 := u32.own2 (own_below (own_below hk'1 hb17) (below_drew W17)) k2'8 (by decide)
   have hv_'3 := u32.own2 (own_below (own_below (u16.own2 (own_below (own_mono hv_ hs11) n15.below) n15.blk (by decide)) hb17) (below_drew W17)) k2'8 (by decide)
   exact xec 4 k32 (.tuple #[.agg #[.int .i64 (nodT (inB l no)), .bool (nodL (inB l no)), .slice kp (nodC (inB l no)) kc, .slice vp (nodC (inB l no)) vc], .nilIface]) ⟨hB'8, hO, k3'13, .inr ⟨by (unfold lookE; (repeat' split) <;> first | rfl | assumption | decide | omega | exact absurd (Eq.trans (Eq.symm ‹hasI _ _ = true›) ‹hasI _ _ = false›) (by decide) | (rename_i q; exact absurd ⟨by assumption, by assumption, by assumption⟩ q) | (rename_i q; obtain ⟨q1, q2, q3⟩ := q; exact absurd (Eq.trans (Eq.symm q1) ‹nodL _ = false›) (by decide)) | (rename_i q; obtain ⟨q1, q2, q3⟩ := q; omega)), by assumption, _, _, _, _, rfl, hk'4, hv_'3⟩⟩
 refine xa 0 [.int .i64 0, .bool false, .slice none 0 0, .slice none 0 0] 52 fun b33 W33 n33 => ?_
 have k2 := ((u3.blkT n2.blk kW'1 (by decide)).below hb4).below (below_drew W4)
 have d33_b2 := n33.ne k2
 have hB := Bl.nextB (Bl.nextB (u3.below (Bl.nextB (Bl.nextB (Below.refl B w) hBw n1.below) hBw n2.below) hBb) hBw hb4) hBw (below_drew W4)
 have hI'2 := (((((hI.below n1.below).below n2.below).only (Only.of_upd (T := [93]) u3 kW'1 (by decide)) (by decide)).below hb4).below (below_drew W4)).below n33.below
 refine yc (.o [] 9) (args := #[.pointer (some ⟨b, 0, none⟩), .int .i64 no, .int .i64 tree]) (.t B [52]) (block_Node Bi b p n c l no tree _ hI'2) ?_
 rintro e W34 hq34
 rcases hq34 with ⟨he, bf, rfl, hb34, hv⟩ | ⟨he, kp, kc, vp, vc, rfl, hb34, hk, hv_⟩
 · refine ⟨(SF.of_below _ hb34), ?_⟩
   have k33 := n33.blk.below hb34
   have g33 := n33.ge0 hB
   refine ysv (.o [10, 11, 12] 14) k33 [.int .i64 0, .bool false, .slice none 0 0, .slice none 0 0] (.t B [52]) fun W35 u35 k35 => ⟨(sft_upd u35 k33 (Nat.le_trans hBw g33) (by decide)), ?_⟩
   refine xlv (.r [15] 14) k35.rp ?_
   have k2'9 := u35.blk ((k2.below n33.below).below hb34) (Ne.symm (Ne.symm d33_b2))
   refine xsv 1 k2'9 [.int .i64 0, .bool false, .slice none 0 0, .slice none 0 0] fun W36 u36 k36 => ?_
   have g2 := n2.ge0 (Bl.nextB (Below.refl B w) hBw n1.below)
   have hB'9 := u36.below (u35.below (Bl.nextB (Bl.nextB hB hBw n33.below) hBw hb34) (Nat.le_trans hBw g33)) (Nat.le_trans hBw g2)
   have hO := (Only.upd_new (Only.upd_new (((((((show Only [93] w _ from (Only.of_below n1.below)).trans (Only.of_below n2.below)).trans (Only.of_upd u3 kW'1 (by decide))).trans (Only.of_below hb4)).trans (Only.of_below (below_drew W4))).trans (Only.of_below n33.below)).trans (Only.of_below hb34)) u35 g33) u36 g2)
   have k3'14 := u36.blkT (u35.blkT ((k3'4.below n33.below).below hb34) k33 (by decide)) k2'9 (by decide)
   have hv'2 := (hv.upd u35 k33 (by decide)).upd u36 k2'9 (by decide)
   exact xec 6 k36 (.tuple #[.agg #[.int .i64 0, .bool false, .slice none 0 0, .slice none 0 0], .iface 67 (.pointer (some ⟨bf, 0, none⟩))]) ⟨hB'9, hO, k3'14, .inl ⟨by (unfold lookE; (repeat' split) <;> first | rfl | assumption | decide | omega | exact absurd (Eq.trans (Eq.symm ‹hasI _ _ = true›) ‹hasI _ _ = false›) (by decide) | (rename_i q; exact absurd ⟨by assumption, by assumption, by assumption⟩ q) | (rename_i q; obtain ⟨q1, q2, q3⟩ := q; exact absurd (Eq.trans (Eq.symm q1) ‹nodL _ = false›) (by decide)) | (rename_i q; obtain ⟨q1, q2, q3⟩ := q; omega)), _, _, _, _, _, _, _, _, _, _, rfl, by (unfold lookE; (repeat' split) <;> first | exact hv'2 | (exfalso; omega) | contradiction | exact absurd (Eq.trans (Eq.symm ‹hasI _ _ = true›) ‹hasI _ _ = false›) (by decide) | (rename_i q; exact absurd ⟨by assumption, by assumption, by assumption⟩ q) | (rename_i q; obtain ⟨q1, q2, q3⟩ := q; exact absurd (Eq.trans (Eq.symm q1) ‹nodL _ = false›) (by decide)) | (rename_i q; obtain ⟨q1, q2, q3⟩ := q; omega))⟩⟩
 have hs34 := (Bl.nextB hB hBw n33.below).size
 refine ⟨(SF.of_below _ hb34), ?_⟩
 have k33 := n33.blk.below hb34
 have g33 := n33.ge0 hB
 refine ysv (.o [10, 11, 12] 14) k33 [.int .i64 (nodT (inB l no)), .bool (nodL (inB l no)), .slice kp (nodC (inB l no)) kc, .slice vp (nodC (inB l no)) vc] (.t B [52]) fun W37 u37 k37 => ⟨(sft_upd u37 k33 (Nat.le_trans hBw g33) (by decide)), ?_⟩
 have k1 := u37.blkT (((((u3.blkT (n1.blk.below n2.below) kW'1 (by decide)).below hb4).below (below_drew W4)).below n33.below).below hb34) k33 (by decide)
 refine xlv (.r [15] 14) k1.rp ?_
 refine xb 1 2 k37 ?_
 have hk'5 := u37.own2 (own_mono hk hs34) k33 (by decide)
 refine xr 0 (args := #[.agg #[.int .i64 lo, .int .i64 hi], .slice kp (nodC (inB l no)) kc]) (span_fits lo hi _ (keysI (inB l no) (nodC (inB l no))) _ (intsN_of (own_sl hk'5) (keysI_len _ _))) fun W38 hb38 => ?_
 refine xin 4 (fitsI lo hi (keysI (inB l no) (nodC (inB l no)))) (0 : Int) (fun hc39 => ?_) (fun hc39 => ?_)
 · refine xd 1 (.t B [52]) ?_
   refine xm2 (.b [1, 2]) 0 3 ?_ ?_
   · have k37'1 := (k37.below hb38).below (below_drew W38)
     refine xlv 0 k37'1.rp ?_
     refine yc (.o [] 3) (args := #[.int .i64 no, .iface 53 (.int .i64 9)]) (.t B [52]) (fault_At no (some 9) [] _ _ rfl) ?_
     rintro _ W40 ⟨r40, rfl, hb40, hv40⟩
     refine ⟨(SF.of_below _ hb40), ?_⟩
     rw [atL_some] at hv40
     obtain ⟨t40, x40, rfl⟩ := hv40.iface
     have k2'10 := (((u37.blk ((k2.below n33.below).below hb34) (Ne.symm (Ne.symm d33_b2))).below hb38).below (below_drew W38)).below hb40
     have g2 := n2.ge0 (Bl.nextB (Below.refl B w) hBw n1.below)
     refine ysv (.o [] 4) k2'10 [.int .i64 (nodT (inB l no)), .bool (nodL (inB l no)), .slice kp (nodC (inB l no)) kc, .slice vp (nodC (inB l no)) vc] (.t B [52]) fun W41 u41 k41 => ⟨(sft_upd u41 k2'10 (Nat.le_trans hBw g2) (by decide)), ?_⟩
     have hB'10 := u41.below (Bl.nextB (Bl.nextB (Bl.nextB (u37.below (Bl.nextB (Bl.nextB hB hBw n33.below) hBw hb34) (Nat.le_trans hBw g33)) hBw hb38) hBw (below_drew W38)) hBw hb40) (Nat.le_trans hBw g2)
     have hO := (Only.upd_new ((((Only.upd_new (((((((show Only [93] w _ from (Only.of_below n1.below)).trans (Only.of_below n2.below)).trans (Only.of_upd u3 kW'1 (by decide))).trans (Only.of_below hb4)).trans (Only.of_below (below_drew W4))).trans (Only.of_below n33.below)).trans (Only.of_below hb34)) u37 g33).trans (Only.of_below hb38)).trans (Only.of_below (below_drew W38))).trans (Only.of_below hb40)) u41 g2)
     have k3'15 := u41.blkT ((((u37.blkT ((k3'4.below n33.below).below hb34) k33 (by decide)).below hb38).below (below_drew W38)).below hb40) k2'10 (by decide)
     have hv40'1 := hv40.upd u41 k2'10 (by decide)
     exact xec (.r [5] 5) k41 (.tuple #[.agg #[.int .i64 (nodT (inB l no)), .bool (nodL (inB l no)), .slice kp (nodC (inB l no)) kc, .slice vp (nodC (inB l no)) vc], .iface t40 (x40)]) ⟨hB'10, hO, k3'15, .inl ⟨by (unfold lookE; (repeat' split) <;> first | rfl | assumption | decide | omega | exact absurd (Eq.trans (Eq.symm ‹hasI _ _ = true›) ‹hasI _ _ = false›) (by decide) | (rename_i q; exact absurd ⟨by assumption, by assumption, by assumption⟩ q) | (rename_i q; obtain ⟨q1, q2, q3⟩ := q; exact absurd (Eq.trans (Eq.symm q1) ‹nodL _ = false›) (by decide)) | (rename_i q; obtain ⟨q1, q2, q3⟩ := q; omega)), _, _, _, _, _, _, _, _, _, _, rfl, by (unfold lookE; (repeat' split) <;> first | exact hv40'1 | (exfalso; omega) | contradiction | exact absurd (Eq.trans (Eq.symm ‹hasI _ _ = true›) ‹hasI _ _ = false›) (by decide) | (rename_i q; exact absurd ⟨by assumption, by assumption, by assumption⟩ q) | (rename_i q; obtain ⟨q1, q2, q3⟩ := q; exact absurd (Eq.trans (Eq.symm q1) ‹nodL _ = false›) (by decide)) | (rename_i q; obtain ⟨q1, q2, q3⟩ := q; omega))⟩⟩
   refine yc 0 (args := #[.int .i64 no, .iface 53 (.int .i64 9)]) (.t B [52]) (fault_At no (some 9) [] _ _ rfl) ?_
   rintro _ W42 ⟨r42, rfl, hb42, hv42⟩
   refine ⟨(SF.of_below _ hb42), ?_⟩
   rw [atL_some] at hv42
   obtain ⟨t42, x42, rfl⟩ := hv42.iface
   have k37'2 := ((k37.below hb38).below (below_drew W38)).below hb42
   refine xlv (.o [] 0) k37'2.rp ?_
   have k2'11 := (((u37.blk ((k2.below n33.below).below hb34) (Ne.symm (Ne.symm d33_b2))).below hb38).below (below_drew W38)).below hb42
   have g2 := n2.ge0 (Bl.nextB (Below.refl B w) hBw n1.below)
   refine ysv (.o [] 4) k2'11 [.int .i64 (nodT (inB l no)), .bool (nodL (inB l no)), .slice kp (nodC (inB l no)) kc, .slice vp (nodC (inB l no)) vc] (.t B [52]) fun W43 u43 k43 => ⟨(sft_upd u43 k2'11 (Nat.le_trans hBw g2) (by decide)), ?_⟩
   have hB'11 := u43.below (Bl.nextB (Bl.nextB (Bl.nextB (u37.below (Bl.nextB (Bl.nextB hB hBw n33.below) hBw hb34) (Nat.le_trans hBw g33)) hBw hb38) hBw (below_drew W38)) hBw hb42) (Nat.le_trans hBw g2)
   have hO := (Only.upd_new ((((Only.upd_new (((((((show Only [93] w _ from (Only.of_below n1.below)).trans (Only.of_below n2.below)).trans (Only.of_upd u3 kW'1 (by decide))).trans (Only.of_below hb4)).trans (Only.of_below (below_drew W4))).trans (Only.of_below n33.below)).trans (Only.of_below hb34)) u37 g33).trans (Only.of_below hb38)).trans (Only.of_below (below_drew W38))).trans (Only.of_below hb42)) u43 g2)
   have k3'16 := u43.blkT ((((u37.blkT ((k3'4.below n33.below).below hb34) k33 (by decide)).below hb38).below (below_drew W38)).below hb42) k2'11 (by decide)
   have hv42'1 := hv42.upd u43 k2'11 (by decide)
   exact xec (.r [5] 5) k43 (.tuple #[.agg #[.int .i64 (nodT (inB l no)), .bool (nodL (inB l no)), .slice kp (nodC (inB l no)) kc, .slice vp (nodC (inB l no)) vc], .iface t42 (x42)]) ⟨hB'11, hO, k3'16, .inl ⟨by (unfold lookE; (repeat' split) <;> first | rfl | assumption | decide | omega | exact absurd (Eq.trans (Eq.symm ‹hasI _ _ = true›) ‹hasI _ _ = false›) (by decide) | (rename_i q; exact absurd ⟨by assumption, by assumption, by assumption⟩ q) | (rename_i q; obtain ⟨q1, q2, q3⟩ := q; exact absurd (Eq.trans (Eq.symm q1) ‹nodL _ = false›) (by decide)) | (rename_i q; obtain ⟨q1, q2, q3⟩ := q; omega)), _, _, _, _, _, _, _, _, _, _, rfl, by (unfold lookE; (repeat' split) <;> first | exact hv42'1 | (exfalso; omega) | contradiction | exact absurd (Eq.trans (Eq.symm ‹hasI _ _ = true›) ‹hasI _ _ = false›) (by decide) | (rename_i q; exact absurd ⟨by assumption, by assumption, by assumption⟩ q) | (rename_i q; obtain ⟨q1, q2, q3⟩ := q; exact absurd (Eq.trans (Eq.symm q1) ‹nodL _ = false›) (by decide)) | (rename_i q; obtain ⟨q1, q2, q3⟩ := q; omega))⟩⟩
 refine xd 1 .z ?_
 have k37'3 := (k37.below hb38).below (below_drew W38)
 refine xb (.e [0] 1) 1 k37'3 ?_
 refine xg (.b [2]) [69, 70] (nodL (inB l no)) (fun hc44 => ?_) (fun hc44 => ?_)
 · have k3'17 := ((u37.blkT ((k3'4.below n33.below).below hb34) k33 (by decide)).below hb38).below (below_drew W38)
   refine xb (.e [3, 4, 5, 6] 7) 2 k3'17 ?_
   refine xg (.b [8, 9, 10]) [76, 77, 78] (deep != (0 : Int)) (fun hc45 => ?_) (fun hc45 => ?_)
   · have hc45 := ne_of_bne hc45
     refine xb (.e [11, 12, 13, 14] 15) 2 k3'17 ?_
     refine xb (.e [16, 17, 18] 19) 8 k3'17 ?_
     refine xwm (.e [20] 21) ((↑way.length : Int) + 1) (↑(way.length + 1) : Int) ?_
     refine xin (.r [22, 23, 24] 2) deep (↑(way.length + 1) : Int) (fun hc46 => ?_) (fun hc46 => ?_)
     · refine xd 1 (.t B [52]) ?_
       refine xm2 (.b [1, 2]) 0 3 ?_ ?_
       · have k37'4 := k37'3.below (below_drew W38.drew)
         refine xlv 0 k37'4.rp ?_
         refine yc (.o [] 3) (args := #[.int .i64 no, .iface 53 (.int .i64 10)]) (.t B [52]) (fault_At no (some 10) [] _ _ rfl) ?_
         rintro _ W47 ⟨r47, rfl, hb47, hv47⟩
         refine ⟨(SF.of_below _ hb47), ?_⟩
         rw [atL_some] at hv47
         obtain ⟨t47, x47, rfl⟩ := hv47.iface
         have k2'12 := ((((u37.blk ((k2.below n33.below).below hb34) (Ne.symm (Ne.symm d33_b2))).below hb38).below (below_drew W38)).below (below_drew W38.drew)).below hb47
         have g2 := n2.ge0 (Bl.nextB (Below.refl B w) hBw n1.below)
         refine ysv (.o [] 4) k2'12 [.int .i64 (nodT (inB l no)), .bool (nodL (inB l no)), .slice kp (nodC (inB l no)) kc, .slice vp (nodC (inB l no)) vc] (.t B [52]) fun W48 u48 k48 => ⟨(sft_upd u48 k2'12 (Nat.le_trans hBw g2) (by decide)), ?_⟩
         have hB'12 := u48.below (Bl.nextB (Bl.nextB (Bl.nextB (Bl.nextB (u37.below (Bl.nextB (Bl.nextB hB hBw n33.below) hBw hb34) (Nat.le_trans hBw g33)) hBw hb38) hBw (below_drew W38)) hBw (below_drew W38.drew)) hBw hb47) (Nat.le_trans hBw g2)
         have hO := (Only.upd_new (((((Only.upd_new (((((((show Only [93] w _ from (Only.of_below n1.below)).trans (Only.of_below n2.below)).trans (Only.of_upd u3 kW'1 (by decide))).trans (Only.of_below hb4)).trans (Only.of_below (below_drew W4))).trans (Only.of_below n33.below)).trans (Only.of_below hb34)) u37 g33).trans (Only.of_below hb38)).trans (Only.of_below (below_drew W38))).trans (Only.of_below (below_drew W38.drew))).trans (Only.of_below hb47)) u48 g2)
         have k3'18 := u48.blkT ((k3'17.below (below_drew W38.drew)).below hb47) k2'12 (by decide)
         have hv47'1 := hv47.upd u48 k2'12 (by decide)
         exact xec (.r [5] 5) k48 (.tuple #[.agg #[.int .i64 (nodT (inB l no)), .bool (nodL (inB l no)), .slice kp (nodC (inB l no)) kc, .slice vp (nodC (inB l no)) vc], .iface t47 (x47)]) ⟨hB'12, hO, k3'18, .inl ⟨by (unfold lookE; (repeat' split) <;> first | rfl | assumption | decide | omega | exact absurd (Eq.trans (Eq.symm ‹hasI _ _ = true›) ‹hasI _ _ = false›) (by decide) | (rename_i q; exact absurd ⟨by assumption, by assumption, by assumption⟩ q) | (rename_i q; obtain ⟨q1, q2, q3⟩ := q; exact absurd (Eq.trans (Eq.symm q1) ‹nodL _ = false›) (by decide)) | (rename_i q; obtain ⟨q1, q2, q3⟩ := q; omega)), _, _, _, _, _, _, _, _, _, _, rfl, by (unfold lookE; (repeat' split) <;> first | exact hv47'1 | (exfalso; omega) | contradiction | exact absurd (Eq.trans (Eq.symm ‹hasI _ _ = true›) ‹hasI _ _ = false›) (by decide) | (rename_i q; exact absurd ⟨by assumption, by assumption, by assumption⟩ q) | (rename_i q; obtain ⟨q1, q2, q3⟩ := q; exact absurd (Eq.trans (Eq.symm q1) ‹nodL _ = false›) (by decide)) | (rename_i q; obtain ⟨q1, q2, q3⟩ := q; omega))⟩⟩
       refine yc 0 (args := #[.int .i64 no, .iface 53 (.int .i64 10)]) (.t B [52]) (fault_At no (some 10) [] _ _ rfl) ?_
       rintro _ W49 ⟨r49, rfl, hb49, hv49⟩
       refine ⟨(SF.of_below _ hb49), ?_⟩
       rw [atL_some] at hv49
       obtain ⟨t49, x49, rfl⟩ := hv49.iface
       have k37'5 := (k37'3.below (below_drew W38.drew)).below hb49
       refine xlv (.o [] 0) k37'5.rp ?_
       have k2'13 := ((((u37.blk ((k2.below n33.below).below hb34) (Ne.symm (Ne.symm d33_b2))).below hb38).below (below_drew W38)).below (below_drew W38.drew)).below hb49
       have g2 := n2.ge0 (Bl.nextB (Below.refl B w) hBw n1.below)
       refine ysv (.o [] 4) k2'13 [.int .i64 (nodT (inB l no)), .bool (nodL (inB l no)), .slice kp (nodC (inB l no)) kc, .slice vp (nodC (inB l no)) vc] (.t B [52]) fun W50 u50 k50 => ⟨(sft_upd u50 k2'13 (Nat.le_trans hBw g2) (by decide)), ?_⟩
       have hB'13 := u50.below (Bl.nextB (Bl.nextB (Bl.nextB (Bl.nextB (u37.below (Bl.nextB (Bl.nextB hB hBw n33.below) hBw hb34) (Nat.le_trans hBw g33)) hBw hb38) hBw (below_drew W38)) hBw (below_drew W38.drew)) hBw hb49) (Nat.le_trans hBw g2)
       have hO := (Only.upd_new (((((Only.upd_new (((((((show Only [93] w _ from (Only.of_below n1.below)).trans (Only.of_below n2.below)).trans (Only.of_upd u3 kW'1 (by decide))).trans (Only.of_below hb4)).trans (Only.of_below (below_drew W4))).trans (Only.of_below n33.below)).trans (Only.of_below hb34)) u37 g33).trans (Only.of_below hb38)).trans (Only.of_below (below_drew W38))).trans (Only.of_below (below_drew W38.drew))).trans (Only.of_below hb49)) u50 g2)
       have k3'19 := u50.blkT ((k3'17.below (below_drew W38.drew)).below hb49) k2'13 (by decide)
       have hv49'1 := hv49.upd u50 k2'13 (by decide)
       exact xec (.r [5] 5) k50 (.tuple #[.agg #[.int .i64 (nodT (inB l no)), .bool (nodL (inB l no)), .slice kp (nodC (inB l no)) kc, .slice vp (nodC (inB l no)) vc], .iface t49 (x49)]) ⟨hB'13, hO, k3'19, .inl ⟨by (unfold lookE; (repeat' split) <;> first | rfl | assumption | decide | omega | exact absurd (Eq.trans (Eq.symm ‹hasI _ _ = true›) ‹hasI _ _ = false›) (by decide) | (rename_i q; exact absurd ⟨by assumption, by assumption, by assumption⟩ q) | (rename_i q; obtain ⟨q1, q2, q3⟩ := q; exact absurd (Eq.trans (Eq.symm q1) ‹nodL _ = false›) (by decide)) | (rename_i q; obtain ⟨q1, q2, q3⟩ := q; omega)), _, _, _, _, _, _, _, _, _, _, rfl, by (unfold lookE; (repeat' split) <;> first | exact hv49'1 | (exfalso; omega) | contradiction | exact absurd (Eq.trans (Eq.symm ‹hasI _ _ = true›) ‹hasI _ _ = false›) (by decide) | (rename_i q; exact absurd ⟨by assumption, by assumption, by assumption⟩ q) | (rename_i q; obtain ⟨q1, q2, q3⟩ := q; exact absurd (Eq.trans (Eq.symm q1) ‹nodL _ = false›) (by decide)) | (rename_i q; obtain ⟨q1, q2, q3⟩ := q; omega))⟩⟩
     refine xlv 5 k37'3.rp ?_
     have k2'14 := ((u37.blk ((k2.below n33.below).below hb34) (Ne.symm (Ne.symm d33_b2))).below hb38).below (below_drew W38)
     refine xsv 0 k2'14 [.int .i64 (nodT (inB l no)), .bool (nodL (inB l no)), .slice kp (nodC (inB l no)) kc, .slice vp (nodC (inB l no)) vc] fun W51 u51 k51 => ?_
     have g2 := n2.ge0 (Bl.nextB (Below.refl B w) hBw n1.below)
     have hB'14 := u51.below (Bl.nextB (Bl.nextB (u37.below (Bl.nextB (Bl.nextB hB hBw n33.below) hBw hb34) (Nat.le_trans hBw g33)) hBw hb38) hBw (below_drew W38)) (Nat.le_trans hBw g2)
     have hO := (Only.upd_new (((Only.upd_new (((((((show Only [93] w _ from (Only.of_below n1.below)).trans (Only.of_below n2.below)).trans (Only.of_upd u3 kW'1 (by decide))).trans (Only.of_below hb4)).trans (Only.of_below (below_drew W4))).trans (Only.of_below n33.below)).trans (Only.of_below hb34)) u37 g33).trans (Only.of_below hb38)).trans (Only.of_below (below_drew W38))) u51 g2)
     have k3'20 := u51.blkT k3'17 k2'14 (by decide)
     have hk'6 := u51.own2 (own_below (own_below hk'5 hb38) (below_drew W38)) k2'14 (by decide)
     have hv_'4 := u51.own2 (own_below (own_below (u37.own2 (own_mono hv_ hs34) k33 (by decide)) hb38) (below_drew W38)) k2'14 (by decide)
     exact xec 4 k51 (.tuple #[.agg #[.int .i64 (nodT (inB l no)), .bool (nodL (inB l no)), .slice kp (nodC (inB l no)) kc, .slice vp (nodC (inB l no)) vc], .nilIface]) ⟨hB'14, hO, k3'20, .inr ⟨by (unfold lookE; (repeat' split) <;> first | rfl | assumption | decide | omega | exact absurd (Eq.trans (Eq.symm ‹hasI _ _ = true›) ‹hasI _ _ = false›) (by decide) | (rename_i q; exact absurd ⟨by assumption, by assumption, by assumption⟩ q) | (rename_i q; obtain ⟨q1, q2, q3⟩ := q; exact absurd (Eq.trans (Eq.symm q1) ‹nodL _ = false›) (by decide)) | (rename_i q; obtain ⟨q1, q2, q3⟩ := q; omega)), by assumption, _, _, _, _, rfl, hk'6, hv_'4⟩⟩
   have hc45 := eq_of_bne_false hc45
   refine xlv (.r [11, 12, 13, 14, 15, 16, 17, 18, 19, 20, 21, 22, 23, 24] 8) k37'3.rp ?_
   have k2'15 := ((u37.blk ((k2.below n33.below).below hb34) (Ne.symm (Ne.symm d33_b2))).below hb38).below (below_drew W38)
   refine xsv 0 k2'15 [.int .i64 (nodT (inB l no)), .bool (nodL (inB l no)), .slice kp (nodC (inB l no)) kc, .slice vp (nodC (inB l no)) vc] fun W52 u52 k52 => ?_
   have g2 := n2.ge0 (Bl.nextB (Below.refl B w) hBw n1.below)
   have hB'15 := u52.below (Bl.nextB (Bl.nextB (u37.below (Bl.nextB (Bl.nextB hB hBw n33.below) hBw hb34) (Nat.le_trans hBw g33)) hBw hb38) hBw (below_drew W38)) (Nat.le_trans hBw g2)
   have hO := (Only.upd_new (((Only.upd_new (((((((show Only [93] w _ from (Only.of_below n1.below)).trans (Only.of_below n2.below)).trans (Only.of_upd u3 kW'1 (by decide))).trans (Only.of_below hb4)).trans (Only.of_below (below_drew W4))).trans (Only.of_below n33.below)).trans (Only.of_below hb34)) u37 g33).trans (Only.of_below hb38)).trans (Only.of_below (below_drew W38))) u52 g2)
   have k3'21 := u52.blkT k3'17 k2'15 (by decide)
   have hk'7 := u52.own2 (own_below (own_below hk'5 hb38) (below_drew W38)) k2'15 (by decide)
   have hv_'5 := u52.own2 (own_below (own_below (u37.own2 (own_mono hv_ hs34) k33 (by decide)) hb38) (below_drew W38)) k2'15 (by decide)
   exact xec 4 k52 (.tuple #[.agg #[.int .i64 (nodT (inB l no)), .bool (nodL (inB l no)), .slice kp (nodC (inB l no)) kc, .slice vp (nodC (inB l no)) vc], .nilIface]) ⟨hB'15, hO, k3'21, .inr ⟨by (unfold lookE; (repeat' split) <;> first | rfl | assumption | decide | omega | exact absurd (Eq.trans (Eq.symm ‹hasI _ _ = true›) ‹hasI _ _ = false›) (by decide) | (rename_i q; exact absurd ⟨by assumption, by assumption, by assumption⟩ q) | (rename_i q; obtain ⟨q1, q2, q3⟩ := q; exact absurd (Eq.trans (Eq.symm q1) ‹nodL _ = false›) (by decide)) | (rename_i q; obtain ⟨q1, q2, q3⟩ := q; omega)), by assumption, _, _, _, _, rfl, hk'7, hv_'5⟩⟩
 refine xlv (.r [3, 4, 5, 6, 7, 8, 9, 10, 11, 12, 13, 14, 15, 16, 17, 18, 19, 20, 21, 22, 23, 24] 8) k37'3.rp ?_
 have k2'16 := ((u37.blk ((k2.below n33.below).below hb34) (Ne.symm (Ne.symm d33_b2))).below hb38).below (below_drew W38)
 refine xsv 0 k2'16 [.int .i64 (nodT (inB l no)), .bool (nodL (inB l no)), .slice kp (nodC (inB l no)) kc, .slice vp (nodC (inB l no)) vc] fun W53 u53 k53 => ?_
 have g2 := n2.ge0 (Bl.nextB (Below.refl B w) hBw n1.below)
 have hB'16 := u53.below (Bl.nextB (Bl.nextB (u37.below (Bl.nextB (Bl.nextB hB hBw n33.below) hBw hb34) (Nat.le_trans hBw g33)) hBw hb38) hBw (below_drew W38)) (Nat.le_trans hBw g2)
 have hO := (Only.upd_new (((Only.upd_new (((((((show Only [93] w _ from (Only.of_below n1.below)).trans (Only.of_below n2.below)).trans (Only.of_upd u3 kW'1 (by decide))).trans (Only.of_below hb4)).trans (Only.of_below (below_drew W4))).trans (Only.of_below n33.below)).trans (Only.of_below hb34)) u37 g33).trans (Only.of_below hb38)).trans (Only.of_below (below_drew W38))) u53 g2)
 have k3'22 := u53.blkT (((u37.blkT ((k3'4.below n33.below).below hb34) k33 (by decide)).below hb38).below (below_drew W38)) k2'16 (by decide)
 have hk'8 := u53.own2 (own_below (own_below hk'5 hb38) (below_drew W38)) k2'16 (by decide)
 have hv_'6 := u53.own2 (own_below (own_below (u37.own2 (own_mono hv_ hs34) k33 (by decide)) hb38) (below_drew W38)) k2'16 (by decide)
 exact xec 4 k53 (.tuple #[.agg #[.int .i64 (nodT (inB l no)), .bool (nodL (inB l no)), .slice kp (nodC (inB l no)) kc, .slice vp (nodC (inB l no)) vc], .nilIface]) ⟨hB'16, hO, k3'22, .inr ⟨by (unfold lookE; (repeat' split) <;> first | rfl | assumption | decide | omega | exact absurd (Eq.trans (Eq.symm ‹hasI _ _ = true›) ‹hasI _ _ = false›) (by decide) | (rename_i q; exact absurd ⟨by assumption, by assumption, by assumption⟩ q) | (rename_i q; obtain ⟨q1, q2, q3⟩ := q; exact absurd (Eq.trans (Eq.symm q1) ‹nodL _ = false›) (by decide)) | (rename_i q; obtain ⟨q1, q2, q3⟩ := q; omega)), by assumption, _, _, _, _, rfl, hk'8, hv_'6⟩⟩
end Go.Proofs.YtinegkldgjhnpaaGreatDoor
namespace Go.Proofs.YtinegkldgjhnpaaGreatDoor
open Go.RowKit Go.Extern.Stop Go.Stop Go.Extern
set_option linter.unusedVariables false
attribute [local irreducible] wpList wpAnyH Code.wp Oper.wp Go

/-- a leaf's first k entries -/
def leafL (K : List Int) (Vs : List (List UInt8)) (no : Int) (k : Nat) : List Ent := (List.range k).map fun j => (K.getD j 0, Vs.getD j [], no)
theorem leafL_len (K : List Int) (Vs : List (List UInt8)) (no : Int) (k : Nat) : (leafL K Vs no k).length = k := by simp [leafL]
theorem leafL_snoc (K : List Int) (Vs : List (List UInt8)) (no : Int) (k : Nat) : leafL K Vs no (k + 1) = leafL K Vs no k ++ [(K.getD k 0, Vs.getD k [], no)] := by simp [leafL, List.range_succ]
theorem leaf_row (es : List Ent) (K : List Int) (Vs : List (List UInt8)) (no : Int) (k : Nat) : (es ++ leafL K Vs no k).flatMap entC ++ [.int .i64 (K.getD k 0), .string ⟨(Vs.getD k []).toArray⟩, .int .i64 no] = (es ++ leafL K Vs no (k + 1)).flatMap entC := by
  rw [leafL_snoc, ← List.append_assoc, List.flatMap_append (xs := es ++ leafL K Vs no k)]
  rfl
def LeafP (B bw : Nat) (c1 c3 c4 c5 c6 c7 : Value) (pw : Option Addr) (cw : Nat) (way : List Int) (c9 : Value) (es : List Ent) (K : List Int) (Vs : List (List UInt8)) (no : Int) (n : Nat) (w : World) (e : Ending) (w' : World) : Prop :=
  ∃ u pe ce, e = .returned u ∧ Below B w w' ∧ Only [93, 108] w w' ∧ Blk w' bw [.slice pe (es.length + n) ce, c1, .int .i64 (↑(way.length + 1) : Int), c3, c4, c5, c6, c7, .slice pw way.length cw, c9] 93 ∧ w'.ownsRow B 108 3 (.slice pe (es.length + n) ce) (es.length + n) ((es ++ leafL K Vs no n).flatMap entC)
set_option maxRecDepth 100000 in
set_option maxHeartbeats 4000000 in
theorem walker_leaf (B bw : Nat) (c1 c2 c3 c4 c5 c6 c7 c9 : Value) (pe : Option Addr) (ce : Nat) (es : List Ent) (pw : Option Addr) (cw : Nat) (way : List Int) (no : Int) (nt : Int) (nl : Bool) (kp vp : Option Addr) (n kc vc : Nat) (K : List Int) (Vs : List (List UInt8)) (w : World) (hBb : B ≤ bw) (hBw : B ≤ w.heap.size) (kW : Blk w bw [.slice pe es.length ce, c1, c2, c3, c4, c5, c6, c7, .slice pw way.length cw, c9] 93) (hE : w.ownsRow B 108 3 (.slice pe es.length ce) es.length (es.flatMap entC)) (hKs : ∀ W, Below B w W → Only [93, 108] w W → Sl W (.slice kp n kc) n (K.map (Value.int .i64))) (hVs : ∀ W, Below B w W → Only [93, 108] w W → Sl W (.slice vp n vc) n (Vs.map sv)) (hKl : K.length = n) (hVl : Vs.length = n) (hwl : way.length ≤ 1000000) (hn : es.length + n ≤ 1000000) :
    Calls Tryz.prog 81 #[.pointer (some ⟨bw, 0, none⟩), .int .i64 no, .agg #[.int .i64 nt, .bool nl, .slice kp n kc, .slice vp n vc]] w (LeafP B bw c1 c3 c4 c5 c6 c7 pw cw way c9 es K Vs no n w) := by
 refine zin 46 Tryz.func81 ?_
 refine xa 2 [.int .i64 nt, .bool nl, .slice kp n kc, .slice vp n vc] 52 fun b1 W1 n1 => ?_
 have kW'1 := kW.below n1.below
 refine xb 8 8 kW'1 ?_
 refine xwm 1 ((↑way.length : Int) + 1) (↑(way.length + 1) : Int) ?_
 refine xs 3 kW'1 [.slice pe es.length ce, c1, .int .i64 (↑(way.length + 1) : Int), c3, c4, c5, c6, c7, .slice pw way.length cw, c9] fun W2 u2 k2 => ?_
 have k1 := u2.blkT n1.blk kW'1 (by decide)
 refine xb 5 2 k1 ?_
 have hE'1 := u2.own2 (own_below hE n1.below) kW'1 (by decide)
 have hB := u2.below (Bl.nextB (Below.refl B w) hBw n1.below) hBb
 have hO := (show Only [93, 108] w _ from (Only.of_below n1.below)).trans (Only.of_upd u2 kW'1 (by decide))
 refine zl 5 46 (fun zm zkv V => ∃ (i : Nat) (pe : Option Addr) (ce : Nat), zkv = [(0, .pointer (some ⟨bw, 0, none⟩)), (1, .int .i64 no), (5, .pointer (some ⟨b1, 0, none⟩)), (19, .slice kp n kc), (20, .int .i64 (↑n : Int)), (21, .int .i64 (↑i : Int))] ∧ zm = n - ((↑i : Int)).toNat ∧ Below B w V ∧ Only [93, 108] w V ∧ Blk V bw ([.slice pe (es.length + i) ce, c1, .int .i64 (↑(way.length + 1) : Int), c3, c4, c5, c6, c7, .slice pw way.length cw, c9]) 93 ∧ Blk V b1 ([.int .i64 nt, .bool nl, .slice kp n kc, .slice vp n vc]) 52 ∧ V.ownsRow B 108 3 (.slice pe (es.length + i) ce) (es.length + i) ((es ++ leafL K Vs no i).flatMap entC) ∧ i ≤ n) ⟨0, _, _, rfl, rfl, hB, hO, k2, k1, (by simpa [leafL] using hE'1), Nat.zero_le _⟩ ?_
 rintro _ _ W3 ⟨i, pe, ce, rfl, rfl, hB_3, hO_3, k3_bw, k3_b1, hE, hi⟩ J3 hJ3 r3
 refine xid 6 ((↑i : Int) < (↑n : Int)) (fun hc4 => ?_) (fun hc4 => ?_)
 · refine xx 7 _ n i 1 (IntsN.elem (hKs _ hB_3 hO_3) hKl (k := i) (by omega)).1 ?_
   refine xl 0 ((IntsN.elem (hKs _ hB_3 hO_3) hKl (k := i) (by omega)).2) ?_
   refine xd 4 (.t B [93, 108]) ?_
   have k3_b1'1 := k3_b1.below (below_drew W3)
   refine xbt (.e [0, 1, 2, 3, 4, 6, 7] 8) 3 B [93, 108] k3_b1'1 ?_
   have hB'1 := Bl.nextB hB_3 hBw (below_drew W3)
   have hO'1 := hO_3.trans (Only.of_below (below_drew W3))
   refine xx (.e [9] 10) _ n i 1 (Strs.elem (hVs _ hB'1 hO'1) hVl (k := i) (by omega)).1 ?_
   refine xlt (.e [] 11) (.t B [93, 108]) (fun V hV => (Strs.elem (hVs _ (sft_keep hB'1 hV hBw) (hO'1.trans hV.2)) hVl (k := i) (by omega)).2) ?_
   refine xm2 (.b [12, 13]) 5 14 ?_ ?_
   · have k3_bw'1 := k3_bw.below (below_drew W3)
     refine xb 0 0 k3_bw'1 ?_
     refine xbs (.o [] 14) 1 [.int .i64 (K.getD i 0), .string ⟨(Vs.getD i []).toArray⟩, .int .i64 no] 108 fun b5 W5 n5 => ?_
     have g5 := n5.ge0 hB'1
     have hE'2 := own_below hE (below_drew W3)
     have r5_hE := own_ne hE'2 n5
     have hE'3 := own_below hE'2 n5.below
     have hB'2 := Bl.nextB hB'1 hBw n5.below
     refine ybi (.o [] 15) (.t B [93, 108]) fun _ _ _ _ zJ zQ zo zx zy zK => op_app (m := 1) (news := [.int .i64 (K.getD i 0), .string ⟨(Vs.getD i []).toArray⟩, .int .i64 no]) (.agg #[.int .i64 0, .string ⟨#[]⟩, .int .i64 0]) 3 32 ((es.length + (i + 1))) (((es ++ leafL K Vs no (i + 1)).flatMap entC)) zo Tryz.underlying25 (by kernel_rfl) rfl (by decide) zx hE'3 zy (n5.blk.sl 1 1 (by decide) (by decide)) rfl (by simp [Value.oneCell']) (by unfold maxLen; omega) (by omega) (Nat.le_trans hBw hB'2.size) (by omega) (leaf_row _ _ _ _ _) fun px6 cx6 W6 o6 hg6 hb6 => ?_
     refine zK _ _ (sft_grown hb6 hg6 hE'3 (by decide)) ?_
     have k3_bw'2 := (k3_bw'1.below n5.below).grown hg6 hE'3 (by decide)
     refine ys (.o [16, 17, 18] 19) k3_bw'2 [.slice px6 (es.length + (i + 1)) cx6, c1, .int .i64 (↑(way.length + 1) : Int), c3, c4, c5, c6, c7, .slice pw way.length cw, c9] (.t B [93, 108]) fun W7 u7 k7 => ⟨(sft_upd u7 k3_bw'2 hBb (by decide)), ?_⟩
     refine xwm 4 ((↑i : Int) + 1) (↑(i + 1) : Int) ?_
     have hB'3 := u7.below (hB'2.trans hb6) hBb
     have hO'2 := ((hO'1.trans (Only.of_below n5.below)).trans (Only.of_grown hg6 hE'3 (by decide))).trans (Only.of_upd u7 k3_bw'2 (by decide))
     have k3_b1'2 := u7.blkT ((k3_b1'1.below n5.below).grown hg6 hE'3 (by decide)) k3_bw'2 (by decide)
     have o6'1 := u7.own2 o6 k3_bw'2 (by decide)
     exact ze 2 (hJ3 _ _ _ ⟨i + 1, _, _, rfl, rfl, hB'3, hO'2, k7, k3_b1'2, o6'1, by omega⟩ (by omega))
   refine xbs 0 1 [.int .i64 (K.getD i 0), .string ⟨(Vs.getD i []).toArray⟩, .int .i64 no] 108 fun b8 W8 n8 => ?_
   have g8 := n8.ge0 hB'1
   have hE'4 := own_below hE (below_drew W3)
   have r8_hE := own_ne hE'4 n8
   have k3_bw'3 := (k3_bw.below (below_drew W3)).below n8.below
   refine xb (.o [] 5) 0 k3_bw'3 ?_
   have hE'5 := own_below hE'4 n8.below
   have hB'4 := Bl.nextB hB'1 hBw n8.below
   refine ybi (.o [] 15) (.t B [93, 108]) fun _ _ _ _ zJ zQ zo zx zy zK => op_app (m := 1) (news := [.int .i64 (K.getD i 0), .string ⟨(Vs.getD i []).toArray⟩, .int .i64 no]) (.agg #[.int .i64 0, .string ⟨#[]⟩, .int .i64 0]) 3 32 ((es.length + (i + 1))) (((es ++ leafL K Vs no (i + 1)).flatMap entC)) zo Tryz.underlying25 (by kernel_rfl) rfl (by decide) zx hE'5 zy (n8.blk.sl 1 1 (by decide) (by decide)) rfl (by simp [Value.oneCell']) (by unfold maxLen; omega) (by omega) (Nat.le_trans hBw hB'4.size) (by omega) (leaf_row _ _ _ _ _) fun px9 cx9 W9 o9 hg9 hb9 => ?_
   refine zK _ _ (sft_grown hb9 hg9 hE'5 (by decide)) ?_
   have k3_bw'4 := k3_bw'3.grown hg9 hE'5 (by decide)
   refine ys (.o [16, 17, 18] 19) k3_bw'4 [.slice px9 (es.length + (i + 1)) cx9, c1, .int .i64 (↑(way.length + 1) : Int), c3, c4, c5, c6, c7, .slice pw way.length cw, c9] (.t B [93, 108]) fun W10 u10 k10 => ⟨(sft_upd u10 k3_bw'4 hBb (by decide)), ?_⟩
   refine xwm 4 ((↑i : Int) + 1) (↑(i + 1) : Int) ?_
   have hB'5 := u10.below (hB'4.trans hb9) hBb
   have hO'3 := ((hO'1.trans (Only.of_below n8.below)).trans (Only.of_grown hg9 hE'5 (by decide))).trans (Only.of_upd u10 k3_bw'4 (by decide))
   have k3_b1'3 := u10.blkT ((k3_b1'1.below n8.below).grown hg9 hE'5 (by decide)) k3_bw'4 (by decide)
   have o9'1 := u10.own2 o9 k3_bw'4 (by decide)
   exact ze 2 (hJ3 _ _ _ ⟨i + 1, _, _, rfl, rfl, hB'5, hO'3, k10, k3_b1'3, o9'1, by omega⟩ (by omega))
 refine xe 4 (.tuple #[]) ?_
 obtain rfl : i = n := by omega
 exact ⟨_, _, _, rfl, hB_3, hO_3, k3_bw, hE⟩
end Go.Proofs.YtinegkldgjhnpaaGreatDoor
namespace Go.Proofs.YtinegkldgjhnpaaGreatDoor
open Go.RowKit Go.Extern.Stop Go.Stop Go.Extern
set_option linter.unusedVariables false
/-- two rows lie apart -/
def Apart (u v : Value) : Prop := ∀ j, u.ownBlock = some j → v.ownBlock ≠ some j
theorem Apart.symm {u v : Value} (h : Apart u v) : Apart v u := fun j h1 h2 => h j h2 h1
theorem Apart.grow {w : World} {u v u' : Value} {base e size n : Nat} {xs : List Value} (h : Apart u v) (k : w.ownsRow base e size v n xs) (hl : u'.ownBlock = u.ownBlock ∨ u'.ownBlock = some w.heap.size) : Apart u' v := by
  rintro j h1 h2
  rcases hl with hl | hl
  · exact h j (hl ▸ h1) h2
  · rw [hl, Option.some.injEq] at h1
    subst h1
    have := (k.lt _ h2).2
    omega
theorem Apart.row {w W : World} {u v : Value} {base e size n : Nat} {xs : List Value} (h : Apart u v) (k : w.ownsRow base e size v n xs) (hg : w.grownBy W u.ownBlock) : W.ownsRow base e size v n xs := by
  obtain ⟨h1, h2⟩ := k
  refine ⟨h1, ?_⟩
  rcases h2 with h2 | ⟨g, cap, cur, rfl, hb, hh, r⟩
  · exact Or.inl h2
  · exact Or.inr ⟨g, cap, cur, rfl, hb, (hg.block g (Array.getElem?_eq_some_iff.1 hh).1 (fun q => h g q.symm rfl)).trans hh, r⟩
theorem Apart.of_lt {w W : World} {u v : Value} {base base2 e e2 size size2 n n2 : Nat} {xs ys : List Value} (k : w.ownsRow base e size u n xs) (q : W.ownsRow base2 e2 size2 v n2 ys) (h : w.heap.size ≤ base2) : Apart u v := fun j h1 h2 => by
  have := (k.lt j h1).2
  have := (q.lt j h2).1
  omega
theorem Apart.nil (v : Value) : Apart (.slice none 0 0) v := fun j h => by cases h
/-- a row cut short at its end is a row -/
theorem own_cut {w : World} {base e n m c : Nat} {p : Option Addr} {xs : List Value} (k : w.ownsRow base e 1 (.slice p n c) n xs) (hm : m ≤ n) (hp : p.isSome = true) : w.ownsRow base e 1 (.slice p m c) m (xs.take m) := by
  obtain ⟨h1, h2⟩ := k
  refine ⟨by rw [List.length_take]; omega, ?_⟩
  rcases h2 with ⟨h2, _⟩ | ⟨g, cap, cur, hv, hb, hh, hc, hr1, hr2, hr3⟩
  · cases h2; cases hp
  · simp only [Value.slice.injEq] at hv
    obtain ⟨rfl, _, rfl⟩ := hv
    refine Or.inr ⟨g, c, cur, rfl, hb, hh, by omega, hr1, hr2, ?_⟩
    rw [← hr3, List.take_take]
    congr 1
    omega
theorem op_app_at {P : Program} {a : Act} {w : World} {K : Act → World → Prop} {Q : Exit → Act → World → Prop} {o : Oper} {s x : Operand} {t e te : TypeId} {base : Nat} {v : Value} {n : Nat} {xs : List Value} {b m c : Nat} {news : List Value} (z : Value) (size bytes n' : Nat) (xs' : List Value)
    (ho : o.op = .call { callee := .builtin .append, args := #[s, x], argTypes := #[t, t] }) (ht : P.underlying t = some (.slice e)) (hi : (P.info? e).map (fun i => (i.zero, i.size, i.bytes)) = some (some z, size, bytes)) (hzs : z.cells.size = size) (hsz : 0 < size) (hs : a.eval s = v)
    (hown : w.ownsRow base e size v n xs) (hx : a.eval x = .slice (some ⟨b, 0, none⟩) m c) (hnew : Blk w b news te) (hl : news.length = m * size) (h1 : ∀ u ∈ news, u.oneCell' = true) (h63 : n + m ≤ maxLen) (hbytes : (n + m) * bytes ≤ 140737488355328) (hbase : base ≤ w.heap.size) (hn : n + m = n') (hxs : xs ++ news = xs')
    (h : ∀ p c W, W.ownsRow base e size (.slice p n' c) n' xs' → w.grownBy W v.ownBlock → Below base w W → ((Value.slice p n' c).ownBlock = v.ownBlock ∨ (Value.slice p n' c).ownBlock = some w.heap.size) → K (a.put o.dst (.slice p n' c)) W) : o.wp P a w K Q := by
  cases hq : P.info? e with
  | none => simp [hq] at hi
  | some i =>
    simp only [hq, Option.map_some, Option.some.injEq, Prod.mk.injEq] at hi
    have hc : ∀ j u, news[j]? = some u → w.cell? ((⟨b, 0, none⟩ : Addr).add j) = some u := fun j u hj => by
      have hc := hnew.cell hj
      by_cases h0 : j = 0
      · subst h0; simpa [Addr.add] using hc
      · simpa [Addr.add, h0] using hc
    obtain ⟨v', W, hr, h2, h3, _, h5⟩ := run_append_own_at (P := P) w base t o.type e i z size bytes ht hq hi.1 hi.2.1 hi.2.2 hzs hsz v n xs hown ⟨b, 0, none⟩ m c news hl hc h1 h63 hbytes hbase
    subst hn hxs
    obtain ⟨p, c2, rfl⟩ := (own_sl h2).slice
    unfold Oper.wp execOp
    simp only [ho, resolve, invoke, builtin, Sem.run_bind, Sem.run_pure, Result.andThen_ok, List.map_toArray, List.map_cons, List.map_nil, hs, hx, hr]
    exact h p c2 W h2 h3 (grown_below h3 hown (Nat.le_refl _) hbase) h5
end Go.Proofs.YtinegkldgjhnpaaGreatDoor
namespace Go.Proofs.YtinegkldgjhnpaaGreatDoor
open Go.RowKit Go.Extern.Stop Go.Stop Go.Extern
set_option linter.unusedVariables false
/-- what a walker has found so far; a fault: the blocks of its way, and its number -/
structure WS where
  es : List Ent
  bs : List Int
  deep : Int
  looked : Nat
  fs : List (List Int × Int)
  dry : Bool
def noteW (way bs : List Int) (c : Int) (s : WS) : WS := { s with fs := s.fs ++ [(way ++ bs, c)] }
/-- the child of the inner node no, its value val, its span p; V: the visit one deeper -/
def childW (V : List Int → Int → Int → Int → WS → WS) (way : List Int) (no : Int) (val : List UInt8) (p : Int × Int) (s : WS) : WS :=
  if rootE val = 0 then V (way ++ [no]) (rootN val : Int) p.1 p.2 s else noteW way [no] (rootE val) s
def nodK (l : List UInt8) (no : Int) : List Int := keysI (inB l no) (nodC (inB l no))
def nodV (l : List UInt8) (no : Int) : List (List UInt8) := valsL (inB l no) (nodC (inB l no))
/-- child number i, unless the fuel is used up -/
def roundW (V : List Int → Int → Int → Int → WS → WS) (l : List UInt8) (way : List Int) (no hi : Int) (s : WS) (i : Nat) : WS :=
  if s.dry = true then s else childW V way no ((nodV l no).getD i []) (partAt hi (nodK l no) i) s
def loopW (V : List Int → Int → Int → Int → WS → WS) (l : List UInt8) (way : List Int) (no hi : Int) (k : Nat) (s : WS) : WS := (List.range k).foldl (roundW V l way no hi) s
/-- a visit at most d deep -/
def visitF (l : List UInt8) (tree fuel : Int) : Nat → List Int → Int → Int → Int → WS → WS
  | 0, _, _, _, _, s => s
  | d + 1, way, no, lo, hi, s =>
    if fuel ≤ s.looked then { noteW way [no] 12 s with dry := true }
    else if lookE l way no tree lo hi s.deep ≠ 0 then noteW way [no] (lookE l way no tree lo hi s.deep) { s with looked := s.looked + 1 }
    else if nodL (inB l no) = true then { s with looked := s.looked + 1, bs := s.bs ++ [no], deep := ((way.length + 1 : Nat) : Int), es := s.es ++ leafL (nodK l no) (nodV l no) no (nodC (inB l no)) }
    else loopW (visitF l tree fuel d) l way no hi (nodC (inB l no)) { s with looked := s.looked + 1, bs := s.bs ++ [no] }
theorem loopW_succ (V : List Int → Int → Int → Int → WS → WS) (l : List UInt8) (way : List Int) (no hi : Int) (k : Nat) (s : WS) : loopW V l way no hi (k + 1) s = roundW V l way no hi (loopW V l way no hi k s) k := by
  simp [loopW, List.range_succ]
theorem roundW_dry (V : List Int → Int → Int → Int → WS → WS) (l : List UInt8) (way : List Int) (no hi : Int) (s : WS) (i : Nat) (h : s.dry = true) : roundW V l way no hi s i = s := by simp [roundW, h]
/-- once the fuel is used up nothing comes -/
theorem loopW_dry (V : List Int → Int → Int → Int → WS → WS) (l : List UInt8) (way : List Int) (no hi : Int) (s : WS) {k n : Nat} (hk : k ≤ n) (h : (loopW V l way no hi k s).dry = true) : loopW V l way no hi n s = loopW V l way no hi k s := by
  induction n with
  | zero => obtain rfl : k = 0 := by omega
            rfl
  | succ n ih =>
    rcases Nat.lt_or_ge n k with q | q
    · obtain rfl : k = n + 1 := by omega
      rfl
    · rw [loopW_succ, ih q, roundW_dry _ _ _ _ _ _ _ h]
/-- the faults lie in memory -/
def FltsW (w : World) : List (List Int × Int) → List Value → Prop
  | [], [] => True
  | f :: r, v :: q => ErrV w (f.1.map some) (some f.2) v ∧ FltsW w r q
  | _, _ => False
theorem FltsW.kept {w W : World} (hb : ∀ blk cs, Blk w blk cs 72 → Blk W blk cs 72) : ∀ {fs : List (List Int × Int)} {vs : List Value}, FltsW w fs vs → FltsW W fs vs
  | [], [], h => h
  | _ :: _, _ :: _, h => ⟨h.1.kept hb, FltsW.kept hb h.2⟩
  | [], _ :: _, h => h.elim
  | _ :: _, [], h => h.elim
theorem FltsW.only {T : List TypeId} {w W : World} {fs : List (List Int × Int)} {vs : List Value} (h : FltsW w fs vs) (k : Only T w W) (hT : T.contains 72 = false) : FltsW W fs vs := h.kept fun _ _ q => q.only k hT
theorem FltsW.below {w W : World} {fs : List (List Int × Int)} {vs : List Value} (h : FltsW w fs vs) (hb : Below w.heap.size w W) : FltsW W fs vs := h.kept fun _ _ q => q.below hb
theorem FltsW.snoc {w : World} {f : List Int × Int} {v : Value} (hv : ErrV w (f.1.map some) (some f.2) v) : ∀ {fs : List (List Int × Int)} {vs : List Value}, FltsW w fs vs → FltsW w (fs ++ [f]) (vs ++ [v])
  | [], [], _ => ⟨hv, trivial⟩
  | _ :: _, _ :: _, h => ⟨h.1, FltsW.snoc hv h.2⟩
  | [], _ :: _, h => h.elim
  | _ :: _, [], h => h.elim
/-- a walker's state in memory -/
structure WalkR (B bw Bi b : Nat) (pi : Option Addr) (ni ci : Nat) (l : List UInt8) (tree fuel : Int) (way : List Int) (s : WS) (pe pb pf pw : Option Addr) (ce cb cf cw : Nat) (fv : List Value) (w : World) : Prop where
  blk : Blk w bw [.slice pe s.es.length ce, .slice pb s.bs.length cb, .int .i64 s.deep, .int .i64 (s.looked : Int), .slice pf s.fs.length cf, .pointer (some ⟨b, 0, none⟩), .int .i64 tree, .int .i64 fuel, .slice pw way.length cw, .bool s.dry] 93
  ents : w.ownsRow B 108 3 (.slice pe s.es.length ce) s.es.length (s.es.flatMap entC)
  blks : w.ownsRow B 3 1 (.slice pb s.bs.length cb) s.bs.length (s.bs.map (Value.int .i64))
  flts : w.ownsRow B 41 1 (.slice pf s.fs.length cf) s.fs.length fv
  fltv : FltsW w s.fs fv
  ways : w.ownsRow B 3 1 (.slice pw way.length cw) way.length (way.map (Value.int .i64))
  apart : Apart (.slice pb s.bs.length cb) (.slice pw way.length cw)
  img : ImgR Bi b pi ni ci l w
/-- what a visit does: the state s becomes the state t -/
def VisitP (B bw Bi b : Nat) (pi : Option Addr) (ni ci : Nat) (l : List UInt8) (tree fuel : Int) (way : List Int) (t : WS) (w : World) (e : Ending) (w' : World) : Prop :=
  ∃ u pe pb pf pw ce cb cf cw fv, e = .returned u ∧ Below B w w' ∧ Only [93, 108, 3, 41] w w' ∧ WalkR B bw Bi b pi ni ci l tree fuel way t pe pb pf pw ce cb cf cw fv w'
end Go.Proofs.YtinegkldgjhnpaaGreatDoor
namespace Go.Proofs.YtinegkldgjhnpaaGreatDoor
open Go.RowKit Go.Extern.Stop Go.Stop Go.Extern
set_option linter.unusedVariables false
attribute [local irreducible] wpList wpAnyH Code.wp Oper.wp Go

theorem own_some {w : World} {base e n c : Nat} {p : Option Addr} {xs : List Value} (k : w.ownsRow base e 1 (.slice p n c) n xs) (hn : 0 < n) : p.isSome = true ∧ n ≤ c := by
  rcases k.2 with ⟨h, _⟩ | ⟨g, cap, cur, hv, _, _, hc, _⟩
  · simp only [Value.slice.injEq] at h; omega
  · simp only [Value.slice.injEq] at hv
    obtain ⟨rfl, _, rfl⟩ := hv
    exact ⟨rfl, hc⟩
theorem way_cut {w : World} {base e c : Nat} {p : Option Addr} {way : List Int} {no : Int} (k : w.ownsRow base e 1 (.slice p (way ++ [no]).length c) (way ++ [no]).length ((way ++ [no]).map (Value.int .i64))) : w.ownsRow base e 1 (.slice p way.length c) way.length (way.map (Value.int .i64)) := by
  have h := own_cut (m := way.length) k (by simp) (own_some k (by simp)).1
  rwa [List.map_append, List.take_left' (by simp)] at h
theorem only_we {w w' : World} (h : Only [93, 41] w w') : Only [93, 108, 3, 41] w w' := h.mono fun t ht => by
  simp only [List.contains_cons, List.contains_nil, Bool.or_eq_false_iff] at ht ⊢
  exact ⟨ht.1, ht.2.2.2⟩
/-- what is asked of a visit d deep at most -/
def VisitC (B bw Bi b : Nat) (pi : Option Addr) (ni ci : Nat) (l : List UInt8) (tree fuel : Int) (d : Nat) : Prop :=
  ∀ (way : List Int) (no lo hi : Int) (s : WS) (pe pb pf pw : Option Addr) (ce cb cf cw : Nat) (fv : List Value) (w : World), way.length + d = 17 → B ≤ w.heap.size → s.dry = false → WalkR B bw Bi b pi ni ci l tree fuel way s pe pb pf pw ce cb cf cw fv w →
    (visitF l tree fuel d way no lo hi s).es.length ≤ 1000000 → (visitF l tree fuel d way no lo hi s).bs.length ≤ 1000000 → (visitF l tree fuel d way no lo hi s).fs.length ≤ 1000000 →
    Calls Tryz.prog 37 #[.pointer (some ⟨bw, 0, none⟩), .int .i64 no, .agg #[.int .i64 lo, .int .i64 hi]] w (VisitP B bw Bi b pi ni ci l tree fuel way (visitF l tree fuel d way no lo hi s) w)
set_option maxRecDepth 100000 in
set_option maxHeartbeats 4000000 in
theorem walker_child (B bw Bi b : Nat) (pi : Option Addr) (ni ci : Nat) (l : List UInt8) (tree fuel : Int) (d : Nat) (hV : VisitC B bw Bi b pi ni ci l tree fuel d) (way : List Int) (no lo hi : Int) (val : List UInt8) (s : WS) (pe pb pf pw : Option Addr) (ce cb cf cw : Nat) (fv : List Value) (w : World) (hBb : B ≤ bw) (hBw : B ≤ w.heap.size) (hwd : way.length + 1 + d = 17) (hdry : s.dry = false) (hvl : val.length ≤ 1000) (hR : WalkR B bw Bi b pi ni ci l tree fuel (way ++ [no]) s pe pb pf pw ce cb cf cw fv w) (he : (childW (visitF l tree fuel d) way no val (lo, hi) s).es.length ≤ 1000000) (hb_ : (childW (visitF l tree fuel d) way no val (lo, hi) s).bs.length ≤ 1000000) (hf : (childW (visitF l tree fuel d) way no val (lo, hi) s).fs.length ≤ 1000000) :
    Calls Tryz.prog 83 #[.pointer (some ⟨bw, 0, none⟩), .int .i64 no, .string ⟨val.toArray⟩, .agg #[.int .i64 lo, .int .i64 hi]] w (VisitP B bw Bi b pi ni ci l tree fuel (way ++ [no]) (childW (visitF l tree fuel d) way no val (lo, hi) s) w) := by
 obtain ⟨kW, hEn, hBl, hFl, hFv, hWy, hAp, hI⟩ := hR
 have hwc := (own_some hWy (by simp)).2
 have hwl : (way ++ [no]).length = way.length + 1 := by simp
 refine zin 44 Tryz.func83 ?_
 refine xa 2 [.int .i64 lo, .int .i64 hi] 96 fun b1 W1 n1 => ?_
 refine xr 5 (args := #[.string ⟨val.toArray⟩]) (value_ReadRoot val _ hvl) fun W2 hb2 => ?_
 refine xie 14 (rootE val) (0 : Int) (fun hc3 => ?_) (fun hc3 => ?_)
 · have k1 := n1.blk.below hb2
   refine xlv 4 k1.rp ?_
   have hch : childW (visitF l tree fuel d) way no val (lo, hi) s = visitF l tree fuel d (way ++ [no]) (rootN val : Int) lo hi s := by unfold childW; rw [if_pos (by assumption)]
   have hB := Bl.nextB (Bl.nextB (Below.refl B w) hBw n1.below) hBw hb2
   have kW'1 := (kW.below n1.below).below hb2
   have hEn'1 := own_below (own_below hEn n1.below) hb2
   have hBl'1 := own_below (own_below hBl n1.below) hb2
   have hFl'1 := own_below (own_below hFl n1.below) hb2
   have hFv'1 := (hFv.below n1.below).below hb2
   have hWy'1 := own_below (own_below hWy n1.below) hb2
   have hI'1 := (hI.below n1.below).below hb2
   refine xc 0 (args := #[.pointer (some ⟨bw, 0, none⟩), .int .i64 (↑(rootN val) : Int), .agg #[.int .i64 lo, .int .i64 hi]]) (hV (way ++ [no]) (rootN val : Int) lo hi s pe pb pf pw ce cb cf cw fv _ (by simp; omega) (Nat.le_trans hBw hB.size) hdry ⟨kW'1, hEn'1, hBl'1, hFl'1, hFv'1, hWy'1, hAp, hI'1⟩ (by have q := he; rw [hch] at q; exact q) (by have q := hb_; rw [hch] at q; exact q) (by have q := hf; rw [hch] at q; exact q)) ?_
   rintro _ W4 ⟨u4, pe2, pb2, pf2, pw2, ce2, cb2, cf2, cw2, fv2, rfl, hb4, hO4, hR2⟩
   have hB'1 := hB.trans hb4
   have hO := ((show Only [93, 108, 3, 41] w _ from (Only.of_below n1.below)).trans (Only.of_below hb2)).trans hO4
   refine xe 4 (.tuple #[]) ?_
   rw [hch]
   exact ⟨_, _, _, _, _, _, _, _, _, _, rfl, hB'1, hO, hR2⟩
 have kW'2 := (kW.below n1.below).below hb2
 refine xb 7 8 kW'2 ?_
 refine xwm 9 ((↑((way ++ [no]).length) : Int) - 1) (↑(((way ++ [no]).length) - 1) : Int) ?_
 refine xsH 0 (fun _ _ _ _ zo zx zy V => run_sliceH (k := (((way ++ [no]).length) - 1)) (b := pw) (n := (way ++ [no]).length) (c := cw) (i := (↑(((way ++ [no]).length) - 1) : Int)) (ki := .i64) zo zx zy rfl (by omega) Tryz.underlying26 (by kernel_rfl) V) ?_
 refine xs 2 kW'2 [.slice pe s.es.length ce, .slice pb s.bs.length cb, .int .i64 s.deep, .int .i64 (s.looked : Int), .slice pf s.fs.length cf, .pointer (some ⟨b, 0, none⟩), .int .i64 tree, .int .i64 fuel, .slice pw (((way ++ [no]).length) - 1) cw, .bool s.dry] fun W5 u5 k5 => ?_
 refine xc 8 (args := #[.int .i64 no, .iface 53 (.int .i64 (rootE val))]) (fault_At no (some (rootE val)) [] _ _ rfl) ?_
 rintro _ W6 ⟨r6, rfl, hb6, hv6⟩
 rw [atL_some] at hv6
 obtain ⟨t6, x6, rfl⟩ := hv6.iface
 have k5'1 := k5.below hb6
 have hch : childW (visitF l tree fuel d) way no val (lo, hi) s = noteW way [no] (rootE val) s := by unfold childW; rw [if_neg (by assumption)]
 rw [show (way ++ [no]).length - 1 = way.length by omega] at k5'1
 have hB := Bl.nextB (u5.below (Bl.nextB (Bl.nextB (Below.refl B w) hBw n1.below) hBw hb2) hBb) hBw hb6
 have hFl'2 := own_below (u5.own2 (own_below (own_below hFl n1.below) hb2) kW'2 (by decide)) hb6
 have hWy'2 := own_below (u5.own2 (own_below (own_below hWy n1.below) hb2) kW'2 (by decide)) hb6
 refine xc 0 (args := #[.pointer (some ⟨bw, 0, none⟩), .iface t6 (x6)]) (walker_note B bw _ _ _ _ _ _ _ _ pf _ cf fv pw cw way [no] (rootE val) _ _ _ hBb (Nat.le_trans hBw hB.size) k5'1 hFl'2 (way_cut hWy'2) hv6 (by omega) (by have := hf; rw [hch] at this; simp [noteW] at this; omega)) ?_
 rintro _ W7 ⟨u7, pf2, cf2, t2, x2, rfl, hb7, hO7, kN, hFl2, hv2⟩
 refine xs 7 kN [.slice pe s.es.length ce, .slice pb s.bs.length cb, .int .i64 s.deep, .int .i64 (s.looked : Int), .slice pf2 (s.fs.length + 1) cf2, .pointer (some ⟨b, 0, none⟩), .int .i64 tree, .int .i64 fuel, .slice pw ((way ++ [no]).length) cw, .bool s.dry] fun W8 u8 k8 => ?_
 have hB'2 := u8.below (hB.trans hb7) hBb
 have hO := (((((show Only [93, 108, 3, 41] w _ from (Only.of_below n1.below)).trans (Only.of_below hb2)).trans (Only.of_upd u5 kW'2 (by decide))).trans (Only.of_below hb6)).trans (only_we hO7)).trans (Only.of_upd u8 kN (by decide))
 have hEn'2 := u8.own2 (own_only (own_below (u5.own2 (own_below (own_below hEn n1.below) hb2) kW'2 (by decide)) hb6) hO7 (by decide)) kN (by decide)
 have hBl'2 := u8.own2 (own_only (own_below (u5.own2 (own_below (own_below hBl n1.below) hb2) kW'2 (by decide)) hb6) hO7 (by decide)) kN (by decide)
 have hFl2'1 := u8.own2 hFl2 kN (by decide)
 have hv2'1 := hv2.upd u8 kN (by decide)
 have hFv'2 := (((((hFv.below n1.below).below hb2).only (Only.of_upd (T := [93]) u5 kW'2 (by decide)) (by decide)).below hb6).only hO7 (by decide)).only (Only.of_upd (T := [93]) u8 kN (by decide)) (by decide)
 have hWy'3 := u8.own2 (own_only hWy'2 hO7 (by decide)) kN (by decide)
 have hI'2 := (((((hI.below n1.below).below hb2).only (Only.of_upd (T := [93]) u5 kW'2 (by decide)) (by decide)).below hb6).only hO7 (by decide)).only (Only.of_upd (T := [93]) u8 kN (by decide)) (by decide)
 refine xe 1 (.tuple #[]) ?_
 rw [hch]
 exact ⟨_, pe, pb, pf2, pw, ce, cb, cf2, cw, _, rfl, hB'2, hO, by simpa [noteW] using k8, hEn'2, hBl'2, by simpa [noteW] using hFl2'1, FltsW.snoc hv2'1 hFv'2, hWy'3, hAp, hI'2⟩
end Go.Proofs.YtinegkldgjhnpaaGreatDoor
namespace Go.Proofs.YtinegkldgjhnpaaGreatDoor
open Go.RowKit Go.Extern.Stop Go.Stop Go.Extern
set_option linter.unusedVariables false
def Grow (s t : WS) : Prop := s.es.length ≤ t.es.length ∧ s.bs.length ≤ t.bs.length ∧ s.fs.length ≤ t.fs.length
theorem Grow.refl (s : WS) : Grow s s := ⟨Nat.le_refl _, Nat.le_refl _, Nat.le_refl _⟩
theorem Grow.trans {s t u : WS} (h : Grow s t) (k : Grow t u) : Grow s u := ⟨Nat.le_trans h.1 k.1, Nat.le_trans h.2.1 k.2.1, Nat.le_trans h.2.2 k.2.2⟩
theorem noteW_grow (way bs : List Int) (c : Int) (s : WS) : Grow s (noteW way bs c s) := ⟨Nat.le_refl _, Nat.le_refl _, by simp [noteW]⟩
theorem childW_grow {V : List Int → Int → Int → Int → WS → WS} (hV : ∀ way no lo hi s, Grow s (V way no lo hi s)) (way : List Int) (no : Int) (val : List UInt8) (p : Int × Int) (s : WS) : Grow s (childW V way no val p s) := by
  unfold childW
  split
  · exact hV _ _ _ _ _
  · exact noteW_grow _ _ _ _
theorem roundW_grow {V : List Int → Int → Int → Int → WS → WS} (hV : ∀ way no lo hi s, Grow s (V way no lo hi s)) (l : List UInt8) (way : List Int) (no hi : Int) (s : WS) (i : Nat) : Grow s (roundW V l way no hi s i) := by
  unfold roundW
  split
  · exact Grow.refl _
  · exact childW_grow hV _ _ _ _ _
theorem loopW_grow {V : List Int → Int → Int → Int → WS → WS} (hV : ∀ way no lo hi s, Grow s (V way no lo hi s)) (l : List UInt8) (way : List Int) (no hi : Int) (s : WS) {k n : Nat} (hk : k ≤ n) : Grow (loopW V l way no hi k s) (loopW V l way no hi n s) := by
  induction n with
  | zero => obtain rfl : k = 0 := by omega
            exact Grow.refl _
  | succ n ih =>
    rcases Nat.lt_or_ge n k with q | q
    · obtain rfl : k = n + 1 := by omega
      exact Grow.refl _
    · rw [loopW_succ]
      exact (ih q).trans (roundW_grow hV _ _ _ _ _ _)
theorem loopW_zero (V : List Int → Int → Int → Int → WS → WS) (l : List UInt8) (way : List Int) (no hi : Int) (s : WS) : loopW V l way no hi 0 s = s := rfl
theorem visitF_grow (l : List UInt8) (tree fuel : Int) : ∀ (d : Nat) (way : List Int) (no lo hi : Int) (s : WS), Grow s (visitF l tree fuel d way no lo hi s)
  | 0, _, _, _, _, s => Grow.refl s
  | d + 1, way, no, lo, hi, s => by
    unfold visitF
    split
    · exact ⟨Nat.le_refl _, Nat.le_refl _, by simp [noteW]⟩
    · split
      · exact ⟨Nat.le_refl _, Nat.le_refl _, by simp [noteW]⟩
      · split
        · exact ⟨by simp, by simp, Nat.le_refl _⟩
        · refine Grow.trans ⟨?_, ?_, ?_⟩ (loopW_grow (visitF_grow l tree fuel d) l way no hi _ (Nat.zero_le _))
          · exact Nat.le_refl _
          · simp [loopW_zero]
          · exact Nat.le_refl _
/-- looked never falls -/
theorem visitF_looked (l : List UInt8) (tree fuel : Int) : ∀ (d : Nat) (way : List Int) (no lo hi : Int) (s : WS), s.looked ≤ (visitF l tree fuel d way no lo hi s).looked
  | 0, _, _, _, _, s => Nat.le_refl _
  | d + 1, way, no, lo, hi, s => by
    have hl : ∀ (k : Nat) (t : WS), t.looked ≤ (loopW (visitF l tree fuel d) l way no hi k t).looked := by
      intro k t
      induction k with
      | zero => exact Nat.le_refl _
      | succ k ih =>
        rw [loopW_succ]
        refine Nat.le_trans ih ?_
        unfold roundW
        split
        · exact Nat.le_refl _
        · unfold childW
          split
          · exact visitF_looked l tree fuel d _ _ _ _ _
          · exact Nat.le_refl _
    unfold visitF
    split
    · exact Nat.le_refl _
    · split
      · exact Nat.le_succ _
      · split
        · exact Nat.le_succ _
        · exact Nat.le_trans (Nat.le_succ _) (hl (nodC (inB l no)) { s with looked := s.looked + 1, bs := s.bs ++ [no] })
section
variable {B bw Bi b : Nat} {pi : Option Addr} {ni ci : Nat} {l : List UInt8} {tree fuel : Int} {way : List Int} {s : WS} {pe pb pf pw : Option Addr} {ce cb cf cw : Nat} {fv : List Value} {w W : World}
theorem WalkR.below (h : WalkR B bw Bi b pi ni ci l tree fuel way s pe pb pf pw ce cb cf cw fv w) (hb : Below w.heap.size w W) : WalkR B bw Bi b pi ni ci l tree fuel way s pe pb pf pw ce cb cf cw fv W :=
  ⟨h.blk.below hb, own_below h.ents hb, own_below h.blks hb, own_below h.flts hb, h.fltv.below hb, own_below h.ways hb, h.apart, h.img.below hb⟩
theorem WalkR.only {T : List TypeId} (h : WalkR B bw Bi b pi ni ci l tree fuel way s pe pb pf pw ce cb cf cw fv w) (hO : Only T w W)
    (hT : T.contains 93 = false ∧ T.contains 108 = false ∧ T.contains 3 = false ∧ T.contains 41 = false ∧ T.contains 72 = false ∧ T.contains 100 = false ∧ T.contains 5 = false) : WalkR B bw Bi b pi ni ci l tree fuel way s pe pb pf pw ce cb cf cw fv W :=
  ⟨h.blk.only hO hT.1, own_only h.ents hO hT.2.1, own_only h.blks hO hT.2.2.1, own_only h.flts hO hT.2.2.2.1, h.fltv.only hO hT.2.2.2.2.1, own_only h.ways hO hT.2.2.1, h.apart, h.img.only hO ⟨hT.2.2.2.2.2.1, hT.2.2.2.2.2.2⟩⟩
end
end Go.Proofs.YtinegkldgjhnpaaGreatDoor
