/- The document's answer for the layers 3 and 11, read: Image.Read, in. node.Put of a node that is right. (*Alloc).Image, and build.right at entries that are right. value.Root of a block number: its four bytes. What build.level lays and hands up: plain definitions and lemmas. Counts as space maps, plainly: small counts and those above, chunks, the bytes of a block of counts, slots. block.Bits, whatever lies in the image. The document's answer for layer 9: Put of small counts, Read. The document's answer for layer 7: Width, Max, Right and Put at a node that is right. The document's answer for layer 7, read: Width, Max, form, Read. What package span computes: All, Has, Right and Fits return the plain functions below, for any span and any slice of keys, and change nothing that lay there. What package span's iterator 'each' hands over: the spans of the children from the last one to the first, for any span and any keys; and that Child and Split return the plain functions below. What the iterator of slices.Backward hands over: the elements of a slice of ints from the last one to the first. slices.Backward of ints. (*walker).note: an error noted at the blocks of the way. slices.Contains of ints. Child and Split of package span return the plain functions below, for any span and any slice of keys. -/
import Derived.Test.YtinegkldgjhnpaaGreatDoorRows
import Derived.RangeFuncNested
import Derived.RangeFuncBound
import Derived.RangeFuncCalls
import Derived.RangeFuncLeaves
import Derived.Shelf.Abstract
import Derived.Shelf.RegionOpen
import Derived.OwnWalkIn
import Derived.TacticsInMore
import Derived.LoopNIn
import Derived.LoopIn
import Derived.Test.YtinegkldgjhnpaaGreatDoorMg3
namespace Go.Proofs.YtinegkldgjhnpaaGreatDoor
open Go.RowKit Go.Extern.Stop Go.Stop Go.Extern
set_option linter.unusedVariables false
attribute [local irreducible] wpList wpAnyH Code.wp Oper.wp Go

set_option maxRecDepth 100000 in
set_option maxHeartbeats 1000000 in
theorem ref_ImgRead_out (B bm : Nat) (p : Option Addr) (k c : Nat) (l : List UInt8) (w : World) (hI : RefI B bm p k c l w) (no : Int) (ho : ¬ (0 ≤ no ∧ no < (k : Int))) :
    Calls Tryz.prog 113 #[.pointer (some ⟨bm, 0, none⟩), .int .i64 no] w (Ret (.tuple #[.slice none 0 0, .int .i64 3]) w) := by
 have hk := hI.blk
 have hkl := hI.hk
 have hll := hI.hl
 refine zin 25 Tryz.func113 ?_
 refine xg 12 [7, 8] (decide (no < (0 : Int))) (fun hc1 => ?_) (fun hc1 => ?_)
 · have hc1 := of_decide_eq_true hc1
   exact xe 19 (.tuple #[.slice none 0 0, .int .i64 3]) ⟨rfl, (Below.refl w.heap.size _)⟩
 have hc1 := of_decide_eq_false hc1
 refine xb 4 0 hk ?_
 refine xk 5 (show (decide (no ≥ (↑k : Int)) : Bool) = true from decide_eq_true (by omega)) ?_
 exact xe 8 (.tuple #[.slice none 0 0, .int .i64 3]) ⟨rfl, (Below.refl w.heap.size _)⟩
set_option maxRecDepth 100000 in
set_option maxHeartbeats 1000000 in
theorem ref_ImgRead_in (B bm : Nat) (p : Option Addr) (k c : Nat) (l : List UInt8) (w : World) (hI : RefI B bm p k c l w) (j : Nat) (hj : j < k) :
    Calls Tryz.prog 113 #[.pointer (some ⟨bm, 0, none⟩), .int .i64 (↑j : Int)] w (RetS (fun w' r => ∃ b c2, r = .tuple #[.slice (some ⟨b, 0, none⟩) 256 c2, .int .i64 0] ∧ Bys w' (.slice (some ⟨b, 0, none⟩) 256 c2) (blkB l j)) w) := by
 have hk := hI.blk
 have hkl := hI.hk
 have hll := hI.hl
 have hr := own_sl hI.row
 have hgj : (blksL l k).getD j [] = blkB l j := blksL_get l hj
 have hgl : ((blksL l k).getD j []).length = 256 := by rw [hgj]; exact blkB_len (by omega)
 refine zin 25 Tryz.func113 ?_
 refine xgk 12 [7, 8] (show (decide ((↑j : Int) < (0 : Int)) : Bool) = false from decide_eq_false (by omega)) ?_
 refine xb 4 0 hk ?_
 refine xk 5 (show (decide ((↑j : Int) ≥ (↑k : Int)) : Bool) = false from decide_eq_false (by omega)) ?_
 refine xb 7 0 hk ?_
 refine xx 1 _ k j 1 (Strs.elem hr (blksL_len l k) (k := j) (by omega)).1 ?_
 refine xl 0 ((Strs.elem hr (blksL_len l k) (k := j) (by omega)).2) ?_
 refine xcf 0 fun _ _ _ zJ zQ zo zx zK => op_strBytes ((blksL l k).getD j []) zo zx Tryz.underlying9 Tryz.underlying22 Tryz.underlying5 (by omega) ?_
 intro bz cz W2 hb2 hbz
 refine zK _ _ ?_
 refine xe 5 (.tuple #[.slice (some ⟨bz, 0, none⟩) (((blksL l k).getD j []).length) cz, .int .i64 0]) ?_
 rw [hgl]
 rw [hgl, hgj] at hbz
 exact ⟨_, rfl, hb2, _, _, rfl, hbz⟩
def RReadP (k : Nat) (l : List UInt8) (no : Int) (w : World) (e : Ending) (w' : World) : Prop :=
  (¬ (0 ≤ no ∧ no < (k : Int)) ∧ e = .returned (.tuple #[.slice none 0 0, .int .i64 3]) ∧ Below w.heap.size w w') ∨
  (∃ j : Nat, no = (j : Int) ∧ j < k ∧ ∃ b c, e = .returned (.tuple #[.slice (some ⟨b, 0, none⟩) 256 c, .int .i64 0]) ∧ Below w.heap.size w w' ∧ Bys w' (.slice (some ⟨b, 0, none⟩) 256 c) (blkB l j))
theorem ref_ImgRead (B bm : Nat) (p : Option Addr) (k c : Nat) (l : List UInt8) (w : World) (hI : RefI B bm p k c l w) (no : Int) :
    Calls Tryz.prog 113 #[.pointer (some ⟨bm, 0, none⟩), .int .i64 no] w (RReadP k l no w) := by
  by_cases h : 0 ≤ no ∧ no < (k : Int)
  · obtain ⟨j, rfl⟩ : ∃ j : Nat, no = j := ⟨no.toNat, by omega⟩
    refine (ref_ImgRead_in B bm p k c l w hI j (by omega)).mono ?_
    rintro e W ⟨_, rfl, hb, b, c2, rfl, ho⟩
    exact .inr ⟨j, rfl, by omega, _, _, rfl, hb, ho⟩
  · refine (ref_ImgRead_out B bm p k c l w hI no h).mono ?_
    rintro e W ⟨rfl, hb⟩
    exact .inl ⟨h, rfl, hb⟩
def RInP (l : List UInt8) (kind no : Int) (w : World) (e : Ending) (w' : World) : Prop :=
  (inE l kind no ≠ 0 ∧ e = .returned (.tuple #[.slice none 0 0, .int .i64 (inE l kind no)]) ∧ Below w.heap.size w w') ∨
  (inE l kind no = 0 ∧ (inB l no).length = 244 ∧ ∃ p c, e = .returned (.tuple #[.slice p 244 c, .int .i64 0]) ∧ Below w.heap.size w w' ∧ w'.ownsRow w.heap.size 5 1 (.slice p 244 c) 244 ((inB l no).map bv))
set_option maxRecDepth 100000 in
set_option maxHeartbeats 1000000 in
theorem ref11_in (B bm : Nat) (p : Option Addr) (k c : Nat) (l : List UInt8) (w : World) (hI : RefI B bm p k c l w) (no : Int) (kind : Int) :
    Calls Tryz.prog 73 #[.pointer (some ⟨bm, 0, none⟩), .int .i64 no, .int .i64 kind] w (RInP l kind no w) := by
 have hll := hI.hl
 refine zin 25 Tryz.func73 ?_
 refine xc 10 (args := #[.pointer (some ⟨bm, 0, none⟩), .int .i64 no]) (ref_ImgRead B bm p k c l _ (hI.below (Below.refl w.heap.size _)) no) ?_
 rintro e W1 hq1
 rcases hq1 with ⟨ho, rfl, hb1⟩ | ⟨j, hnj, hj, b3, c3, rfl, hb1, hbz⟩
 · refine xe 24 (.tuple #[.slice none 0 0, .int .i64 3]) ?_
   have he : inE l kind no = 3 := inE_out (n := k * 256) hI.hl (by omega)
   exact .inl ⟨by rw [he]; decide, by rw [he], hb1⟩
 have hin : inE l kind no = openE kind no (blkB l j) := inE_in (n := k * 256) hI.hl hnj (by omega)
 have hib : inB l no = ((blkB l j).drop 8).take 244 := inB_in hnj
 refine xc 22 (args := #[.slice (some ⟨b3, 0, none⟩) 256 c3, .int .i64 kind, .int .i64 no]) (ref_Open kind no _ 256 c3 (blkB l j) _ (blkB_len (by omega)) hbz) ?_
 rintro e W2 hq2
 rcases hq2 with ⟨hs, rfl, hb2⟩ | ⟨hs, p2, c2, rfl, hb2, h2⟩
 · have hB := Bl.next hb1 hb2
   exact xe 7 (.tuple #[.slice none 0 0, .int .i64 (openE kind no (blkB l j))]) (.inl ⟨by rw [hin]; exact hs, by rw [hin], hB⟩)
 have hB := Bl.next hb1 hb2
 have h2'1 := own_mono h2 hb1.size
 exact xe 7 (.tuple #[.slice p2 244 c2, .int .i64 0]) (.inr ⟨by rw [hin, hs], by rw [hib]; simp [blkB_len (show j < l.length / 256 by omega)], _, _, rfl, hB, by rw [hib]; exact h2'1⟩)
end Go.Proofs.YtinegkldgjhnpaaGreatDoor
namespace Go.Proofs.YtinegkldgjhnpaaGreatDoor
open Go.RowKit Go.Extern.Stop Go.Stop Go.Extern
set_option linter.unusedVariables false
attribute [local irreducible] wpList wpAnyH Code.wp Oper.wp Go

/-- the head of a node -/
def headB (t : Int) (leaf : Bool) (n m v : Nat) : List UInt8 := leB (flagN leaf) 1 ++ leB t 1 ++ leB (n : Int) 2 ++ leB (v : Int) 2 ++ leB (m : Int) 2 ++ leB 0 4
theorem headB_len (t : Int) (leaf : Bool) (n m v : Nat) : (headB t leaf n m v).length = 12 := by simp [headB, leB_len]
/-- the bytes of a node, when i of its entries stand -/
def nodeP (m v : Nat) (H : List UInt8) (K : List Int) (Vs : List (List UInt8)) : Nat → List UInt8
  | 0 => putB (List.replicate 244 0) 0 H
  | i + 1 => putB (putB (nodeP m v H K Vs i) (12 + i * 8) (leB (K.getD i 0) 8)) (12 + m * 8 + i * v) (Vs.getD i [])
set_option maxRecDepth 100000 in
theorem nodeP_len {m v : Nat} {H : List UInt8} {K : List Int} {Vs : List (List UInt8)} (hH : H.length = 12) (hf : 12 + m * 8 + m * v ≤ 244) : ∀ {i : Nat}, i ≤ m → (∀ j, j < i → (Vs.getD j []).length = v) → (nodeP m v H K Vs i).length = 244
  | 0, _, _ => by rw [nodeP, putB_len (by rw [List.length_replicate]; omega), List.length_replicate]
  | i + 1, hi, hV => by
    have ih := nodeP_len (K := K) hH hf (i := i) (by omega) (fun j hj => hV j (by omega))
    have h1 := hV i (by omega)
    have h2 : (i + 1) * v ≤ m * v := Nat.mul_le_mul_right v hi
    rw [Nat.add_mul, Nat.one_mul] at h2
    have h3 : (putB (nodeP m v H K Vs i) (12 + i * 8) (leB (K.getD i 0) 8)).length = 244 := by rw [putB_len (by rw [leB_len, ih]; omega), ih]
    rw [nodeP, putB_len (by rw [h1, h3]; omega), h3]
set_option maxRecDepth 100000 in
set_option maxHeartbeats 8000000 in
theorem node_Put (t : Int) (leaf : Bool) (n m v : Nat) (K : List Int) (Vs : List (List UInt8)) (ak av : Option Addr) (ck cv : Nat) (w : World) (N : NodeOk t leaf n m v K Vs) (hKs : Sl w (.slice ak n ck) n (K.map (Value.int .i64))) (hVs : Sl w (.slice av n cv) n (Vs.map sv)) :
    Calls Tryz.prog 17 #[.agg #[.int .i64 t, .bool leaf, .slice ak n ck, .slice av n cv]] w (RetS (fun w' r => ∃ p c, r = .tuple #[.slice p 244 c, .int .i64 0] ∧ w'.ownsRow w.heap.size 5 1 (.slice p 244 c) 244 ((nodeP m v (headB t leaf n m v) K Vs n).map bv)) w) := by
 have ht1 := N.ht1
 have ht2 := N.ht2
 have hnm := N.hn
 have hwb := widN_bd t leaf
 rw [N.hv] at hwb
 have hmb := maxN_pos t leaf
 rw [N.hm] at hmb
 have hfit := fitN t leaf
 rw [N.hm, N.hv] at hfit
 have hcap := Sl.cap hKs
 refine zin 90 Tryz.func17 ?_
 refine xa 2 [.int .i64 t, .bool leaf, .slice ak n ck, .slice av n cv] 52 fun b1 W1 n1 => ?_
 refine xlv 7 n1.blk.rp ?_
 refine xr 0 (args := #[.agg #[.int .i64 t, .bool leaf, .slice ak n ck, .slice av n cv]]) (node_Right t leaf n m v K Vs ak av ck cv _ N (hKs.below n1.below) (hVs.below n1.below)) fun W2 hb2 => ?_
 refine xd 7 .z ?_
 have k1'1 := (n1.blk.below hb2).below (below_drew W2)
 refine xb (.e [0] 1) 0 k1'1 ?_
 refine xb (.e [2] 3) 1 k1'1 ?_
 refine xb (.e [5] 6) 0 k1'1 ?_
 refine xb (.e [7] 8) 1 k1'1 ?_
 refine xr (.o [] 4) (args := #[.int .i64 t, .bool leaf]) (node_WidthN t leaf v N.hv ht1 ht2 _) fun W3 hb3 => ?_
 refine xr (.o [] 9) (args := #[.int .i64 t, .bool leaf]) (node_MaxN t leaf m N.hm ht1 ht2 _) fun W4 hb4 => ?_
 refine xd (.r [10, 11] 3) .z ?_
 have k1'2 := ((k1'1.below hb3).below hb4).below (below_drew W4)
 refine xb (.e [0] 1) 1 k1'2 ?_
 refine xb (.e [4] 5) 0 k1'2 ?_
 refine xb (.e [6, 7] 8) 2 k1'2 ?_
 refine xr (.o [9, 10, 11, 12, 13, 14, 15] 2) (args := #[.bool leaf]) (node_flag leaf _) fun W5 hb5 => ?_
 refine xbs (.o [3] 16) 6 [.int .i64 1, .int .i64 (flagN leaf), .int .i64 1, .int .i64 t, .int .i64 2, .int .i64 (↑n : Int), .int .i64 2, .int .i64 (↑v : Int), .int .i64 2, .int .i64 (↑m : Int), .int .i64 4, .int .i64 0] 122 fun b6 W6 n6 => ?_
 have hB'1 := Bl.next (Bl.next (Bl.next (Bl.next (Bl.next (Bl.next n1.below hb2) (below_drew W2)) hb3) hb4) (below_drew W4)) hb5
 refine yc (.o [] 17) (args := #[.slice (some ⟨b6, 0, none⟩) 6 6]) .z (Pack_node b6 (flagN leaf) t (n : Int) (v : Int) (m : Int) (flagN_bd leaf).1 (flagN_bd leaf).2 (by omega) (by omega) (by omega) (by omega) (by omega) (by omega) (by omega) (by omega) _ n6.blk) ?_
 rintro _ W7 ⟨_, rfl, hb7, p2, c2, rfl, h2⟩
 have hs7 := (Bl.next hB'1 n6.below).size
 refine ⟨hb7, ?_⟩
 refine xmk (.r [18, 19, 20, 21, 22] 4) fun _ _ _ _ zJ zQ zo zx zy zK => op_make 244 (.int .u8 0) 1 1 ((List.replicate 244 (0 : UInt8)).map bv) zo zx zy Tryz.underlying22 (by kernel_rfl) rfl (by omega) (by omega) (zerosB 244) fun b8 W8 n8 => ?_
 have h2'1 := own_mono h2 hs7
 have r8_h2 := own_ne h2'1 n8
 refine zK _ _ ?_
 have o8 := own_of_blk (size := 1) (n := 244) n8.blk (n8.ge (Bl.next (Bl.next hB'1 n6.below) hb7)) (by rw [List.length_map, List.length_replicate]) (by unfold maxLen; omega)
 have h2'2 := own_below h2'1 n8.below
 have hB'2 := Bl.next (Bl.next (Bl.next hB'1 n6.below) hb7) n8.below
 refine xbi 7 (t2 := 22) fun _ _ _ _ zJ zQ zo zx zy zK => op_copy (dLen := 244) (dCap := 244) (off := 0) 12 ((headB t leaf n m v).map bv) ((nodeP m v (headB t leaf n m v) K Vs 0).map bv) zo Tryz.underlying22 (by kernel_rfl) zx zy (own_sl h2'2) o8 (by simp [headB_len]) (by omega) (by omega) (bv_one _) hB'2.size (by simp [nodeP, putB, headB_len]) fun W9 o9 hg9 hb9 => ?_
 refine zK _ _ ?_
 have k1'3 := ((((k1'2.below hb5).below n6.below).below hb7).below n8.below).grown hg9 o8 (by decide)
 refine xb 6 2 k1'3 ?_
 have hB'3 := hB'2.trans hb9
 have k6'1 := ((n6.blk.below hb7).below n8.below).grown hg9 o8 (by decide)
 refine zl 5 90 (fun zm zkv V => ∃ (i : Nat), zkv = [(1, .pointer (some ⟨b1, 0, none⟩)), (2, .slice none 0 0), (3, .int .i64 0), (4, .int .i64 (↑v : Int)), (5, .int .i64 (↑m : Int)), (8, .slice (some ⟨b8, 0, none⟩) 244 244), (52, .slice ak n ck), (53, .int .i64 (↑n : Int)), (54, .int .i64 (↑i : Int))] ∧ zm = n - ((↑i : Int)).toNat ∧ Below w.heap.size w V ∧ Blk V b1 ([.int .i64 t, .bool leaf, .slice ak n ck, .slice av n cv]) 52 ∧ Blk V b6 ([.int .i64 1, .int .i64 (flagN leaf), .int .i64 1, .int .i64 t, .int .i64 2, .int .i64 (↑n : Int), .int .i64 2, .int .i64 (↑v : Int), .int .i64 2, .int .i64 (↑m : Int), .int .i64 4, .int .i64 0]) 122 ∧ V.ownsRow w.heap.size 5 1 (.slice (some ⟨b8, 0, none⟩) 244 244) 244 ((nodeP m v (headB t leaf n m v) K Vs i).map bv) ∧ i ≤ n) ⟨0, rfl, rfl, hB'3, k1'3, k6'1, o9, Nat.zero_le _⟩ ?_
 rintro _ _ W10 ⟨i, rfl, rfl, hB_10, k10_b1, k10_b6, ho, hi⟩ J10 hJ10 r10
 have hb9 : i < n → i * v + v ≤ m * v := fun h => by have h9 : (i + 1) * v ≤ m * v := Nat.mul_le_mul_right v (by omega); rw [Nat.add_mul, Nat.one_mul] at h9; exact h9
 refine xid 6 ((↑i : Int) < (↑n : Int)) (fun hc11 => ?_) (fun hc11 => ?_)
 · refine xx 7 _ n i 1 (IntsN.elem hKs N.hK (k := i) (by omega)).1 ?_
   refine xl 0 ((IntsN.elem (hKs.below hB_10) N.hK (k := i) (by omega)).2) ?_
   refine xbs 8 1 [.int .i64 8, .int .i64 (K.getD i 0)] 122 fun b12 W12 n12 => ?_
   have d12_b6 := n12.ne k10_b6
   refine xc 0 (args := #[.slice (some ⟨b12, 0, none⟩) 1 1]) (Pack_8 b12 (K.getD i 0) (N.hk0 i (by omega)).1 _ n12.blk) ?_
   rintro _ W13 ⟨_, rfl, hb13, p3, c3, rfl, h3⟩
   have hs13 := (Bl.next hB_10 n12.below).size
   refine xwm 11 ((↑i : Int) * 8) (↑(i * 8) : Int) ?_
   refine xwm 0 (12 + (↑(i * 8) : Int)) (↑(12 + (i * 8)) : Int) ?_
   refine xsL 0 (fun _ _ _ _ zo zx zy V => run_sliceL (k := (12 + (i * 8))) (b := b8) (off := 0) (n := 244) (c := 244) (i := (↑(12 + (i * 8)) : Int)) (ki := .i64) 1 zo zx zy rfl (by omega) (by omega) Tryz.underlying22 (by kernel_rfl) V) ?_
   have ho'1 := own_below (own_below ho n12.below) hb13
   have h3'1 := own_mono h3 hs13
   have hB'4 := Bl.next (Bl.next hB_10 n12.below) hb13
   refine xbi 1 (t2 := 22) fun _ _ _ _ zJ zQ zo zx zy zK => op_copy (dLen := (244 - (12 + (i * 8)))) (dCap := (244 - (12 + (i * 8)))) (off := (0 + (12 + (i * 8)) * 1)) 8 ((leB (K.getD i 0) 8).map bv) ((putB (nodeP m v (headB t leaf n m v) K Vs i) (12 + i * 8) (leB (K.getD i 0) 8)).map bv) zo Tryz.underlying22 (by kernel_rfl) zx zy (own_sl h3'1) ho'1 (by simp [leB_len]) (by omega) (by omega) (bv_one _) hB'4.size (by simp [putB, leB_len, List.map_take, List.map_drop]) fun W14 o14 hg14 hb14 => ?_
   refine zK _ _ ?_
   refine xd 2 (.t w.heap.size [5]) ?_
   refine xwm (.e [0, 1] 2) ((↑m : Int) * 8) (↑(m * 8) : Int) ?_
   refine xwm (.e [] 3) (12 + (↑(m * 8) : Int)) (↑(12 + (m * 8)) : Int) ?_
   refine xwm (.e [4, 5] 6) ((↑i : Int) * (↑v : Int)) (↑(i * v) : Int) ?_
   refine xwm (.e [] 7) ((↑(12 + (m * 8)) : Int) + (↑(i * v) : Int)) (↑((12 + (m * 8)) + (i * v)) : Int) ?_
   refine xsL (.e [] 8) (fun _ _ _ _ zo zx zy V => run_sliceL (k := ((12 + (m * 8)) + (i * v))) (b := b8) (off := 0) (n := 244) (c := 244) (i := (↑((12 + (m * 8)) + (i * v)) : Int)) (ki := .i64) 1 zo zx zy rfl (by omega) (by omega) Tryz.underlying22 (by kernel_rfl) V) ?_
   have k10_b1'1 := (((k10_b1.below n12.below).below hb13).grown hg14 ho'1 (by decide)).below (below_drew W14)
   refine xbt (.e [9] 10) 3 w.heap.size [5] k10_b1'1 ?_
   refine xx (.e [11] 12) _ n i 1 (Strs.elem hVs N.hV (k := i) (by omega)).1 ?_
   have hB'5 := Bl.next (hB'4.trans hb14) (below_drew W14)
   refine xlt (.e [] 13) (.t w.heap.size [5]) (fun V hV => (Strs.elem (hVs.below (sft_keep hB'5 hV (Nat.le_refl _))) N.hV (k := i) (by omega)).2) ?_
   have o14'1 := own_below o14 (below_drew W14)
   refine ybi (.o [] 14) (t2 := 9) (.t w.heap.size [5]) fun _ _ _ _ zJ zQ zo zx zy zK => op_copyS (dLen := (244 - ((12 + (m * 8)) + (i * v)))) (dCap := (244 - ((12 + (m * 8)) + (i * v)))) (off := (0 + ((12 + (m * 8)) + (i * v)) * 1)) (Vs.getD i []) ((nodeP m v (headB t leaf n m v) K Vs (i + 1)).map bv) zo Tryz.underlying22 (by kernel_rfl) zx zy o14'1 (by rw [N.hw i (by omega)]; omega) (by rw [N.hw i (by omega)]; omega) hB'5.size (by simp [nodeP, putB, List.map_take, List.map_drop]) fun W15 o15 hg15 hb15 => ?_
   refine zK _ _ (sft_grown hb15 hg15 o14'1 (by decide)) ?_
   refine xwm 4 ((↑i : Int) + 1) (↑(i + 1) : Int) ?_
   have hB'6 := hB'5.trans hb15
   have k10_b1'2 := k10_b1'1.grown hg15 o14'1 (by decide)
   have k10_b6'1 := ((((k10_b6.below n12.below).below hb13).grown hg14 ho'1 (by decide)).below (below_drew W14)).grown hg15 o14'1 (by decide)
   exact ze 2 (hJ10 _ _ _ ⟨i + 1, rfl, rfl, hB'6, k10_b1'2, k10_b6'1, o15, by omega⟩ (by omega))
 refine xe 13 (.tuple #[.slice (some ⟨b8, 0, none⟩) 244 244, .int .i64 0]) ?_
 have e : i = n := by omega
 subst e
 exact ⟨_, rfl, hB_10, _, _, rfl, ho⟩
end Go.Proofs.YtinegkldgjhnpaaGreatDoor
namespace Go.Proofs.YtinegkldgjhnpaaGreatDoor
open Go.RowKit Go.Extern.Stop Go.Stop Go.Extern
set_option linter.unusedVariables false
attribute [local irreducible] wpList wpAnyH Code.wp Oper.wp Go

/-- an entry: its key, its value, its block -/
abbrev Ent := Int × List UInt8 × Int
def entD : Ent := (0, [], 0)
def entC (x : Ent) : List Value := [.int .i64 x.1, .string ⟨x.2.1.toArray⟩, .int .i64 x.2.2]
theorem entC_len (x : Ent) : (entC x).length = 3 := rfl
/-- the key ahead of entry i -/
def lastK (l : List Ent) : Nat → Int
  | 0 => -1
  | i + 1 => (l.getD i entD).1
/-- entries that a tree may be built of -/
structure EntsOk (v : Nat) (l : List Ent) : Prop where
  hk : ∀ i, i < l.length → 0 ≤ (l.getD i entD).1 ∧ (l.getD i entD).1 ≤ 281474976710655
  hs : ∀ j, j + 1 < l.length → (l.getD j entD).1 < (l.getD (j + 1) entD).1
  hw : ∀ i, i < l.length → (l.getD i entD).2.1.length = v
theorem EntsOk.last {v : Nat} {l : List Ent} (E : EntsOk v l) {i : Nat} (h : i < l.length) : lastK l i < (l.getD i entD).1 := by
  cases i with
  | zero => have := (E.hk 0 h).1; simp only [lastK]; omega
  | succ j => exact E.hs j h
theorem levs_ge (x : Nat) : x ≤ (levs x).sum := by
  by_cases h : x ≤ 1
  · rw [levs_one h]; simp
  · rw [levs_more h]; simp
theorem nodN_pos (t : Int) (n : Nat) : 1 ≤ nodN t n := by
  have h1 := levs_ge (ovN n (maxN t true)); have h2 := ovN_pos n (maxN t true); unfold nodN levL; omega
end Go.Proofs.YtinegkldgjhnpaaGreatDoor
namespace Go.Proofs.YtinegkldgjhnpaaGreatDoor
open Go.RowKit Go.Extern.Stop Go.Stop Go.Extern
set_option linter.unusedVariables false
attribute [local irreducible] wpList wpAnyH Code.wp Oper.wp Go

set_option maxRecDepth 100000 in
set_option maxHeartbeats 1000000 in
theorem value_root (w : World) :
    Calls Tryz.prog 161 #[] w (RetS (fun w' r => ∃ b, r = .slice (some ⟨b, 0, none⟩) 1 1 ∧ w.heap.size ≤ b ∧ Blk w' b [.int .i64 4, .int .i64 1, .int .i64 14399] 266) w) := by
 refine zin 3 Tryz.func161 ?_
 refine xbs 8 1 [.int .i64 4, .int .i64 1, .int .i64 14399] 266 fun b1 W1 n1 => ?_
 have g1 := n1.ge (Below.refl w.heap.size _)
 exact xe 4 (.slice (some ⟨b1, 0, none⟩) 1 1) ⟨_, rfl, n1.below, _, rfl, g1, n1.blk⟩
set_option maxRecDepth 100000 in
set_option maxHeartbeats 1000000 in
theorem value_put1 (gl gn : Nat) (n : Int) (h1 : 1 ≤ n) (h2 : n ≤ 14399) (w : World) (hl : Blk w gl [.int .i64 4, .int .i64 1, .int .i64 14399] 266) (hn : Blk w gn [.int .i64 n] 3) :
    Calls Tryz.prog 164 #[.slice (some ⟨gl, 0, none⟩) 1 1, .slice (some ⟨gn, 0, none⟩) 1 1] w (Ret (.string ⟨(leB n 4).toArray⟩) w) := by
 have hlo := h1
 have hhi := h2
 clear h2
 refine zin 51 Tryz.func164 ?_
 refine xu 19 2 ?_
 refine xlv 15 hl.rp ?_
 refine xa 0 [.int .i64 0, .int .i64 0, .int .i64 0] 266 fun b1 W1 n1 => ?_
 have d1_gl := n1.ne hl
 refine xsv 1 n1.blk [.int .i64 4, .int .i64 1, .int .i64 14399] fun W2 u2 k2 => ?_
 have g1 := n1.ge (Below.refl w.heap.size _)
 refine xd 4 .z ?_
 have hn'1 := (u2.blkT (hn.below n1.below) n1.blk (by decide)).below (below_drew W2)
 refine xb (.e [0, 1, 2] 3) 0 hn'1 ?_
 have k2'1 := k2.below (below_drew W2)
 refine xb (.e [4] 5) 1 k2'1 ?_
 refine xgk (.b [6, 7]) [23, 24] (show (decide (n < (1 : Int)) : Bool) = false from decide_eq_false (by omega)) ?_
 refine xb (.e [8, 9, 10] 11) 0 hn'1 ?_
 refine xb (.e [12] 13) 2 k2'1 ?_
 refine xk (.r [14, 15] 2) (show (decide (n > (14399 : Int)) : Bool) = false from decide_eq_false (by omega)) ?_
 refine xd 3 .z ?_
 have k2'2 := k2'1.below (below_drew W2.drew)
 refine xb (.e [0] 1) 0 k2'2 ?_
 have hn'2 := hn'1.below (below_drew W2.drew)
 refine xb (.e [2, 3, 4] 5) 0 hn'2 ?_
 refine xbs (.o [6] 7) 1 [.int .i64 4, .int .i64 n] 122 fun b4 W4 n4 => ?_
 refine yc (.o [] 8) (args := #[.slice (some ⟨b4, 0, none⟩) 1 1]) .z (Pack_4 b4 n (by omega) (by omega) _ n4.blk) ?_
 rintro _ W5 ⟨_, rfl, hb5, p2, c2, rfl, h2⟩
 have hs5 := (Bl.next (Bl.next (Bl.next (u2.below n1.below g1) (below_drew W2)) (below_drew W2.drew)) n4.below).size
 refine ⟨hb5, ?_⟩
 have o6 := World.ownsRow_nil W5 w.heap.size 5 1
 have h2'1 := own_mono h2 hs5
 have hB := Bl.next (Bl.next (Bl.next (Bl.next (u2.below n1.below g1) (below_drew W2)) (below_drew W2.drew)) n4.below) hb5
 refine xbi (.r [9, 10, 11, 12, 13] 5) fun _ _ _ _ zJ zQ zo zx zy zK => op_app (m := 4) (news := (leB n 4).map bv) (.int .u8 0) 1 1 (4) ((leB n 4).map bv) zo Tryz.underlying22 (by kernel_rfl) rfl (by decide) zx o6 zy (own_sl h2'1) (by simp [leB_len]) (bv_one _) (by unfold maxLen; omega) (by omega) hB.size (by rfl) (by simp) fun p7 c7 W7 o7 hg7 hb7 => ?_
 refine zK _ _ ?_
 refine xcv0 24 (fun _ _ _ zo zx => run_bstr zo zx (bys_of (own_sl o7) (leB_len _ _)) (leB_len _ _) Tryz.underlying22 Tryz.underlying5 Tryz.underlying9) ?_
 have hB'1 := hB.trans hb7
 exact xe 4 (.string ⟨(leB n 4).toArray⟩) ⟨rfl, hB'1⟩
end Go.Proofs.YtinegkldgjhnpaaGreatDoor
namespace Go.Proofs.YtinegkldgjhnpaaGreatDoor
open Go.RowKit Go.Extern.Stop Go.Stop Go.Extern
set_option linter.unusedVariables false
attribute [local irreducible] wpList wpAnyH Code.wp Oper.wp Go

theorem Sts.cut {α : Type} {f : α → List Value} {m : Nat} {w : World} {b : Option Addr} {c : Nat} {l : List α} (hm : ∀ x, (f x).length = m) (h : Sts f w (.slice b l.length c) l) (k : Nat) (hk : k ≤ l.length) : Sts f w (.slice (cutA b k c m) (l.drop k).length (c - k)) (l.drop k) := by
  have hlen : (l.drop k).length = l.length - k := by simp
  have hcap := Sl.cap h
  by_cases hkn : k = l.length
  · refine .inl ⟨cutA b k c m, c - k, by rw [show (l.drop k).length = 0 by omega], by omega, ?_⟩
    rw [List.drop_eq_nil_of_le (by omega)]; rfl
  rcases h with ⟨a', c', h1, h2, h3⟩ | ⟨g, off, cap, h1, h2, h3, h4⟩
  · omega
  · simp only [Value.slice.injEq] at h1
    obtain ⟨rfl, _, rfl⟩ := h1
    refine .inr ⟨g, off + k * m, c - k, ?_, by omega, by omega, fun j x hj => ?_⟩
    · rw [cutA, if_neg (by omega)]; simp [Addr.add]
    · have hfl : (l.drop k).flatMap f = (l.flatMap f).drop (k * m) := by
        conv => rhs; rw [← List.take_append_drop k l, List.flatMap_append]
        rw [List.drop_left' (by rw [flat_length hm, List.length_take, Nat.min_eq_left hk])]
      rw [hfl, List.getElem?_drop] at hj
      have := h4 _ _ hj
      rwa [← Nat.add_assoc] at this
/-- the entries of node i -/
def chunkE (l : List Ent) (m i : Nat) : List Ent := (l.drop (i * m)).take m
def keysE (c : List Ent) : List Int := c.map (·.1)
def valsE (c : List Ent) : List (List UInt8) := c.map (·.2.1)
/-- the bytes of a node -/
def nodB (t : Int) (leaf : Bool) (m v : Nat) (c : List Ent) : List UInt8 := nodeP m v (headB t leaf c.length m v) (keysE c) (valsE c) c.length
/-- a level's nodes laid from number q on -/
def levB (t : Int) (leaf : Bool) (m v : Nat) (l : List Ent) (q : Nat) (bs : List UInt8) : Nat → List UInt8
  | 0 => bs
  | i + 1 => putB (levB t leaf m v l q bs i) ((q + i) * 256) (sealB 2 ((q + i : Nat) : Int) (nodB t leaf m v (chunkE l m i)))
def upX (l : List Ent) (m q i : Nat) : Ent := (((chunkE l m i).getD 0 entD).1, leB ((q + i : Nat) : Int) 4, ((q + i : Nat) : Int))
/-- the entries of the level above -/
def upE (l : List Ent) (m q j : Nat) : List Ent := (List.range j).map (upX l m q)
theorem upE_succ (l : List Ent) (m q j : Nat) : upE l m q (j + 1) = upE l m q j ++ [upX l m q j] := by simp [upE, List.range_succ]
theorem upE_len (l : List Ent) (m q j : Nat) : (upE l m q j).length = j := by simp [upE]
theorem upE_get {l : List Ent} {m q j i : Nat} (h : i < j) : (upE l m q j).getD i entD = upX l m q i := by simp [upE, List.getD, List.getElem?_range h]
theorem chunk_len (l : List Ent) (m i : Nat) : (chunkE l m i).length = sizN l.length m i := by simp [chunkE, sizN]
theorem chunk_get {l : List Ent} {m i j : Nat} (h : j < sizN l.length m i) : (chunkE l m i).getD j entD = l.getD (i * m + j) entD := by
  unfold sizN at h
  simp [chunkE, List.getD, List.getElem?_take_of_lt (show j < m by omega), List.getElem?_drop]
theorem keysE_get {c : List Ent} {j : Nat} (h : j < c.length) : (keysE c).getD j 0 = (c.getD j entD).1 := by simp [keysE, List.getD, h]
theorem valsE_get {c : List Ent} {j : Nat} (h : j < c.length) : (valsE c).getD j [] = (c.getD j entD).2.1 := by simp [valsE, List.getD, h]
theorem keysE_len (c : List Ent) : (keysE c).length = c.length := by simp [keysE]
theorem valsE_len (c : List Ent) : (valsE c).length = c.length := by simp [valsE]
theorem siz_lt {n m i : Nat} (hm : 1 ≤ m) (hn : 1 ≤ n) (h : i < ovN n m) : i * m < n := by
  unfold ovN at h
  rcases Nat.eq_zero_or_pos i with rfl | hi
  · omega
  have h2 : i < (n + m - 1) / m := by omega
  have h3 := (Nat.lt_div_iff_mul_lt (by omega)).1 h2
  omega
theorem chunk_ok {t : Int} {leaf : Bool} {m v : Nat} {l : List Ent} (E : EntsOk v l) (h1 : 1 ≤ t) (h2 : t ≤ 5) (hm : maxN t leaf = m) (hv : widN t leaf = v) (hl : leaf = false → 1 ≤ l.length) {i : Nat} (hi : i < ovN l.length m) : NodeOk t leaf (chunkE l m i).length m v (keysE (chunkE l m i)) (valsE (chunkE l m i)) := by
  have hm1 := (maxN_pos t leaf).1
  rw [hm] at hm1
  have hlen := chunk_len l m i
  have hile := siz_le hm1 hi
  have hle : (chunkE l m i).length ≤ l.length - i * m := by rw [hlen]; unfold sizN; omega
  have key : ∀ j, j < (chunkE l m i).length → i * m + j < l.length ∧ (keysE (chunkE l m i)).getD j 0 = (l.getD (i * m + j) entD).1 ∧ (valsE (chunkE l m i)).getD j [] = (l.getD (i * m + j) entD).2.1 := fun j hj => by
    refine ⟨by omega, ?_, ?_⟩
    · rw [keysE_get hj, chunk_get (by omega)]
    · rw [valsE_get hj, chunk_get (by omega)]
  refine ⟨h1, h2, hm, hv, keysE_len _, valsE_len _, by rw [hlen]; unfold sizN; omega, fun h => ?_, fun j hj => ?_, fun j hj => ?_, fun j hj => ?_⟩
  · have := siz_lt hm1 (hl h) hi
    rw [hlen]; unfold sizN; omega
  · obtain ⟨a1, a2, _⟩ := key j hj
    rw [a2]; exact E.hk _ a1
  · obtain ⟨a1, a2, _⟩ := key j (by omega)
    obtain ⟨b1, b2, _⟩ := key (j + 1) hj
    rw [a2, b2]; exact E.hs _ (by omega)
  · obtain ⟨a1, _, a3⟩ := key j hj
    rw [a3]; exact E.hw _ a1
theorem nodB_len {t : Int} {leaf : Bool} {m v : Nat} {c : List Ent} (N : NodeOk t leaf c.length m v (keysE c) (valsE c)) : (nodB t leaf m v c).length = 244 := by
  have hf := fitN t leaf
  rw [N.hm, N.hv] at hf
  exact nodeP_len (headB_len _ _ _ _ _) hf N.hn (fun j hj => N.hw j hj)
theorem siz_elem {w : World} {b : Option Addr} {n m c : Nat} (h : Sl w (.slice b (ovN n m) c) (ovN n m) ((sizL n m).map nv)) {k : Nat} (hk : k < ovN n m) : b.isSome = true ∧ w.cell? (elemAddr b (k * 1)) = some (.int .i64 ((sizN n m k : Nat) : Int)) := by
  have := nv_elem h (sizL_len n m) hk
  rwa [show (sizL n m).getD k 0 = sizN n m k from by simp [sizL, List.getD, List.getElem?_range hk]] at this
theorem keys_take {l : List Ent} {j : Nat} (h : j < l.length) : ((keysE l).take (j + 1)).map (Value.int .i64) = ((keysE l).take j).map (Value.int .i64) ++ [.int .i64 (l.getD j entD).1] := by
  rw [List.take_succ_eq_append_getElem (by rw [keysE_len]; exact h)]
  simp [keysE, List.getD, h]
theorem vals_take {l : List Ent} {j : Nat} (h : j < l.length) : ((valsE l).take (j + 1)).map sv = ((valsE l).take j).map sv ++ [.string ⟨(l.getD j entD).2.1.toArray⟩] := by
  rw [List.take_succ_eq_append_getElem (by rw [valsE_len]; exact h)]
  simp [valsE, List.getD, h, sv]
theorem keys_chunk {l : List Ent} {m i s : Nat} (hs : sizN l.length m i = s) : (keysE (l.drop (i * m))).take s = keysE (chunkE l m i) := by
  subst hs
  unfold keysE chunkE sizN
  rw [← List.map_take]
  congr 1
  rw [List.take_eq_take_iff]; simp
theorem vals_chunk {l : List Ent} {m i s : Nat} (hs : sizN l.length m i = s) : (valsE (l.drop (i * m))).take s = valsE (chunkE l m i) := by
  subst hs
  unfold valsE chunkE sizN
  rw [← List.map_take]
  congr 1
  rw [List.take_eq_take_iff]; simp
theorem EntsOk.mono {v : Nat} {l : List Ent} (E : EntsOk v l) : ∀ {a b : Nat}, a < b → b < l.length → (l.getD a entD).1 < (l.getD b entD).1 := by
  intro a b h hb
  induction b with
  | zero => omega
  | succ b ih =>
    have h1 := E.hs b (by omega)
    rcases Nat.lt_or_ge a b with h2 | h2
    · have := ih h2 (by omega); omega
    · obtain rfl : a = b := by omega
      exact h1
theorem up_key {v : Nat} {l : List Ent} {m : Nat} (hm : 1 ≤ m) (hl : 1 ≤ l.length) {i q : Nat} (hi : i < ovN l.length m) : (upX l m q i).1 = (l.getD (i * m) entD).1 ∧ i * m < l.length := by
  have h := siz_lt hm hl hi
  refine ⟨?_, h⟩
  unfold upX
  rw [chunk_get (by unfold sizN; omega)]; rfl
theorem up_ok {v : Nat} {l : List Ent} (E : EntsOk v l) {m q : Nat} (hm : 1 ≤ m) : EntsOk 4 (upE l m q (ovN l.length m)) := by
  rcases Nat.eq_zero_or_pos l.length with h0 | hl
  · have h1 : ovN l.length m = 1 := by
      rw [h0]; unfold ovN
      have : (0 + m - 1) / m = 0 := Nat.div_eq_of_lt (by omega)
      omega
    have hnil : l = [] := List.eq_nil_of_length_eq_zero h0
    subst hnil
    constructor
    · intro i hi; rw [upE_len, h1] at hi; rw [upE_get (by omega)]; simp [upX, chunkE, entD]
    · intro j hj; rw [upE_len, h1] at hj; omega
    · intro i hi; rw [upE_len, h1] at hi; rw [upE_get (by omega)]; simp [upX, leB_len]
  constructor
  · intro i hi
    rw [upE_len] at hi
    obtain ⟨h1, h2⟩ := up_key (v := v) (q := q) hm hl hi
    rw [upE_get hi, h1]; exact E.hk _ h2
  · intro j hj
    rw [upE_len] at hj
    obtain ⟨h1, h2⟩ := up_key (v := v) (q := q) hm hl hj
    obtain ⟨h3, h4⟩ := up_key (v := v) (q := q) hm hl (show j < ovN l.length m by omega)
    rw [upE_get hj, upE_get (by omega), h1, h3]
    refine E.mono ?_ h2
    rw [Nat.add_mul]; omega
  · intro i hi
    rw [upE_len] at hi
    rw [upE_get hi]; simp [upX, leB_len]
/-- the levels above: the root's number, and the bytes -/
def treeUp (t : Int) (u : List Ent) (q : Nat) (bs : List UInt8) : Int × List UInt8 :=
  if h : u.length ≤ 1 then ((u.getD 0 entD).2.2, bs)
  else treeUp t (upE u 18 q (ovN u.length 18)) (q + ovN u.length 18) (levB t false 18 4 u q bs (ovN u.length 18))
termination_by u.length
decreasing_by rw [upE_len]; have := ov18 (x := u.length) (by omega); omega
theorem treeUp_one {t : Int} {u : List Ent} {q : Nat} {bs : List UInt8} (h : u.length ≤ 1) : treeUp t u q bs = ((u.getD 0 entD).2.2, bs) := by rw [treeUp]; simp [h]
theorem treeUp_more {t : Int} {u : List Ent} {q : Nat} {bs : List UInt8} (h : ¬ u.length ≤ 1) : treeUp t u q bs = treeUp t (upE u 18 q (ovN u.length 18)) (q + ovN u.length 18) (levB t false 18 4 u q bs (ovN u.length 18)) := by rw [treeUp]; simp [h]
/-- a packed tree laid from number q on -/
def treeB (t : Int) (l : List Ent) (q : Nat) (bs : List UInt8) : Int × List UInt8 :=
  treeUp t (upE l (maxN t true) q (ovN l.length (maxN t true))) (q + ovN l.length (maxN t true)) (levB t true (maxN t true) (widN t true) l q bs (ovN l.length (maxN t true)))
/-- the root is the last number -/
theorem treeUp_root {t : Int} {u : List Ent} {q : Nat} {bs : List UInt8} (h1 : 1 ≤ u.length) (hu : (u.getD (u.length - 1) entD).2.2 = ((q - 1 : Nat) : Int)) (hq : 1 ≤ q) : (treeUp t u q bs).1 = ((q - 1 + ((levs u.length).sum - u.length) : Nat) : Int) := by
  induction hx : u.length using Nat.strongRecOn generalizing u q bs with
  | _ x ih =>
    subst hx
    by_cases h : u.length ≤ 1
    · rw [treeUp_one h, levs_one h]
      rw [show u.length - 1 = 0 by omega] at hu
      show (u.getD 0 entD).2.2 = _
      rw [hu]; simp
    · have h18 := ov18 (x := u.length) (by omega)
      have hp := ovN_pos u.length 18
      rw [treeUp_more h, ih (ovN u.length 18) (by omega) (u := upE u 18 q (ovN u.length 18)) (q := q + ovN u.length 18) (by rw [upE_len]; exact hp) ?_ (by omega) (upE_len _ _ _ _), levs_more h]
      · have hge := levs_ge (ovN u.length 18)
        simp only [List.sum_cons]
        congr 1
        omega
      · rw [upE_len, upE_get (by omega)]
        simp only [upX]
        congr 1
        omega
theorem up_row {l : List Ent} {m q i : Nat} {key : Int} (hk : key = ((chunkE l m i).getD 0 entD).1) : (upE l m q i).flatMap entC ++ [.int .i64 key, .string ⟨(leB ((q + i : Nat) : Int) 4).toArray⟩, .int .i64 ((q + i : Nat) : Int)] = (upE l m q (i + 1)).flatMap entC := by
  subst hk; rw [upE_succ]; simp [entC, upX]
theorem chunk_key {l : List Ent} {m i j : Nat} (hs : sizN l.length m i = j) (hj : 0 < j) : ((keysE (chunkE l m i))).getD 0 0 = ((chunkE l m i).getD 0 entD).1 := keysE_get (by rw [chunk_len]; omega)
theorem chunk_nokey {l : List Ent} {m i j : Nat} (hs : sizN l.length m i = j) (hj : j = 0) : (0 : Int) = ((chunkE l m i).getD 0 entD).1 := by
  have : chunkE l m i = [] := List.eq_nil_of_length_eq_zero (by rw [chunk_len]; omega)
  rw [this]; rfl
end Go.Proofs.YtinegkldgjhnpaaGreatDoor
namespace Go.Proofs.YtinegkldgjhnpaaGreatDoor
open Go.RowKit Go.Extern.Stop Go.Stop Go.Extern
set_option linter.unusedVariables false
attribute [local irreducible] wpList wpAnyH Code.wp Oper.wp Go

/-- how many blocks of counts so many counts need -/
def bmN (n : Nat) : Nat := (n + 959) / 960
theorem bmN_lt {n i : Nat} (h : i < bmN n) : i * 960 < n := by unfold bmN at h; omega
theorem bmN_done {n i : Nat} (h : i = bmN n) : n ≤ i * 960 := by subst h; unfold bmN; omega
def mn3 (n : Int) : Int := if n < 3 then n else 3
def smallL (l : List Int) : List Int := l.map mn3
theorem smallL_len (l : List Int) : (smallL l).length = l.length := by simp [smallL]
theorem small_snoc {l : List Int} {k : Nat} (h : k < l.length) : smallL (l.take (k + 1)) = smallL (l.take k) ++ [mn3 (l.getD k 0)] := by
  unfold smallL
  rw [List.take_succ_eq_append_getElem h, List.map_append, show l.getD k 0 = l[k] from by simp [List.getD, h]]
  rfl
/-- what stands for a count of three or more -/
def ovX (l : List Int) (k : Nat) : List Ent := if 3 ≤ l.getD k 0 then [((k : Int), leB (l.getD k 0) 4, 0)] else []
def overK (l : List Int) (k : Nat) : List Ent := (List.range k).flatMap (ovX l)
theorem overK_succ (l : List Int) (k : Nat) : overK l (k + 1) = overK l k ++ ovX l k := by simp [overK, List.range_succ]
theorem overK_yes {l : List Int} {k : Nat} (h : 3 ≤ l.getD k 0) : overK l (k + 1) = overK l k ++ [((k : Int), leB (l.getD k 0) 4, 0)] := by rw [overK_succ]; unfold ovX; rw [if_pos h]
theorem overK_no {l : List Int} {k : Nat} (h : ¬ 3 ≤ l.getD k 0) : overK l (k + 1) = overK l k := by rw [overK_succ]; unfold ovX; rw [if_neg h]; simp
theorem overK_ok (l : List Int) (k : Nat) : (overK l k).Pairwise (fun a b => a.1 < b.1) ∧ ∀ x ∈ overK l k, 0 ≤ x.1 ∧ x.1 < k ∧ x.2.1.length = 4 := by
  induction k with
  | zero => simp [overK]
  | succ k ih =>
    by_cases h3 : 3 ≤ l.getD k 0
    · rw [overK_yes h3]
      refine ⟨List.pairwise_append.2 ⟨ih.1, by simp, fun a ha b hb => ?_⟩, fun x hx => ?_⟩
      · simp only [List.mem_singleton] at hb; subst hb; exact (ih.2 a ha).2.1
      · rcases List.mem_append.1 hx with h | h
        · have := ih.2 x h; exact ⟨this.1, by have := this.2.1; omega, this.2.2⟩
        · simp only [List.mem_singleton] at h; subst h; exact ⟨Int.natCast_nonneg _, by show (k : Int) < ((k + 1 : Nat) : Int); omega, leB_len _ _⟩
    · rw [overK_no h3]
      exact ⟨ih.1, fun x hx => by have := ih.2 x hx; exact ⟨this.1, by have := this.2.1; omega, this.2.2⟩⟩
theorem overK_len (l : List Int) (k : Nat) : (overK l k).length ≤ k := by
  induction k with
  | zero => simp [overK]
  | succ k ih =>
    by_cases h3 : 3 ≤ l.getD k 0
    · rw [overK_yes h3]; simp; exact ih
    · rw [overK_no h3]; omega
theorem ents_getD {l : List Ent} {i : Nat} (h : i < l.length) : l.getD i entD = l[i] := by simp [List.getD, h]
theorem over_ents (l : List Int) (k : Nat) (hk : k ≤ 65536) : EntsOk 4 (overK l k) := by
  have h := overK_ok l k
  refine ⟨fun i hi => ?_, fun j hj => ?_, fun i hi => ?_⟩
  · rw [ents_getD hi]; have := h.2 _ (List.getElem_mem hi); omega
  · rw [ents_getD hj, ents_getD (by omega)]; exact List.pairwise_iff_getElem.1 h.1 j (j + 1) (by omega) hj (by omega)
  · rw [ents_getD hi]; exact (h.2 _ (List.getElem_mem hi)).2.2
def cntOk (n : Int) : Prop := 0 ≤ n ∧ n ≤ 2147483647
instance (n : Int) : Decidable (cntOk n) := by unfold cntOk; infer_instance
/-- the error of counts -/
def splitE (l : List Int) : Int := if 65536 < l.length then 1 else if ∀ k, k < l.length → cntOk (l.getD k 0) then 0 else 2
theorem splitE_ok {l : List Int} (h : splitE l = 0) : l.length ≤ 65536 ∧ ∀ k, k < l.length → cntOk (l.getD k 0) := by
  unfold splitE at h
  split at h
  · simp at h
  · split at h
    · exact ⟨by omega, by assumption⟩
    · simp at h
/-- a chunk of counts -/
def chunkI (l : List Int) (i : Nat) : List Int := (l.drop (i * 960)).take 960
def chunksI (l : List Int) (n : Nat) : List (List Int) := (List.range n).map (chunkI l)
theorem chunksI_len (l : List Int) (n : Nat) : (chunksI l n).length = n := by simp [chunksI]
theorem chunksI_get {l : List Int} {n i : Nat} (h : i < n) : (chunksI l n).getD i [] = chunkI l i := by simp [chunksI, List.getD, h]
theorem chunksI_succ (l : List Int) (n : Nat) : chunksI l (n + 1) = chunksI l n ++ [chunkI l n] := by simp [chunksI, List.range_succ]
theorem chunkI_len (l : List Int) (i : Nat) : (chunkI l i).length = min 960 (l.length - i * 960) := by simp [chunkI]
/-- small counts -/
def Small (l : List Int) : Prop := ∀ n ∈ l, 0 ≤ n ∧ n ≤ 3
theorem small_ok {l : List Int} (h : ∀ k, k < l.length → cntOk (l.getD k 0)) : Small (smallL l) := by
  intro n hn
  obtain ⟨m, hm, rfl⟩ := List.mem_map.1 hn
  obtain ⟨k, hk, rfl⟩ := List.getElem_of_mem hm
  have := h k hk
  rw [show l.getD k 0 = l[k] from by simp [List.getD, hk]] at this
  unfold cntOk at this
  unfold mn3; split <;> omega
theorem chunk_small {l : List Int} (h : Small l) (i : Nat) : Small (chunkI l i) := fun n hn => h n (List.mem_of_mem_drop (List.mem_of_mem_take hn))
/-- a count at a place, of the first i counts -/
def atI (l : List Int) (i j : Nat) : Int := if j < i then l.getD j 0 else 0
def g4 (l : List Int) (i k : Nat) : Int := atI l i (4 * k) + 4 * atI l i (4 * k + 1) + 16 * atI l i (4 * k + 2) + 64 * atI l i (4 * k + 3)
def g4B (l : List Int) (i k : Nat) : UInt8 := UInt8.ofNat (g4 l i k).toNat
/-- a block of counts, of which the first i stand there -/
def bitsT (l : List Int) (i : Nat) : List UInt8 := leB l.length 4 ++ (List.range 240).map (g4B l i)
theorem bitsT_len (l : List Int) (i : Nat) : (bitsT l i).length = 244 := by simp [bitsT, leB_len]
def bitsB (l : List Int) : List UInt8 := bitsT l l.length
def freeK (l : List Int) (k : Nat) : Nat := ((l.take k).filter fun n => n == 0).length
def freeN (l : List Int) : Nat := freeK l l.length
def firstN (l : List Int) : Nat := l.findIdx fun n => n == 0
theorem freeK_succ {l : List Int} {k : Nat} (h : k < l.length) : freeK l (k + 1) = freeK l k + (if l.getD k 0 = 0 then 1 else 0) := by
  unfold freeK
  rw [List.take_succ_eq_append_getElem h, List.filter_append, List.length_append]
  simp only [List.getD, List.getElem?_eq_getElem h, Option.getD_some]
  by_cases e : l[k] = 0 <;> simp [e]
theorem freeK_le (l : List Int) (k : Nat) : freeK l k ≤ k := Nat.le_trans (List.length_filter_le _ _) (by simp; omega)
theorem firstN_le (l : List Int) : firstN l ≤ l.length := List.findIdx_le_length
theorem firstN_at {l : List Int} {i : Nat} (h : i < l.length) (h0 : l.getD i 0 = 0) (hp : ∀ j, j < i → l.getD j 0 ≠ 0) : firstN l = i := by
  unfold firstN
  refine (List.findIdx_eq h).2 ⟨?_, fun j hj => ?_⟩
  · rw [List.getD, List.getElem?_eq_getElem h] at h0; simpa using h0
  · have := hp j hj
    rw [List.getD, List.getElem?_eq_getElem (by omega)] at this; simpa using this
theorem firstN_none {l : List Int} (hp : ∀ j, j < l.length → l.getD j 0 ≠ 0) : firstN l = l.length := by
  unfold firstN
  rw [List.findIdx_eq_length]
  intro n hn
  obtain ⟨k, hk, rfl⟩ := List.getElem_of_mem hn
  have := hp k hk
  rw [List.getD, List.getElem?_eq_getElem hk] at this; simpa using this
/-- a slot's value -/
def slotB (n f g : Int) : List UInt8 := leB n 8 ++ leB f 4 ++ leB g 4
theorem slotB_len (n f g : Int) : (slotB n f g).length = 16 := by simp [slotB, leB_len]
/-- blocks of counts laid from number q on -/
def cntsB (L : List (List Int)) (q : Nat) (bs : List UInt8) : Nat → List UInt8
  | 0 => bs
  | i + 1 => putB (cntsB L q bs i) ((q + i) * 256) (sealB 3 ((q + i : Nat) : Int) (bitsB (L.getD i [])))
def slotX (L : List (List Int)) (q i : Nat) : Ent := ((i : Int), slotB ((q + i : Nat) : Int) (freeN (L.getD i []) : Int) (firstN (L.getD i []) : Int), 0)
def slotsE (L : List (List Int)) (q j : Nat) : List Ent := (List.range j).map (slotX L q)
theorem slotsE_len (L : List (List Int)) (q j : Nat) : (slotsE L q j).length = j := by simp [slotsE]
theorem slotsE_succ (L : List (List Int)) (q j : Nat) : slotsE L q (j + 1) = slotsE L q j ++ [slotX L q j] := by simp [slotsE, List.range_succ]
theorem slotsE_get {L : List (List Int)} {q j i : Nat} (h : i < j) : (slotsE L q j).getD i entD = slotX L q i := by simp [slotsE, List.getD, h]
theorem slots_ents (L : List (List Int)) (q j : Nat) (hj : j ≤ 65536) : EntsOk 16 (slotsE L q j) := by
  refine ⟨fun i hi => ?_, fun i hi => ?_, fun i hi => ?_⟩ <;> rw [slotsE_len] at hi
  · rw [slotsE_get hi]; simp only [slotX]; omega
  · rw [slotsE_get hi, slotsE_get (by omega)]; simp only [slotX]; omega
  · rw [slotsE_get hi]; exact slotB_len _ _ _
/-- the two roots of counts written as a space map, and the image's bytes -/
def plotB (l : List Int) (q : Nat) (bs : List UInt8) : Int × Int × List UInt8 :=
  let L := chunksI (smallL l) (bmN l.length)
  let x := treeB 4 (slotsE L q (bmN l.length)) (q + bmN l.length) (cntsB L q bs (bmN l.length))
  let y := treeB 5 (overK l l.length) (q + bmN l.length + nodN 4 (bmN l.length)) x.2
  (x.1, y.1, y.2)
def plotN (l : List Int) : Nat := bmN l.length + nodN 4 (bmN l.length) + nodN 5 (overK l l.length).length
theorem atI_bd {l : List Int} (h : Small l) (i j : Nat) : 0 ≤ atI l i j ∧ atI l i j ≤ 3 := by
  unfold atI
  split
  · by_cases hj : j < l.length
    · rw [show l.getD j 0 = l[j] from by simp [List.getD, hj]]; exact h _ (List.getElem_mem hj)
    · rw [show l.getD j 0 = 0 from by simp [List.getD, Nat.le_of_not_lt hj]]; omega
  · omega
theorem getI_bd {l : List Int} (h : Small l) (j : Nat) : 0 ≤ l.getD j 0 ∧ l.getD j 0 ≤ 3 := by
  have := atI_bd h (j + 1) j
  unfold atI at this
  rwa [if_pos (by omega)] at this
theorem atI_ne {l : List Int} {i j : Nat} (h : j ≠ i) : atI l (i + 1) j = atI l i j := by
  unfold atI
  by_cases q : j < i
  · rw [if_pos q, if_pos (by omega)]
  · rw [if_neg q, if_neg (by omega)]
theorem atI_eq (l : List Int) (i : Nat) : atI l (i + 1) i = l.getD i 0 := by unfold atI; rw [if_pos (by omega)]
theorem atI_ge {l : List Int} {i j : Nat} (h : i ≤ j) : atI l i j = 0 := by unfold atI; rw [if_neg (by omega)]
theorem g4_ne {l : List Int} {i k : Nat} (h : k ≠ i / 4) : g4 l (i + 1) k = g4 l i k := by
  unfold g4
  rw [atI_ne (by omega), atI_ne (by omega), atI_ne (by omega), atI_ne (by omega)]
theorem g4_at {l : List Int} (h : Small l) {i q r : Nat} (hi : i = 4 * q + r) (hr : r < 4) : g4 l (i + 1) q = g4 l i q + l.getD i 0 * 4 ^ r ∧ 0 ≤ g4 l i q ∧ g4 l i q < 4 ^ r := by
  have b0 := atI_bd h i (4 * q)
  have b1 := atI_bd h i (4 * q + 1)
  have b2 := atI_bd h i (4 * q + 2)
  have b3 := atI_bd h i (4 * q + 3)
  unfold g4
  obtain rfl | rfl | rfl | rfl : r = 0 ∨ r = 1 ∨ r = 2 ∨ r = 3 := by omega
  · rw [show 4 * q = i from by omega, atI_eq, atI_ne (by omega), atI_ne (by omega), atI_ne (by omega), atI_ge (Nat.le_refl i), atI_ge (Nat.le_add_right i 1), atI_ge (Nat.le_add_right i 2), atI_ge (Nat.le_add_right i 3)]
    omega
  · have e2 : atI l i (4 * q + 2) = 0 := atI_ge (by omega)
    have e3 : atI l i (4 * q + 3) = 0 := atI_ge (by omega)
    have e1 : atI l i (4 * q + 1) = 0 := atI_ge (by omega)
    rw [atI_ne (j := 4 * q) (by omega), atI_ne (j := 4 * q + 2) (by omega), atI_ne (j := 4 * q + 3) (by omega), e1, e2, e3, ← hi, atI_eq]
    omega
  · have e2 : atI l i (4 * q + 2) = 0 := atI_ge (by omega)
    have e3 : atI l i (4 * q + 3) = 0 := atI_ge (by omega)
    rw [atI_ne (j := 4 * q) (by omega), atI_ne (j := 4 * q + 1) (by omega), atI_ne (j := 4 * q + 3) (by omega), e2, e3, ← hi, atI_eq]
    omega
  · have e3 : atI l i (4 * q + 3) = 0 := atI_ge (by omega)
    rw [atI_ne (j := 4 * q) (by omega), atI_ne (j := 4 * q + 1) (by omega), atI_ne (j := 4 * q + 2) (by omega), e3, ← hi, atI_eq]
    omega
/-- the byte with one count more -/
theorem g4B_at {l : List Int} (h : Small l) {i : Nat} : ((g4B l (i + 1) (i / 4)).toNat : Int) = ((g4B l i (i / 4)).toNat : Int) + l.getD i 0 * 4 ^ (i % 4) ∧ (g4B l i (i / 4)).toNat < 4 ^ (i % 4) := by
  obtain ⟨h1, h2, h3⟩ := g4_at h (show i = 4 * (i / 4) + i % 4 by omega) (by omega)
  have hn := getI_bd h i
  have hp : (4 : Int) ^ (i % 4) ≤ 64 := by
    have : i % 4 < 4 := by omega
    obtain e | e | e | e : i % 4 = 0 ∨ i % 4 = 1 ∨ i % 4 = 2 ∨ i % 4 = 3 := by omega
    all_goals rw [e]; decide
  have hp0 : (0 : Int) < 4 ^ (i % 4) := Int.pow_pos (by decide)
  generalize hP : (4 : Int) ^ (i % 4) = Pq at *
  have hq : l.getD i 0 * Pq ≤ 3 * Pq := Int.mul_le_mul_of_nonneg_right hn.2 (by omega)
  have hq0 : 0 ≤ l.getD i 0 * Pq := Int.mul_nonneg hn.1 (by omega)
  generalize l.getD i 0 * Pq = M at *
  have hP' : ((4 ^ (i % 4) : Nat) : Int) = Pq := by rw [← hP]; simp
  unfold g4B
  rw [UInt8.toNat_ofNat', UInt8.toNat_ofNat', h1]
  omega
/-- rows of counts, each of its own -/
def lstV (gs : List (Nat × Nat)) (L : List (List Int)) (i : Nat) : Value := .slice (some ⟨(gs.getD i (0, 0)).1, 0, none⟩) (L.getD i []).length (gs.getD i (0, 0)).2
structure Lists (w : World) (base : Nat) (v : Value) (gs : List (Nat × Nat)) (L : List (List Int)) : Prop where
  row : w.ownsRow base 26 1 v L.length ((List.range L.length).map (lstV gs L))
  each : ∀ i, i < L.length → w.ownsRow base 3 1 (lstV gs L i) (L.getD i []).length ((L.getD i []).map (Value.int .i64))
theorem Lists.below {w W : World} {base : Nat} {v : Value} {gs : List (Nat × Nat)} {L : List (List Int)} (h : Lists w base v gs L) (hb : Below w.heap.size w W) : Lists W base v gs L := ⟨own_below h.row hb, fun i hi => own_below (h.each i hi) hb⟩
theorem Lists.only {T : List TypeId} {w W : World} {base : Nat} {v : Value} {gs : List (Nat × Nat)} {L : List (List Int)} (h : Lists w base v gs L) (hO : Only T w W) (hT : T.contains 26 = false ∧ T.contains 3 = false) : Lists W base v gs L := ⟨own_only h.row hO hT.1, fun i hi => own_only (h.each i hi) hO hT.2⟩
theorem Lists.elem {w : World} {base : Nat} {p : Option Addr} {n c : Nat} {gs : List (Nat × Nat)} {L : List (List Int)} (h : Lists w base (.slice p n c) gs L) (hn : L.length = n) {k : Nat} (hk : k < n) : p.isSome = true ∧ w.cell? (elemAddr p (k * 1)) = some (lstV gs L k) := by
  subst hn
  rw [Nat.mul_one]
  exact Sl.elem (own_sl h.row) (by simp [hk])
theorem Lists.mono {w : World} {base base' : Nat} {v : Value} {gs : List (Nat × Nat)} {L : List (List Int)} (h : Lists w base' v gs L) (hb : base ≤ base') : Lists w base v gs L := ⟨own_mono h.row hb, fun i hi => own_mono (h.each i hi) hb⟩
theorem plotN_bd {l : List Int} (h : l.length ≤ 3000) : 2 ≤ plotN l ∧ plotN l ≤ 500 ∧ bmN l.length ≤ 4 := by
  have h4 := nodN_le 4 (bmN l.length)
  have h4p : 1 ≤ nodN 4 (bmN l.length) := by
    have h1 := levs_ge (ovN (bmN l.length) (maxN 4 true)); have h2 := ovN_pos (bmN l.length) (maxN 4 true); unfold nodN levL; omega
  have h5p : 1 ≤ nodN 5 (overK l l.length).length := by
    have h1 := levs_ge (ovN (overK l l.length).length (maxN 5 true)); have h2 := ovN_pos (overK l l.length).length (maxN 5 true); unfold nodN levL; omega
  have hk := overK_len l l.length
  have h5 := levs_sum (ovN_pos (overK l l.length).length (maxN 5 true))
  have ho : ovN (overK l l.length).length (maxN 5 true) ≤ 167 := by
    rw [show maxN 5 true = 18 from rfl]; unfold ovN; omega
  have h5' : nodN 5 (overK l l.length).length ≤ 334 := by unfold nodN levL; omega
  have hb : bmN l.length ≤ 4 := by unfold bmN; omega
  unfold plotN
  omega
/-- frames of blocks below a bound -/
def FrB (B : Nat) (S : List Nat) (w W : World) : Prop := w.heap.size ≤ W.heap.size ∧ ∀ k, k < B → k ∉ S → W.heap[k]? = w.heap[k]?
theorem Fr.trans_B {S S' : List Nat} {a w W : World} (h : Fr S a w) (k : FrB a.heap.size S' w W) (hs : ∀ k ∈ S', k ∈ S) : Fr S a W := ⟨Nat.le_trans h.size k.1, fun i hi hn => (k.2 i hi fun q => hn (hs i q)).trans (h.block i hi hn)⟩
/-- one count more -/
theorem or_step : ∀ r : Fin 4, ∀ n : Fin 4, ∀ o : Fin 64, o.val < 4 ^ r.val → o.val ||| (n.val * 4 ^ r.val) = o.val + n.val * 4 ^ r.val := by decide
end Go.Proofs.YtinegkldgjhnpaaGreatDoor
namespace Go.Proofs.YtinegkldgjhnpaaGreatDoor
open Go.RowKit Go.Extern.Stop Go.Stop Go.Extern
set_option linter.unusedVariables false
attribute [local irreducible] wpList wpAnyH Code.wp Oper.wp Go

theorem seal_OpenNb (kind no : Int) (a : Option Addr) (n c : Nat) (l : List UInt8) (w : World) (hn : l.length = n) (h : Bys w (.slice a n c) l) : Calls Tryz.prog 100 #[.slice a n c, .int .i64 kind, .int .i64 no] w (OpenP kind no l w) := by
  subst hn; exact seal_Open kind no a c l w h
theorem bits_ReadN (a : Option Addr) (n c : Nat) (l : List UInt8) (w : World) (hn : l.length = n) (hl : n ≤ 100000000) (h : Bys w (.slice a n c) l) : Calls Tryz.prog 60 #[.slice a n c] w (BitsP l w) := by
  subst hn; exact bits_Read a c l w hl h
def bitsOkB (l : List UInt8) : Bool := decide (l.length = 244) && decide (rawN l 0 4 ≤ 960) && (List.range 960).all fun i => decide (i < rawN l 0 4) || bitN l i == 0
theorem bitsOkB_iff (l : List UInt8) : bitsOkB l = true ↔ bitsOk l := by
  unfold bitsOkB bitsOk
  simp only [Bool.and_eq_true, decide_eq_true_eq, List.all_eq_true, List.mem_range, Bool.or_eq_true, beq_iff_eq]
  constructor
  · rintro ⟨⟨h1, h2⟩, h3⟩
    exact ⟨h1, h2, fun i hi hc => (h3 i hi).resolve_left (by omega)⟩
  · rintro ⟨h1, h2, h3⟩
    exact ⟨⟨h1, h2⟩, fun i hi => by by_cases h : i < rawN l 0 4; exact .inl h; exact .inr (h3 i hi (by omega))⟩
/-- the number of Bits' error -/
def bitsErr (l : List UInt8) (no : Int) : Int := if inE l 3 no = 0 then (if bitsOkB (inB l no) then 0 else 7) else inE l 3 no
def BlkBitsP (l : List UInt8) (no : Int) (w : World) (e : Ending) (w' : World) : Prop :=
  (bitsErr l no ≠ 0 ∧ ∃ b, e = .returned (.tuple #[.slice none 0 0, .iface 67 (.pointer (some ⟨b, 0, none⟩))]) ∧ Below w.heap.size w w' ∧ ErrV w' [some no] (some (bitsErr l no)) (.iface 67 (.pointer (some ⟨b, 0, none⟩)))) ∨
  (bitsErr l no = 0 ∧ ∃ p c, e = .returned (.tuple #[.slice p (rawN (inB l no) 0 4) c, .nilIface]) ∧ Below w.heap.size w w' ∧ w'.ownsRow w.heap.size 3 1 (.slice p (rawN (inB l no) 0 4) c) (rawN (inB l no) 0 4) ((bitsL (inB l no) (rawN (inB l no) 0 4)).map nv))
set_option maxRecDepth 100000 in
set_option maxHeartbeats 1000000 in
theorem readB (B b : Nat) (p : Option Addr) (n c : Nat) (l : List UInt8) (no : Int) (w : World) (hI : ImgR B b p n c l w) :
    Calls Tryz.prog 59 #[.pointer (some ⟨b, 0, none⟩), .int .i64 no, .int .i64 3, .func (.func 60) #[] #[]] w (BlkBitsP l no w) := by
 refine zin 56 Tryz.func59 ?_
 refine xc 15 (args := #[.pointer (some ⟨b, 0, none⟩), .int .i64 no]) (image_Read B b p n c l no _ (hI.below (Below.refl w.heap.size _))) ?_
 rintro e W1 hq1
 rcases hq1 with ⟨ho, vr, rfl, hb1⟩ | ⟨j, hk, hj, p2, c2, rfl, hb1, ho⟩
 · refine xc 21 (args := #[.int .i64 no, .iface 53 (.int .i64 3)]) (block_told no 3 _) ?_
   rintro _ W2 ⟨_, rfl, hb2, hv2⟩
   rw [if_neg (by decide), if_neg (by decide)] at hv2
   have hq2 := hv2
   obtain ⟨bf2, vf2, rfl, _, _⟩ := hq2
   have hB := Bl.next hb1 hb2
   refine xe 6 (.tuple #[.slice none 0 0, .iface 67 (.pointer (some ⟨bf2, 0, none⟩))]) ?_
   have he : bitsErr l no = 3 := by unfold bitsErr; rw [inE_out hI.len ho]; rfl
   exact .inl ⟨by rw [he]; decide, _, rfl, hB, by rw [he]; exact hv2⟩
 have hs1 := Nat.le_refl w.heap.size
 have hj2 : j < l.length / 256 := by rw [hI.len]; exact hj
 have hlj := blkB_len hj2
 have he2 := inE_in (l := l) (kind := 3) hI.len hk hj
 have ho'1 := own_mono ho hs1
 refine xc 22 (args := #[.slice p2 256 c2, .int .i64 3, .int .i64 no]) (seal_OpenNb 3 no p2 256 c2 (blkB l j) _ hlj (bys_of (own_sl ho'1) hlj)) ?_
 rintro e W3 hq3
 rcases hq3 with ⟨hs, rfl, hb3⟩ | ⟨hs, p3, c3, rfl, hb3, h3⟩
 · refine xk 14 (show (((openE 3 no (blkB l j)) != (0 : Int)) : Bool) = true from bne_iff_ne.2 hs) ?_
   refine xc 6 (args := #[.int .i64 no, .iface 53 (.int .i64 (openE 3 no (blkB l j)))]) (block_told no (openE 3 no (blkB l j)) _) ?_
   rintro _ W4 ⟨_, rfl, hb4, hv4⟩
   rw [if_neg hs, if_neg hs] at hv4
   have hq4 := hv4
   obtain ⟨bf4, vf4, rfl, _, _⟩ := hq4
   have hB := Bl.next (Bl.next hb1 hb3) hb4
   refine xe 6 (.tuple #[.slice none 0 0, .iface 67 (.pointer (some ⟨bf4, 0, none⟩))]) ?_
   have he : bitsErr l no = openE 3 no (blkB l j) := by unfold bitsErr; rw [he2, if_neg hs]
   exact .inl ⟨by rw [he]; exact hs, _, rfl, hB, by rw [he]; exact hv4⟩
 have h3'1 := own_mono h3 hb1.size
 have hin : ((blkB l j).drop 8).take 244 = inB l no := (inB_in hk).symm
 have hil := inB_len hI.len hk hj
 rw [hin] at h3'1
 refine xc 21 (args := #[.slice p3 244 c3]) (bits_ReadN p3 244 c3 (inB l no) _ hil (by decide) (bys_of (own_sl h3'1) hil)) ?_
 rintro e W5 hq5
 rcases hq5 with ⟨hb0, rfl, hb5⟩ | ⟨hb0, p4, c4, rfl, hb5, h4⟩
 · refine xc 21 (args := #[.int .i64 no, .iface 53 (.int .i64 7)]) (block_told no 7 _) ?_
   rintro _ W6 ⟨_, rfl, hb6, hv6⟩
   rw [if_neg (by decide), if_neg (by decide)] at hv6
   have hq6 := hv6
   obtain ⟨bf6, vf6, rfl, _, _⟩ := hq6
   have hB := Bl.next (Bl.next (Bl.next hb1 hb3) hb5) hb6
   refine xe 6 (.tuple #[.slice none 0 0, .iface 67 (.pointer (some ⟨bf6, 0, none⟩))]) ?_
   have he : bitsErr l no = 7 := by unfold bitsErr; rw [he2, if_pos hs, if_neg (by rw [bitsOkB_iff]; exact hb0)]
   exact .inl ⟨by rw [he]; decide, _, rfl, hB, by rw [he]; exact hv6⟩
 have hs5 := (Bl.next hb1 hb3).size
 have hB := Bl.next (Bl.next hb1 hb3) hb5
 have h4'1 := own_mono h4 hs5
 exact xe 25 (.tuple #[.slice p4 (rawN (inB l no) 0 4) c4, .nilIface]) (.inr ⟨by unfold bitsErr; rw [he2, if_pos hs, if_pos ((bitsOkB_iff _).2 hb0)], _, _, rfl, hB, h4'1⟩)
set_option maxRecDepth 100000 in
set_option maxHeartbeats 1000000 in
theorem block_Bits (B b : Nat) (p : Option Addr) (n c : Nat) (l : List UInt8) (no : Int) (w : World) (hI : ImgR B b p n c l w) :
    Calls Tryz.prog 22 #[.pointer (some ⟨b, 0, none⟩), .int .i64 no] w (BlkBitsP l no w) := by
 refine zin 11 Tryz.func22 ?_
 refine xc 10 (args := #[.pointer (some ⟨b, 0, none⟩), .int .i64 no, .int .i64 3, .func (.func 60) #[] #[]]) (readB B b p n c l no _ (hI.below (Below.refl w.heap.size _))) ?_
 rintro e W1 hq1
 rcases hq1 with ⟨he, bf, rfl, hb1, hv⟩ | ⟨he, p4, c4, rfl, hb1, h4⟩
 · exact xe 7 (.tuple #[.slice none 0 0, .iface 67 (.pointer (some ⟨bf, 0, none⟩))]) (.inl ⟨he, _, rfl, hb1, hv⟩)
 have hs1 := Nat.le_refl w.heap.size
 have h4'1 := own_mono h4 hs1
 exact xe 7 (.tuple #[.slice p4 (rawN (inB l no) 0 4) c4, .nilIface]) (.inr ⟨he, _, _, rfl, hb1, h4'1⟩)
end Go.Proofs.YtinegkldgjhnpaaGreatDoor
namespace Go.Proofs.YtinegkldgjhnpaaGreatDoor
open Go.RowKit Go.Extern.Stop Go.Stop Go.Extern
set_option linter.unusedVariables false
attribute [local irreducible] wpList wpAnyH Code.wp Oper.wp Go

def padI (l : List Int) (n : Nat) : List Int := (List.range 960).map (atI l n)
theorem padI_len (l : List Int) (n : Nat) : (padI l n).length = 960 := by simp [padI]
theorem padI_get (l : List Int) (n : Nat) {k : Nat} (h : k < 960) : (padI l n).getD k 0 = atI l n k := by simp [padI, List.getD, List.getElem?_range h]
theorem padN_zero (l : List Int) (n : Nat) : (List.range n).map (atI l 0) = List.replicate n 0 := by
  apply List.ext_getElem
  · simp
  · intro i h1 h2; simp [atI]
theorem padI_zero (l : List Int) : padI l 0 = List.replicate 960 0 := padN_zero l 960
theorem padN_set {l : List Int} {i n : Nat} (hi : i < n) : (((List.range n).map (atI l i)).map (Value.int .i64)).set i (.int .i64 (l.getD i 0)) = ((List.range n).map (atI l (i + 1))).map (Value.int .i64) := by
  rw [← List.map_set]
  congr 1
  apply List.ext_getElem
  · simp
  · intro k h1 h2
    rw [List.getElem_set]
    simp only [List.getElem_map, List.getElem_range, atI]
    by_cases e : i = k
    · subst e; rw [if_pos rfl, if_pos (by omega)]
    · rw [if_neg e]
      by_cases h3 : k < i
      · rw [if_pos h3, if_pos (by omega)]
      · rw [if_neg h3, if_neg (by omega)]
theorem padI_set {l : List Int} {i : Nat} (hi : i < 960) : ((padI l i).map (Value.int .i64)).set i (.int .i64 (l.getD i 0)) = (padI l (i + 1)).map (Value.int .i64) := padN_set hi
theorem zeros960 : zeros (Value.int .i64 0).cells.toList 960 = (List.replicate 960 (0 : Int)).map (Value.int .i64) := by
  rw [show (Value.int .i64 0).cells.toList = [Value.int .i64 0] from rfl, zeros, List.map_replicate]
  generalize 960 = n
  induction n with
  | zero => rfl
  | succ n ih => rw [List.replicate_succ, List.flatten_cons, ih, List.replicate_succ]; rfl
/-- the bytes of the first k groups of four -/
def grpB (l : List Int) (k : Nat) : List UInt8 := leB l.length 4 ++ (List.range k).map (g4B l l.length)
theorem grpB_len (l : List Int) (k : Nat) : (grpB l k).length = 4 + k := by simp [grpB, leB_len]
theorem grpB_succ (l : List Int) (k : Nat) : grpB l (k + 1) = grpB l k ++ [g4B l l.length k] := by simp [grpB, List.range_succ]
theorem g4_u8 {x : Int} (h0 : 0 ≤ x) (h1 : x < 256) : IntKind.u8.wrap x = ((UInt8.ofNat x.toNat).toNat : Int) := by
  rw [UInt8.toNat_ofNat', Nat.mod_eq_of_lt (by omega), IntWalk.u8_in x (by omega)]; omega
set_option maxRecDepth 100000 in
set_option maxHeartbeats 4000000 in
theorem ref09_Put (a : Option Addr) (c : Nat) (l : List Int) (w : World) (hS : Small l) (hl : l.length ≤ 960) (h : Sl w (.slice a l.length c) l.length (l.map (Value.int .i64))) :
    Calls Tryz.prog 122 #[.slice a l.length c] w (RetS (fun w' r => ∃ p c, r = .tuple #[.slice p 244 c, .int .i64 0] ∧ w'.ownsRow w.heap.size 5 1 (.slice p 244 c) 244 ((bitsB l).map bv)) w) := by
 refine zin 74 Tryz.func122 ?_
 refine xk 14 (show (decide ((↑l.length : Int) > (960 : Int)) : Bool) = false from decide_eq_false (by omega)) ?_
 refine xmk 4 fun _ _ _ _ zJ zQ zo zx zy zK => op_make 960 (.int .i64 0) 1 8 ((List.replicate 960 (0 : Int)).map (Value.int .i64)) zo zx zy Tryz.underlying26 (by kernel_rfl) rfl (by omega) (by omega) (zeros960) fun b1 W1 n1 => ?_
 refine zK _ _ ?_
 have o1 := own_of_blk (size := 1) (n := 960) n1.blk (n1.ge (Below.refl w.heap.size _)) (by rw [List.length_map, List.length_replicate]) (by unfold maxLen; omega)
 refine zl 10 74 (fun zm zkv V => ∃ (i : Nat), zkv = [(0, .slice a l.length c), (4, .slice (some ⟨b1, 0, none⟩) 960 960), (5, .int .i64 (↑i : Int))] ∧ zm = l.length - ((↑i : Int)).toNat ∧ Below w.heap.size w V ∧ V.ownsRow w.heap.size 3 1 (.slice (some ⟨b1, 0, none⟩) 960 960) 960 ((padI l i).map (Value.int .i64)) ∧ i ≤ l.length) ⟨0, rfl, rfl, n1.below, (by rw [padI_zero]; exact o1), Nat.zero_le _⟩ ?_
 rintro _ _ W2 ⟨i, rfl, rfl, hB_2, ho, hi⟩ J2 hJ2 r2
 refine xid 9 ((↑i : Int) < (↑l.length : Int)) (fun hc3 => ?_) (fun hc3 => ?_)
 · refine xx 9 _ l.length i 1 (IntsN.elem h rfl (k := i) (by omega)).1 ?_
   refine xl 0 ((IntsN.elem (h.below hB_2) rfl (k := i) (by omega)).2) ?_
   refine xgk 2 [22, 23] (show (decide ((l.getD i 0) < (0 : Int)) : Bool) = false from decide_eq_false (by have := getI_bd hS i; omega)) ?_
   refine xx 2 _ l.length i 1 (IntsN.elem h rfl (k := i) (by omega)).1 ?_
   refine xl 0 ((IntsN.elem (h.below hB_2) rfl (k := i) (by omega)).2) ?_
   refine xk 4 (show (decide ((l.getD i 0) > (3 : Int)) : Bool) = false from decide_eq_false (by have := getI_bd hS i; omega)) ?_
   refine xx 7 _ l.length i 1 (IntsN.elem h rfl (k := i) (by omega)).1 ?_
   refine xl 0 ((IntsN.elem (h.below hB_2) rfl (k := i) (by omega)).2) ?_
   refine xx 0 _ 960 i 1 (show (some (⟨b1, 0, none⟩ : Addr)).isSome = true from rfl) ?_
   refine xst 0 fun _ _ _ _ zJ zQ zo zx zy zK => op_storeRow (t := 3) (k := i) (v := .int .i64 (l.getD i 0)) zo zx zy (by kernel_rfl) rfl ho (by omega) fun W5 u5 o5 => ?_
   rw [padI_set (l := l) (i := i) (by omega)] at o5
   refine zK _ _ ?_
   refine xwm 5 ((↑i : Int) + 1) (↑(i + 1) : Int) ?_
   have hB'1 := u5.below hB_2 (own_ge ho)
   exact ze 2 (hJ2 _ _ _ ⟨i + 1, rfl, rfl, hB'1, o5, by omega⟩ (by omega))
 refine xc 9 (args := #[.int .i64 (↑l.length : Int), .int .i64 4]) (ref_BytesN (↑l.length : Int) 4 4 _ (Int.natCast_nonneg _) (by omega) rfl (by decide)) ?_
 rintro _ W6 ⟨_, rfl, hb6, p4, c4, rfl, h4⟩
 have hin : i = l.length := by omega
 have ho'1 := own_below ho hb6
 have h4'1 := own_mono h4 hB_2.size
 have hB'2 := Bl.next hB_2 hb6
 refine zl 10 74 (fun zm zkv V => ∃ (k m : Nat) (q : Option Addr) (d : Nat), zkv = [(4, .slice (some ⟨b1, 0, none⟩) 960 960), (6, .slice q m d), (7, .int .i64 (↑(4 * k) : Int))] ∧ zm = 960 - ((↑(4 * k) : Int)).toNat ∧ Below w.heap.size w V ∧ V.ownsRow w.heap.size 3 1 (.slice (some ⟨b1, 0, none⟩) 960 960) 960 ((padI l l.length).map (Value.int .i64)) ∧ V.ownsRow w.heap.size 5 1 (.slice q m d) m ((grpB l k).map bv) ∧ k ≤ 240 ∧ m = 4 + k) ⟨0, 4, _, _, rfl, rfl, hB'2, (by rw [← hin]; exact ho'1), (by simpa [grpB] using h4'1), Nat.zero_le _, rfl⟩ ?_
 rintro _ _ W7 ⟨k, m, q, d, rfl, rfl, hB_7, hq, hr, hk, hm⟩ J7 hJ7 r7
 have hp : ∀ j, j < 960 → (padI l l.length).getD j 0 = atI l l.length j := fun j hj => padI_get l _ hj
 have hb0 := atI_bd hS l.length (4 * k)
 have hb1 := atI_bd hS l.length (4 * k + 1)
 have hb2 := atI_bd hS l.length (4 * k + 2)
 have hb3 := atI_bd hS l.length (4 * k + 3)
 have h9 : k < 240 → (padI l l.length).getD (4 * k) 0 = atI l l.length (4 * k) ∧ (padI l l.length).getD (4 * k + 1) 0 = atI l l.length (4 * k + 1) ∧ (padI l l.length).getD (4 * k + 2) 0 = atI l l.length (4 * k + 2) ∧ (padI l l.length).getD (4 * k + 3) 0 = atI l l.length (4 * k + 3) := fun q => ⟨hp _ (by omega), hp _ (by omega), hp _ (by omega), hp _ (by omega)⟩
 refine xid 7 ((↑(4 * k) : Int) < (960 : Int)) (fun hc8 => ?_) (fun hc8 => ?_)
 · refine xd 4 (.t w.heap.size [5]) ?_
   refine xx (.e [0, 1, 2] 3) _ 960 (4 * k) 1 (show (some (⟨b1, 0, none⟩ : Addr)).isSome = true from rfl) ?_
   have hq'1 := own_below hq (below_drew W7)
   refine xlt (.e [] 4) (.t w.heap.size [5]) (fun V hV => (IntsN.elem (own_sl (own_only hq'1 hV.2 (by decide))) (padI_len l l.length) (k := (4 * k)) (by omega)).2) ?_
   refine xwm (.e [5, 6] 7) ((↑(4 * k) : Int) + 1) (↑((4 * k) + 1) : Int) ?_
   refine xx (.e [] 8) _ 960 ((4 * k) + 1) 1 (show (some (⟨b1, 0, none⟩ : Addr)).isSome = true from rfl) ?_
   refine xlt (.e [] 9) (.t w.heap.size [5]) (fun V hV => (IntsN.elem (own_sl (own_only hq'1 hV.2 (by decide))) (padI_len l l.length) (k := ((4 * k) + 1)) (by omega)).2) ?_
   refine xw (.e [] 10) (4 * ((padI l l.length).getD ((4 * k) + 1) 0)) ?_
   refine xw (.e [] 11) (((padI l l.length).getD (4 * k) 0) + (4 * ((padI l l.length).getD ((4 * k) + 1) 0))) ?_
   refine xwm (.e [12, 13] 14) ((↑(4 * k) : Int) + 2) (↑((4 * k) + 2) : Int) ?_
   refine xx (.e [] 15) _ 960 ((4 * k) + 2) 1 (show (some (⟨b1, 0, none⟩ : Addr)).isSome = true from rfl) ?_
   refine xlt (.e [] 16) (.t w.heap.size [5]) (fun V hV => (IntsN.elem (own_sl (own_only hq'1 hV.2 (by decide))) (padI_len l l.length) (k := ((4 * k) + 2)) (by omega)).2) ?_
   refine xw (.e [] 17) (16 * ((padI l l.length).getD ((4 * k) + 2) 0)) ?_
   refine xw (.e [] 18) (((padI l l.length).getD (4 * k) 0) + (4 * ((padI l l.length).getD ((4 * k) + 1) 0)) + (16 * ((padI l l.length).getD ((4 * k) + 2) 0))) ?_
   refine xwm (.e [19, 20] 21) ((↑(4 * k) : Int) + 3) (↑((4 * k) + 3) : Int) ?_
   refine xx (.e [] 22) _ 960 ((4 * k) + 3) 1 (show (some (⟨b1, 0, none⟩ : Addr)).isSome = true from rfl) ?_
   refine xlt (.e [] 23) (.t w.heap.size [5]) (fun V hV => (IntsN.elem (own_sl (own_only hq'1 hV.2 (by decide))) (padI_len l l.length) (k := ((4 * k) + 3)) (by omega)).2) ?_
   refine xw (.e [] 24) (64 * ((padI l l.length).getD ((4 * k) + 3) 0)) ?_
   refine xw (.e [] 25) (((padI l l.length).getD (4 * k) 0) + (4 * ((padI l l.length).getD ((4 * k) + 1) 0)) + (16 * ((padI l l.length).getD ((4 * k) + 2) 0)) + (64 * ((padI l l.length).getD ((4 * k) + 3) 0))) ?_
   refine xq (.e [] 26) (congrArg (Value.int .u8) (show (IntKind.u8.wrap (((padI l l.length).getD (4 * k) 0) + (4 * ((padI l l.length).getD ((4 * k) + 1) 0)) + (16 * ((padI l l.length).getD ((4 * k) + 2) 0)) + (64 * ((padI l l.length).getD ((4 * k) + 3) 0))) : Int) = (↑(g4B l l.length k).toNat : Int) from by obtain ⟨q0, q1, q2, q3⟩ := h9 (by omega); rw [q0, q1, q2, q3]; exact g4_u8 (by omega) (by omega))) ?_
   refine xbs (.o [] 27) 1 [.int .u8 (↑(g4B l l.length k).toNat : Int)] 5 fun b9 W9 n9 => ?_
   have hB'3 := Bl.next hB_7 (below_drew W7)
   have g9 := n9.ge hB'3
   have hr'1 := own_below hr (below_drew W7)
   have r9_hr := own_ne hr'1 n9
   have hr'2 := own_below hr'1 n9.below
   have hB'4 := Bl.next hB'3 n9.below
   refine ybi (.o [] 28) (.t w.heap.size [5]) fun _ _ _ _ zJ zQ zo zx zy zK => op_app (m := 1) (news := [.int .u8 (↑(g4B l l.length k).toNat : Int)]) (.int .u8 0) 1 1 (m + 1) (((grpB l (k + 1)).map bv)) zo Tryz.underlying22 (by kernel_rfl) rfl (by decide) zx hr'2 zy (n9.blk.sl 1 1 (by decide) (by decide)) rfl (by simp [Value.oneCell']) (by unfold maxLen; omega) (by omega) hB'4.size (by rfl) (by rw [grpB_succ, List.map_append]; rfl) fun px10 cx10 W10 o10 hg10 hb10 => ?_
   refine zK _ _ (sft_grown hb10 hg10 hr'2 (by decide)) ?_
   refine xwm (.r [29] 5) ((↑(4 * k) : Int) + 4) (↑((4 * k) + 4) : Int) ?_
   refine xv1 2 7 (show (.int .i64 (↑((4 * k) + 4) : Int) : Value) = .int .i64 (↑(4 * (k + 1)) : Int) from by congr 1) ?_
   have hB'5 := hB'4.trans hb10
   have hq'2 := own_grown (own_below hq'1 n9.below) hg10 hr'2 (by decide)
   exact ze 0 (hJ7 _ _ _ ⟨k + 1, m + 1, _, _, rfl, rfl, hB'5, hq'2, o10, by omega, by omega⟩ (by omega))
 refine xe 13 (.tuple #[.slice q m d, .int .i64 0]) ?_
 obtain rfl : k = 240 := by omega
 subst hm
 exact ⟨_, rfl, hB_7, _, _, rfl, hr⟩
end Go.Proofs.YtinegkldgjhnpaaGreatDoor
namespace Go.Proofs.YtinegkldgjhnpaaGreatDoor
open Go.RowKit Go.Extern.Stop Go.Stop Go.Extern
set_option linter.unusedVariables false
attribute [local irreducible] wpList wpAnyH Code.wp Oper.wp Go

set_option maxRecDepth 100000 in
set_option maxHeartbeats 1000000 in
theorem ref07_Width1 (w : World) :
    Calls Tryz.prog 119 #[.int .i64 1, .bool true] w (Ret (.int .i64 4) w) := by
 refine zin 19 Tryz.func119 ?_
 refine xbs 7 6 [.int .i64 0, .int .i64 4, .int .i64 8, .int .i64 24, .int .i64 16, .int .i64 4] 3 fun b1 W1 n1 => ?_
 refine xb 32 1 n1.blk ?_
 exact xe 4 (.int .i64 4) ⟨rfl, n1.below⟩
set_option maxRecDepth 100000 in
set_option maxHeartbeats 1000000 in
theorem ref07_Max1 (w : World) :
    Calls Tryz.prog 121 #[.int .i64 1, .bool true] w (Ret (.int .i64 18) w) := by
 refine zin 16 Tryz.func121 ?_
 refine xr 10 (args := #[.int .i64 1, .bool true]) (ref07_Width1 _) fun W1 hb1 => ?_
 exact xe 18 (.int .i64 18) ⟨rfl, hb1⟩
set_option maxRecDepth 100000 in
set_option maxHeartbeats 1000000 in
theorem ref07_Width2 (w : World) :
    Calls Tryz.prog 119 #[.int .i64 2, .bool true] w (Ret (.int .i64 8) w) := by
 refine zin 19 Tryz.func119 ?_
 refine xbs 7 6 [.int .i64 0, .int .i64 4, .int .i64 8, .int .i64 24, .int .i64 16, .int .i64 4] 3 fun b1 W1 n1 => ?_
 refine xb 32 2 n1.blk ?_
 exact xe 4 (.int .i64 8) ⟨rfl, n1.below⟩
set_option maxRecDepth 100000 in
set_option maxHeartbeats 1000000 in
theorem ref07_Max2 (w : World) :
    Calls Tryz.prog 121 #[.int .i64 2, .bool true] w (Ret (.int .i64 12) w) := by
 refine zin 16 Tryz.func121 ?_
 refine xr 10 (args := #[.int .i64 2, .bool true]) (ref07_Width2 _) fun W1 hb1 => ?_
 exact xe 25 (.int .i64 12) ⟨rfl, hb1⟩
set_option maxRecDepth 100000 in
set_option maxHeartbeats 1000000 in
theorem ref07_Width3 (w : World) :
    Calls Tryz.prog 119 #[.int .i64 3, .bool true] w (Ret (.int .i64 24) w) := by
 refine zin 19 Tryz.func119 ?_
 refine xbs 7 6 [.int .i64 0, .int .i64 4, .int .i64 8, .int .i64 24, .int .i64 16, .int .i64 4] 3 fun b1 W1 n1 => ?_
 refine xb 32 3 n1.blk ?_
 exact xe 4 (.int .i64 24) ⟨rfl, n1.below⟩
set_option maxRecDepth 100000 in
set_option maxHeartbeats 1000000 in
theorem ref07_Max3 (w : World) :
    Calls Tryz.prog 121 #[.int .i64 3, .bool true] w (Ret (.int .i64 6) w) := by
 refine zin 16 Tryz.func121 ?_
 refine xr 10 (args := #[.int .i64 3, .bool true]) (ref07_Width3 _) fun W1 hb1 => ?_
 exact xe 39 (.int .i64 6) ⟨rfl, hb1⟩
set_option maxRecDepth 100000 in
set_option maxHeartbeats 1000000 in
theorem ref07_Width4 (w : World) :
    Calls Tryz.prog 119 #[.int .i64 4, .bool true] w (Ret (.int .i64 16) w) := by
 refine zin 19 Tryz.func119 ?_
 refine xbs 7 6 [.int .i64 0, .int .i64 4, .int .i64 8, .int .i64 24, .int .i64 16, .int .i64 4] 3 fun b1 W1 n1 => ?_
 refine xb 32 4 n1.blk ?_
 exact xe 4 (.int .i64 16) ⟨rfl, n1.below⟩
set_option maxRecDepth 100000 in
set_option maxHeartbeats 1000000 in
theorem ref07_Max4 (w : World) :
    Calls Tryz.prog 121 #[.int .i64 4, .bool true] w (Ret (.int .i64 9) w) := by
 refine zin 16 Tryz.func121 ?_
 refine xr 10 (args := #[.int .i64 4, .bool true]) (ref07_Width4 _) fun W1 hb1 => ?_
 exact xe 32 (.int .i64 9) ⟨rfl, hb1⟩
set_option maxRecDepth 100000 in
set_option maxHeartbeats 1000000 in
theorem ref07_Width5 (w : World) :
    Calls Tryz.prog 119 #[.int .i64 5, .bool true] w (Ret (.int .i64 4) w) := by
 refine zin 19 Tryz.func119 ?_
 refine xbs 7 6 [.int .i64 0, .int .i64 4, .int .i64 8, .int .i64 24, .int .i64 16, .int .i64 4] 3 fun b1 W1 n1 => ?_
 refine xb 32 5 n1.blk ?_
 exact xe 4 (.int .i64 4) ⟨rfl, n1.below⟩
set_option maxRecDepth 100000 in
set_option maxHeartbeats 1000000 in
theorem ref07_Max5 (w : World) :
    Calls Tryz.prog 121 #[.int .i64 5, .bool true] w (Ret (.int .i64 18) w) := by
 refine zin 16 Tryz.func121 ?_
 refine xr 10 (args := #[.int .i64 5, .bool true]) (ref07_Width5 _) fun W1 hb1 => ?_
 exact xe 18 (.int .i64 18) ⟨rfl, hb1⟩
set_option maxRecDepth 100000 in
set_option maxHeartbeats 1000000 in
theorem ref07_Width_i (t : Int) (w : World) (h1 : 1 ≤ t) (h2 : t ≤ 5) :
    Calls Tryz.prog 119 #[.int .i64 t, .bool false] w (Ret (.int .i64 4) w) := by
 refine zin 19 Tryz.func119 ?_
 refine xbs 7 6 [.int .i64 0, .int .i64 4, .int .i64 8, .int .i64 24, .int .i64 16, .int .i64 4] 3 fun b1 W1 n1 => ?_
 refine xgk 9 [8, 9] (show (decide (t < (1 : Int)) : Bool) = false from decide_eq_false (by omega)) ?_
 refine xk 5 (show (decide (t > (5 : Int)) : Bool) = false from decide_eq_false (by omega)) ?_
 exact xe 17 (.int .i64 4) ⟨rfl, n1.below⟩
set_option maxRecDepth 100000 in
set_option maxHeartbeats 1000000 in
theorem ref07_Max_i (t : Int) (w : World) (h1 : 1 ≤ t) (h2 : t ≤ 5) :
    Calls Tryz.prog 121 #[.int .i64 t, .bool false] w (Ret (.int .i64 18) w) := by
 refine zin 16 Tryz.func121 ?_
 refine xr 10 (args := #[.int .i64 t, .bool false]) (ref07_Width_i t _ h1 h2) fun W1 hb1 => ?_
 exact xe 18 (.int .i64 18) ⟨rfl, hb1⟩
set_option maxRecDepth 100000 in
set_option maxHeartbeats 1000000 in
theorem ref07_Width_o (t : Int) (leaf : Bool) (w : World) (h : ¬ (1 ≤ t ∧ t ≤ 5)) :
    Calls Tryz.prog 119 #[.int .i64 t, .bool leaf] w (Ret (.int .i64 0) w) := by
 refine zin 19 Tryz.func119 ?_
 refine xbs 7 6 [.int .i64 0, .int .i64 4, .int .i64 8, .int .i64 24, .int .i64 16, .int .i64 4] 3 fun b1 W1 n1 => ?_
 refine xg 9 [8, 9] (decide (t < (1 : Int))) (fun hc2 => ?_) (fun hc2 => ?_)
 · have hc2 := of_decide_eq_true hc2
   exact xe 13 (.int .i64 0) ⟨rfl, n1.below⟩
 have hc2 := of_decide_eq_false hc2
 refine xk 5 (show (decide (t > (5 : Int)) : Bool) = true from decide_eq_true (by omega)) ?_
 exact xe 7 (.int .i64 0) ⟨rfl, n1.below⟩
set_option maxRecDepth 100000 in
set_option maxHeartbeats 1000000 in
theorem ref07_Max_o (t : Int) (leaf : Bool) (w : World) (h : ¬ (1 ≤ t ∧ t ≤ 5)) :
    Calls Tryz.prog 121 #[.int .i64 t, .bool leaf] w (Ret (.int .i64 0) w) := by
 refine zin 16 Tryz.func121 ?_
 refine xr 10 (args := #[.int .i64 t, .bool leaf]) (ref07_Width_o t leaf _ h) fun W1 hb1 => ?_
 exact xe 40 (.int .i64 0) ⟨rfl, hb1⟩
theorem ref07_Width (t : Int) (leaf : Bool) (v : Nat) (hv : widN t leaf = v) (h1 : 1 ≤ t) (h2 : t ≤ 5) (w : World) : Calls Tryz.prog 119 #[.int .i64 t, .bool leaf] w (Ret (.int .i64 (v : Int)) w) := by
  subst hv
  cases leaf
  · exact ref07_Width_i t w h1 h2
  obtain rfl | rfl | rfl | rfl | rfl : t = 1 ∨ t = 2 ∨ t = 3 ∨ t = 4 ∨ t = 5 := by omega
  · exact ref07_Width1 w
  · exact ref07_Width2 w
  · exact ref07_Width3 w
  · exact ref07_Width4 w
  · exact ref07_Width5 w
theorem ref07_Max (t : Int) (leaf : Bool) (m : Nat) (hm : maxN t leaf = m) (h1 : 1 ≤ t) (h2 : t ≤ 5) (w : World) : Calls Tryz.prog 121 #[.int .i64 t, .bool leaf] w (Ret (.int .i64 (m : Int)) w) := by
  subst hm
  cases leaf
  · exact ref07_Max_i t w h1 h2
  obtain rfl | rfl | rfl | rfl | rfl : t = 1 ∨ t = 2 ∨ t = 3 ∨ t = 4 ∨ t = 5 := by omega
  · exact ref07_Max1 w
  · exact ref07_Max2 w
  · exact ref07_Max3 w
  · exact ref07_Max4 w
  · exact ref07_Max5 w
/-- the keys of a node, i places of them, when n keys are there -/
def keyPad (K : List Int) (n : Nat) (i : Nat) : List UInt8 := (List.range i).flatMap fun j => if j < n then leB (K.getD j 0) 8 else List.replicate 8 0
theorem keyPad_succ (K : List Int) (n i : Nat) : keyPad K n (i + 1) = keyPad K n i ++ (if i < n then leB (K.getD i 0) 8 else List.replicate 8 0) := by
  unfold keyPad; rw [List.range_succ, List.flatMap_append]; simp
theorem keyPad_len (K : List Int) (n i : Nat) : (keyPad K n i).length = i * 8 := by
  induction i with
  | zero => rfl
  | succ i ih => rw [keyPad_succ, List.length_append, ih]; split <;> simp [leB_len] <;> omega
/-- the values of a node, i of them -/
def valPad (Vs : List (List UInt8)) (i : Nat) : List UInt8 := (List.range i).flatMap fun j => Vs.getD j []
theorem valPad_succ (Vs : List (List UInt8)) (i : Nat) : valPad Vs (i + 1) = valPad Vs i ++ Vs.getD i [] := by
  unfold valPad; rw [List.range_succ, List.flatMap_append]; simp
theorem valPad_len {Vs : List (List UInt8)} {v : Nat} : ∀ {i : Nat}, (∀ j, j < i → (Vs.getD j []).length = v) → (valPad Vs i).length = i * v
  | 0, _ => by simp [valPad]
  | i + 1, h => by rw [valPad_succ, List.length_append, valPad_len fun j hj => h j (by omega), h i (by omega), Nat.add_mul, Nat.one_mul]
theorem putB_mid {P z Q x : List UInt8} {k : Nat} (hk : P.length = k) (hz : z.length = x.length) : putB (P ++ z ++ Q) k x = P ++ x ++ Q := by
  unfold putB
  subst hk
  rw [List.append_assoc P z Q, List.take_left' rfl, ← hz]
  have e : P ++ (z ++ Q) = (P ++ z) ++ Q := (List.append_assoc _ _ _).symm
  rw [e, List.drop_left' (by simp)]
theorem keyPad_zero (K : List Int) (i : Nat) : ∀ d, keyPad K i (i + d) = keyPad K i i ++ List.replicate (d * 8) 0
  | 0 => by simp
  | d + 1 => by
    rw [← Nat.add_assoc, keyPad_succ, keyPad_zero K i d, if_neg (by omega), List.append_assoc, List.replicate_append_replicate, Nat.add_mul, Nat.one_mul]
theorem keyPad_own (K : List Int) (n : Nat) : ∀ i, i ≤ n → keyPad K n i = keyPad K i i
  | 0, _ => rfl
  | i + 1, h => by
    rw [keyPad_succ, keyPad_succ, if_pos (by omega), if_pos (by omega), keyPad_own K n i (by omega), keyPad_own K (i + 1) i (by omega)]
theorem rep_add (a b : Nat) : List.replicate (a + b) (0 : UInt8) = List.replicate a 0 ++ List.replicate b 0 := List.replicate_append_replicate.symm
/-- a node's bytes, part by part -/
theorem nodeP_form {m v : Nat} {H : List UInt8} {K : List Int} {Vs : List (List UInt8)} (hH : H.length = 12) (hf : 12 + m * 8 + m * v ≤ 244) : ∀ {i : Nat}, i ≤ m → (∀ j, j < i → (Vs.getD j []).length = v) →
    nodeP m v H K Vs i = H ++ keyPad K i m ++ valPad Vs i ++ List.replicate (232 - m * 8 - i * v) 0
  | 0, _, _ => by
    have e1 := keyPad_zero K 0 m
    rw [Nat.zero_add] at e1
    rw [nodeP, e1]
    have h1 : (232 - m * 8 - 0 * v) = 232 - m * 8 := by omega
    rw [h1, show (244 : Nat) = 12 + (m * 8 + (232 - m * 8)) by omega, rep_add, rep_add]
    have := putB_mid (P := []) (z := List.replicate 12 (0 : UInt8)) (Q := List.replicate (m * 8) 0 ++ List.replicate (232 - m * 8) 0) (x := H) (k := 0) rfl (by simp [hH])
    rw [List.nil_append, List.nil_append] at this
    rw [this]
    simp [keyPad, valPad]
  | i + 1, hi, hV => by
    have ih := nodeP_form (K := K) hH hf (i := i) (by omega) (fun j hj => hV j (by omega))
    have hvi := hV i (by omega)
    have h2 : (i + 1) * v ≤ m * v := Nat.mul_le_mul_right v hi
    rw [Nat.add_mul, Nat.one_mul] at h2
    obtain ⟨d, hd⟩ : ∃ d, m = i + (d + 1) := ⟨m - i - 1, by omega⟩
    have ek : keyPad K i m = keyPad K i i ++ List.replicate 8 0 ++ List.replicate (d * 8) 0 := by
      rw [hd, keyPad_zero, show (d + 1) * 8 = 8 + d * 8 by omega, rep_add, List.append_assoc]
    have ek2 : keyPad K (i + 1) m = keyPad K i i ++ leB (K.getD i 0) 8 ++ List.replicate (d * 8) 0 := by
      rw [show m = (i + 1) + d by omega, keyPad_zero, keyPad_succ, if_pos (by omega), keyPad_own K (i + 1) i (by omega)]
    have er : List.replicate (232 - m * 8 - i * v) (0 : UInt8) = List.replicate v 0 ++ List.replicate (232 - m * 8 - (i * v + v)) 0 := by
      rw [← rep_add]; congr 1; omega
    have hvp : (valPad Vs i).length = i * v := valPad_len fun j hj => hV j (by omega)
    rw [nodeP, ih, ek, er]
    have s1 := putB_mid (P := H ++ keyPad K i i) (z := List.replicate 8 (0 : UInt8)) (Q := List.replicate (d * 8) 0 ++ (valPad Vs i ++ (List.replicate v 0 ++ List.replicate (232 - m * 8 - (i * v + v)) 0))) (x := leB (K.getD i 0) 8) (k := 12 + i * 8) (by rw [List.length_append, hH, keyPad_len]) (by simp [leB_len])
    have a1 : H ++ (keyPad K i i ++ List.replicate 8 0 ++ List.replicate (d * 8) 0) ++ valPad Vs i ++ (List.replicate v 0 ++ List.replicate (232 - m * 8 - (i * v + v)) 0) = H ++ keyPad K i i ++ List.replicate 8 0 ++ (List.replicate (d * 8) 0 ++ (valPad Vs i ++ (List.replicate v 0 ++ List.replicate (232 - m * 8 - (i * v + v)) 0))) := by simp only [List.append_assoc]
    rw [a1, s1]
    have s2 := putB_mid (P := H ++ keyPad K (i + 1) m ++ valPad Vs i) (z := List.replicate v (0 : UInt8)) (Q := List.replicate (232 - m * 8 - (i * v + v)) 0) (x := Vs.getD i []) (k := 12 + m * 8 + i * v) (by rw [List.length_append, List.length_append, hH, keyPad_len, hvp]) (by rw [List.length_replicate, hvi])
    have a2 : H ++ keyPad K i i ++ leB (K.getD i 0) 8 ++ (List.replicate (d * 8) 0 ++ (valPad Vs i ++ (List.replicate v 0 ++ List.replicate (232 - m * 8 - (i * v + v)) 0))) = H ++ keyPad K (i + 1) m ++ valPad Vs i ++ List.replicate v 0 ++ List.replicate (232 - m * 8 - (i * v + v)) 0 := by rw [ek2]; simp only [List.append_assoc]
    rw [a2, s2, valPad_succ, Nat.add_mul, Nat.one_mul]
    simp only [List.append_assoc]
theorem leB_1 (n : Int) : leB n 1 = [byteAt n 0] := rfl
theorem leB_2 (n : Int) : leB n 2 = [byteAt n 0, byteAt n 1] := rfl
theorem byte1_zero {n : Int} (h : n < 256) : byteAt n 1 = 0 := by
  unfold byteAt
  rw [show n.toNat / 256 ^ 1 = 0 from Nat.div_eq_of_lt (by omega)]; rfl
theorem headB_cells {t : Int} {leaf : Bool} {n m v : Nat} (h1 : 0 ≤ t) (hn : n ≤ 18) (hm : m ≤ 18) (hv : v ≤ 24) : (headB t leaf n m v).map bv =
    [.int .u8 (flagN leaf), .int .u8 (byteAt t 0).toNat, .int .u8 (byteAt (n : Int) 0).toNat, .int .u8 0, .int .u8 (byteAt (v : Int) 0).toNat, .int .u8 0, .int .u8 (byteAt (m : Int) 0).toNat, .int .u8 0, .int .u8 0, .int .u8 0, .int .u8 0, .int .u8 0] := by
  unfold headB
  rw [leB_1, leB_1, leB_2, leB_2, leB_2, byte1_zero (n := (n : Int)) (by omega), byte1_zero (n := (v : Int)) (by omega), byte1_zero (n := (m : Int)) (by omega)]
  cases leaf <;> rfl
end Go.Proofs.YtinegkldgjhnpaaGreatDoor
namespace Go.Proofs.YtinegkldgjhnpaaGreatDoor
open Go.RowKit Go.Extern.Stop Go.Stop Go.Extern
set_option linter.unusedVariables false
attribute [local irreducible] wpList wpAnyH Code.wp Oper.wp Go

theorem ref07_WidthG (t : Int) (leaf : Bool) (w : World) : Calls Tryz.prog 119 #[.int .i64 t, .bool leaf] w (Ret (.int .i64 (widG t leaf : Int)) w) := by
  unfold widG
  by_cases h : 1 ≤ t ∧ t ≤ 5
  · rw [if_pos h]; exact ref07_Width t leaf _ rfl h.1 h.2 w
  · rw [if_neg h]; exact ref07_Width_o t leaf w h
theorem ref07_MaxG (t : Int) (leaf : Bool) (w : World) : Calls Tryz.prog 121 #[.int .i64 t, .bool leaf] w (Ret (.int .i64 (maxG t leaf : Int)) w) := by
  unfold maxG
  by_cases h : 1 ≤ t ∧ t ≤ 5
  · rw [if_pos h]; exact ref07_Max t leaf _ rfl h.1 h.2 w
  · rw [if_neg h]; exact ref07_Max_o t leaf w h
theorem zeroB_cut {l : List UInt8} {a b m : Nat} (e : a = b) : zeroB ((l.drop a).take (m - a)) = zeroB ((l.drop b).take (m - b)) := by rw [e]
theorem shape_fits {l : List UInt8} (h : shapeB l = true) : nodC l ≤ nodM l ∧ 12 + nodM l * 8 + nodM l * nodW l ≤ 244 ∧ nodM l ≤ 18 ∧ nodW l ≤ 24 ∧ nodC l * nodW l ≤ nodM l * nodW l :=
  ⟨node_shapeP h, fitG (nodT l) (nodL l), maxG_le (nodT l) (nodL l), widG_le (nodT l) (nodL l), Nat.mul_le_mul_right _ (node_shapeP h)⟩
set_option maxRecDepth 100000 in
set_option maxHeartbeats 4000000 in
theorem ref07_form (a : Option Addr) (c : Nat) (l : List UInt8) (w : World) (hl : l.length = 244) (h : Bys w (.slice a 244 c) l) :
    Calls Tryz.prog 118 #[.slice a 244 c] w (Ret (.bool (shapeB l && nodeZ l)) w) := by
 have hcap := Bys.cap h hl
 have hr0 := raw1 l 0
 have hr2 := rawN_lt l 2 2
 have hmg := maxG_le (nodT l) (nodL l)
 have hwg := widG_le (nodT l) (nodL l)
 change nodM l ≤ 18 at hmg
 change nodW l ≤ 24 at hwg
 refine zin 101 Tryz.func118 ?_
 refine xx 13 _ 244 0 1 (BysM.elem h hl (k := 0) (by omega)).1 ?_
 refine xl 0 ((BysM.elem h hl (k := 0) (by omega)).2) ?_
 refine xid 4 ((↑(l.getD 0 0).toNat : Int) > (1 : Int)) (fun hc1 => ?_) (fun hc1 => ?_)
 · refine xe 7 (.bool false) ?_
   rw [show shapeB l = false from decide_eq_false (by omega)]; exact ⟨rfl, (Below.refl w.heap.size _)⟩
 refine xbs 5 6 [.int .i64 1, .int .i64 1, .int .i64 2, .int .i64 2, .int .i64 2, .int .i64 4] 3 fun b2 W2 n2 => ?_
 refine xc 0 (args := #[.slice a 244 c, .slice (some ⟨b2, 0, none⟩) 6 6]) (ref_UnpackN a 244 c l (some ⟨b2, 0, none⟩) 6 6 [1, 1, 2, 2, 2, 4] (head6 l) _ hl rfl rfl (by decide) (by decide) (by decide) (by decide) (h.below n2.below) (n2.blk.sl 6 6 (by decide) (by decide)) (head6_bd l)) ?_
 rintro _ W3 ⟨_, rfl, hb3, p5, c5, rfl, h5⟩
 have h5'1 := own_mono h5 n2.below.size
 refine xx 10 _ 6 0 1 (nv_elem (l := head6 l) (own_sl h5'1) rfl (k := 0) (by decide)).1 ?_
 refine xl 0 ((nv_elem (l := head6 l) (own_sl h5'1) rfl (k := 0) (by decide)).2) ?_
 refine xx 7 _ 6 1 1 (nv_elem (l := head6 l) (own_sl h5'1) rfl (k := 1) (by decide)).1 ?_
 refine xl 0 ((nv_elem (l := head6 l) (own_sl h5'1) rfl (k := 1) (by decide)).2) ?_
 refine xr 1 (args := #[.int .i64 (↑(rawN l 1 1) : Int), .bool ((↑(rawN l 0 1) : Int) == (1 : Int))]) (ref07_WidthG (nodT l) (nodL l) _) fun W4 hb4 => ?_
 have h5'2 := own_below h5'1 hb4
 refine xx 6 _ 6 1 1 (nv_elem (l := head6 l) (own_sl h5'2) rfl (k := 1) (by decide)).1 ?_
 refine xl 0 ((nv_elem (l := head6 l) (own_sl h5'2) rfl (k := 1) (by decide)).2) ?_
 refine xr 1 (args := #[.int .i64 (↑(rawN l 1 1) : Int), .bool ((↑(rawN l 0 1) : Int) == (1 : Int))]) (ref07_MaxG (nodT l) (nodL l) _) fun W5 hb5 => ?_
 refine xg 9 [38, 39] ((↑(nodW l) : Int) == (0 : Int)) (fun hc6 => ?_) (fun hc6 => ?_)
 · have hc6 := eq_of_beq hc6
   have hB'1 := Bl.next (Bl.next (Bl.next n2.below hb3) hb4) hb5
   refine xe 46 (.bool false) ?_
   rw [show shapeB l = false from decide_eq_false (by omega)]; exact ⟨rfl, hB'1⟩
 have hc6 := ne_of_beq_false hc6
 have h5'3 := own_below h5'2 hb5
 refine xx 1 _ 6 3 1 (nv_elem (l := head6 l) (own_sl h5'3) rfl (k := 3) (by decide)).1 ?_
 refine xl 0 ((nv_elem (l := head6 l) (own_sl h5'3) rfl (k := 3) (by decide)).2) ?_
 refine xg 4 [44, 45, 46] ((↑(rawN l 4 2) : Int) != (↑(nodW l) : Int)) (fun hc7 => ?_) (fun hc7 => ?_)
 · have hc7 := ne_of_bne hc7
   have hB'2 := Bl.next (Bl.next (Bl.next n2.below hb3) hb4) hb5
   refine xe 39 (.bool false) ?_
   rw [show shapeB l = false from decide_eq_false (by omega)]; exact ⟨rfl, hB'2⟩
 have hc7 := eq_of_bne_false hc7
 refine xx 1 _ 6 4 1 (nv_elem (l := head6 l) (own_sl h5'3) rfl (k := 4) (by decide)).1 ?_
 refine xl 0 ((nv_elem (l := head6 l) (own_sl h5'3) rfl (k := 4) (by decide)).2) ?_
 refine xg 4 [51, 52, 53] ((↑(rawN l 6 2) : Int) != (↑(nodM l) : Int)) (fun hc8 => ?_) (fun hc8 => ?_)
 · have hc8 := ne_of_bne hc8
   have hB'3 := Bl.next (Bl.next (Bl.next n2.below hb3) hb4) hb5
   refine xe 32 (.bool false) ?_
   rw [show shapeB l = false from decide_eq_false (by omega)]; exact ⟨rfl, hB'3⟩
 have hc8 := eq_of_bne_false hc8
 refine xx 1 _ 6 5 1 (nv_elem (l := head6 l) (own_sl h5'3) rfl (k := 5) (by decide)).1 ?_
 refine xl 0 ((nv_elem (l := head6 l) (own_sl h5'3) rfl (k := 5) (by decide)).2) ?_
 refine xg 3 [57, 58, 59] ((↑(rawN l 8 4) : Int) != (0 : Int)) (fun hc9 => ?_) (fun hc9 => ?_)
 · have hc9 := ne_of_bne hc9
   have hB'4 := Bl.next (Bl.next (Bl.next n2.below hb3) hb4) hb5
   refine xe 26 (.bool false) ?_
   rw [show shapeB l = false from decide_eq_false (by omega)]; exact ⟨rfl, hB'4⟩
 have hc9 := eq_of_bne_false hc9
 refine xx 1 _ 6 2 1 (nv_elem (l := head6 l) (own_sl h5'3) rfl (k := 2) (by decide)).1 ?_
 refine xl 0 ((nv_elem (l := head6 l) (own_sl h5'3) rfl (k := 2) (by decide)).2) ?_
 refine xg 4 [64, 65, 66] (decide ((↑(rawN l 2 2) : Int) > (↑(nodM l) : Int))) (fun hc10 => ?_) (fun hc10 => ?_)
 · have hc10 := of_decide_eq_true hc10
   have hB'5 := Bl.next (Bl.next (Bl.next n2.below hb3) hb4) hb5
   refine xe 19 (.bool false) ?_
   rw [show shapeB l = false from decide_eq_false (by omega)]; exact ⟨rfl, hB'5⟩
 have hc10 := of_decide_eq_false hc10
 refine xg 3 [68, 69] (!((↑(rawN l 0 1) : Int) == (1 : Int))) (fun hc11 => ?_) (fun hc11 => ?_)
 · have hlf : rawN l 0 1 ≠ 1 := by have q : ¬ ((rawN l 0 1 : Int) = 1) := (by simpa using hc11); omega
   refine xx 1 _ 6 2 1 (nv_elem (l := head6 l) (own_sl h5'3) rfl (k := 2) (by decide)).1 ?_
   refine xl 0 ((nv_elem (l := head6 l) (own_sl h5'3) rfl (k := 2) (by decide)).2) ?_
   refine xie 5 (↑(rawN l 2 2) : Int) (0 : Int) (fun hc12 => ?_) (fun hc12 => ?_)
   · have hB'6 := Bl.next (Bl.next (Bl.next n2.below hb3) hb4) hb5
     refine xe 7 (.bool false) ?_
     rw [show shapeB l = false from decide_eq_false (by omega)]; exact ⟨rfl, hB'6⟩
   refine xx 6 _ 6 2 1 (nv_elem (l := head6 l) (own_sl h5'3) rfl (k := 2) (by decide)).1 ?_
   refine xl 0 ((nv_elem (l := head6 l) (own_sl h5'3) rfl (k := 2) (by decide)).2) ?_
   refine xwm 0 (8 * (↑(rawN l 2 2) : Int)) (↑(8 * (rawN l 2 2)) : Int) ?_
   refine xwm 0 (12 + (↑(8 * (rawN l 2 2)) : Int)) (↑(12 + (8 * (rawN l 2 2))) : Int) ?_
   refine xwm 1 (8 * (↑(nodM l) : Int)) (↑(8 * (nodM l)) : Int) ?_
   refine xwm 0 (12 + (↑(8 * (nodM l)) : Int)) (↑(12 + (8 * (nodM l))) : Int) ?_
   refine xsB 0 (fun _ _ _ _ _ zo zx zy zz V => run_sliceLHA (k := (12 + (8 * (rawN l 2 2)))) (h := (12 + (8 * (nodM l)))) (b := a) (n := 244) (c := c) (i := (↑(12 + (8 * (rawN l 2 2))) : Int)) (ki := .i64) (j := (↑(12 + (8 * (nodM l))) : Int)) (kj := .i64) 1 zo zx zy rfl zz rfl (by omega) (by omega) Tryz.underlying22 (by kernel_rfl) V) ?_
   have hr0 := raw1 l 0
   have hs : shapeB l = true := decide_eq_true ⟨by omega, by omega, by omega, by omega, by omega, by omega, by omega⟩
   obtain ⟨hcm, hfit, hmle, hwle, hcw⟩ := shape_fits hs
   unfold nodC at hcm hcw
   have hwc := Nat.mul_comm (rawN l 2 2) (nodW l)
   have hz1 : nodeZ l = (zeroB ((l.drop (12 + 8 * rawN l 2 2)).take ((12 + 8 * nodM l) - (12 + 8 * rawN l 2 2))) && zeroB ((l.drop (12 + 8 * nodM l + nodW l * rawN l 2 2)).take (244 - (12 + 8 * nodM l + nodW l * rawN l 2 2)))) := by unfold nodeZ node2 node1 node0 nodC; rw [show 12 + rawN l 2 2 * 8 = 12 + 8 * rawN l 2 2 by omega, show 12 + nodM l * 8 = 12 + 8 * nodM l by omega, Nat.mul_comm (rawN l 2 2) (nodW l)]
   have hB'7 := Bl.next (Bl.next (Bl.next n2.below hb3) hb4) hb5
   refine xr 0 (args := #[.slice (cutA a (12 + (8 * (rawN l 2 2))) c 1) ((12 + (8 * (nodM l))) - (12 + (8 * (rawN l 2 2)))) (c - (12 + (8 * (rawN l 2 2))))]) (ref_ZeroN (cutA a (12 + (8 * (rawN l 2 2))) c 1) ((12 + (8 * (nodM l))) - (12 + (8 * (rawN l 2 2)))) (c - (12 + (8 * (rawN l 2 2)))) _ _ (by simp; omega) (by omega) ((Bys.cut h hl (12 + 8 * rawN l 2 2) (12 + 8 * nodM l) (by omega) (by omega)).below hB'7)) fun W13 hb13 => ?_
   refine xg 1 [86, 87] (zeroB ((l.drop (12 + 8 * rawN l 2 2)).take ((12 + 8 * nodM l) - (12 + 8 * rawN l 2 2)))) (fun hc14 => ?_) (fun hc14 => ?_)
   · refine xwm 2 (8 * (↑(nodM l) : Int)) (↑(8 * (nodM l)) : Int) ?_
     refine xwm 0 (12 + (↑(8 * (nodM l)) : Int)) (↑(12 + (8 * (nodM l))) : Int) ?_
     have h5'4 := own_below h5'3 hb13
     refine xx 2 _ 6 2 1 (nv_elem (l := head6 l) (own_sl h5'4) rfl (k := 2) (by decide)).1 ?_
     refine xl 0 ((nv_elem (l := head6 l) (own_sl h5'4) rfl (k := 2) (by decide)).2) ?_
     refine xwm 0 ((↑(nodW l) : Int) * (↑(rawN l 2 2) : Int)) (↑((nodW l) * (rawN l 2 2)) : Int) ?_
     refine xwm 0 ((↑(12 + (8 * (nodM l))) : Int) + (↑((nodW l) * (rawN l 2 2)) : Int)) (↑((12 + (8 * (nodM l))) + ((nodW l) * (rawN l 2 2))) : Int) ?_
     refine xsL 0 (fun _ _ _ _ zo zx zy V => run_sliceLA (k := ((12 + (8 * (nodM l))) + ((nodW l) * (rawN l 2 2)))) (b := a) (n := 244) (c := c) (i := (↑((12 + (8 * (nodM l))) + ((nodW l) * (rawN l 2 2))) : Int)) (ki := .i64) 1 zo zx zy rfl (by omega) Tryz.underlying22 (by kernel_rfl) V) ?_
     have hB'8 := Bl.next hB'7 hb13
     refine xr 0 (args := #[.slice (cutA a ((12 + (8 * (nodM l))) + ((nodW l) * (rawN l 2 2))) c 1) (244 - ((12 + (8 * (nodM l))) + ((nodW l) * (rawN l 2 2)))) (c - ((12 + (8 * (nodM l))) + ((nodW l) * (rawN l 2 2))))]) (ref_ZeroN (cutA a ((12 + (8 * (nodM l))) + ((nodW l) * (rawN l 2 2))) c 1) (244 - ((12 + (8 * (nodM l))) + ((nodW l) * (rawN l 2 2)))) (c - ((12 + (8 * (nodM l))) + ((nodW l) * (rawN l 2 2)))) _ _ (by simp; omega) (by omega) ((Bys.cut h hl (12 + 8 * nodM l + nodW l * rawN l 2 2) 244 (by omega) (by omega)).below hB'8)) fun W15 hb15 => ?_
     have hB'9 := Bl.next hB'8 hb15
     refine xe 5 (.bool (zeroB ((l.drop (12 + 8 * nodM l + nodW l * rawN l 2 2)).take (244 - (12 + 8 * nodM l + nodW l * rawN l 2 2))))) ?_
     rw [hs, hz1, hc14]; exact ⟨rfl, hB'9⟩
   have hB'10 := Bl.next hB'7 hb13
   refine xe 17 (.bool false) ?_
   rw [hs, hz1, hc14]; exact ⟨rfl, hB'10⟩
 have hlf : rawN l 0 1 = 1 := by have q : ((rawN l 0 1 : Int) = 1) := (by simpa using hc11); omega
 refine xx 15 _ 6 2 1 (nv_elem (l := head6 l) (own_sl h5'3) rfl (k := 2) (by decide)).1 ?_
 refine xl 0 ((nv_elem (l := head6 l) (own_sl h5'3) rfl (k := 2) (by decide)).2) ?_
 refine xwm 0 (8 * (↑(rawN l 2 2) : Int)) (↑(8 * (rawN l 2 2)) : Int) ?_
 refine xwm 0 (12 + (↑(8 * (rawN l 2 2)) : Int)) (↑(12 + (8 * (rawN l 2 2))) : Int) ?_
 refine xwm 1 (8 * (↑(nodM l) : Int)) (↑(8 * (nodM l)) : Int) ?_
 refine xwm 0 (12 + (↑(8 * (nodM l)) : Int)) (↑(12 + (8 * (nodM l))) : Int) ?_
 refine xsB 0 (fun _ _ _ _ _ zo zx zy zz V => run_sliceLHA (k := (12 + (8 * (rawN l 2 2)))) (h := (12 + (8 * (nodM l)))) (b := a) (n := 244) (c := c) (i := (↑(12 + (8 * (rawN l 2 2))) : Int)) (ki := .i64) (j := (↑(12 + (8 * (nodM l))) : Int)) (kj := .i64) 1 zo zx zy rfl zz rfl (by omega) (by omega) Tryz.underlying22 (by kernel_rfl) V) ?_
 have hr0 := raw1 l 0
 have hs : shapeB l = true := decide_eq_true ⟨by omega, by omega, by omega, by omega, by omega, by omega, by omega⟩
 obtain ⟨hcm, hfit, hmle, hwle, hcw⟩ := shape_fits hs
 unfold nodC at hcm hcw
 have hwc := Nat.mul_comm (rawN l 2 2) (nodW l)
 have hz1 : nodeZ l = (zeroB ((l.drop (12 + 8 * rawN l 2 2)).take ((12 + 8 * nodM l) - (12 + 8 * rawN l 2 2))) && zeroB ((l.drop (12 + 8 * nodM l + nodW l * rawN l 2 2)).take (244 - (12 + 8 * nodM l + nodW l * rawN l 2 2)))) := by unfold nodeZ node2 node1 node0 nodC; rw [show 12 + rawN l 2 2 * 8 = 12 + 8 * rawN l 2 2 by omega, show 12 + nodM l * 8 = 12 + 8 * nodM l by omega, Nat.mul_comm (rawN l 2 2) (nodW l)]
 have hB'11 := Bl.next (Bl.next (Bl.next n2.below hb3) hb4) hb5
 refine xr 0 (args := #[.slice (cutA a (12 + (8 * (rawN l 2 2))) c 1) ((12 + (8 * (nodM l))) - (12 + (8 * (rawN l 2 2)))) (c - (12 + (8 * (rawN l 2 2))))]) (ref_ZeroN (cutA a (12 + (8 * (rawN l 2 2))) c 1) ((12 + (8 * (nodM l))) - (12 + (8 * (rawN l 2 2)))) (c - (12 + (8 * (rawN l 2 2)))) _ _ (by simp; omega) (by omega) ((Bys.cut h hl (12 + 8 * rawN l 2 2) (12 + 8 * nodM l) (by omega) (by omega)).below hB'11)) fun W16 hb16 => ?_
 refine xg 1 [86, 87] (zeroB ((l.drop (12 + 8 * rawN l 2 2)).take ((12 + 8 * nodM l) - (12 + 8 * rawN l 2 2)))) (fun hc17 => ?_) (fun hc17 => ?_)
 · refine xwm 2 (8 * (↑(nodM l) : Int)) (↑(8 * (nodM l)) : Int) ?_
   refine xwm 0 (12 + (↑(8 * (nodM l)) : Int)) (↑(12 + (8 * (nodM l))) : Int) ?_
   have h5'5 := own_below h5'3 hb16
   refine xx 2 _ 6 2 1 (nv_elem (l := head6 l) (own_sl h5'5) rfl (k := 2) (by decide)).1 ?_
   refine xl 0 ((nv_elem (l := head6 l) (own_sl h5'5) rfl (k := 2) (by decide)).2) ?_
   refine xwm 0 ((↑(nodW l) : Int) * (↑(rawN l 2 2) : Int)) (↑((nodW l) * (rawN l 2 2)) : Int) ?_
   refine xwm 0 ((↑(12 + (8 * (nodM l))) : Int) + (↑((nodW l) * (rawN l 2 2)) : Int)) (↑((12 + (8 * (nodM l))) + ((nodW l) * (rawN l 2 2))) : Int) ?_
   refine xsL 0 (fun _ _ _ _ zo zx zy V => run_sliceLA (k := ((12 + (8 * (nodM l))) + ((nodW l) * (rawN l 2 2)))) (b := a) (n := 244) (c := c) (i := (↑((12 + (8 * (nodM l))) + ((nodW l) * (rawN l 2 2))) : Int)) (ki := .i64) 1 zo zx zy rfl (by omega) Tryz.underlying22 (by kernel_rfl) V) ?_
   have hB'12 := Bl.next hB'11 hb16
   refine xr 0 (args := #[.slice (cutA a ((12 + (8 * (nodM l))) + ((nodW l) * (rawN l 2 2))) c 1) (244 - ((12 + (8 * (nodM l))) + ((nodW l) * (rawN l 2 2)))) (c - ((12 + (8 * (nodM l))) + ((nodW l) * (rawN l 2 2))))]) (ref_ZeroN (cutA a ((12 + (8 * (nodM l))) + ((nodW l) * (rawN l 2 2))) c 1) (244 - ((12 + (8 * (nodM l))) + ((nodW l) * (rawN l 2 2)))) (c - ((12 + (8 * (nodM l))) + ((nodW l) * (rawN l 2 2)))) _ _ (by simp; omega) (by omega) ((Bys.cut h hl (12 + 8 * nodM l + nodW l * rawN l 2 2) 244 (by omega) (by omega)).below hB'12)) fun W18 hb18 => ?_
   have hB'13 := Bl.next hB'12 hb18
   refine xe 5 (.bool (zeroB ((l.drop (12 + 8 * nodM l + nodW l * rawN l 2 2)).take (244 - (12 + 8 * nodM l + nodW l * rawN l 2 2))))) ?_
   rw [hs, hz1, hc17]; exact ⟨rfl, hB'13⟩
 have hB'14 := Bl.next hB'11 hb16
 refine xe 17 (.bool false) ?_
 rw [hs, hz1, hc17]; exact ⟨rfl, hB'14⟩
def RGetP (l : List UInt8) (k w : Nat) (W : World) (e : Ending) (w' : World) : Prop :=
  (rawN l k w < 9223372036854775808 ∧ e = .returned (.tuple #[.int .i64 (rawN l k w : Int), .int .i64 0]) ∧ Below W.heap.size W w') ∨ (¬ rawN l k w < 9223372036854775808 ∧ e = .returned (.tuple #[.int .i64 0, .int .i64 2]) ∧ Below W.heap.size W w')
theorem ref_GetP (a : Option Addr) (n c k w : Nat) (l : List UInt8) (W : World) (hn : l.length = n) (hw : w = 1 ∨ w = 2 ∨ w = 4 ∨ w = 8) (hk : k + w ≤ n) (hl : n ≤ 100000000) (h : Bys W (.slice a n c) l) (ki wi : Int) (hki : ki = (k : Int)) (hwi : wi = (w : Int)) :
    Calls Tryz.prog 120 #[.slice a n c, .int .i64 ki, .int .i64 wi] W (RGetP l k w W) := by
  subst hn hwi hki
  by_cases hq : rawN l k w < 9223372036854775808
  · refine (ref_Get_ok a c k w l W hw hk hl h hq).mono ?_
    rintro e V ⟨rfl, hb⟩; exact .inl ⟨hq, rfl, hb⟩
  · refine (ref_Get_big a c k w l W hw hk hl h hq).mono ?_
    rintro e V ⟨rfl, hb⟩; exact .inr ⟨hq, rfl, hb⟩
theorem keyE_big {l : List UInt8} {i : Nat} (h : 281474976710655 < rawN l (12 + i * 8) 8) : keyE l i = 2 := by unfold keyE keyN; rw [if_pos h]
theorem keyE_low {l : List UInt8} {i : Nat} (h : ¬ 281474976710655 < rawN l (12 + i * 8) 8) (h0 : 0 < i) (h1 : (rawN l (12 + i * 8) 8 : Int) ≤ (keysI l i).getD (i - 1) 0) : keyE l i = 8 := by
  rw [keysI_get l (by omega)] at h1
  change ¬ 281474976710655 < keyN l i at h
  change (keyN l i : Int) ≤ _ at h1
  unfold keyE
  rw [if_neg h, if_pos ⟨h0, by omega⟩]
theorem keyE_ok {l : List UInt8} {i : Nat} (h : ¬ 281474976710655 < rawN l (12 + i * 8) 8) (h0 : ¬ 0 < i) : keyE l i = 0 := by
  change ¬ 281474976710655 < keyN l i at h
  unfold keyE; rw [if_neg h, if_neg fun q => h0 q.1]
theorem keyE_ok2 {l : List UInt8} {i : Nat} (h : ¬ 281474976710655 < rawN l (12 + i * 8) 8) (h0 : 0 < i) (h1 : ¬ (rawN l (12 + i * 8) 8 : Int) ≤ (keysI l i).getD (i - 1) 0) : keyE l i = 0 := by
  rw [keysI_get l (by omega)] at h1
  change ¬ 281474976710655 < keyN l i at h
  change ¬ (keyN l i : Int) ≤ _ at h1
  unfold keyE
  rw [if_neg h, if_neg fun q => h1 (by have := q.2; omega)]
theorem valN_cut {a : Option Addr} {c i : Nat} {l : List UInt8} {w : World} (h : Bys w (.slice a 244 c) l) (hl : l.length = 244) (hb : 12 + 8 * nodM l + nodW l * i + nodW l ≤ 244) :
    Bys w (.slice (cutA a (12 + 8 * nodM l + nodW l * i) c 1) (12 + 8 * nodM l + nodW l * i + nodW l - (12 + 8 * nodM l + nodW l * i)) (c - (12 + 8 * nodM l + nodW l * i))) (valN l i) := by
  have := Bys.cut h hl (12 + 8 * nodM l + nodW l * i) (12 + 8 * nodM l + nodW l * i + nodW l) (by omega) hb
  unfold valN
  rw [show 12 + nodM l * 8 + i * nodW l = 12 + 8 * nodM l + nodW l * i by rw [Nat.mul_comm i]; omega]
  rw [show (l.drop (12 + 8 * nodM l + nodW l * i)).take (nodW l) = (l.drop (12 + 8 * nodM l + nodW l * i)).take (12 + 8 * nodM l + nodW l * i + nodW l - (12 + 8 * nodM l + nodW l * i)) by rw [Nat.add_sub_cancel_left]]
  exact this
theorem valN_cutlen {i : Nat} {l : List UInt8} (hl : l.length = 244) (hb : 12 + 8 * nodM l + nodW l * i + nodW l ≤ 244) : (valN l i).length = 12 + 8 * nodM l + nodW l * i + nodW l - (12 + 8 * nodM l + nodW l * i) := by
  unfold valN; simp only [List.length_take, List.length_drop]; rw [Nat.mul_comm i]; omega
theorem rawC {l : List UInt8} (h : nodC l ≤ 18) : (l.getD 2 0).toNat = nodC l := by
  have e : rawN l 2 2 = (l.getD 2 0).toNat + 256 * (l.getD 3 0).toNat := raw2 l 2
  unfold nodC at h ⊢
  omega
def RNodeP (l : List UInt8) (w : World) (e : Ending) (w' : World) : Prop :=
  (nodeE l ≠ 0 ∧ e = .returned (.tuple #[.agg #[.int .i64 0, .bool false, .slice none 0 0, .slice none 0 0], .int .i64 (nodeE l)]) ∧ Below w.heap.size w w') ∨
  (nodeE l = 0 ∧ ∃ kp kc vp vc, e = .returned (.tuple #[.agg #[.int .i64 (nodT l), .bool (nodL l), .slice kp (nodC l) kc, .slice vp (nodC l) vc], .int .i64 0]) ∧ Below w.heap.size w w' ∧
    w'.ownsRow w.heap.size 3 1 (.slice kp (nodC l) kc) (nodC l) ((keysI l (nodC l)).map (Value.int .i64)) ∧ w'.ownsRow w.heap.size 9 1 (.slice vp (nodC l) vc) (nodC l) ((valsL l (nodC l)).map sv))
set_option maxRecDepth 100000 in
set_option maxHeartbeats 4000000 in
theorem ref07_Read (a : Option Addr) (c : Nat) (l : List UInt8) (w : World) (hl : l.length = 244) (h : Bys w (.slice a 244 c) l) :
    Calls Tryz.prog 75 #[.slice a 244 c] w (RNodeP l w) := by
 have hcap := Bys.cap h hl
 refine zin 94 Tryz.func75 ?_
 refine xa 2 [.int .i64 0, .bool false, .slice none 0 0, .slice none 0 0] 52 fun b1 W1 n1 => ?_
 refine xr 7 (args := #[.slice a 244 c]) (ref07_form a c l _ hl (h.below n1.below)) fun W2 hb2 => ?_
 refine xi 3 (!(shapeB l && nodeZ l)) (fun hc3 => ?_) (fun hc3 => ?_)
 · have he : nodeE l = 7 := by unfold nodeE; by_cases q : shapeB l = true <;> simp_all
   have k1 := n1.blk.below hb2
   refine xsv 3 k1 [.int .i64 0, .bool false, .slice none 0 0, .slice none 0 0] fun W4 u4 k4 => ?_
   have g1 := n1.ge (Below.refl w.heap.size _)
   have hB'1 := u4.below (Bl.next n1.below hb2) g1
   exact xec 5 k4 (.tuple #[.agg #[.int .i64 0, .bool false, .slice none 0 0, .slice none 0 0], .int .i64 7]) (.inl ⟨by rw [he]; decide, by rw [he], hB'1⟩)
 have hsz : shapeB l = true ∧ nodeZ l = true := by simpa using hc3
 have hs := hsz.1
 have hnz := hsz.2
 obtain ⟨hcm, hfit, hmle, hwle, hcw⟩ := shape_fits hs
 refine xd 3 (.t w.heap.size [52]) ?_
 refine xx (.e [0] 1) _ 244 1 1 (BysM.elem h hl (k := 1) (by omega)).1 ?_
 have hB'2 := Bl.next (Bl.next n1.below hb2) (below_drew W2)
 refine xlt (.e [] 2) (.t w.heap.size [52]) (fun V hV => (BysM.elem (h.below (sft_keep hB'2 hV (Nat.le_refl _))) hl (k := 1) (by omega)).2) ?_
 refine xq (.e [] 3) (congrArg (Value.int .i64) (show (IntKind.i64.wrap (↑(l.getD 1 0).toNat : Int) : Int) = (nodT l) from by unfold nodT; rw [raw1]; exact i64_nat (by have := (l.getD 1 0).toNat_lt; omega))) ?_
 refine xx (.e [4] 5) _ 244 0 1 (BysM.elem h hl (k := 0) (by omega)).1 ?_
 refine xlt (.e [] 6) (.t w.heap.size [52]) (fun V hV => (BysM.elem (h.below (sft_keep hB'2 hV (Nat.le_refl _))) hl (k := 0) (by omega)).2) ?_
 refine xa (.o [7, 8] 9) [.int .i64 0, .bool false, .slice none 0 0, .slice none 0 0] 52 fun b5 W5 n5 => ?_
 have k1 := (n1.blk.below hb2).below (below_drew W2)
 have d5_b1 := n5.ne k1
 have g5 := n5.ge hB'2
 refine ysv (.o [] 10) n5.blk [.int .i64 (nodT l), .bool ((↑(l.getD 0 0).toNat : Int) == (1 : Int)), .slice none 0 0, .slice none 0 0] (.t w.heap.size [52]) fun W6 u6 k6 => ⟨(sft_upd u6 n5.blk g5 (by decide)), ?_⟩
 refine xb 5 0 k6 ?_
 refine xb 1 1 k6 ?_
 refine xr 0 (args := #[.int .i64 (nodT l), .bool ((↑(l.getD 0 0).toNat : Int) == (1 : Int))]) (ref07_WidthG (nodT l) (nodL l) _) fun W7 hb7 => ?_
 have hB'3 := Bl.next (u6.below (Bl.next hB'2 n5.below) g5) hb7
 have k1'1 := (u6.blk (k1.below n5.below) (Ne.symm (Ne.symm d5_b1))).below hb7
 have k6'1 := k6.below hb7
 refine zl 10 94 (fun zm zkv V => ∃ (i : Nat) (kp : Option Addr) (kc : Nat) (vp : Option Addr) (vc : Nat), zkv = [(0, .slice a 244 c), (2, .pointer (some ⟨b1, 0, none⟩)), (4, .pointer (some ⟨b5, 0, none⟩)), (5, .int .i64 (↑(nodW l) : Int)), (6, .int .i64 (↑i : Int))] ∧ zm = nodC l - ((↑i : Int)).toNat ∧ Below w.heap.size w V ∧ Blk V b1 ([.int .i64 0, .bool false, .slice none 0 0, .slice none 0 0]) 52 ∧ Blk V b5 ([.int .i64 (nodT l), .bool ((↑(l.getD 0 0).toNat : Int) == (1 : Int)), .slice kp i kc, .slice vp i vc]) 52 ∧ V.ownsRow w.heap.size 3 1 (.slice kp i kc) i ((keysI l i).map (Value.int .i64)) ∧ V.ownsRow w.heap.size 9 1 (.slice vp i vc) i ((valsL l i).map sv) ∧ i ≤ nodC l ∧ keysErr l i = 0) ⟨0, none, 0, none, 0, rfl, rfl, hB'3, k1'1, k6'1, World.ownsRow_nil _ _ _ _, World.ownsRow_nil _ _ _ _, Nat.zero_le _, rfl⟩ ?_
 rintro _ _ W8 ⟨i, kp, kc, vp, vc, rfl, rfl, hB_8, k8_b1, k8_b5, hK, hV, hi, hz⟩ J8 hJ8 r8
 have hiw : (i + 1) * nodW l = i * nodW l + nodW l := Nat.succ_mul i (nodW l)
 have hiw2 : i < nodC l → (i + 1) * nodW l ≤ nodM l * nodW l := fun hh => Nat.mul_le_mul_right _ (by omega)
 have hiw3 := Nat.mul_comm i (nodW l)
 refine xx 5 _ 244 2 1 (BysM.elem h hl (k := 2) (by omega)).1 ?_
 refine xl 0 ((BysM.elem (h.below hB_8) hl (k := 2) (by omega)).2) ?_
 refine xq 0 (congrArg (Value.int .i64) (show (IntKind.i64.wrap (↑(l.getD 2 0).toNat : Int) : Int) = (↑(nodC l) : Int) from by rw [rawC (by omega)]; exact i64_nat (by omega))) ?_
 refine xid 3 ((↑i : Int) < (↑(nodC l) : Int)) (fun hc9 => ?_) (fun hc9 => ?_)
 · refine xwm 8 (8 * (↑i : Int)) (↑(8 * i) : Int) ?_
   refine xwm 0 (12 + (↑(8 * i) : Int)) (↑(12 + (8 * i)) : Int) ?_
   refine xc 0 (args := #[.slice a 244 c, .int .i64 (↑(12 + (8 * i)) : Int), .int .i64 8]) (ref_GetP a 244 c (12 + i * 8) 8 l _ hl (by decide) (by omega) (by decide) (h.below hB_8) _ 8 (by omega) rfl) ?_
   rintro e W10 hq10
   rcases hq10 with ⟨hgk, rfl, hb10⟩ | ⟨hgk, rfl, hb10⟩
   · refine xid 18 ((↑(rawN l (12 + i * 8) 8) : Int) > (281474976710655 : Int)) (fun hc11 => ?_) (fun hc11 => ?_)
     · have k8_b1'1 := k8_b1.below hb10
       refine xsv 3 k8_b1'1 [.int .i64 0, .bool false, .slice none 0 0, .slice none 0 0] fun W12 u12 k12 => ?_
       have g1 := n1.ge (Below.refl w.heap.size _)
       have hB'4 := u12.below (Bl.next hB_8 hb10) g1
       refine xec 10 k12 (.tuple #[.agg #[.int .i64 0, .bool false, .slice none 0 0, .slice none 0 0], .int .i64 2]) ?_
       have hke : keyE l i = 2 := keyE_big (by omega)
       have he : nodeE l = 2 := by unfold nodeE; rw [if_pos hs, if_pos hnz, keysErr_at hz (by rw [hke]; decide) (by omega), hke]
       exact .inl ⟨by rw [he]; decide, by rw [he], hB'4⟩
     refine xg 8 [52, 53] (decide ((↑i : Int) > (0 : Int))) (fun hc13 => ?_) (fun hc13 => ?_)
     · have hc13 := of_decide_eq_true hc13
       have k8_b5'1 := k8_b5.below hb10
       refine xb 2 2 k8_b5'1 ?_
       refine xwm 1 ((↑i : Int) - 1) (↑(i - 1) : Int) ?_
       have hK'1 := own_below hK hb10
       refine xx 0 _ i (i - 1) 1 (IntsN.elem (own_sl hK'1) (keysI_len l i) (k := (i - 1)) (by omega)).1 ?_
       refine xl 0 ((IntsN.elem (own_sl hK'1) (keysI_len l i) (k := (i - 1)) (by omega)).2) ?_
       refine xid 4 ((↑(rawN l (12 + i * 8) 8) : Int) ≤ ((keysI l i).getD (i - 1) 0)) (fun hc14 => ?_) (fun hc14 => ?_)
       · have k8_b1'2 := k8_b1.below hb10
         refine xsv 3 k8_b1'2 [.int .i64 0, .bool false, .slice none 0 0, .slice none 0 0] fun W15 u15 k15 => ?_
         have g1 := n1.ge (Below.refl w.heap.size _)
         have hB'5 := u15.below (Bl.next hB_8 hb10) g1
         refine xec 10 k15 (.tuple #[.agg #[.int .i64 0, .bool false, .slice none 0 0, .slice none 0 0], .int .i64 8]) ?_
         have hke : keyE l i = 8 := keyE_low (by omega) (by omega) (by omega)
         have he : nodeE l = 8 := by unfold nodeE; rw [if_pos hs, if_pos hnz, keysErr_at hz (by rw [hke]; decide) (by omega), hke]
         exact .inl ⟨by rw [he]; decide, by rw [he], hB'5⟩
       refine xb 5 0 k8_b5'1 ?_
       refine xb 1 1 k8_b5'1 ?_
       refine xr 0 (args := #[.int .i64 (nodT l), .bool ((↑(l.getD 0 0).toNat : Int) == (1 : Int))]) (ref07_MaxG (nodT l) (nodL l) _) fun W16 hb16 => ?_
       refine xwm 0 (8 * (↑(nodM l) : Int)) (↑(8 * (nodM l)) : Int) ?_
       refine xwm 0 (12 + (↑(8 * (nodM l)) : Int)) (↑(12 + (8 * (nodM l))) : Int) ?_
       refine xwm 2 ((↑(nodW l) : Int) * (↑i : Int)) (↑((nodW l) * i) : Int) ?_
       refine xwm 0 ((↑(12 + (8 * (nodM l))) : Int) + (↑((nodW l) * i) : Int)) (↑((12 + (8 * (nodM l))) + ((nodW l) * i)) : Int) ?_
       have k8_b5'2 := k8_b5'1.below hb16
       refine xb 6 2 k8_b5'2 ?_
       refine xbs 1 1 [.int .i64 (↑(rawN l (12 + i * 8) 8) : Int)] 3 fun b17 W17 n17 => ?_
       have hB'6 := Bl.next (Bl.next hB_8 hb10) hb16
       have g17 := n17.ge hB'6
       have hK'2 := own_below hK'1 hb16
       have r17_hK := own_ne hK'2 n17
       have hK'3 := own_below hK'2 n17.below
       have hB'7 := Bl.next hB'6 n17.below
       refine xbi 0 fun _ _ _ _ zJ zQ zo zx zy zK => op_app (m := 1) (news := [.int .i64 (↑(rawN l (12 + i * 8) 8) : Int)]) (.int .i64 0) 1 8 (i + 1) ((keysI l (i + 1)).map (Value.int .i64)) zo Tryz.underlying26 (by kernel_rfl) rfl (by decide) zx hK'3 zy (n17.blk.sl 1 1 (by decide) (by decide)) rfl (by simp [Value.oneCell']) (by unfold maxLen; omega) (by omega) hB'7.size (by rfl) (by rw [keysI_snoc, List.map_append]; rfl) fun px18 cx18 W18 o18 hg18 hb18 => ?_
       refine zK _ _ ?_
       have k8_b5'3 := (k8_b5'2.below n17.below).grown hg18 hK'3 (by decide)
       refine xs 1 k8_b5'3 [.int .i64 (nodT l), .bool ((↑(l.getD 0 0).toNat : Int) == (1 : Int)), .slice px18 (i + 1) cx18, .slice vp i vc] fun W19 u19 k19 => ?_
       refine xd 2 (.t w.heap.size [9, 52]) ?_
       refine xwm (.e [0, 2, 3, 4, 5] 6) ((↑((12 + (8 * (nodM l))) + ((nodW l) * i)) : Int) + (↑(nodW l) : Int)) (↑(((12 + (8 * (nodM l))) + ((nodW l) * i)) + (nodW l)) : Int) ?_
       refine xsB (.e [] 7) (fun _ _ _ _ _ zo zx zy zz V => run_sliceLHA (k := ((12 + (8 * (nodM l))) + ((nodW l) * i))) (h := (((12 + (8 * (nodM l))) + ((nodW l) * i)) + (nodW l))) (b := a) (n := 244) (c := c) (i := (↑((12 + (8 * (nodM l))) + ((nodW l) * i)) : Int)) (ki := .i64) (j := (↑(((12 + (8 * (nodM l))) + ((nodW l) * i)) + (nodW l)) : Int)) (kj := .i64) 1 zo zx zy rfl zz rfl (by omega) (by omega) Tryz.underlying22 (by kernel_rfl) V) ?_
       have hV'1 := own_below (u19.own2 (own_grown (own_below (own_below (own_below hV hb10) hb16) n17.below) hg18 hK'3 (by decide)) k8_b5'3 (by decide)) (below_drew W19)
       have hB'8 := Bl.next (u19.below (hB'7.trans hb18) g5) (below_drew W19)
       refine xcvt (.e [] 8) (.t w.heap.size [9, 52]) (fun _ _ _ zo zx V hV'1 => run_bstr zo zx ((valN_cut (i := i) h hl (by omega)).below (sft_keep hB'8 hV'1 (Nat.le_refl _))) (valN_cutlen (i := i) hl (by omega)) Tryz.underlying22 Tryz.underlying5 Tryz.underlying9) ?_
       refine xm2 0 1 9 ?_ ?_
       · have k19'1 := k19.below (below_drew W19)
         refine xb 0 3 k19'1 ?_
         refine xbs (.o [] 9) 1 [.string ⟨(valN l i).toArray⟩] 9 fun b20 W20 n20 => ?_
         have g20 := n20.ge hB'8
         have r20_hV := own_ne hV'1 n20
         have hV'2 := own_below hV'1 n20.below
         have hB'9 := Bl.next hB'8 n20.below
         refine ybi (.o [] 10) (.t w.heap.size [9, 52]) fun _ _ _ _ zJ zQ zo zx zy zK => op_app (m := 1) (news := [.string ⟨(valN l i).toArray⟩]) (.string ⟨#[]⟩) 1 16 (i + 1) ((valsL l (i + 1)).map sv) zo Tryz.underlying50 (by kernel_rfl) rfl (by decide) zx hV'2 zy (n20.blk.sl 1 1 (by decide) (by decide)) rfl (by simp [Value.oneCell']) (by unfold maxLen; omega) (by omega) hB'9.size (by rfl) (by rw [valsL_snoc, List.map_append]; rfl) fun px21 cx21 W21 o21 hg21 hb21 => ?_
         refine zK _ _ (sft_grown hb21 hg21 hV'2 (by decide)) ?_
         have k19'2 := (k19'1.below n20.below).grown hg21 hV'2 (by decide)
         refine ys (.o [11] 12) k19'2 [.int .i64 (nodT l), .bool ((↑(l.getD 0 0).toNat : Int) == (1 : Int)), .slice px18 (i + 1) cx18, .slice px21 (i + 1) cx21] (.t w.heap.size [9, 52]) fun W22 u22 k22 => ⟨(sft_upd u22 k19'2 g5 (by decide)), ?_⟩
         refine xwm 5 ((↑i : Int) + 1) (↑(i + 1) : Int) ?_
         have hB'10 := u22.below (hB'9.trans hb21) g5
         have k8_b1'3 := u22.blk ((((u19.blk ((((k8_b1.below hb10).below hb16).below n17.below).grown hg18 hK'3 (by decide)) (Ne.symm (Ne.symm d5_b1))).below (below_drew W19)).below n20.below).grown hg21 hV'2 (by decide)) (Ne.symm (Ne.symm d5_b1))
         have o18'1 := u22.own2 (own_grown (own_below (own_below (u19.own2 o18 k8_b5'3 (by decide)) (below_drew W19)) n20.below) hg21 hV'2 (by decide)) k19'2 (by decide)
         have o21'1 := u22.own2 o21 k19'2 (by decide)
         exact ze 2 (hJ8 _ _ _ ⟨i + 1, _, _, _, _, rfl, rfl, hB'10, k8_b1'3, k22, o18'1, o21'1, by omega, keysErr_next hz (keyE_ok2 (by omega) (by omega) (by omega))⟩ (by omega))
       refine xbs 0 1 [.string ⟨(valN l i).toArray⟩] 9 fun b23 W23 n23 => ?_
       have g23 := n23.ge hB'8
       have r23_hV := own_ne hV'1 n23
       have k19'3 := (k19.below (below_drew W19)).below n23.below
       refine xb (.o [] 1) 3 k19'3 ?_
       have hV'3 := own_below hV'1 n23.below
       have hB'11 := Bl.next hB'8 n23.below
       refine ybi (.o [] 10) (.t w.heap.size [9, 52]) fun _ _ _ _ zJ zQ zo zx zy zK => op_app (m := 1) (news := [.string ⟨(valN l i).toArray⟩]) (.string ⟨#[]⟩) 1 16 (i + 1) ((valsL l (i + 1)).map sv) zo Tryz.underlying50 (by kernel_rfl) rfl (by decide) zx hV'3 zy (n23.blk.sl 1 1 (by decide) (by decide)) rfl (by simp [Value.oneCell']) (by unfold maxLen; omega) (by omega) hB'11.size (by rfl) (by rw [valsL_snoc, List.map_append]; rfl) fun px24 cx24 W24 o24 hg24 hb24 => ?_
       refine zK _ _ (sft_grown hb24 hg24 hV'3 (by decide)) ?_
       have k19'4 := k19'3.grown hg24 hV'3 (by decide)
       refine ys (.o [11] 12) k19'4 [.int .i64 (nodT l), .bool ((↑(l.getD 0 0).toNat : Int) == (1 : Int)), .slice px18 (i + 1) cx18, .slice px24 (i + 1) cx24] (.t w.heap.size [9, 52]) fun W25 u25 k25 => ⟨(sft_upd u25 k19'4 g5 (by decide)), ?_⟩
       refine xwm 5 ((↑i : Int) + 1) (↑(i + 1) : Int) ?_
       have hB'12 := u25.below (hB'11.trans hb24) g5
       have k8_b1'4 := u25.blk ((((u19.blk ((((k8_b1.below hb10).below hb16).below n17.below).grown hg18 hK'3 (by decide)) (Ne.symm (Ne.symm d5_b1))).below (below_drew W19)).below n23.below).grown hg24 hV'3 (by decide)) (Ne.symm (Ne.symm d5_b1))
       have o18'2 := u25.own2 (own_grown (own_below (own_below (u19.own2 o18 k8_b5'3 (by decide)) (below_drew W19)) n23.below) hg24 hV'3 (by decide)) k19'4 (by decide)
       have o24'1 := u25.own2 o24 k19'4 (by decide)
       exact ze 2 (hJ8 _ _ _ ⟨i + 1, _, _, _, _, rfl, rfl, hB'12, k8_b1'4, k25, o18'2, o24'1, by omega, keysErr_next hz (keyE_ok2 (by omega) (by omega) (by omega))⟩ (by omega))
     have hc13 := of_decide_eq_false hc13
     have k8_b5'4 := k8_b5.below hb10
     refine xb 17 0 k8_b5'4 ?_
     refine xb 1 1 k8_b5'4 ?_
     refine xr 0 (args := #[.int .i64 (nodT l), .bool ((↑(l.getD 0 0).toNat : Int) == (1 : Int))]) (ref07_MaxG (nodT l) (nodL l) _) fun W26 hb26 => ?_
     refine xwm 0 (8 * (↑(nodM l) : Int)) (↑(8 * (nodM l)) : Int) ?_
     refine xwm 0 (12 + (↑(8 * (nodM l)) : Int)) (↑(12 + (8 * (nodM l))) : Int) ?_
     refine xwm 2 ((↑(nodW l) : Int) * (↑i : Int)) (↑((nodW l) * i) : Int) ?_
     refine xwm 0 ((↑(12 + (8 * (nodM l))) : Int) + (↑((nodW l) * i) : Int)) (↑((12 + (8 * (nodM l))) + ((nodW l) * i)) : Int) ?_
     have k8_b5'5 := k8_b5'4.below hb26
     refine xb 6 2 k8_b5'5 ?_
     refine xbs 1 1 [.int .i64 (↑(rawN l (12 + i * 8) 8) : Int)] 3 fun b27 W27 n27 => ?_
     have hB'13 := Bl.next (Bl.next hB_8 hb10) hb26
     have g27 := n27.ge hB'13
     have hK'4 := own_below (own_below hK hb10) hb26
     have r27_hK := own_ne hK'4 n27
     have hK'5 := own_below hK'4 n27.below
     have hB'14 := Bl.next hB'13 n27.below
     refine xbi 0 fun _ _ _ _ zJ zQ zo zx zy zK => op_app (m := 1) (news := [.int .i64 (↑(rawN l (12 + i * 8) 8) : Int)]) (.int .i64 0) 1 8 (i + 1) ((keysI l (i + 1)).map (Value.int .i64)) zo Tryz.underlying26 (by kernel_rfl) rfl (by decide) zx hK'5 zy (n27.blk.sl 1 1 (by decide) (by decide)) rfl (by simp [Value.oneCell']) (by unfold maxLen; omega) (by omega) hB'14.size (by rfl) (by rw [keysI_snoc, List.map_append]; rfl) fun px28 cx28 W28 o28 hg28 hb28 => ?_
     refine zK _ _ ?_
     have k8_b5'6 := (k8_b5'5.below n27.below).grown hg28 hK'5 (by decide)
     refine xs 1 k8_b5'6 [.int .i64 (nodT l), .bool ((↑(l.getD 0 0).toNat : Int) == (1 : Int)), .slice px28 (i + 1) cx28, .slice vp i vc] fun W29 u29 k29 => ?_
     refine xd 2 (.t w.heap.size [9, 52]) ?_
     refine xwm (.e [0, 2, 3, 4, 5] 6) ((↑((12 + (8 * (nodM l))) + ((nodW l) * i)) : Int) + (↑(nodW l) : Int)) (↑(((12 + (8 * (nodM l))) + ((nodW l) * i)) + (nodW l)) : Int) ?_
     refine xsB (.e [] 7) (fun _ _ _ _ _ zo zx zy zz V => run_sliceLHA (k := ((12 + (8 * (nodM l))) + ((nodW l) * i))) (h := (((12 + (8 * (nodM l))) + ((nodW l) * i)) + (nodW l))) (b := a) (n := 244) (c := c) (i := (↑((12 + (8 * (nodM l))) + ((nodW l) * i)) : Int)) (ki := .i64) (j := (↑(((12 + (8 * (nodM l))) + ((nodW l) * i)) + (nodW l)) : Int)) (kj := .i64) 1 zo zx zy rfl zz rfl (by omega) (by omega) Tryz.underlying22 (by kernel_rfl) V) ?_
     have hV'4 := own_below (u29.own2 (own_grown (own_below (own_below (own_below hV hb10) hb26) n27.below) hg28 hK'5 (by decide)) k8_b5'6 (by decide)) (below_drew W29)
     have hB'15 := Bl.next (u29.below (hB'14.trans hb28) g5) (below_drew W29)
     refine xcvt (.e [] 8) (.t w.heap.size [9, 52]) (fun _ _ _ zo zx V hV'4 => run_bstr zo zx ((valN_cut (i := i) h hl (by omega)).below (sft_keep hB'15 hV'4 (Nat.le_refl _))) (valN_cutlen (i := i) hl (by omega)) Tryz.underlying22 Tryz.underlying5 Tryz.underlying9) ?_
     refine xm2 0 1 9 ?_ ?_
     · have k29'1 := k29.below (below_drew W29)
       refine xb 0 3 k29'1 ?_
       refine xbs (.o [] 9) 1 [.string ⟨(valN l i).toArray⟩] 9 fun b30 W30 n30 => ?_
       have g30 := n30.ge hB'15
       have r30_hV := own_ne hV'4 n30
       have hV'5 := own_below hV'4 n30.below
       have hB'16 := Bl.next hB'15 n30.below
       refine ybi (.o [] 10) (.t w.heap.size [9, 52]) fun _ _ _ _ zJ zQ zo zx zy zK => op_app (m := 1) (news := [.string ⟨(valN l i).toArray⟩]) (.string ⟨#[]⟩) 1 16 (i + 1) ((valsL l (i + 1)).map sv) zo Tryz.underlying50 (by kernel_rfl) rfl (by decide) zx hV'5 zy (n30.blk.sl 1 1 (by decide) (by decide)) rfl (by simp [Value.oneCell']) (by unfold maxLen; omega) (by omega) hB'16.size (by rfl) (by rw [valsL_snoc, List.map_append]; rfl) fun px31 cx31 W31 o31 hg31 hb31 => ?_
       refine zK _ _ (sft_grown hb31 hg31 hV'5 (by decide)) ?_
       have k29'2 := (k29'1.below n30.below).grown hg31 hV'5 (by decide)
       refine ys (.o [11] 12) k29'2 [.int .i64 (nodT l), .bool ((↑(l.getD 0 0).toNat : Int) == (1 : Int)), .slice px28 (i + 1) cx28, .slice px31 (i + 1) cx31] (.t w.heap.size [9, 52]) fun W32 u32 k32 => ⟨(sft_upd u32 k29'2 g5 (by decide)), ?_⟩
       refine xwm 5 ((↑i : Int) + 1) (↑(i + 1) : Int) ?_
       have hB'17 := u32.below (hB'16.trans hb31) g5
       have k8_b1'5 := u32.blk ((((u29.blk ((((k8_b1.below hb10).below hb26).below n27.below).grown hg28 hK'5 (by decide)) (Ne.symm (Ne.symm d5_b1))).below (below_drew W29)).below n30.below).grown hg31 hV'5 (by decide)) (Ne.symm (Ne.symm d5_b1))
       have o28'1 := u32.own2 (own_grown (own_below (own_below (u29.own2 o28 k8_b5'6 (by decide)) (below_drew W29)) n30.below) hg31 hV'5 (by decide)) k29'2 (by decide)
       have o31'1 := u32.own2 o31 k29'2 (by decide)
       exact ze 2 (hJ8 _ _ _ ⟨i + 1, _, _, _, _, rfl, rfl, hB'17, k8_b1'5, k32, o28'1, o31'1, by omega, keysErr_next hz (keyE_ok (by omega) (by omega))⟩ (by omega))
     refine xbs 0 1 [.string ⟨(valN l i).toArray⟩] 9 fun b33 W33 n33 => ?_
     have g33 := n33.ge hB'15
     have r33_hV := own_ne hV'4 n33
     have k29'3 := (k29.below (below_drew W29)).below n33.below
     refine xb (.o [] 1) 3 k29'3 ?_
     have hV'6 := own_below hV'4 n33.below
     have hB'18 := Bl.next hB'15 n33.below
     refine ybi (.o [] 10) (.t w.heap.size [9, 52]) fun _ _ _ _ zJ zQ zo zx zy zK => op_app (m := 1) (news := [.string ⟨(valN l i).toArray⟩]) (.string ⟨#[]⟩) 1 16 (i + 1) ((valsL l (i + 1)).map sv) zo Tryz.underlying50 (by kernel_rfl) rfl (by decide) zx hV'6 zy (n33.blk.sl 1 1 (by decide) (by decide)) rfl (by simp [Value.oneCell']) (by unfold maxLen; omega) (by omega) hB'18.size (by rfl) (by rw [valsL_snoc, List.map_append]; rfl) fun px34 cx34 W34 o34 hg34 hb34 => ?_
     refine zK _ _ (sft_grown hb34 hg34 hV'6 (by decide)) ?_
     have k29'4 := k29'3.grown hg34 hV'6 (by decide)
     refine ys (.o [11] 12) k29'4 [.int .i64 (nodT l), .bool ((↑(l.getD 0 0).toNat : Int) == (1 : Int)), .slice px28 (i + 1) cx28, .slice px34 (i + 1) cx34] (.t w.heap.size [9, 52]) fun W35 u35 k35 => ⟨(sft_upd u35 k29'4 g5 (by decide)), ?_⟩
     refine xwm 5 ((↑i : Int) + 1) (↑(i + 1) : Int) ?_
     have hB'19 := u35.below (hB'18.trans hb34) g5
     have k8_b1'6 := u35.blk ((((u29.blk ((((k8_b1.below hb10).below hb26).below n27.below).grown hg28 hK'5 (by decide)) (Ne.symm (Ne.symm d5_b1))).below (below_drew W29)).below n33.below).grown hg34 hV'6 (by decide)) (Ne.symm (Ne.symm d5_b1))
     have o28'2 := u35.own2 (own_grown (own_below (own_below (u29.own2 o28 k8_b5'6 (by decide)) (below_drew W29)) n33.below) hg34 hV'6 (by decide)) k29'4 (by decide)
     have o34'1 := u35.own2 o34 k29'4 (by decide)
     exact ze 2 (hJ8 _ _ _ ⟨i + 1, _, _, _, _, rfl, rfl, hB'19, k8_b1'6, k35, o28'2, o34'1, by omega, keysErr_next hz (keyE_ok (by omega) (by omega))⟩ (by omega))
   have k8_b1'7 := k8_b1.below hb10
   refine xsv 22 k8_b1'7 [.int .i64 0, .bool false, .slice none 0 0, .slice none 0 0] fun W36 u36 k36 => ?_
   have g1 := n1.ge (Below.refl w.heap.size _)
   have hB'20 := u36.below (Bl.next hB_8 hb10) g1
   refine xec 10 k36 (.tuple #[.agg #[.int .i64 0, .bool false, .slice none 0 0, .slice none 0 0], .int .i64 2]) ?_
   have hke : keyE l i = 2 := keyE_big (by omega)
   have he : nodeE l = 2 := by unfold nodeE; rw [if_pos hs, if_pos hnz, keysErr_at hz (by rw [hke]; decide) (by omega), hke]
   exact .inl ⟨by rw [he]; decide, by rw [he], hB'20⟩
 refine xlv 7 k8_b5.rp ?_
 refine xsv 0 k8_b1 [.int .i64 (nodT l), .bool ((↑(l.getD 0 0).toNat : Int) == (1 : Int)), .slice kp i kc, .slice vp i vc] fun W37 u37 k37 => ?_
 have g1 := n1.ge (Below.refl w.heap.size _)
 have hB'21 := u37.below hB_8 g1
 have hK'6 := u37.own2 hK k8_b1 (by decide)
 have hV'7 := u37.own2 hV k8_b1 (by decide)
 refine xec 4 k37 (.tuple #[.agg #[.int .i64 (nodT l), .bool ((↑(l.getD 0 0).toNat : Int) == (1 : Int)), .slice kp i kc, .slice vp i vc], .int .i64 0]) ?_
 obtain rfl : i = nodC l := by omega
 exact .inr ⟨by unfold nodeE; rw [if_pos hs, if_pos hnz, hz], _, _, _, _, rfl, hB'21, hK'6, hV'7⟩
end Go.Proofs.YtinegkldgjhnpaaGreatDoor
namespace Go.Proofs.YtinegkldgjhnpaaGreatDoor
open Go.RowKit
set_option linter.unusedVariables false

def hasB (lo hi k : Int) : Bool := decide (lo ≤ k ∧ k < hi)
def rightB (lo hi : Int) : Bool := decide (0 ≤ lo ∧ lo ≤ hi ∧ hi ≤ 281474976710656)
def SortP (l : List Int) : Prop := ∀ k, k < l.length → 1 ≤ k → l[k-1]?.getD 0 < l[k]?.getD 0
instance (l : List Int) : Decidable (SortP l) := by unfold SortP; infer_instance
def fitsI (lo hi : Int) (l : List Int) : Int :=
  if rightB lo hi then if SortP l then if ∀ k ∈ l, lo ≤ k ∧ k < hi then 0 else 9 else 8 else 1
@[go_sem] def spanV (lo hi : Int) : Value := .agg #[.int .i64 lo, .int .i64 hi]

theorem SortP.lt {l : List Int} (h : SortP l) : ∀ (j i : Nat), i < j → j < l.length → l[i]?.getD 0 < l[j]?.getD 0 := by
  intro j
  induction j with
  | zero => intro i h1; omega
  | succ j ih =>
    intro i h1 h2
    have h3 := h (j + 1) h2 (by omega)
    simp only [Nat.add_sub_cancel] at h3
    by_cases hij : i = j
    · subst hij; exact h3
    · exact Int.lt_trans (ih i (by omega) (by omega)) h3
theorem SortP.one (l : List Int) : SortP (l.take 1) := by
  intro k h1 h2; simp at h1; omega
theorem SortP.succ {l : List Int} {k : Nat} {x y : Int} (h : SortP (l.take k)) (hx : l[k-1]? = some x) (hy : l[k]? = some y) (hxy : x < y) : SortP (l.take (k + 1)) := by
  intro j h1 h2
  have hjk : j < k + 1 := by simp at h1; omega
  rw [List.getElem?_take, List.getElem?_take, if_pos (by omega), if_pos hjk]
  by_cases hj : j = k
  · subst hj; rw [hx, hy]; exact hxy
  · have := h j (by simp at h1 ⊢; omega) h2
    rw [List.getElem?_take, List.getElem?_take, if_pos (by omega), if_pos (by omega)] at this
    exact this
theorem fits_right {lo hi : Int} {l : List Int} (h : rightB lo hi = false) : fitsI lo hi l = 1 := by simp [fitsI, h]
theorem fits_order {lo hi : Int} {l : List Int} {k : Nat} {x y : Int} (h : rightB lo hi = true) (hk : 1 ≤ k) (hx : l[k-1]? = some x) (hy : l[k]? = some y) (hxy : y ≤ x) : fitsI lo hi l = 8 := by
  have hn : ¬ SortP l := fun hs => by
    have hlt : k < l.length := by rcases List.getElem?_eq_some_iff.1 hy with ⟨h, _⟩; exact h
    have := hs k hlt hk
    rw [hx, hy] at this
    simp at this; omega
  simp [fitsI, h, hn]
theorem fits_nil {lo hi : Int} (h : rightB lo hi = true) : fitsI lo hi [] = 0 := by
  have hs : SortP [] := fun k h1 => by simp at h1
  simp [fitsI, h, hs]
theorem SortP.all {l : List Int} {k : Nat} (h : SortP (l.take k)) (hk : l.length ≤ k) : SortP l := by rwa [List.take_of_length_le hk] at h
theorem hasB_iff {lo hi k : Int} : hasB lo hi k = true ↔ lo ≤ k ∧ k < hi := by simp [hasB]
theorem fits_in {lo hi : Int} {l : List Int} {x y : Int} (h : rightB lo hi = true) (hs : SortP l) (hx : l[0]? = some x) (hy : l[l.length - 1]? = some y) (ha : hasB lo hi x = true) (hb : hasB lo hi y = true) : fitsI lo hi l = 0 := by
  have hall : ∀ k ∈ l, lo ≤ k ∧ k < hi := by
    intro k hk
    obtain ⟨i, hi', rfl⟩ := List.mem_iff_getElem.1 hk
    rw [hasB_iff] at ha hb
    have e : l[i]? = some l[i] := by simp
    have h1 : x ≤ l[i] := by
      by_cases h0 : i = 0
      · subst h0; rw [hx] at e; injection e with e; omega
      · have := hs.lt i 0 (by omega) hi'
        rw [hx, e] at this; simp at this; omega
    have h2 : l[i] ≤ y := by
      by_cases h0 : i = l.length - 1
      · subst h0; rw [hy] at e; injection e with e; omega
      · have := hs.lt (l.length - 1) i (by omega) (by omega)
        rw [hy, e] at this; simp at this; omega
    omega
  simp only [fitsI, h, if_true, hs]
  rw [if_pos hall]
theorem fits_out {lo hi : Int} {l : List Int} {i : Nat} {x : Int} (h : rightB lo hi = true) (hs : SortP l) (hx : l[i]? = some x) (ha : hasB lo hi x = false) : fitsI lo hi l = 9 := by
  have hn : ¬ ∀ k ∈ l, lo ≤ k ∧ k < hi := fun hall => by
    have := hasB_iff.2 (hall x (List.mem_of_getElem? hx))
    rw [ha] at this; cases this
  simp only [fitsI, h, if_true, hs]
  rw [if_neg hn]

set_option maxHeartbeats 400000 in
theorem span_all (w : World) : Calls Tryz.prog 38 #[] w (Ret (spanV 0 281474976710656) w) := by
  go_enter Tryz.func38, Tryz.ntmps38
  go_wp2
  exact bodyPost_ret (v := spanV 0 281474976710656) (by simp [results, Tryz.results38, go_sem, spanV]) rfl ⟨rfl, Bl.box _ _⟩
set_option maxHeartbeats 400000 in
theorem span_has (lo hi k : Int) (w : World) : Calls Tryz.prog 159 #[spanV lo hi, .int .i64 k] w (Ret (.bool (hasB lo hi k)) w) := by
  unfold spanV
  go_enter Tryz.func159, Tryz.ntmps159
  go_wp2
  all_goals go_ret
  all_goals refine ⟨?_, Bl.box _ _⟩
  all_goals (unfold hasB; congr 2; simp; omega)
set_option maxHeartbeats 400000 in
theorem span_right (lo hi : Int) (w : World) : Calls Tryz.prog 158 #[spanV lo hi] w (Ret (.bool (rightB lo hi)) w) := by
  unfold spanV
  go_enter Tryz.func158, Tryz.ntmps158
  go_wp2_with fail
  refine (span_all _).mono ?_
  rintro e w' ⟨rfl, hb⟩
  have hz : w.heap.size < w'.heap.size := ltB hb (by simp)
  have h0 := getC hb (p := ⟨w.heap.size, 0, none⟩) (v := .int .i64 lo) (by simp [go_sem])
  have h1 := getC hb (p := ⟨w.heap.size, 1, none⟩) (v := .int .i64 hi) (by simp [go_sem])
  unfold spanV
  go_wp2_with fail
  all_goals go_ret
  all_goals refine ⟨?_, Bl.next (Bl.next (Bl.box w _) hb) (Bl.box _ _)⟩
  all_goals (unfold rightB; congr 2; simp [*]; try omega)

set_option maxHeartbeats 1000000 in
theorem span_fits (lo hi : Int) (v : Value) (l : List Int) (w : World) (hl : Ints w v l) :
    Calls Tryz.prog 126 #[spanV lo hi, v] w (Ret (.int .i64 (fitsI lo hi l)) w) := by
  by_cases hr : rightB lo hi = true
  case neg =>
    have hr' : rightB lo hi = false := by simpa using hr
    unfold spanV
    rcases hl with ⟨a0, c0, rfl, hl0, hl⟩ | ⟨b, off, cap, rfl, hcap, hmax, hc⟩
    all_goals
      go_enter Tryz.func126, Tryz.ntmps126
      go_wp2_with fail
      refine (span_right _ _ _).mono ?_
      rintro e w' ⟨rfl, hb⟩
      go_wp2_with fail
      go_ret
      exact ⟨by rw [fits_right hr']; rfl, Bl.next (Bl.box w _) hb⟩
  rcases hl with ⟨a0, c0, rfl, hl0, hl⟩ | ⟨b, off, cap, rfl, hcap, hmax, hc⟩
  · obtain rfl : l = [] := by simpa using hl
    unfold spanV
    go_enter Tryz.func126, Tryz.ntmps126
    go_wp2_with fail
    refine (span_right _ _ _).mono ?_
    rintro e w' ⟨rfl, hb⟩
    go_wp2_with fail
    go_loop [5] (fun i => i = .int .i64 1) (fun _ => 0)
    case atStart => exact rfl
    case round =>
      obtain rfl := hrel
      go_wp2_with fail
      refine wp_region_ext (by kernel_rfl) (by kernel_rfl) ?_
      repeat (go_big_quiet_step (fail))
      refine wpQuiet_nil ?_
      intro wx
      go_wp2_with fail
      go_ret
      exact ⟨by rw [fits_nil hr]; rfl, Bl.next (Bl.next (Bl.box w _) hb) wx.below⟩
  · unfold maxLen at hmax
    unfold spanV
    go_enter Tryz.func126, Tryz.ntmps126
    go_wp2_with fail
    refine (span_right _ _ _).mono ?_
    rintro e w' ⟨rfl, hb⟩
    have hz : w.heap.size < w'.heap.size := ltB hb (by simp)
    have h0 := getC hb (p := ⟨w.heap.size, 0, none⟩) (v := .int .i64 lo) (by simp [go_sem])
    have h1 := getC hb (p := ⟨w.heap.size, 1, none⟩) (v := .int .i64 hi) (by simp [go_sem])
    have hB := Bl.next (Bl.box w _) hb
    have HC := Lib.hid (fun j x (hj : l[j]? = some x) => getC hb (getA _ (hc j (.int .i64 x) (by simp [hj]))))
    clear hc hb
    go_wp2_with fail
    go_loopw [5] (fun i wr => ∃ k : Nat, 1 ≤ k ∧ i = .int .i64 k ∧ SortP (l.take k) ∧ Below w'.heap.size w' wr) (fun i _ => l.length - (intOf i).toNat)
    case atStart => exact ⟨1, by omega, rfl, SortP.one l, Below.refl _ _⟩
    case round =>
      obtain ⟨k, hk1, rfl, hs, hbr⟩ := hrel
      have HS := Lib.hid hs; clear hs
      by_cases hlt : k < l.length
      · obtain ⟨x, hx⟩ : ∃ x, l[k-1]? = some x := ⟨l[k-1], by simp⟩
        obtain ⟨y, hy⟩ : ∃ y, l[k]? = some y := ⟨l[k], by simp⟩
        have hcx := getC hbr (HC.out _ _ hx)
        have hcy := getC hbr (HC.out _ _ hy)
        have HX := Lib.hid hx; clear hx
        have HY := Lib.hid hy; clear hy
        go_wp2_with fail
        go_quiet (fail)
        go_wp2_with fail
        · go_ret
          exact ⟨by rw [fits_order hr hk1 HX.out HY.out (by assumption)]; rfl, Bl.next hB (Bl.drewN hbr _)⟩
        · go_roundw
          case rel => exact ⟨k + 1, by omega, by go_num, HS.out.succ HX.out HY.out (by assumption), Bl.drewN hbr _⟩
          case measure => simp [intOf]; omega
      · have hkk : l.length ≤ k := by omega
        by_cases h0l : l.length = 0
        · obtain rfl : l = [] := List.length_eq_zero_iff.mp h0l
          clear h0l
          go_wp2_with fail
          go_quiet (fail)
          go_wp2_with fail
          go_ret
          exact ⟨by rw [fits_nil hr]; rfl, Bl.next hB (Bl.drewN hbr _)⟩
        · obtain ⟨x, hx⟩ : ∃ x, l[0]? = some x := ⟨l[0], by simp⟩
          obtain ⟨y, hy⟩ : ∃ y, l[l.length-1]? = some y := ⟨l[l.length-1], by simp⟩
          have hpos : 0 < l.length := by omega
          have e0 : ∀ z : Ext wr, z.val.cell? ⟨w.heap.size, 0, none⟩ = some (.int .i64 lo) := fun z => z.get (getC hbr h0)
          have e1 : ∀ z : Ext wr, z.val.cell? ⟨w.heap.size, 1, none⟩ = some (.int .i64 hi) := fun z => z.get (getC hbr h1)
          have e2 : ∀ z : Ext wr, z.val.cell? ⟨b, off, none⟩ = some (.int .i64 x) := fun z => z.get (getC hbr (HC.out 0 _ hx))
          have e3 : ∀ z : Ext wr, z.val.cell? ⟨b, off + (l.length - 1), none⟩ = some (.int .i64 y) := fun z => z.get (getC hbr (HC.out _ _ hy))
          have HX := Lib.hid hx; clear hx
          have HY := Lib.hid hy; clear hy
          by_cases ha : hasB lo hi x = true
          · by_cases hb2 : hasB lo hi y = true
            · go_wp2_with fail
              refine wp_region_ext (by kernel_rfl) (by kernel_rfl) ?_
              repeat (go_big_quiet_step (exact Ret.ext (span_has _ _ _ _)))
              refine wpQuiet_nil ?_
              intro wx
              go_wp2_with fail
              go_ret
              exact ⟨by rw [fits_in hr (HS.out.all hkk) HX.out HY.out ha hb2]; rfl, Bl.next (Bl.next hB hbr) wx.below⟩
            · have hb2 : hasB lo hi y = false := by simpa using hb2
              go_wp2_with fail
              refine wp_region_ext (by kernel_rfl) (by kernel_rfl) ?_
              repeat (go_big_quiet_step (exact Ret.ext (span_has _ _ _ _)))
              refine wpQuiet_nil ?_
              intro wx
              go_wp2_with fail
              go_ret
              exact ⟨by rw [fits_out hr (HS.out.all hkk) HY.out hb2]; rfl, Bl.next (Bl.next hB hbr) wx.below⟩
          · have ha : hasB lo hi x = false := by simpa using ha
            go_wp2_with fail
            refine wp_region_ext (by kernel_rfl) (by kernel_rfl) ?_
            repeat (go_big_quiet_step (exact Ret.ext (span_has _ _ _ _)))
            refine wpQuiet_nil ?_
            intro wx
            go_wp2_with fail
            go_ret
            exact ⟨by rw [fits_out hr (HS.out.all hkk) HX.out ha]; rfl, Bl.next (Bl.next hB hbr) wx.below⟩
end Go.Proofs.YtinegkldgjhnpaaGreatDoor
namespace Go.Proofs.YtinegkldgjhnpaaGreatDoor
open Go.RowKit
set_option linter.unusedVariables false
attribute [local go_sem] Oper.semAt_some

/-- the children's spans -/
def partAt (hi : Int) (l : List Int) (i : Nat) : Int × Int := (l[i]?.getD 0, l[i+1]?.getD hi)
/-- what comes as number j: the child's number -/
def qOf {n : Nat} (j : Fin n) : Nat := n - 1 - j.val
def encE (hi : Int) (l : List Int) (j : Fin l.length) : Array Value := #[.int .i64 (qOf j : Int), spanV (partAt hi l (qOf j)).1 (partAt hi l (qOf j)).2]
theorem fin_take_succ {n k : Nat} (h : k < n) : (List.finRange n).take (k + 1) = (List.finRange n).take k ++ [⟨k, h⟩] := by
  rw [List.take_succ_eq_append_getElem (by simpa using h)]; simp
theorem fin_take_all (n : Nat) : (List.finRange n).take n = List.finRange n := List.take_of_length_le (by simp)
theorem fin_take_length {n k : Nat} (h : k ≤ n) : ((List.finRange n).take k).length = k := by simp [h]

set_option maxRecDepth 100000 in
set_option maxHeartbeats 2000000 in
theorem each1_in (l Bs Bk : Nat) (p : Nat → Prop) (hi : Int) (b off cap : Nat) (zs : List Int) (hlen : zs.length ≤ 9223372036854775807) (hb' : zs.length = 0 ∨ p b) (hBk : p Bk) (J Jx : List (Fin zs.length) → World → Prop)
    (hY : ∀ pre x W, J pre W → pre.length < zs.length → YieldAt Fence.wide 2 Tryz.prog l (encE hi zs x) W fun e W' =>
      (e = .returned (.bool true) ∧ J (pre ++ [x]) W' ∧ Keeps p W W') ∨ (e = .returned (.bool false) ∧ Jx (pre ++ [x]) W'))
    (W : World) (hc1 : W.cell? ⟨Bs, 1, none⟩ = some (.int .i64 hi)) (hck : W.cell? ⟨Bk, 0, none⟩ = some (.slice (some ⟨b, off, none⟩) zs.length cap))
    (hc : ∀ j x, zs[j]? = some x → W.cell? ⟨b, off + j, none⟩ = some (.int .i64 x)) (h0 : J [] W) :
    CallsIn Fence.wide 3 Tryz.prog 160 #[.func (.yield l) #[] #[], .pointer (some ⟨Bs, 0, none⟩), .pointer (some ⟨Bk, 0, none⟩)] W fun e W' => (∃ v, e = .returned v) ∧
      ((∃ ys, ys = List.finRange zs.length ∧ J ys W') ∨ (∃ pre, (∃ k, k ≤ zs.length ∧ pre = (List.finRange zs.length).take k) ∧ Jx pre W')) := by
  refine callsIn_of_wp Tryz.func160 rfl trivial ?_ rfl
  simp only [Tryz.ntmps160, List.size_toArray, List.length_cons, List.length_nil, Nat.reduceAdd, Nat.reduceSub, Array.replicate_succ, Array.replicate_zero, List.push_toArray, List.append_toArray, List.nil_append, List.cons_append]
  gi_wp2
  gi_loopw [4, 5] (fun h i wr => ∃ k : Nat, k ≤ zs.length ∧ i = .int .i64 ((zs.length : Int) - 1 - k) ∧ h = .int .i64 (zs[zs.length - k]?.getD hi) ∧ J ((List.finRange zs.length).take k) wr ∧ Keeps p W wr)
    (fun _ i _ => ((intOf i) + 1).toNat)
  case atStart => exact ⟨0, Nat.zero_le _, by simp, by simp, h0, Keeps.refl _ _⟩
  case round =>
    obtain ⟨k, hk, rfl, rfl, hJs, hnx⟩ := hrel
    generalize hhv : zs[zs.length - k]?.getD hi = hv
    by_cases hlt : k < zs.length
    · have hb : p b := hb'.resolve_left (by omega)
      obtain ⟨x, hx⟩ : ∃ x, zs[zs.length - 1 - k]? = some x := ⟨zs[zs.length - 1 - k], by simp⟩
      have hck' := (hnx.cell (a := ⟨Bk, 0, none⟩) hBk).trans hck
      have hcx := (hnx.cell (a := ⟨b, off + (zs.length - 1 - k), none⟩) hb).trans (hc _ _ hx)
      obtain ⟨q, hq⟩ : ∃ q : Nat, q = zs.length - 1 - k := ⟨_, rfl⟩
      have hqi : ((zs.length : Int) - 1 - k) = (q : Int) := by omega
      have hql : q < zs.length := by omega
      obtain ⟨fn, tmps, assign, body, hy, hR⟩ := hY _ ⟨k, hlt⟩ wr hJs (by rw [fin_take_length hk]; exact hlt)
      have hE : encE hi zs ⟨k, hlt⟩ = #[.int .i64 (q : Int), .agg #[.int .i64 x, .int .i64 hv]] := by
        have e0 : zs[q]? = some x := by rw [hq]; exact hx
        have e1 : q + 1 = zs.length - k := by omega
        have e2 : qOf (⟨k, hlt⟩ : Fin zs.length) = q := hq.symm
        simp only [encE, partAt, spanV, e2, e0, e1, hhv, Option.getD_some]
      rw [hE] at hy
      rw [← hq] at hcx
      rw [hqi]
      have HQ := Lib.hid hq; clear hq
      have HI := Lib.hid hqi; clear hqi
      have HX := Lib.hid hx; clear hx
      have HV := Lib.hid hhv; clear hhv
      have HE := Lib.hid hE; clear hE
      gi_wp2
      refine hR.mono ?_
      rintro e W3 (⟨rfl, hJ3, hk3⟩ | ⟨rfl, hJx3⟩)
      · have hck3 := (hk3.cell (a := ⟨Bk, 0, none⟩) hBk).trans hck'
        have hcx3 := (hk3.cell (a := ⟨b, off + q, none⟩) hb).trans hcx
        gi_wp2
        go_roundw
        case rel =>
          refine ⟨k + 1, by omega, ?_, ?_, by rw [fin_take_succ hlt]; exact hJ3, hnx.trans hk3⟩
          · exact congrArg (Value.int .i64) (by have := HI.out; omega)
          · have h1 : zs.length - (k + 1) = q := by have := HQ.out; omega
            have := HX.out
            rw [← HQ.out] at this
            rw [h1, this]; rfl
        case measure => simp [intOf]
      · gi_wp2
        refine bodyPost_ret (results_none rfl _ _ _) rfl ?_
        exact ⟨⟨_, rfl⟩, .inr ⟨_, ⟨k + 1, by omega, by rw [fin_take_succ hlt]⟩, hJx3⟩⟩
    · obtain rfl : k = zs.length := by omega
      have hneg : ((zs.length : Int) - 1 - zs.length) = -1 := by omega
      rw [hneg]
      clear hneg hhv
      rw [fin_take_all] at hJs
      have HJ := Lib.hid hJs; clear hJs
      gi_wp2
      go_end0
      exact ⟨⟨_, rfl⟩, .inl ⟨_, rfl, HJ.out⟩⟩

set_option maxRecDepth 100000 in
set_option maxHeartbeats 1000000 in
theorem each1_nil_in {α : Type} (l Bs Bk : Nat) (hi : Int) (J : List α → World → Prop) (W : World) (hc1 : W.cell? ⟨Bs, 1, none⟩ = some (.int .i64 hi)) {a0 : Option Addr} {c0 : Nat} (hck : W.cell? ⟨Bk, 0, none⟩ = some (.slice a0 0 c0)) (h0 : J [] W) :
    CallsIn Fence.wide 3 Tryz.prog 160 #[.func (.yield l) #[] #[], .pointer (some ⟨Bs, 0, none⟩), .pointer (some ⟨Bk, 0, none⟩)] W fun e W' => (∃ v, e = .returned v) ∧ J [] W' := by
  refine callsIn_of_wp Tryz.func160 rfl trivial ?_ rfl
  simp only [Tryz.ntmps160, List.size_toArray, List.length_cons, List.length_nil, Nat.reduceAdd, Nat.reduceSub, Array.replicate_succ, Array.replicate_zero, List.push_toArray, List.append_toArray, List.nil_append, List.cons_append]
  gi_wp2
  gi_loopw [4, 5] (fun _ i wr => i = .int .i64 (-1) ∧ J [] wr) (fun _ _ _ => 0)
  case atStart => exact ⟨rfl, h0⟩
  case round =>
    obtain ⟨rfl, hJs⟩ := hrel
    gi_wp2
    go_end0
    exact ⟨⟨_, rfl⟩, hJs⟩

theorem each_stops (Bs Bk : Nat) (p : Nat → Prop) (hi : Int) (v : Value) (zs : List Int) (w : World) (hp : ∀ b, p b → b < w.heap.size) (hk : p Bk) (hs : p Bs) (hlen : zs.length ≤ 9223372036854775807) (hv : Ints w v zs)
    (hvp : zs.length ≠ 0 → ∀ b off n cap, v = .slice (some ⟨b, off, none⟩) n cap → p b)
    (hc1 : w.cell? ⟨Bs, 1, none⟩ = some (.int .i64 hi)) (hck : w.cell? ⟨Bk, 0, none⟩ = some v) :
    SeqStopsK Fence.wide 3 Tryz.prog 160 #[.pointer (some ⟨Bs, 0, none⟩), .pointer (some ⟨Bk, 0, none⟩)] (encE hi zs) (Keeps p)
      (fun ys => ys = List.finRange zs.length) (fun pre => ∃ k, k ≤ zs.length ∧ pre = (List.finRange zs.length).take k) zs.length w := fun l J Jx W hW _ _ hY h0 => by
  have hc1' := getC hW hc1
  have hck' := getC hW hck
  rcases hv with ⟨a0, c0, rfl, h1, h2⟩ | ⟨b, off, cap, rfl, hcap, hmax, hcs⟩
  · obtain rfl : zs = [] := by simpa using h2
    exact (each1_nil_in l Bs Bk hi J W hc1' hck' h0).mono fun e W' ⟨he, hj⟩ => ⟨he, .inl ⟨_, rfl, hj⟩⟩
  · refine each1_in l Bs Bk p hi b off cap zs hlen ?_ hk J Jx hY W hc1' hck' (fun j x hj => getC hW (hcs j _ (by simp [hj]))) h0
    by_cases h : zs.length = 0
    · exact .inl h
    · exact .inr (hvp h _ _ _ _ rfl)

set_option maxHeartbeats 400000 in
theorem span_each (lo hi : Int) (a : Option Addr) (n c : Nat) (w : World) : Calls Tryz.prog 127 #[spanV lo hi, .slice a n c] w fun e w' =>
    e = .returned (.func (.func 160) #[] #[.pointer (some ⟨w.heap.size, 0, none⟩), .pointer (some ⟨w.heap.size + 1, 0, none⟩)]) ∧
    w' = (w.alloc (.cells #[.int .i64 lo, .int .i64 hi] 96)).alloc (.cells #[.slice a n c] 26) := by
  unfold spanV
  go_enter Tryz.func127, Tryz.ntmps127
  go_wp2
  go_ret
  exact ⟨rfl, rfl⟩
end Go.Proofs.YtinegkldgjhnpaaGreatDoor
namespace Go.Proofs.YtinegkldgjhnpaaGreatDoor
open Go.RowKit
set_option linter.unusedVariables false
attribute [local go_sem] Oper.semAt_some
def encB (l : List Int) (j : Fin l.length) : Array Value := #[.int .i64 (qOf j : Int), .int .i64 (l[qOf j]?.getD 0)]
set_option maxRecDepth 100000 in
set_option maxHeartbeats 2000000 in
theorem back1_in (l Bk : Nat) (p : Nat → Prop) (b off cap : Nat) (zs : List Int) (hlen : zs.length ≤ 9223372036854775807) (hb' : zs.length = 0 ∨ p b) (hBk : p Bk) (J Jx : List (Fin zs.length) → World → Prop)
    (hY : ∀ pre x W, J pre W → pre.length < zs.length → YieldAt Fence.wide 2 Tryz.prog l (encB zs x) W fun e W' =>
      (e = .returned (.bool true) ∧ J (pre ++ [x]) W' ∧ Keeps p W W') ∨ (e = .returned (.bool false) ∧ Jx (pre ++ [x]) W'))
    (W : World) (hck : W.cell? ⟨Bk, 0, none⟩ = some (.slice (some ⟨b, off, none⟩) zs.length cap))
    (hc : ∀ j x, zs[j]? = some x → W.cell? ⟨b, off + j, none⟩ = some (.int .i64 x)) (h0 : J [] W) :
    CallsIn Fence.wide 3 Tryz.prog 156 #[.func (.yield l) #[] #[], .pointer (some ⟨Bk, 0, none⟩)] W fun e W' => (∃ v, e = .returned v) ∧
      ((∃ ys, ys = List.finRange zs.length ∧ J ys W') ∨ (∃ pre, (∃ k, k ≤ zs.length ∧ pre = (List.finRange zs.length).take k) ∧ Jx pre W')) := by
  refine callsIn_of_wp Tryz.func156 rfl trivial ?_ rfl
  simp only [Tryz.ntmps156, List.size_toArray, List.length_cons, List.length_nil, Nat.reduceAdd, Nat.reduceSub, Array.replicate_succ, Array.replicate_zero, List.push_toArray, List.append_toArray, List.nil_append, List.cons_append]
  gi_wp2
  gi_loopw [3] (fun i wr => ∃ k : Nat, k ≤ zs.length ∧ i = .int .i64 ((zs.length : Int) - 1 - k) ∧ J ((List.finRange zs.length).take k) wr ∧ Keeps p W wr)
    (fun i _ => ((intOf i) + 1).toNat)
  case atStart => exact ⟨0, Nat.zero_le _, by simp, h0, Keeps.refl _ _⟩
  case round =>
    obtain ⟨k, hk, rfl, hJs, hnx⟩ := hrel
    by_cases hlt : k < zs.length
    · have hb : p b := hb'.resolve_left (by omega)
      obtain ⟨x, hx⟩ : ∃ x, zs[zs.length - 1 - k]? = some x := ⟨zs[zs.length - 1 - k], by simp⟩
      have hck' := (hnx.cell (a := ⟨Bk, 0, none⟩) hBk).trans hck
      have hcx := (hnx.cell (a := ⟨b, off + (zs.length - 1 - k), none⟩) hb).trans (hc _ _ hx)
      obtain ⟨q, hq⟩ : ∃ q : Nat, q = zs.length - 1 - k := ⟨_, rfl⟩
      have hqi : ((zs.length : Int) - 1 - k) = (q : Int) := by omega
      have hql : q < zs.length := by omega
      obtain ⟨fn, tmps, assign, body, hy, hR⟩ := hY _ ⟨k, hlt⟩ wr hJs (by rw [fin_take_length hk]; exact hlt)
      have hE : encB zs ⟨k, hlt⟩ = #[.int .i64 (q : Int), .int .i64 x] := by
        have e0 : zs[q]? = some x := by rw [hq]; exact hx
        have e2 : qOf (⟨k, hlt⟩ : Fin zs.length) = q := hq.symm
        simp only [encB, e2, e0, Option.getD_some]
      rw [hE] at hy
      rw [← hq] at hcx
      rw [hqi]
      have HQ := Lib.hid hq; clear hq
      have HI := Lib.hid hqi; clear hqi
      have HX := Lib.hid hx; clear hx
      have HE := Lib.hid hE; clear hE
      gi_wp2
      refine hR.mono ?_
      rintro e W3 (⟨rfl, hJ3, hk3⟩ | ⟨rfl, hJx3⟩)
      · gi_wp2
        go_roundw
        case rel =>
          refine ⟨k + 1, by omega, ?_, by rw [fin_take_succ hlt]; exact hJ3, hnx.trans hk3⟩
          exact congrArg (Value.int .i64) (by have := HI.out; omega)
        case measure => simp [intOf]
      · gi_wp2
        refine bodyPost_ret (results_none rfl _ _ _) rfl ?_
        exact ⟨⟨_, rfl⟩, .inr ⟨_, ⟨k + 1, by omega, by rw [fin_take_succ hlt]⟩, hJx3⟩⟩
    · obtain rfl : k = zs.length := by omega
      have hneg : ((zs.length : Int) - 1 - zs.length) = -1 := by omega
      rw [hneg]
      clear hneg
      rw [fin_take_all] at hJs
      have HJ := Lib.hid hJs; clear hJs
      gi_wp2
      go_end0
      exact ⟨⟨_, rfl⟩, .inl ⟨_, rfl, HJ.out⟩⟩
set_option maxRecDepth 100000 in
set_option maxHeartbeats 1000000 in
theorem back1_nil_in {α : Type} (l Bk : Nat) (J : List α → World → Prop) (W : World) {a0 : Option Addr} {c0 : Nat} (hck : W.cell? ⟨Bk, 0, none⟩ = some (.slice a0 0 c0)) (h0 : J [] W) :
    CallsIn Fence.wide 3 Tryz.prog 156 #[.func (.yield l) #[] #[], .pointer (some ⟨Bk, 0, none⟩)] W fun e W' => (∃ v, e = .returned v) ∧ J [] W' := by
  refine callsIn_of_wp Tryz.func156 rfl trivial ?_ rfl
  simp only [Tryz.ntmps156, List.size_toArray, List.length_cons, List.length_nil, Nat.reduceAdd, Nat.reduceSub, Array.replicate_succ, Array.replicate_zero, List.push_toArray, List.append_toArray, List.nil_append, List.cons_append]
  gi_wp2
  gi_loopw [3] (fun i wr => i = .int .i64 (-1) ∧ J [] wr) (fun _ _ => 0)
  case atStart => exact ⟨rfl, h0⟩
  case round =>
    obtain ⟨rfl, hJs⟩ := hrel
    gi_wp2
    go_end0
    exact ⟨⟨_, rfl⟩, hJs⟩
theorem back_stops (Bk : Nat) (p : Nat → Prop) (v : Value) (zs : List Int) (w : World) (hp : ∀ b, p b → b < w.heap.size) (hk : p Bk) (hlen : zs.length ≤ 9223372036854775807) (hv : Ints w v zs)
    (hvp : zs.length ≠ 0 → ∀ b off n cap, v = .slice (some ⟨b, off, none⟩) n cap → p b) (hck : w.cell? ⟨Bk, 0, none⟩ = some v) :
    SeqStopsK Fence.wide 3 Tryz.prog 156 #[.pointer (some ⟨Bk, 0, none⟩)] (encB zs) (Keeps p)
      (fun ys => ys = List.finRange zs.length) (fun pre => ∃ k, k ≤ zs.length ∧ pre = (List.finRange zs.length).take k) zs.length w := fun l J Jx W hW _ _ hY h0 => by
  have hck' := getC hW hck
  rcases hv with ⟨a0, c0, rfl, h1, h2⟩ | ⟨b, off, cap, rfl, hcap, hmax, hcs⟩
  · obtain rfl : zs = [] := by simpa using h2
    exact (back1_nil_in l Bk J W hck' h0).mono fun e W' ⟨he, hj⟩ => ⟨he, .inl ⟨_, rfl, hj⟩⟩
  · refine back1_in l Bk p b off cap zs hlen ?_ hk J Jx hY W hck' (fun j x hj => getC hW (hcs j _ (by simp [hj]))) h0
    by_cases h : zs.length = 0
    · exact .inl h
    · exact .inr (hvp h _ _ _ _ rfl)
end Go.Proofs.YtinegkldgjhnpaaGreatDoor
namespace Go.Proofs.YtinegkldgjhnpaaGreatDoor
open Go.RowKit Go.Extern.Stop Go.Stop Go.Extern
set_option linter.unusedVariables false
attribute [local irreducible] wpList wpAnyH Code.wp Oper.wp Go

set_option maxRecDepth 100000 in
set_option maxHeartbeats 1000000 in
theorem slices_Backward (p : Option Addr) (n c : Nat) (w : World) :
    Calls Tryz.prog 124 #[.slice p n c] w (fun e w' => ∃ b, e = .returned (.func (.func 156) #[] #[.pointer (some ⟨b, 0, none⟩)]) ∧ Below w.heap.size w w' ∧ w.heap.size ≤ b ∧ Blk w' b [.slice p n c] 26) := by
 refine zin 4 Tryz.func124 ?_
 refine xa 2 [.slice p n c] 26 fun b1 W1 n1 => ?_
 have g1 := n1.ge (Below.refl w.heap.size _)
 exact xe 10 (.func (.func 156) #[] #[.pointer (some ⟨b1, 0, none⟩)]) ⟨_, rfl, n1.below, g1, n1.blk⟩
end Go.Proofs.YtinegkldgjhnpaaGreatDoor
namespace Go.Proofs.YtinegkldgjhnpaaGreatDoor
open Go.RowKit Go.Extern.Stop Go.Stop Go.Extern
set_option linter.unusedVariables false
attribute [local irreducible] wpList wpAnyH Code.wp Oper.wp Go

attribute [local go_sem] Oper.semAt_some
theorem Upd.of_put (w : World) (D : Nat) (o : Obj) : Upd w D (w.putObj D o) := ⟨rfl, rfl, rfl, by simp [World.putObj], fun k hk => World.putObj_heap_other hk⟩
/-- a record of deferred calls at block D -/
def Dfr (D : Nat) (w : World) : Prop := w.heap[D]? = some (.deferred (some []))
theorem Dfr.below {D : Nat} {w W : World} (h : Dfr D w) (hb : Below w.heap.size w W) : Dfr D W := (hb.block D (Array.getElem?_eq_some_iff.1 h).1).trans h
theorem Dfr.ne {D b : Nat} {w : World} {cs : List Value} {t : TypeId} (h : Dfr D w) (k : Blk w b cs t) : b ≠ D := by
  rintro rfl
  have h' : w.heap[b]? = _ := h
  rw [show w.heap[b]? = _ from k] at h'
  cases h'
theorem Dfr.upd {D b : Nat} {w W : World} {cs : List Value} {t : TypeId} (h : Dfr D w) (u : Upd w b W) (k : Blk w b cs t) : Dfr D W := (u.block D fun e => h.ne k e.symm).trans h
theorem Dfr.row {D : Nat} {w : World} {base e size n : Nat} {v : Value} {xs : List Value} (h : Dfr D w) (k : w.ownsRow base e size v n xs) : ∀ g, v.ownBlock = some g → g ≠ D := by
  rintro g hg rfl
  rcases k.2 with ⟨rfl, _⟩ | ⟨g', cap, cur, rfl, _, hh, _⟩
  · cases hg
  · simp only [Value.ownBlock, Option.some.injEq] at hg
    subst hg
    rw [show w.heap[g']? = _ from h] at hh
    cases hh
theorem Dfr.grown {D : Nat} {w W : World} {base e size n : Nat} {v : Value} {xs : List Value} (h : Dfr D w) (hg : w.grownBy W v.ownBlock) (k : w.ownsRow base e size v n xs) : Dfr D W :=
  (hg.block D (Array.getElem?_eq_some_iff.1 h).1 fun q => h.row k D q.symm rfl).trans h
theorem g_endM {P : Program} {fn : Func} {R : Ending → World → Prop} {a : Act} {w : World} {D : Nat} (hK : Dfr D w) (v : Value) (hd : a.defers = [{ target := .collected D, args := #[] }]) (hr : (results fn a.tmps).run P (w.putObj D (.deferred none)) = .ok v (w.putObj D (.deferred none))) (h : R (.returned v) (w.putObj D (.deferred none))) : bodyPostM Fence.wide 4 P fn R .normal a w :=
  by
  show LeavesInM _ _ _ _ a.tmps R a.defers .returning w
  rw [hd]
  exact ⟨by simp, .inl ⟨_, _, rfl, run_takeDeferred hK, _, hr, h⟩⟩
def noPan (Q : Exit → Act → World → Prop) : Exit → Act → World → Prop
  | .normal, a, w => Q .normal a w
  | .ret, a, w => Q .ret a w
  | _, _, _ => False
theorem g_nopan {P : Program} {c : Code} {Q : Exit → Act → World → Prop} {a : Act} {w : World} (h : c.wp P (noPan Q) a w) : c.wp P Q a w := wp_mono h fun e a w q => by cases e <;> first | exact q | exact q.elim
theorem own_ty_ne {w : World} {base size n b : Nat} {e t : TypeId} {v : Value} {xs cs : List Value} (k : w.ownsRow base e size v n xs) (q : Blk w b cs t) (hne : e ≠ t) : ∀ g, v.ownBlock = some g → g ≠ b := by
  rintro g hg rfl
  rcases k.2 with ⟨rfl, _⟩ | ⟨g', cap, cur, rfl, _, hh, _⟩
  · cases hg
  · simp only [Value.ownBlock, Option.some.injEq] at hg
    subst hg
    rw [show w.heap[g']? = _ from q] at hh
    simp only [Option.some.injEq, Obj.cells.injEq] at hh
    exact hne hh.2.1.symm
theorem keepsO_below {w W : World} (h : Below w.heap.size w W) : KeepsOthers w W := ⟨h.size, fun b o hb _ => (h.block b (Array.getElem?_eq_some_iff.1 hb).1).trans hb⟩
theorem keepsO_upd {w W : World} {b : Nat} {cs : List Value} {t : TypeId} (u : Upd w b W) (k : Blk w b cs t) : KeepsOthers w W := ⟨Nat.le_of_eq u.size.symm, fun d o hd ho => (u.block d (by rintro rfl; rw [show w.heap[d]? = _ from k] at hd; cases hd; cases ho)).trans hd⟩
theorem Dfr.only_new {T : List TypeId} {a w W : World} {b : Nat} (h : Only T a w) (hbb : BelowBut w b W) (hb : a.heap.size ≤ b) : Only T a W := fun k cs t fr hk ht => by
  have h0 := (Array.getElem?_eq_some_iff.1 hk).1
  have h1 := h k cs t fr hk ht
  rw [hbb.block k (Array.getElem?_eq_some_iff.1 h1).1 (by omega)]; exact h1
theorem BelowBut.own3 {w W : World} {b base size n : Nat} {e : TypeId} {v : Value} {xs : List Value} (h : BelowBut w b W) (k : w.ownsRow base e size v n xs) (hs : ∀ j, v.ownBlock = some j → j ≠ b) : W.ownsRow base e size v n xs := by
  obtain ⟨h1, h2⟩ := k
  refine ⟨h1, ?_⟩
  rcases h2 with h2 | ⟨g, cap, cur, rfl, hg, hh, r⟩
  · exact Or.inl h2
  · exact Or.inr ⟨g, cap, cur, rfl, hg, by rw [h.block g (Array.getElem?_eq_some_iff.1 hh).1 (hs g rfl)]; exact hh, r⟩
theorem ownFrom_but {β : Type} {w : World} {b B : Nat} (hB : w.heap.size ≤ B) : OwnFrom B (fun (_ : β) W => BelowBut w b W) := fun _ W W' row hs hg hr =>
  ⟨hg.os.trans hs.os, hg.tape.trans hs.tape, hg.output.trans hs.output, Nat.le_trans hs.size hg.size, fun k hk hne => (hg.block k (Nat.lt_of_lt_of_le hk hs.size) (fun e => by have := (hr k e.symm).1; omega)).trans (hs.block k hk hne)⟩
theorem ErrV.turn {A B : World} {row : Option Nat} {l : List (Option Int)} {c : Option Int} {v : Value} (h : ErrV A l c v) (hg : A.grownBy B row) (hr : ∀ r, row = some r → ∃ o : Obj, A.heap[r]? = some o ∧ o.isCells = false) : ErrV B l c v := h.kept fun _ _ k => k.turn hg hr
/-- the blocks of the way, seen from below -/
def atW (way : List Int) (pre : List (Fin way.length)) (bs : List Int) : List Int := (pre.map fun j => way[qOf j]?.getD 0).reverse ++ bs
theorem atW_snoc (way : List Int) (pre : List (Fin way.length)) (x : Fin way.length) (bs : List Int) : atW way (pre ++ [x]) bs = (way[qOf x]?.getD 0) :: atW way pre bs := by simp [atW]
theorem atW_all (way bs : List Int) : atW way (List.finRange way.length) bs = way ++ bs := by
  unfold atW
  congr 1
  apply List.ext_getElem
  · simp
  · intro i h1 h2
    simp only [List.length_reverse, List.length_map, List.length_finRange] at h1
    rw [List.getElem_reverse, List.getElem_map]
    simp only [List.length_map, List.length_finRange, List.getElem_finRange, qOf]
    have e : way.length - 1 - (way.length - 1 - i) = i := by omega
    simp [e, h2]
theorem ErrV.one {w : World} {l : List (Option Int)} {c : Option Int} {v : Value} (h : ErrV w l c v) : v.oneCell' = true := by
  rcases h.nil_or with ⟨_, rfl⟩ | ⟨_, t, x, rfl⟩ <;> rfl
theorem ErrV.iface {w : World} {l : List (Option Int)} {c : Int} {v : Value} (h : ErrV w l (some c) v) : ∃ t x, v = .iface t x := by
  rcases h.nil_or with ⟨q, _⟩ | ⟨_, q⟩
  · simp [noErr] at q
  · exact q
theorem atL_some {b c : Int} {l : List (Option Int)} : atL b l (some c) = some b :: l := by simp [atL, noErr]
theorem one_one {v : Value} (h : v.oneCell' = true) : ∀ u ∈ [v], u.oneCell' = true := by simpa using h
def NoteP (B bw : Nat) (c0 c1 c2 c3 c5 c6 c7 c8 c9 : Value) (nf : Nat) (fs : List Value) (l : List Int) (ec : Int) (w : World) (e : Ending) (w' : World) : Prop :=
  ∃ u p c ty x, e = .returned u ∧ Below B w w' ∧ Only [93, 41] w w' ∧ Blk w' bw [c0, c1, c2, c3, .slice p (nf + 1) c, c5, c6, c7, c8, c9] 93 ∧ w'.ownsRow B 41 1 (.slice p (nf + 1) c) (nf + 1) (fs ++ [.iface ty x]) ∧ ErrV w' (l.map some) (some ec) (.iface ty x)
set_option maxRecDepth 100000 in
set_option maxHeartbeats 4000000 in
theorem walker_note (B bw : Nat) (c0 c1 c2 c3 c5 c6 c7 c9 : Value) (pf : Option Addr) (nf cf : Nat) (fs : List Value) (pw : Option Addr) (cw : Nat) (way bs : List Int) (ec : Int) (ty : TypeId) (ev : Value) (w : World) (hBb : B ≤ bw) (hBw : B ≤ w.heap.size) (kW : Blk w bw [c0, c1, c2, c3, .slice pf nf cf, c5, c6, c7, .slice pw way.length cw, c9] 93) (hF : w.ownsRow B 41 1 (.slice pf nf cf) nf fs) (hway : w.ownsRow B 3 1 (.slice pw way.length cw) way.length (way.map (Value.int .i64))) (hE : ErrV w (bs.map some) (some ec) (.iface ty ev)) (hwl : way.length ≤ 1000000) (hnf : nf ≤ 1000000) :
    Calls Tryz.prog 78 #[.pointer (some ⟨bw, 0, none⟩), .iface ty ev] w (NoteP B bw c0 c1 c2 c3 c5 c6 c7 (.slice pw way.length cw) c9 nf fs (way ++ bs) ec w) := by
  refine calls_of_marks Tryz.func78 rfl ?_
  refine g_fr ⟨#[.pointer (some ⟨bw, 0, none⟩), .iface ty ev, undef, undef, undef, undef, undef, undef, undef, undef, undef, undef, undef, undef, undef, undef, undef, undef, undef, undef, undef, undef, undef, undef, undef, undef, undef, undef], []⟩ (by kernel_rfl) ?_
  refine wp_seq ?_
  refine wp_region_lit ?_
  refine g_op (by kernel_rfl) (op_box [.iface ty ev] rfl (by kernel_rfl) ?_)
  intro b1 W1 n1
  have d1_bw := n1.ne kW
  have g1 := n1.ge0 (Below.refl B _)
  have r1_hF := own_ne hF n1
  have hO : Only [93, 41] w _ := (Only.of_below n1.below)
  have hB := Bl.nextB (Below.refl B w) hBw n1.below
  replace kW := kW.below n1.below
  replace hF := own_below hF n1.below
  replace hway := own_below hway n1.below
  replace hE := hE.below n1.below
  have k1 := n1.blk
  refine wpList_nil ?_
  refine wp_seq ?_
  refine wp_seq ?_
  refine wp_region_lit ?_
  refine g_pv 3 [(6, .pointer (some ⟨bw, 0, none⟩)), (7, .pointer (some ⟨bw, 0, none⟩)), (8, .pointer (some ⟨bw, 8, none⟩))] (by kernel_rfl) ?_
  refine g_op (by kernel_rfl) (op_load ⟨bw, 8, none⟩ (.slice pw way.length cw) rfl (by kernel_rfl) (by kernel_rfl) (kW.cell (i := 8) rfl) ?_)
  have lt2_bw := kW.lt
  have lt2_b1 := k1.lt
  have hs2 : w.heap.size ≤ (W1).heap.size := hB.size
  refine g_op (by kernel_rfl) (op_call (lb := #[]) 124 #[.slice pw way.length cw] rfl (by kernel_rfl) (fun _ _ => by kernel_rfl) (by kernel_rfl) ((slices_Backward pw way.length cw _).mono ?_))
  rintro e W2 ⟨bk2, rfl, hb2, hg2, kk2⟩
  refine ⟨_, rfl, ?_⟩
  replace hO := hO.trans (Only.of_below hb2)
  replace hB := Bl.nextB hB hBw hb2
  replace kW := kW.below hb2
  replace k1 := k1.below hb2
  replace hF := own_below hF hb2
  replace hway := own_below hway hb2
  replace hE := hE.below hb2
  have gb2 : w.heap.size ≤ bk2 := Nat.le_trans hs2 hg2
  have nb2_bw : bk2 ≠ bw := by omega
  have nb2_b1 : bk2 ≠ b1 := by omega
  refine wpList_nil ?_
  refine wp_block ?_
  have hzk := kk2.lt
  have hz3 := k1.lt
  have hst := back_stops bk2 (fun b => b < W2.heap.size ∧ b ≠ b1) (.slice pw way.length cw) way W2 (fun b h => h.1) ⟨hzk, nb2_b1⟩ (by omega) (own_sl hway) (fun _ b off n cap q => by cases q; exact ⟨(hway.lt b rfl).2, own_ty_ne hway k1 (by decide) b rfl⟩) (kk2.cell (i := 0) rfl)
  refine g_fr ⟨#[.pointer (some ⟨bw, 0, none⟩), .iface ty ev, undef, .pointer (some ⟨b1, 0, none⟩), undef, undef, .pointer (some ⟨bw, 0, none⟩), .pointer (some ⟨bw, 0, none⟩), .pointer (some ⟨bw, 8, none⟩), .slice pw way.length cw, .func (.func 156) #[] #[.pointer (some ⟨bk2, 0, none⟩)], undef, undef, undef, undef, undef, undef, undef, undef, undef, undef, undef, undef, undef, undef, undef, undef, undef], []⟩ (by kernel_rfl) ?_
  refine wp_range (g := .tmp 10) (gf := 156) (lb := #[.pointer (some ⟨bk2, 0, none⟩)]) rfl (enters_of Tryz.func156 (by kernel_rfl) rfl) _ (fun b h => h.1) hst (fun _ => rfl)
    (fun pre W => (∃ v', Blk W b1 [v'] 41 ∧ ErrV W ((atW way pre bs).map some) (some ec) v') ∧ BelowBut W2 b1 W)
    (fun _ _ _ => False) ?own (fun _ _ _ _ _ h _ _ => h) ⟨⟨_, k1, hE⟩, (Below.refl _ _).but _⟩
    (fun x a' _ => a' = { tmps := #[.pointer (some ⟨bw, 0, none⟩), .iface ty ev, undef, .pointer (some ⟨b1, 0, none⟩), undef, .int .i64 (way[qOf x]?.getD 0), .pointer (some ⟨bw, 0, none⟩), .pointer (some ⟨bw, 0, none⟩), .pointer (some ⟨bw, 8, none⟩), .slice pw way.length cw, .func (.func 156) #[] #[.pointer (some ⟨bk2, 0, none⟩)], .int .i64 (qOf x : Int), .int .i64 (way[qOf x]?.getD 0), undef, undef, undef, undef, undef, undef, undef, undef, undef, undef, undef, undef, undef, undef, undef], defers := [] }) (fun _ _ _ _ _ _ h _ _ => h) ?assign ?body ?done (fun _ _ _ _ _ _ h _ => h.elim)
  case own => exact OwnFrom.and (Own.from (fun s A B row hs hg hr => by obtain ⟨v', h1, h2⟩ := hs; exact ⟨v', h1.turn hg hr, h2.turn hg hr⟩) _) (ownFrom_but (Nat.le_refl _))
  case assign =>
    rintro lr pre x W K hI hK
    unfold encB
    gi_wp2
    exact hK _ _ (KeepsFrom.refl _ _) (Keeps.refl _ _) hI rfl
  case body =>
    rintro lr pre x a' W hlr ⟨⟨v', m3, hv'⟩, hbb⟩ rfl hlt
    have mc := m3.cell (i := 0) rfl
    gi_wp2_with (refine ⟨trivial, ?_⟩; gi_at_call 79; refine (CallsIn.inRound lr (callsIn_wide.2 (fault_At _ _ _ _ _ hv'))).mono ?_; rintro e w2 ⟨r2, rfl, hb2, hE2⟩; obtain ⟨t2, x2, rfl⟩ := hE2.iface; have m4 := m3.below hb2; have mg := m4.frozen 0; have md := m4.cell (i := 0) rfl)
    have hb2s := hb2.size
    have u2 := Upd.setCell w2 b1 0 (.iface t2 x2)
    exact ⟨((keepsO_below hb2).trans (KeepsOthers.setCell _ _ _)).from _, Keeps.setCell (Keeps.of_below hb2 (fun b hb => by have := hbb.size; have := hb.1; omega)) (fun hb => hb.2 rfl) _, ⟨_, m4.set 0 _, by rw [atW_snoc, List.map_cons, ← atL_some (c := ec)]; exact (hE2.upd u2 m4 (by decide))⟩, (hbb.next hb2).upd u2⟩
  case done =>
  rintro D xs W hD rfl ⟨⟨v', m3, hv'⟩, hbb⟩ hK0
  rw [atW_all] at hv'
  have hK : Dfr D W := hK0; clear hK0
  refine g_nopan ?_
  refine g_fr ⟨#[.pointer (some ⟨bw, 0, none⟩), .iface ty ev, undef, .pointer (some ⟨b1, 0, none⟩), undef, undef, .pointer (some ⟨bw, 0, none⟩), .pointer (some ⟨bw, 0, none⟩), .pointer (some ⟨bw, 8, none⟩), .slice pw way.length cw, .func (.func 156) #[] #[.pointer (some ⟨bk2, 0, none⟩)], undef, undef, undef, undef, undef, undef, undef, undef, undef, undef, undef, undef, undef, undef, undef, undef, undef], [{ target := .collected D, args := #[] }]⟩ (by kernel_rfl) ?_
  have hv1 := hv'.one
  obtain ⟨ty', x', rfl⟩ := hv'.iface
  have hDB : w.heap.size ≤ D := Nat.le_trans (Nat.le_trans (by have := hz3; have := g1; omega) (Nat.le_refl _)) hD
  replace kW := hbb.blk kW (Ne.symm (Ne.symm d1_bw))
  replace kk2 := hbb.blk kk2 nb2_b1
  replace hF := hbb.own3 hF r1_hF
  replace hway := hbb.own2 hway k1 (by decide)
  have hB0 := hB
  replace hB := hbb.below hB (Nat.le_trans hBw g1) (Nat.le_trans hBw hB0.size)
  replace hO := Dfr.only_new hO hbb g1
  replace k1 := m3
  replace hO := hO.trans (Only.of_below (below_drew W))
  replace hB := Bl.nextB hB hBw (below_drew W)
  replace kW := kW.below (below_drew W)
  replace k1 := k1.below (below_drew W)
  replace kk2 := kk2.below (below_drew W)
  replace hF := own_below hF (below_drew W)
  replace hway := own_below hway (below_drew W)
  replace hv' := hv'.below (below_drew W)
  replace hK := hK.below (below_drew W)
  refine h_reg (Below B (W.drew)) 13 rfl #[false, false, false, false, false, false, false, false, false, false, false, false, false] rfl (by kernel_rfl) (Below.refl _ _) ?_
  intro hS3
  have hBd5 := hB
  have kd5_bw := kW
  have kd5_b1 := k1
  have kd5_bk2 := kk2
  have hOd5 := hO
  refine h_pv [0, 1, 2, 3, 4] 8 rfl #[true, true, true, true, true, false, false, false, false, false, false, false, false] [(16, .pointer (some ⟨bw, 0, none⟩)), (17, .pointer (some ⟨bw, 0, none⟩)), (18, .pointer (some ⟨bw, 0, none⟩)), (19, .pointer (some ⟨bw, 0, none⟩)), (20, .pointer (some ⟨bw, 4, none⟩))] (by kernel_rfl) (fun _ _ _ _ _ h => h) (by kernel_rfl) hS3 ?_
  refine h_two 5 6 7 rfl (by kernel_rfl) rfl rfl (by kernel_rfl) (by kernel_rfl) ?_ ?_
  · refine op_load ⟨bw, 4, none⟩ (.slice pf nf cf) rfl (by kernel_rfl) (by kernel_rfl) (kW.cell (i := 4) rfl) ?_
    have hS6 : Below B (W.drew) (W.drew) := hS3
    refine ⟨hS6, ?_⟩
    refine h_one 6 6 rfl (by kernel_rfl) rfl (by kernel_rfl) (op_load ⟨b1, 0, none⟩ (.iface ty' x') rfl (by kernel_rfl) (by kernel_rfl) (k1.cell (i := 0) rfl) ?_)
    have hS7 : Below B (W.drew) (W.drew) := hS6
    refine ⟨hS7, ?_⟩
    refine h_one 7 5 rfl (by kernel_rfl) rfl (by kernel_rfl) (op_buildSlice 41 [.iface ty' x'] rfl (by kernel_rfl) ?_)
    intro b8 W8 n8
    have d8_bw := n8.ne kW
    have d8_b1 := n8.ne k1
    have d8_bk2 := n8.ne kk2
    have g8 := n8.ge0 hB
    have r8_hF := own_ne hF n8
    replace hO := hO.trans (Only.of_below n8.below)
    replace hB := Bl.nextB hB hBw n8.below
    replace kW := kW.below n8.below
    replace k1 := k1.below n8.below
    replace kk2 := kk2.below n8.below
    replace hF := own_below hF n8.below
    replace hway := own_below hway n8.below
    replace hv' := hv'.below n8.below
    replace hK := hK.below n8.below
    have k8 := n8.blk
    have hS9 : Below B (W.drew) (W8) := Bl.nextB hS7 (Nat.le_trans hBw hBd5.size) n8.below
    refine ⟨hS9, ?_⟩
    refine h_one 8 4 rfl (by kernel_rfl) rfl (by kernel_rfl) (op_app (e := 41) (n := nf) (xs := fs) (m := 1) (news := [.iface ty' x']) (.nilIface) 1 16 (nf + 1) (fs ++ [.iface ty' x']) rfl Tryz.underlying27 (by kernel_rfl) rfl (by decide) (by kernel_rfl) hF (by kernel_rfl) (k8.sl 1 1 (by decide) (by decide)) rfl (one_one hv1) (by unfold maxLen; omega) (by omega) (Nat.le_trans hBw hB.size) (by simp) (by simp) ?_)
    intro p10 c10 W10 o10 hg10 hb10
    replace hO := hO.trans (Only.of_grown hg10 hF (by decide))
    replace kW := kW.grown hg10 hF (by decide)
    replace k1 := k1.grown3 hg10 r1_hF
    replace kk2 := kk2.grown hg10 hF (by decide)
    replace hway := own_grown hway hg10 hF (by decide)
    replace hv' := hv'.grown hg10 hF (by decide)
    replace hK := hK.grown hg10 hF
    replace hB := hB.trans hb10
    have hS11 : Below B (W.drew) (W10) := hS9.trans hb10
    refine ⟨hS11, ?_⟩
    refine h_pv [9, 10, 11] 1 rfl #[true, true, true, true, true, true, true, true, true, true, true, true, false] [(25, .pointer (some ⟨bw, 0, none⟩)), (26, .pointer (some ⟨bw, 0, none⟩)), (27, .pointer (some ⟨bw, 4, none⟩))] (by kernel_rfl) (fun _ _ _ _ _ h => h) (by kernel_rfl) hS11 ?_
    refine h_one 12 0 rfl (by kernel_rfl) rfl (by kernel_rfl) (op_store (v := .slice p10 (nf + 1) c10) (b := bw) (off := 4) rfl (by kernel_rfl) (by kernel_rfl) (by kernel_rfl) rfl kW (by first | decide | simp) ?_)
    intro W12 u12 k12
    change Blk _ _ [c0, c1, c2, c3, .slice p10 (nf + 1) c10, c5, c6, c7, .slice pw way.length cw, c9] _ at k12
    replace hO := hO.trans (Only.of_upd u12 kW (by decide))
    replace hB := u12.below hB hBb
    replace k1 := u12.blk k1 (Ne.symm d1_bw)
    replace kk2 := u12.blk kk2 nb2_bw
    replace hway := u12.own2 hway kW (by decide)
    replace hv' := hv'.upd u12 kW (by decide)
    replace hK := hK.upd u12 kW
    replace o10 := u12.own2 o10 kW (by decide)
    have hS13 : Below B (W.drew) (W12) := u12.below hS11 hBb
    refine ⟨hS13, ?_⟩
    refine h_done _ (by kernel_rfl) ?_
    exact g_endM hK (.tuple #[]) (by kernel_rfl) (by kernel_rfl) ⟨_, _, _, _, _, rfl, (Upd.of_put _ _ _).below hB (Nat.le_trans hBw hDB), Only.upd_new hO (Upd.of_put _ _ _) hDB, (Upd.of_put _ _ _).blk k12 (hK.ne k12), (Upd.of_put _ _ _).own3 o10 (hK.row o10), hv'.kept fun _ _ q => (Upd.of_put _ _ _).blk q (hK.ne q)⟩
  · refine op_load ⟨b1, 0, none⟩ (.iface ty' x') rfl (by kernel_rfl) (by kernel_rfl) (k1.cell (i := 0) rfl) ?_
    have hS14 : Below B (W.drew) (W.drew) := hS3
    refine ⟨hS14, ?_⟩
    refine h_two 5 7 6 rfl (by kernel_rfl) rfl rfl (by kernel_rfl) (by kernel_rfl) ?_ ?_
    · refine op_load ⟨bw, 4, none⟩ (.slice pf nf cf) rfl (by kernel_rfl) (by kernel_rfl) (kW.cell (i := 4) rfl) ?_
      have hS15 : Below B (W.drew) (W.drew) := hS14
      refine ⟨hS15, ?_⟩
      refine h_one 7 5 rfl (by kernel_rfl) rfl (by kernel_rfl) (op_buildSlice 41 [.iface ty' x'] rfl (by kernel_rfl) ?_)
      intro b16 W16 n16
      have d16_bw := n16.ne kW
      have d16_b1 := n16.ne k1
      have d16_bk2 := n16.ne kk2
      have g16 := n16.ge0 hB
      have r16_hF := own_ne hF n16
      replace hO := hO.trans (Only.of_below n16.below)
      replace hB := Bl.nextB hB hBw n16.below
      replace kW := kW.below n16.below
      replace k1 := k1.below n16.below
      replace kk2 := kk2.below n16.below
      replace hF := own_below hF n16.below
      replace hway := own_below hway n16.below
      replace hv' := hv'.below n16.below
      replace hK := hK.below n16.below
      have k16 := n16.blk
      have hS17 : Below B (W.drew) (W16) := Bl.nextB hS15 (Nat.le_trans hBw hBd5.size) n16.below
      refine ⟨hS17, ?_⟩
      refine h_one 8 4 rfl (by kernel_rfl) rfl (by kernel_rfl) (op_app (e := 41) (n := nf) (xs := fs) (m := 1) (news := [.iface ty' x']) (.nilIface) 1 16 (nf + 1) (fs ++ [.iface ty' x']) rfl Tryz.underlying27 (by kernel_rfl) rfl (by decide) (by kernel_rfl) hF (by kernel_rfl) (k16.sl 1 1 (by decide) (by decide)) rfl (one_one hv1) (by unfold maxLen; omega) (by omega) (Nat.le_trans hBw hB.size) (by simp) (by simp) ?_)
      intro p18 c18 W18 o18 hg18 hb18
      replace hO := hO.trans (Only.of_grown hg18 hF (by decide))
      replace kW := kW.grown hg18 hF (by decide)
      replace k1 := k1.grown3 hg18 r1_hF
      replace kk2 := kk2.grown hg18 hF (by decide)
      replace hway := own_grown hway hg18 hF (by decide)
      replace hv' := hv'.grown hg18 hF (by decide)
      replace hK := hK.grown hg18 hF
      replace hB := hB.trans hb18
      have hS19 : Below B (W.drew) (W18) := hS17.trans hb18
      refine ⟨hS19, ?_⟩
      refine h_pv [9, 10, 11] 1 rfl #[true, true, true, true, true, true, true, true, true, true, true, true, false] [(25, .pointer (some ⟨bw, 0, none⟩)), (26, .pointer (some ⟨bw, 0, none⟩)), (27, .pointer (some ⟨bw, 4, none⟩))] (by kernel_rfl) (fun _ _ _ _ _ h => h) (by kernel_rfl) hS19 ?_
      refine h_one 12 0 rfl (by kernel_rfl) rfl (by kernel_rfl) (op_store (v := .slice p18 (nf + 1) c18) (b := bw) (off := 4) rfl (by kernel_rfl) (by kernel_rfl) (by kernel_rfl) rfl kW (by first | decide | simp) ?_)
      intro W20 u20 k20
      change Blk _ _ [c0, c1, c2, c3, .slice p18 (nf + 1) c18, c5, c6, c7, .slice pw way.length cw, c9] _ at k20
      replace hO := hO.trans (Only.of_upd u20 kW (by decide))
      replace hB := u20.below hB hBb
      replace k1 := u20.blk k1 (Ne.symm d1_bw)
      replace kk2 := u20.blk kk2 nb2_bw
      replace hway := u20.own2 hway kW (by decide)
      replace hv' := hv'.upd u20 kW (by decide)
      replace hK := hK.upd u20 kW
      replace o18 := u20.own2 o18 kW (by decide)
      have hS21 : Below B (W.drew) (W20) := u20.below hS19 hBb
      refine ⟨hS21, ?_⟩
      refine h_done _ (by kernel_rfl) ?_
      exact g_endM hK (.tuple #[]) (by kernel_rfl) (by kernel_rfl) ⟨_, _, _, _, _, rfl, (Upd.of_put _ _ _).below hB (Nat.le_trans hBw hDB), Only.upd_new hO (Upd.of_put _ _ _) hDB, (Upd.of_put _ _ _).blk k20 (hK.ne k20), (Upd.of_put _ _ _).own3 o18 (hK.row o18), hv'.kept fun _ _ q => (Upd.of_put _ _ _).blk q (hK.ne q)⟩
    · refine op_buildSlice 41 [.iface ty' x'] rfl (by kernel_rfl) ?_
      intro b22 W22 n22
      have d22_bw := n22.ne kW
      have d22_b1 := n22.ne k1
      have d22_bk2 := n22.ne kk2
      have g22 := n22.ge0 hB
      have r22_hF := own_ne hF n22
      replace hO := hO.trans (Only.of_below n22.below)
      replace hB := Bl.nextB hB hBw n22.below
      replace kW := kW.below n22.below
      replace k1 := k1.below n22.below
      replace kk2 := kk2.below n22.below
      replace hF := own_below hF n22.below
      replace hway := own_below hway n22.below
      replace hv' := hv'.below n22.below
      replace hK := hK.below n22.below
      have k22 := n22.blk
      have hS23 : Below B (W.drew) (W22) := Bl.nextB hS14 (Nat.le_trans hBw hBd5.size) n22.below
      refine ⟨hS23, ?_⟩
      refine h_one 5 5 rfl (by kernel_rfl) rfl (by kernel_rfl) (op_load ⟨bw, 4, none⟩ (.slice pf nf cf) rfl (by kernel_rfl) (by kernel_rfl) (kW.cell (i := 4) rfl) ?_)
      have hS24 : Below B (W.drew) (W22) := hS23
      refine ⟨hS24, ?_⟩
      refine h_one 8 4 rfl (by kernel_rfl) rfl (by kernel_rfl) (op_app (e := 41) (n := nf) (xs := fs) (m := 1) (news := [.iface ty' x']) (.nilIface) 1 16 (nf + 1) (fs ++ [.iface ty' x']) rfl Tryz.underlying27 (by kernel_rfl) rfl (by decide) (by kernel_rfl) hF (by kernel_rfl) (k22.sl 1 1 (by decide) (by decide)) rfl (one_one hv1) (by unfold maxLen; omega) (by omega) (Nat.le_trans hBw hB.size) (by simp) (by simp) ?_)
      intro p25 c25 W25 o25 hg25 hb25
      replace hO := hO.trans (Only.of_grown hg25 hF (by decide))
      replace kW := kW.grown hg25 hF (by decide)
      replace k1 := k1.grown3 hg25 r1_hF
      replace kk2 := kk2.grown hg25 hF (by decide)
      replace hway := own_grown hway hg25 hF (by decide)
      replace hv' := hv'.grown hg25 hF (by decide)
      replace hK := hK.grown hg25 hF
      replace hB := hB.trans hb25
      have hS26 : Below B (W.drew) (W25) := hS24.trans hb25
      refine ⟨hS26, ?_⟩
      refine h_pv [9, 10, 11] 1 rfl #[true, true, true, true, true, true, true, true, true, true, true, true, false] [(25, .pointer (some ⟨bw, 0, none⟩)), (26, .pointer (some ⟨bw, 0, none⟩)), (27, .pointer (some ⟨bw, 4, none⟩))] (by kernel_rfl) (fun _ _ _ _ _ h => h) (by kernel_rfl) hS26 ?_
      refine h_one 12 0 rfl (by kernel_rfl) rfl (by kernel_rfl) (op_store (v := .slice p25 (nf + 1) c25) (b := bw) (off := 4) rfl (by kernel_rfl) (by kernel_rfl) (by kernel_rfl) rfl kW (by first | decide | simp) ?_)
      intro W27 u27 k27
      change Blk _ _ [c0, c1, c2, c3, .slice p25 (nf + 1) c25, c5, c6, c7, .slice pw way.length cw, c9] _ at k27
      replace hO := hO.trans (Only.of_upd u27 kW (by decide))
      replace hB := u27.below hB hBb
      replace k1 := u27.blk k1 (Ne.symm d1_bw)
      replace kk2 := u27.blk kk2 nb2_bw
      replace hway := u27.own2 hway kW (by decide)
      replace hv' := hv'.upd u27 kW (by decide)
      replace hK := hK.upd u27 kW
      replace o25 := u27.own2 o25 kW (by decide)
      have hS28 : Below B (W.drew) (W27) := u27.below hS26 hBb
      refine ⟨hS28, ?_⟩
      refine h_done _ (by kernel_rfl) ?_
      exact g_endM hK (.tuple #[]) (by kernel_rfl) (by kernel_rfl) ⟨_, _, _, _, _, rfl, (Upd.of_put _ _ _).below hB (Nat.le_trans hBw hDB), Only.upd_new hO (Upd.of_put _ _ _) hDB, (Upd.of_put _ _ _).blk k27 (hK.ne k27), (Upd.of_put _ _ _).own3 o25 (hK.row o25), hv'.kept fun _ _ q => (Upd.of_put _ _ _).blk q (hK.ne q)⟩
end Go.Proofs.YtinegkldgjhnpaaGreatDoor
namespace Go.Proofs.YtinegkldgjhnpaaGreatDoor
open Go.RowKit Go.Extern.Stop Go.Stop Go.Extern
set_option linter.unusedVariables false
attribute [local irreducible] wpList wpAnyH Code.wp Oper.wp Go

/-- whether x is in l -/
def hasI (l : List Int) (x : Int) : Bool := l.any fun y => decide (x = y)
theorem hasI_true {l : List Int} {x : Int} {i : Nat} (hi : i < l.length) (h : x = l.getD i 0) : hasI l x = true := by
  unfold hasI
  rw [List.any_eq_true]
  exact ⟨l[i], List.getElem_mem _, by rw [decide_eq_true_iff, h]; simp [hi]⟩
theorem hasI_false {l : List Int} {x : Int} (h : ∀ j, j < l.length → x ≠ l.getD j 0) : hasI l x = false := by
  unfold hasI
  rw [List.any_eq_false]
  intro y hy
  obtain ⟨j, hj, rfl⟩ := List.getElem_of_mem hy
  have := h j hj
  simpa [hj] using this
set_option maxRecDepth 100000 in
set_option maxHeartbeats 1000000 in
theorem indexI (a : Option Addr) (c : Nat) (l : List Int) (x : Int) (w : World) (h : Ints w (.slice a l.length c) l) (hln : l.length ≤ 1000000) :
    Calls Tryz.prog 157 #[.slice a l.length c, .int .i64 x] w (fun e w' => (hasI l x = false ∧ e = .returned (.int .i64 (-1)) ∧ Below w.heap.size w w') ∨ (hasI l x = true ∧ ∃ i : Nat, e = .returned (.int .i64 (i : Int)) ∧ Below w.heap.size w w')) := by
 refine zin 19 Tryz.func157 ?_
 have hB := Below.refl w.heap.size w
 refine zl 14 19 (fun zm zkv V => ∃ (i : Nat), zkv = [(0, .slice a l.length c), (1, .int .i64 x), (7, .int .i64 (↑l.length : Int)), (8, .int .i64 (↑i : Int))] ∧ zm = l.length - ((↑i : Int)).toNat ∧ Below w.heap.size w V ∧ i ≤ l.length ∧ (∀ j, j < i → x ≠ l.getD j 0)) ⟨0, rfl, rfl, hB, Nat.zero_le _, ?_⟩ ?_
 · exact fun j hj => absurd hj (by omega)
 rintro _ _ W1 ⟨i, rfl, rfl, hB_1, hi, hz⟩ J1 hJ1 r1
 refine xid 6 ((↑i : Int) < (↑l.length : Int)) (fun hc2 => ?_) (fun hc2 => ?_)
 · refine xx 15 _ l.length i 1 (Ints.elem h (k := i) (by omega)).1 ?_
   refine xl 0 ((Ints.elem (h.below hB_1) (k := i) (by omega)).2) ?_
   refine xie 3 x (l.getD i 0) (fun hc3 => ?_) (fun hc3 => ?_)
   · exact xe 12 (.int .i64 (↑i : Int)) (.inr ⟨hasI_true (i := i) (by omega) (by omega), _, rfl, hB_1⟩)
   refine xwm 4 ((↑i : Int) + 1) (↑(i + 1) : Int) ?_
   exact ze 2 (hJ1 _ _ _ ⟨i + 1, rfl, rfl, hB_1, by omega, fun j hj => (Nat.lt_or_ge j i).elim (hz j) (fun q => by obtain rfl : j = i := (by omega); omega)⟩ (by omega))
 exact xe 11 (.int .i64 (-1)) (.inl ⟨hasI_false (fun j hj => hz j (by omega)), rfl, hB_1⟩)
set_option maxRecDepth 100000 in
set_option maxHeartbeats 1000000 in
theorem containsI (a : Option Addr) (c : Nat) (l : List Int) (x : Int) (w : World) (h : Ints w (.slice a l.length c) l) (hln : l.length ≤ 1000000) :
    Calls Tryz.prog 125 #[.slice a l.length c, .int .i64 x] w (Ret (.bool (hasI l x)) w) := by
 refine zin 9 Tryz.func125 ?_
 refine xc 9 (args := #[.slice a l.length c, .int .i64 x]) (indexI a c l x _ (h.below (Below.refl w.heap.size _)) hln) ?_
 rintro e W1 hq1
 rcases hq1 with ⟨hz, rfl, hb1⟩ | ⟨hz, i0, rfl, hb1⟩
 · refine xe 5 (.bool false) ?_
   rw [hz]; exact ⟨rfl, hb1⟩
 refine xe 5 (.bool (decide ((↑i0 : Int) ≥ (0 : Int)))) ?_
 rw [hz, show decide ((↑i0 : Int) ≥ (0 : Int)) = true from decide_eq_true (by omega)]; exact ⟨rfl, hb1⟩
end Go.Proofs.YtinegkldgjhnpaaGreatDoor
namespace Go.Proofs.YtinegkldgjhnpaaGreatDoor
open Go.RowKit
set_option linter.unusedVariables false
attribute [local go_sem] Oper.semAt_some

def splitL (hi : Int) (l : List Int) : List (Int × Int) := (List.range l.length).map (partAt hi l)
/-- the child of number i -/
def childI (lo hi : Int) (l : List Int) (i : Int) : (Int × Int) × Int :=
  if fitsI lo hi l = 0 then if 0 ≤ i ∧ i < l.length then (partAt hi l i.toNat, 0) else ((0, 0), 3) else ((0, 0), fitsI lo hi l)

theorem child_bad {lo hi i : Int} {l : List Int} (h : fitsI lo hi l ≠ 0) : childI lo hi l i = ((0, 0), fitsI lo hi l) := by simp [childI, h]
theorem child_out {lo hi i : Int} {l : List Int} (h : fitsI lo hi l = 0) (hi' : ¬ (0 ≤ i ∧ i < l.length)) : childI lo hi l i = ((0, 0), 3) := by simp only [childI, h, if_true]; rw [if_neg hi']
theorem child_in {lo hi : Int} {l : List Int} {i : Nat} (h : fitsI lo hi l = 0) (hi' : i < l.length) : childI lo hi l i = (partAt hi l i, 0) := by
  simp only [childI, h, if_true]; rw [if_pos ⟨by omega, by omega⟩]; simp
theorem each_none {i : Int} {n : Nat} (h : ∀ x ∈ List.finRange n, (qOf x : Int) ≠ i) : ¬ (0 ≤ i ∧ i < n) := fun ⟨h1, h2⟩ => by
  refine h ⟨n - 1 - i.toNat, by omega⟩ (by simp) ?_
  simp only [qOf]; omega
theorem each_last {lo hi i : Int} {l : List Int} {x : Fin l.length} (hf : fitsI lo hi l = 0) (hx : (qOf x : Int) = i) : childI lo hi l i = (partAt hi l (qOf x), 0) := by
  rw [← hx]; exact child_in hf (by have := x.2; simp only [qOf]; omega)
theorem below_child {w w' : World} {B : Nat} (h : Below w.heap.size w w') (hB : w.heap.size ≤ B) {i j k : Nat} {x y z : Value} {C : Nat} (hC : w.heap.size ≤ C) :
    Below w.heap.size w (((w'.setCell ⟨B, i, none⟩ x).setCell ⟨B, j, none⟩ y).setCell ⟨C, k, none⟩ z) := ((h.setCell hB _).setCell hB _).setCell hC _

/-- the result's cells when the rounds of pre are over -/
def outStep (hi : Int) (l : List Int) (cs : List Value) (x : Fin l.length) : List Value :=
  (cs.set (qOf x * 2) (.int .i64 (partAt hi l (qOf x)).1)).set (qOf x * 2 + 1) (.int .i64 (partAt hi l (qOf x)).2)
def outC (hi : Int) (l : List Int) (pre : List (Fin l.length)) : List Value := pre.foldl (outStep hi l) (zeros [.int .i64 0, .int .i64 0] l.length)
theorem outC_snoc (hi : Int) (l : List Int) (pre : List (Fin l.length)) (x : Fin l.length) : outC hi l (pre ++ [x]) = outStep hi l (outC hi l pre) x := by simp [outC]
theorem outFold_length (hi : Int) (l : List Int) : ∀ (pre : List (Fin l.length)) (cs : List Value), (pre.foldl (outStep hi l) cs).length = cs.length
  | [], _ => rfl
  | x :: pre, cs => by rw [List.foldl_cons, outFold_length hi l pre]; simp [outStep]
theorem outC_length (hi : Int) (l : List Int) (pre : List (Fin l.length)) : (outC hi l pre).length = l.length * 2 := by
  rw [outC, outFold_length, zeros_length]; rfl
theorem outFold_get (hi : Int) (l : List Int) (q : Nat) (hq : q < l.length) : ∀ (pre : List (Fin l.length)) (cs : List Value), cs.length = l.length * 2 →
    ((∃ x ∈ pre, qOf x = q) ∨ (cs[q * 2]? = some (.int .i64 (partAt hi l q).1) ∧ cs[q * 2 + 1]? = some (.int .i64 (partAt hi l q).2))) →
    (pre.foldl (outStep hi l) cs)[q * 2]? = some (.int .i64 (partAt hi l q).1) ∧ (pre.foldl (outStep hi l) cs)[q * 2 + 1]? = some (.int .i64 (partAt hi l q).2)
  | [], cs, hl, h => by
    rcases h with ⟨x, hx, _⟩ | h
    · cases hx
    · exact h
  | x :: pre, cs, hl, h => by
    rw [List.foldl_cons]
    refine outFold_get hi l q hq pre _ (by simp [outStep, hl]) ?_
    by_cases hx : qOf x = q
    · subst hx
      refine .inr ⟨?_, ?_⟩
      · simp only [outStep]; rw [List.getElem?_set_ne (by omega), List.getElem?_set_self (by omega)]
      · simp only [outStep]; rw [List.getElem?_set_self (by simp; omega)]
    · rcases h with ⟨y, hy, hyq⟩ | h
      · rcases List.mem_cons.1 hy with rfl | hy
        · exact absurd hyq hx
        · exact .inl ⟨y, hy, hyq⟩
      · refine .inr ⟨?_, ?_⟩
        · simp only [outStep]; rw [List.getElem?_set_ne (by omega), List.getElem?_set_ne (by omega)]; exact h.1
        · simp only [outStep]; rw [List.getElem?_set_ne (by omega), List.getElem?_set_ne (by omega)]; exact h.2
theorem outC_all (hi : Int) (l : List Int) : outC hi l (List.finRange l.length) = flat2 (splitL hi l) := by
  have hs : (splitL hi l).length = l.length := by simp [splitL]
  have hg : ∀ q, q < l.length → (splitL hi l)[q]? = some (partAt hi l q) := fun q hq => by simp [splitL, hq]
  apply List.ext_getElem?
  intro j
  by_cases hj : j < l.length * 2
  · have hq : j / 2 < l.length := by omega
    have h := outFold_get hi l (j / 2) hq (List.finRange l.length) (zeros [.int .i64 0, .int .i64 0] l.length) (by rw [zeros_length]; rfl)
      (.inl ⟨⟨l.length - 1 - j / 2, by omega⟩, by simp, by simp only [qOf]; omega⟩)
    by_cases h2 : j % 2 = 0
    · have e : j = j / 2 * 2 := by omega
      rw [e, flat2_even, hg _ hq]; exact h.1
    · have e : j = j / 2 * 2 + 1 := by omega
      rw [e, flat2_odd, hg _ hq]; exact h.2
  · rw [List.getElem?_eq_none (by rw [outC_length]; omega), List.getElem?_eq_none (by rw [flat2_length, hs]; omega)]
def splitR (lo hi : Int) (l : List Int) : List (Int × Int) := if fitsI lo hi l = 0 then splitL hi l else []
theorem Tryz.info96 : (Tryz.prog.info? 96).map (fun i => (i.zero, i.size, i.bytes)) = some (some (.agg #[.int .i64 0, .int .i64 0]), 2, 16) := by kernel_rfl

set_option maxRecDepth 100000 in
set_option maxHeartbeats 2000000 in
theorem span_split2 (lo hi : Int) (v : Value) (l : List Int) (w : World) (hlen : l.length ≤ 1000000) (hl : Ints w v l) :
    Calls Tryz.prog 82 #[spanV lo hi, v] w (RetS (fun w' r => Pairs w' r (splitR lo hi l) ∧ (fitsI lo hi l = 0 → ∃ g, r = .slice (some ⟨g, 0, none⟩) l.length l.length ∧ w.heap.size ≤ g ∧ Blk w' g (flat2 (splitL hi l)) 96)) w) := by
  obtain ⟨i0, hi0, hz0, hz1, hz2⟩ := info_parts Tryz.info96
  have hmk := fun w => make_zeros (P := Tryz.prog) (t := 167) (e := 96) (i := i0) [.int .i64 0, .int .i64 0] Tryz.underlying167 hi0 hz0 rfl hz1 hz2 l.length (by omega) (by omega) w
  clear hi0 hz0 hz1 hz2
  unfold spanV
  refine calls_of_marks Tryz.func82 rfl ?_
  simp only [Tryz.ntmps82, List.size_toArray, List.length_cons, List.length_nil, Nat.reduceAdd, Nat.reduceSub, Array.replicate_succ, Array.replicate_zero, List.push_toArray, List.append_toArray, List.nil_append, List.cons_append]
  go_wp2_with fail
  refine (span_fits lo hi v l _ (hl.below (Bl.box _ _))).mono ?_
  rintro e w' ⟨rfl, hb⟩
  have k0 := Blk.below (Blk.new w [.int .i64 lo, .int .i64 hi] 96) hb
  have hB : Below w.heap.size w w' := Bl.next (Bl.box _ _) hb
  have hl' := hl.below hB
  have HB : l.length ≠ 0 → ∀ {b off n cap : Nat}, v = .slice (some ⟨b, off, none⟩) n cap → b < w.heap.size := fun h _ _ _ _ e => hl.blk h e
  clear hb hl
  obtain ⟨a, c, rfl⟩ := hl'.slice
  have z0 := k0.lt
  have c00 := k0.cell (i := 0) rfl
  have c01 := k0.cell (i := 1) rfl
  by_cases hf : fitsI lo hi l = 0
  case neg =>
    have hf2 : (fitsI lo hi l != 0) = true := by simpa using hf
    have HF := Lib.hid hf; clear hf
    go_wp2_with fail
    refine ⟨_, results_tmp rfl _ _ _, ?_⟩
    have e : splitR lo hi l = [] := by simp [splitR, HF.out]
    rw [e]
    exact ⟨_, rfl, hB, .inl ⟨_, _, rfl, rfl, rfl⟩, fun q => absurd q HF.out⟩
  have hf2 : (fitsI lo hi l != 0) = false := by simpa using hf
  have HF := Lib.hid hf; clear hf
  go_wp2_with fail
  refine (span_each lo hi a l.length c _).mono ?_
  rintro e W1 ⟨rfl, hW1⟩
  have hz : w'.heap.size + 4 = W1.heap.size := by rw [hW1]; simp
  have hb1 : Below w'.heap.size w' W1 := by rw [hW1]; exact Bl.next (Bl.next (Bl.next (Bl.box _ _) (Bl.box _ _)) (Bl.box _ _)) (Bl.box _ _)
  have s1 : W1.cell? ⟨w'.heap.size + 1 + 1, 1, none⟩ = some (.int .i64 hi) := by rw [hW1]; simp [go_sem]
  have s2 : W1.cell? ⟨w'.heap.size + 1 + 1 + 1, 0, none⟩ = some (.slice a l.length c) := by rw [hW1]; simp [go_sem]
  have m1 : Blk W1 w'.heap.size (zeros [.int .i64 0, .int .i64 0] l.length) 96 := by rw [hW1]; exact (((Blk.new w' _ _).alloc _).alloc _).alloc _
  have m2 : Blk W1 (w'.heap.size + 1) [.slice (some ⟨w'.heap.size, 0, none⟩) l.length l.length] 167 := by
    rw [hW1]; have := ((Blk.new (w'.alloc (.cells (zeros [.int .i64 0, .int .i64 0] l.length).toArray 96)) [.slice (some ⟨w'.heap.size, 0, none⟩) l.length l.length] 167).alloc (.cells #[.int .i64 lo, .int .i64 hi] 96)).alloc (.cells #[.slice a l.length c] 26)
    simpa using this
  have hB1 := Bl.next hB hb1
  have hl1 := hl'.below hb1
  have hst := each_stops (w'.heap.size + 1 + 1) (w'.heap.size + 1 + 1 + 1) (fun b => b < W1.heap.size ∧ b ≠ w'.heap.size) hi (.slice a l.length c) l W1 (fun b h => h.1) (by omega) (by omega) (by omega) hl1 ?hvp s1 s2
  case hvp => exact fun h b off n' cap e => by have := HB h e; have := hB1.size; exact ⟨by omega, by omega⟩
  clear hW1 s1 s2 hmk
  go_wp2_with fail
  refine wp_range (g := .tmp 17) (gf := 160) (lb := #[.pointer (some ⟨w'.heap.size + 1 + 1, 0, none⟩), .pointer (some ⟨w'.heap.size + 1 + 1 + 1, 0, none⟩)]) rfl (enters_of Tryz.func160 (by kernel_rfl) rfl) _ (fun b h => h.1) hst (fun _ => rfl)
    (fun pre W => (Blk W w'.heap.size (outC hi l pre) 96 ∧ Blk W (w'.heap.size + 1) [.slice (some ⟨w'.heap.size, 0, none⟩) l.length l.length] 167) ∧ (Below w.heap.size w W ∧ W1.heap.size ≤ W.heap.size))
    (fun _ _ _ => False) ?own (fun _ _ _ _ _ h _ _ => h) ⟨⟨m1, m2⟩, hB1, Nat.le_refl _⟩
    (fun x a' W => ∃ Bx, W1.heap.size ≤ Bx ∧ Blk W Bx [.int .i64 (partAt hi l (qOf x)).1, .int .i64 (partAt hi l (qOf x)).2] 96 ∧
      a' = { tmps := #[.agg #[.int .i64 lo, .int .i64 hi], .slice a l.length c, .pointer (some ⟨w.heap.size, 0, none⟩), undef, .slice none 0 0, .pointer (some ⟨w'.heap.size + 1, 0, none⟩), .int .i64 (qOf x : Int), .pointer (some ⟨Bx, 0, none⟩), .agg #[.int .i64 lo, .int .i64 hi], .slice a l.length c, .int .i64 (fitsI lo hi l), .bool false, .slice a l.length c, .int .i64 l.length, .slice (some ⟨w'.heap.size, 0, none⟩) l.length l.length, .agg #[.int .i64 lo, .int .i64 hi], .slice a l.length c, .func (.func 160) #[] #[.pointer (some ⟨w'.heap.size + 1 + 1, 0, none⟩), .pointer (some ⟨w'.heap.size + 1 + 1 + 1, 0, none⟩)], .int .i64 (qOf x : Int), spanV (partAt hi l (qOf x)).1 (partAt hi l (qOf x)).2, undef, undef, undef, undef, undef], defers := [] }) ?ownax ?assign ?body ?done ?stop
  case own => exact OwnFrom.and (Own.from (fun s A B row hs hg hr => ⟨hs.1.turn hg hr, hs.2.turn hg hr⟩) _) (OwnFrom.and (ownFrom_below (Nat.le_refl _) hB1.size) ownFrom_size)
  case ownax => exact fun x a' => Own.from (fun s A B row hs hg hr => by obtain ⟨Bx, h1, h2, h3⟩ := hs; exact ⟨Bx, h1, h2.turn hg hr, h3⟩) _
  case assign =>
    rintro lr pre x W K ⟨⟨h1, h2⟩, hbW, hsz⟩ hK
    unfold encE
    gi_wp2
    exact hK _ _ ((KeepsOthers.alloc _ _).from _) (Keeps.of_below (Bl.box W _) (fun b hb => by have := hb.1; omega)) ⟨⟨h1.alloc _, h2.alloc _⟩, Bl.next hbW (Bl.box _ _), by simp; omega⟩ ⟨W.heap.size, hsz, Blk.new W _ _, rfl⟩
  case body =>
    rintro lr pre x a' W hlr ⟨⟨h1, h2⟩, hbW, hsz⟩ ⟨Bx, hBx, hx, rfl⟩ hlt
    have cx0 := hx.cell (i := 0) rfl
    have cx1 := hx.cell (i := 1) rfl
    have ci := h2.cell (i := 0) rfl
    have hq : qOf x < l.length := by have := x.2; simp only [qOf]; omega
    have hol := outC_length hi l pre
    obtain ⟨u0, hu0⟩ : ∃ u0, (outC hi l pre)[qOf x * 2]? = some u0 := ⟨_, List.getElem?_eq_getElem (by omega)⟩
    obtain ⟨u1, hu1⟩ : ∃ u1, (outC hi l pre)[qOf x * 2 + 1]? = some u1 := ⟨_, List.getElem?_eq_getElem (by omega)⟩
    have cu0 := h1.cell hu0
    have cu1 := h1.cell hu1
    have fu0 := h1.frozen (qOf x * 2)
    have fu1 := h1.frozen (qOf x * 2 + 1)
    clear hu0 hu1 hol
    gi_wp2
    refine ⟨((KeepsOthers.setCell _ _ _).trans (KeepsOthers.setCell _ _ _)).from _, ((Keeps.refl _ W).setCell (by simp) _).setCell (by simp) _, ⟨by rw [outC_snoc]; exact (h1.set _ _).set _ _, (h2.other (by simp) _).other (by simp) _⟩, (hbW.setCell (Nat.le_of_lt z0) _).setCell (Nat.le_of_lt z0) _, by simpa [World.setCell] using hsz⟩
  case done =>
    rintro D xs W hD rfl ⟨⟨h1, h2⟩, hbW, hsz⟩ hK
    have ci := h2.cell (i := 0) rfl
    have hlt : D < W.heap.size := (Array.getElem?_eq_some_iff.1 hK).1
    rw [outC_all] at h1
    have hs : (splitL hi l).length = l.length := by simp [splitL]
    have hR : Pairs (W.putObj D (.deferred none)) (.slice (some ⟨w'.heap.size, 0, none⟩) l.length l.length) (splitL hi l) := by
      have h1' := h1.put hK rfl (.deferred none)
      exact .inr ⟨_, 0, l.length, by rw [hs], by omega, by unfold maxLen; omega, fun j x hj => by rw [Nat.zero_add]; exact h1'.cell hj⟩
    have HR := Lib.hid hR
    have HR2 := Lib.hid (h1.put hK rfl (.deferred none))
    clear hR h1 hs
    go_wp2_with fail
    refine ⟨by simp, .inl ⟨_, _, rfl, run_takeDeferred hK, _, results_tmp rfl _ _ _, ?_⟩⟩
    have e : splitR lo hi l = splitL hi l := by simp [splitR, HF.out]
    rw [e]
    exact ⟨_, rfl, below_put hbW (by have := hB1.size; omega) hlt _, HR.out, fun _ => ⟨_, rfl, hB.size, HR2.out⟩⟩
  case stop => exact fun _ _ _ _ _ _ h _ => h.elim
theorem span_split (lo hi : Int) (v : Value) (l : List Int) (w : World) (hlen : l.length ≤ 1000000) (hl : Ints w v l) :
    Calls Tryz.prog 82 #[spanV lo hi, v] w (RetS (fun w' r => Pairs w' r (splitR lo hi l)) w) :=
  (span_split2 lo hi v l w hlen hl).mono fun e w' ⟨r, h1, h2, h3, _⟩ => ⟨r, h1, h2, h3⟩
end Go.Proofs.YtinegkldgjhnpaaGreatDoor
