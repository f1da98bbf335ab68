/- value.ReadSlot, slots.Read and block.Index, whatever the bytes. block.Bits, whatever lies in the image. The document's answer for layer 9: Put of small counts, Read. The document's answer for the layers 9 and 11: Read of a block of counts, Bits. Package super: each, Right, Put, Read, whatever the bytes. Two strings, one behind the other. No program is named here. The document's answer for layer 8, written: text, Slot, Count. The document's answer for the layers 8, 10 and 11: text, Slot, ReadSlot, Read of an index, Bits, Index. The document's answer for the layers 10 and 11: Read of an index, Same, Bits, Index. Space maps read, plainly. value.Count and value.Slot of numbers that may stand there. Counts read, the program and the document; how many blocks of counts any number needs. tally.Join of rows that are formed so. The document's answer for layer 21: form, find, Join of rows that are formed so. bits.Put and bits.Free of small counts, slices.Clone of counts. chart.placed.counts. tally.Split of counts. chart.all: the counts of slots, and what is above them. chart.Data and chart.Meta, whatever the bytes. The document's answer for layer 9: Free. The document's answer for layer 23: want, one, rest. -/
import Derived.Laws.StructEq
import Derived.Test.YthlakkdgcgkcdaaGreatDoorMg5
namespace Go.Proofs.YthlakkdgcgkcdaaGreatDoor
open Go.RowKit Go.Extern.Stop Go.Stop Go.Extern
set_option linter.unusedVariables false
attribute [local irreducible] wpList wpAnyH Code.wp Oper.wp Go

def slotP : List Part := [(8, 1, 14399), (4, 0, 960), (4, 0, 960)]
theorem slotP_ok : PartsOk slotP := by
  refine ⟨by decide, fun i hi => ?_⟩
  have hi' : i < 3 := hi
  obtain rfl | rfl | rfl : i = 0 ∨ i = 1 ∨ i = 2 := by omega
  all_goals simp [slotP, List.getD]
/-- a slot of an index: the number of bytes before it -/
def slotS (l : List UInt8) (i : Nat) : List UInt8 := (l.drop (4 + i * 16)).take 16
def slotK (l : List UInt8) (i k : Nat) : Nat := (readV slotP (slotS l i)).getD k 0
def sltC (x : Nat × Nat × Nat) : List Value := [.int .i64 (x.1 : Int), .int .i64 (x.2.1 : Int), .int .i64 (x.2.2 : Int)]
theorem sltC_len (x : Nat × Nat × Nat) : (sltC x).length = 3 := rfl
def sltX (l : List UInt8) (i : Nat) : Nat × Nat × Nat := (slotK l i 0, slotK l i 1, slotK l i 2)
def sltsL (l : List UInt8) (n : Nat) : List (Nat × Nat × Nat) := (List.range n).map (sltX l)
theorem sltsL_snoc (l : List UInt8) (n : Nat) : sltsL l (n + 1) = sltsL l n ++ [sltX l n] := by simp [sltsL, List.range_succ]
theorem sltsL_len (l : List UInt8) (n : Nat) : (sltsL l n).length = n := by simp [sltsL]
/-- the first number that is wrong -/
def sltsE (l : List UInt8) : Nat → Int
  | 0 => 0
  | i + 1 => if sltsE l i ≠ 0 then sltsE l i else readE slotP (slotS l i)
theorem sltsE_stop {l : List UInt8} {i : Nat} (h : sltsE l i ≠ 0) : ∀ n, i ≤ n → sltsE l n = sltsE l i
  | 0, h2 => by obtain rfl : i = 0 := by omega
                rfl
  | n + 1, h2 => by
    by_cases e : i = n + 1
    · rw [e]
    · have ih := sltsE_stop h n (by omega)
      rw [sltsE, if_pos (by rw [ih]; exact h), ih]
theorem sltsE_at {l : List UInt8} {i n : Nat} (h : sltsE l i = 0) (he : readE slotP (slotS l i) ≠ 0) (hi : i < n) : sltsE l n = readE slotP (slotS l i) := by
  have e : sltsE l (i + 1) = readE slotP (slotS l i) := by rw [sltsE, if_neg (by rw [h]; decide)]
  rw [sltsE_stop (by rw [e]; exact he) n hi, e]
theorem sltsE_next {l : List UInt8} {i : Nat} (h : sltsE l i = 0) (he : readE slotP (slotS l i) = 0) : sltsE l (i + 1) = 0 := by rw [sltsE, if_neg (by rw [h]; decide), he]
theorem slotS_len {l : List UInt8} {i : Nat} (hl : l.length = 244) (hi : i < 15) : (slotS l i).length = 16 := by simp [slotS]; omega
/-- a slot has room: it is right, or out of range -/
theorem slot_two {l : List UInt8} {i : Nat} (hl : l.length = 244) (hi : i < 15) : readE slotP (slotS l i) = 0 ∨ readE slotP (slotS l i) = 2 := by
  unfold readE
  rw [if_pos (by rw [slotS_len hl hi]; rfl)]
  split
  · exact .inl rfl
  · exact .inr rfl
/-- whether bytes are an index's, but for its slots -/
def idxOk (l : List UInt8) : Bool := decide (rawN l 0 4 ≤ 15) && zeroB (l.drop (4 + rawN l 0 4 * 16))
def idxE (l : List UInt8) : Int := if idxOk l then sltsE l (rawN l 0 4) else 7
def SlotsP (l : List UInt8) (w : World) (e : Ending) (w' : World) : Prop :=
  (idxE l ≠ 0 ∧ e = .returned (.tuple #[.slice none 0 0, .int .i64 (idxE l)]) ∧ Below w.heap.size w w') ∨
  (idxE l = 0 ∧ ∃ p c, e = .returned (.tuple #[.slice p (rawN l 0 4) c, .int .i64 0]) ∧ Below w.heap.size w w' ∧ w'.ownsRow w.heap.size 79 3 (.slice p (rawN l 0 4) c) (rawN l 0 4) ((sltsL l (rawN l 0 4)).flatMap sltC))
set_option maxRecDepth 100000 in
set_option maxHeartbeats 1000000 in
theorem value_slotR (w : World) :
    Calls Tryz.prog 59 #[] w (RetS (fun w' r => ∃ b, r = .slice (some ⟨b, 0, none⟩) 3 3 ∧ w.heap.size ≤ b ∧ Blk w' b [.int .i64 8, .int .i64 1, .int .i64 14399, .int .i64 4, .int .i64 0, .int .i64 960, .int .i64 4, .int .i64 0, .int .i64 960] 176) w) := by
 refine zin 5 Tryz.func59 ?_
 refine xbs 10 3 [.int .i64 8, .int .i64 1, .int .i64 14399, .int .i64 4, .int .i64 0, .int .i64 960, .int .i64 4, .int .i64 0, .int .i64 960] 176 fun b1 W1 n1 => ?_
 have g1 := n1.ge (Below.refl w.heap.size _)
 exact xe 4 (.slice (some ⟨b1, 0, none⟩) 3 3) ⟨_, rfl, n1.below, _, rfl, g1, n1.blk⟩
set_option maxRecDepth 100000 in
set_option maxHeartbeats 1000000 in
theorem value_ReadSlot (s : List UInt8) (w : World) (hs : s.length ≤ 1000) :
    Calls Tryz.prog 32 #[.string ⟨s.toArray⟩] w (Ret (.tuple #[.agg #[.int .i64 (↑((readV slotP s).getD 0 0) : Int), .int .i64 (↑((readV slotP s).getD 1 0) : Int), .int .i64 (↑((readV slotP s).getD 2 0) : Int)], .int .i64 (readE slotP s)]) w) := by
 refine zin 23 Tryz.func32 ?_
 refine xa 2 [.int .i64 0, .int .i64 0, .int .i64 0] 79 fun b1 W1 n1 => ?_
 refine xc 5 (args := #[]) (value_slotR _) ?_
 rintro _ W2 ⟨_, rfl, hb2, gl, rfl, gg, kl⟩
 refine xc 1 (args := #[.slice (some ⟨gl, 0, none⟩) 3 3, .string ⟨s.toArray⟩]) (value_readG slotP s (some ⟨gl, 0, none⟩) 3 _ slotP_ok (by decide) (by omega) (kl.sl 3 3 (by decide) (by decide))) ?_
 rintro _ W3 ⟨_, rfl, hb3, p5, c5, rfl, h5⟩
 have hs3 := (Bl.next n1.below hb2).size
 refine xd 8 (.t w.heap.size [79]) ?_
 have h5'1 := own_below (own_mono h5 hs3) (below_drew W3)
 refine xx (.e [0] 1) _ 3 0 1 (nv_elem (l := readV slotP s) (own_sl h5'1) (readV_len _ _) (k := 0) (by decide)).1 ?_
 refine xlt (.e [] 2) (.t w.heap.size [79]) (fun V hV => (nv_elem (l := readV slotP s) (own_sl (own_only h5'1 hV.2 (by decide))) (readV_len _ _) (k := 0) (by decide)).2) ?_
 refine xx (.e [3] 4) _ 3 1 1 (nv_elem (l := readV slotP s) (own_sl h5'1) (readV_len _ _) (k := 1) (by decide)).1 ?_
 refine xlt (.e [] 5) (.t w.heap.size [79]) (fun V hV => (nv_elem (l := readV slotP s) (own_sl (own_only h5'1 hV.2 (by decide))) (readV_len _ _) (k := 1) (by decide)).2) ?_
 refine xx (.e [6] 7) _ 3 2 1 (nv_elem (l := readV slotP s) (own_sl h5'1) (readV_len _ _) (k := 2) (by decide)).1 ?_
 refine xlt (.e [] 8) (.t w.heap.size [79]) (fun V hV => (nv_elem (l := readV slotP s) (own_sl (own_only h5'1 hV.2 (by decide))) (readV_len _ _) (k := 2) (by decide)).2) ?_
 have k1 := ((n1.blk.below hb2).below hb3).below (below_drew W3)
 have g1 := n1.ge (Below.refl w.heap.size _)
 refine ysv (.o [9, 10] 11) k1 [.int .i64 (↑((readV slotP s).getD 0 0) : Int), .int .i64 (↑((readV slotP s).getD 1 0) : Int), .int .i64 (↑((readV slotP s).getD 2 0) : Int)] (.t w.heap.size [79]) fun W4 u4 k4 => ⟨(sft_upd u4 k1 g1 (by decide)), ?_⟩
 have hB := u4.below (Bl.next (Bl.next (Bl.next n1.below hb2) hb3) (below_drew W3)) g1
 exact xec (.r [12] 3) k4 (.tuple #[.agg #[.int .i64 (↑((readV slotP s).getD 0 0) : Int), .int .i64 (↑((readV slotP s).getD 1 0) : Int), .int .i64 (↑((readV slotP s).getD 2 0) : Int)], .int .i64 (readE slotP s)]) ⟨rfl, hB⟩
set_option maxRecDepth 100000 in
set_option maxHeartbeats 1000000 in
theorem slots_next (B bt : Nat) (x : List UInt8) (w : World) (hBw : B ≤ w.heap.size) (hBt : B ≤ bt) (kt : Blk w bt [.string ⟨x.toArray⟩] 9) (hx : 16 ≤ x.length) :
    Calls Tryz.prog 117 #[.pointer (some ⟨bt, 0, none⟩)] w ((fun e w' => e = .returned (.string ⟨(x.take 16).toArray⟩) ∧ Below B w w' ∧ Only [9] w w' ∧ Blk w' bt [.string ⟨(x.drop 16).toArray⟩] 9)) := by
 refine zin 8 Tryz.func117 ?_
 refine xb 7 0 kt ?_
 refine xsH 0 (fun _ _ _ _ zo zx zy V => run_strH (k := 16) (j := 16) (kj := .i64) zo zx zy rfl hx Tryz.underlying9 V) ?_
 refine xb 5 0 kt ?_
 refine xsL 0 (fun _ _ _ _ zo zx zy V => run_strL (k := 16) (j := 16) (kj := .i64) zo zx zy rfl hx Tryz.underlying9 V) ?_
 refine xs 0 kt [.string ⟨(x.drop 16).toArray⟩] fun W1 u1 k1 => ?_
 have hB := u1.below (Below.refl B w) hBt
 have hO := (show Only [9] w _ from (Only.of_upd u1 kt (by decide)))
 exact xe 9 (.string ⟨(x.take 16).toArray⟩) ⟨rfl, hB, hO, k1⟩
theorem value_ReadSlotP (l : List UInt8) (i : Nat) (w : World) (hs : (slotS l i).length ≤ 1000) : Calls Tryz.prog 32 #[.string ⟨(slotS l i).toArray⟩] w (fun e w' =>
    (readE slotP (slotS l i) = 0 ∧ e = .returned (.tuple #[.agg #[.int .i64 (slotK l i 0 : Int), .int .i64 (slotK l i 1 : Int), .int .i64 (slotK l i 2 : Int)], .int .i64 0]) ∧ Below w.heap.size w w') ∨
    (readE slotP (slotS l i) ≠ 0 ∧ e = .returned (.tuple #[.agg #[.int .i64 (slotK l i 0 : Int), .int .i64 (slotK l i 1 : Int), .int .i64 (slotK l i 2 : Int)], .int .i64 (readE slotP (slotS l i))]) ∧ Below w.heap.size w w')) := by
  refine (value_ReadSlot (slotS l i) w hs).mono ?_
  rintro e W ⟨rfl, hb⟩
  by_cases h : readE slotP (slotS l i) = 0
  · exact .inl ⟨h, by rw [h]; rfl, hb⟩
  · exact .inr ⟨h, rfl, hb⟩
theorem bysK {w : World} {a : Option Addr} {c k : Nat} {l : List UInt8} (h : Bys w (.slice a 244 c) l) (hl : l.length = 244) (hk : k ≤ 244) : Bys w (.slice (cutA a k c 1) (244 - k) (c - k)) (l.drop k) := by
  have := Bys.cut h hl k 244 hk (by decide)
  rwa [List.take_of_length_le (by simp; omega)] at this
set_option maxRecDepth 100000 in
set_option maxHeartbeats 4000000 in
theorem slots_Read (a : Option Addr) (c : Nat) (l : List UInt8) (w : World) (hl : l.length = 244) (h : Bys w (.slice a 244 c) l) :
    Calls Tryz.prog 72 #[.slice a 244 c] w (SlotsP l w) := by
 have hcap := Bys.cap h hl
 refine zin 52 Tryz.func72 ?_
 refine xr 20 (args := #[.slice a 244 c, .int .i64 0, .int .i64 4]) (Get_okN a 244 c 0 4 0 4 l _ hl rfl rfl (by decide) (by decide) (by decide) (h.below (Below.refl w.heap.size _))) fun W1 hb1 => ?_
 refine xg 13 [20, 21] (decide ((↑(rawN l 0 4) : Int) > (15 : Int))) (fun hc2 => ?_) (fun hc2 => ?_)
 · have hc2 := of_decide_eq_true hc2
   refine xe 19 (.tuple #[.slice none 0 0, .int .i64 7]) ?_
   have he : idxE l = 7 := by unfold idxE idxOk; rw [decide_eq_false (by omega), Bool.false_and, if_neg (by decide)]
   exact .inl ⟨by rw [he]; decide, by rw [he], hb1⟩
 have hc2 := of_decide_eq_false hc2
 refine xwm 2 ((↑(rawN l 0 4) : Int) * 16) (↑((rawN l 0 4) * 16) : Int) ?_
 refine xwm 0 (4 + (↑((rawN l 0 4) * 16) : Int)) (↑(4 + ((rawN l 0 4) * 16)) : Int) ?_
 refine xsL 0 (fun _ _ _ _ zo zx zy V => run_sliceLA (k := (4 + ((rawN l 0 4) * 16))) (b := a) (n := 244) (c := c) (i := (↑(4 + ((rawN l 0 4) * 16)) : Int)) (ki := .i64) 1 zo zx zy rfl (by omega) Tryz.underlying22 (by kernel_rfl) V) ?_
 refine xr 0 (args := #[.slice (cutA a (4 + ((rawN l 0 4) * 16)) c 1) (244 - (4 + ((rawN l 0 4) * 16))) (c - (4 + ((rawN l 0 4) * 16)))]) (code_ZeroN (cutA a (4 + ((rawN l 0 4) * 16)) c 1) (244 - (4 + ((rawN l 0 4) * 16))) (c - (4 + ((rawN l 0 4) * 16))) (l.drop (4 + rawN l 0 4 * 16)) _ (by simp; omega) (by omega) ((bysK (k := 4 + rawN l 0 4 * 16) h hl (by omega)).below hb1)) fun W3 hb3 => ?_
 refine xi 4 (!(zeroB (l.drop (4 + rawN l 0 4 * 16)))) (fun hc4 => ?_) (fun hc4 => ?_)
 · have hze : zeroB (l.drop (4 + rawN l 0 4 * 16)) = false := not_t hc4
   have hB'1 := Bl.next hb1 hb3
   refine xe 8 (.tuple #[.slice none 0 0, .int .i64 7]) ?_
   have he : idxE l = 7 := by unfold idxE idxOk; rw [hze, Bool.and_false, if_neg (by decide)]
   exact .inl ⟨by rw [he]; decide, by rw [he], hB'1⟩
 have hze : zeroB (l.drop (4 + rawN l 0 4 * 16)) = true := not_f hc4
 refine xsL 5 (fun _ _ _ _ zo zx zy V => run_sliceLA (k := 4) (b := a) (n := 244) (c := c) (i := 4) (ki := .i64) 1 zo zx zy rfl (by omega) Tryz.underlying22 (by kernel_rfl) V) ?_
 have hB'2 := Bl.next hb1 hb3
 refine xcv0 0 (fun _ _ _ zo zx => run_bstr zo zx ((bysK (k := 4) h hl (by decide)).below hB'2) (by simp; omega) Tryz.underlying22 Tryz.underlying5 Tryz.underlying9) ?_
 refine xa 0 [.string ⟨#[]⟩] 9 fun b5 W5 n5 => ?_
 have g5 := n5.ge hB'2
 refine xs 0 n5.blk [.string ⟨(l.drop 4).toArray⟩] fun W6 u6 k6 => ?_
 have kt0 : Blk _ _ [.string ⟨((l.drop (4 + 0 * 16))).toArray⟩] _ := k6
 have hB'3 := u6.below (Bl.next hB'2 n5.below) g5
 refine zl 21 52 (fun zm zkv V => ∃ (i : Nat) (q : Option Addr) (d : Nat), zkv = [(7, .func (.func 117) #[] #[.pointer (some ⟨b5, 0, none⟩)]), (8, .slice q i d), (34, .int .i64 (↑(rawN l 0 4) : Int)), (35, .int .i64 (↑i : Int))] ∧ zm = (rawN l 0 4) - ((↑i : Int)).toNat ∧ Below w.heap.size w V ∧ Blk V b5 ([.string ⟨(l.drop (4 + i * 16)).toArray⟩]) 9 ∧ V.ownsRow w.heap.size 79 3 (.slice q i d) i ((sltsL l i).flatMap sltC) ∧ i ≤ (rawN l 0 4) ∧ sltsE l i = 0) ⟨0, _, _, rfl, rfl, hB'3, kt0, World.ownsRow_nil _ _ _ _, Nat.zero_le _, rfl⟩ ?_
 rintro _ _ W7 ⟨i, q, d, rfl, rfl, hB_7, k7_b5, ho, hi, hz⟩ J7 hJ7 r7
 refine xid 6 ((↑i : Int) < (↑(rawN l 0 4) : Int)) (fun hc8 => ?_) (fun hc8 => ?_)
 · refine xc 7 (args := #[.pointer (some ⟨b5, 0, none⟩)]) (slots_next w.heap.size b5 (l.drop (4 + i * 16)) _ hB_7.size g5 k7_b5 (by simp; omega)) ?_
   rintro _ W9 ⟨rfl, hb9, hO9, kN9⟩
   rw [List.drop_drop, show 4 + i * 16 + 16 = 4 + (i + 1) * 16 by omega] at kN9
   refine xc 0 (args := #[.string ⟨(slotS l i).toArray⟩]) (value_ReadSlotP l i _ (by rw [slotS_len hl (by omega)]; decide)) ?_
   rintro e W10 hq10
   rcases hq10 with ⟨hz0, rfl, hb10⟩ | ⟨hz0, rfl, hb10⟩
   · refine xa 3 [.int .i64 0, .int .i64 0, .int .i64 0] 79 fun b11 W11 n11 => ?_
     have hB'4 := Bl.next (hB_7.trans hb9) hb10
     have g11 := n11.ge hB'4
     have ho'1 := own_below (own_only ho hO9 (by decide)) hb10
     have r11_ho := own_ne ho'1 n11
     refine xsv 0 n11.blk [.int .i64 (↑(slotK l i 0) : Int), .int .i64 (↑(slotK l i 1) : Int), .int .i64 (↑(slotK l i 2) : Int)] fun W12 u12 k12 => ?_
     refine xlv 15 k12.rp ?_
     refine xbs 0 1 [.int .i64 (↑(slotK l i 0) : Int), .int .i64 (↑(slotK l i 1) : Int), .int .i64 (↑(slotK l i 2) : Int)] 79 fun b13 W13 n13 => ?_
     have d13_b11 := n13.ne k12
     have hB'5 := u12.below (Bl.next hB'4 n11.below) g11
     have g13 := n13.ge hB'5
     have ho'2 := u12.own3 (own_below ho'1 n11.below) r11_ho
     have r13_ho := own_ne ho'2 n13
     have ho'3 := own_below ho'2 n13.below
     have hB'6 := Bl.next hB'5 n13.below
     refine xbi 0 fun _ _ _ _ zJ zQ zo zx zy zK => op_app (m := 1) (news := [.int .i64 (↑(slotK l i 0) : Int), .int .i64 (↑(slotK l i 1) : Int), .int .i64 (↑(slotK l i 2) : Int)]) (.agg #[.int .i64 0, .int .i64 0, .int .i64 0]) 3 24 (i + 1) (((sltsL l (i + 1)).flatMap sltC)) zo Tryz.underlying99 (by kernel_rfl) rfl (by decide) zx ho'3 zy (n13.blk.sl 1 1 (by decide) (by decide)) rfl (by simp [Value.oneCell']) (by unfold maxLen; omega) (by omega) hB'6.size (by rfl) (by rw [sltsL_snoc, List.flatMap_append]; rfl) fun px14 cx14 W14 o14 hg14 hb14 => ?_
     refine zK _ _ ?_
     refine xwm 5 ((↑i : Int) + 1) (↑(i + 1) : Int) ?_
     have hB'7 := hB'6.trans hb14
     have kN9'1 := ((u12.blkT ((kN9.below hb10).below n11.below) n11.blk (by decide)).below n13.below).grown hg14 ho'3 (by decide)
     exact ze 2 (hJ7 _ _ _ ⟨i + 1, _, _, rfl, rfl, hB'7, kN9'1, o14, by omega, sltsE_next hz hz0⟩ (by omega))
   refine xa 3 [.int .i64 0, .int .i64 0, .int .i64 0] 79 fun b15 W15 n15 => ?_
   have hB'8 := Bl.next (hB_7.trans hb9) hb10
   have g15 := n15.ge hB'8
   have ho'4 := own_below (own_only ho hO9 (by decide)) hb10
   have r15_ho := own_ne ho'4 n15
   refine xsv 0 n15.blk [.int .i64 (↑(slotK l i 0) : Int), .int .i64 (↑(slotK l i 1) : Int), .int .i64 (↑(slotK l i 2) : Int)] fun W16 u16 k16 => ?_
   refine xk 10 (show (((readE slotP (slotS l i)) != (0 : Int)) : Bool) = true from bne_iff_ne.2 hz0) ?_
   have hB'9 := u16.below (Bl.next hB'8 n15.below) g15
   refine xe 14 (.tuple #[.slice none 0 0, .int .i64 (readE slotP (slotS l i))]) ?_
   have hok : idxOk l = true := by unfold idxOk; rw [hze, decide_eq_true (by omega)]; rfl
   have he : idxE l = readE slotP (slotS l i) := by unfold idxE; rw [if_pos hok, sltsE_at hz hz0 (by omega)]
   exact .inl ⟨by rw [he]; exact hz0, by rw [he], hB'9⟩
 refine xe 13 (.tuple #[.slice q i d, .int .i64 0]) ?_
 have hok : idxOk l = true := by unfold idxOk; rw [hze, decide_eq_true (by omega)]; rfl
 obtain rfl : i = rawN l 0 4 := by omega
 exact .inr ⟨by unfold idxE; rw [if_pos hok, hz], _, _, rfl, hB_7, ho⟩
def idxErr (l : List UInt8) (no : Int) : Int := if inE l 4 no = 0 then idxE (inB l no) else inE l 4 no
def BlkIdxP (l : List UInt8) (no : Int) (w : World) (e : Ending) (w' : World) : Prop :=
  (idxErr l no ≠ 0 ∧ ∃ b, e = .returned (.tuple #[.slice none 0 0, .iface 123 (.pointer (some ⟨b, 0, none⟩))]) ∧ Below w.heap.size w w' ∧ ErrV w' [some no] (some (idxErr l no)) (.iface 123 (.pointer (some ⟨b, 0, none⟩)))) ∨
  (idxErr l no = 0 ∧ ∃ p c, e = .returned (.tuple #[.slice p (rawN (inB l no) 0 4) c, .nilIface]) ∧ Below w.heap.size w w' ∧ w'.ownsRow w.heap.size 79 3 (.slice p (rawN (inB l no) 0 4) c) (rawN (inB l no) 0 4) ((sltsL (inB l no) (rawN (inB l no) 0 4)).flatMap sltC))
set_option maxRecDepth 100000 in
set_option maxHeartbeats 1000000 in
theorem readIdx (B b : Nat) (p : Option Addr) (n c : Nat) (l : List UInt8) (no : Int) (w : World) (hI : ImgR B b p n c l w) :
    Calls Tryz.prog 71 #[.pointer (some ⟨b, 0, none⟩), .int .i64 no, .int .i64 4, .func (.func 72) #[] #[]] w (BlkIdxP l no w) := by
 refine zin 56 Tryz.func71 ?_
 refine xc 15 (args := #[.pointer (some ⟨b, 0, none⟩), .int .i64 no]) (image_Read B b p n c l no _ (hI.below (Below.refl w.heap.size _))) ?_
 rintro e W1 hq1
 rcases hq1 with ⟨ho, vr, rfl, hb1⟩ | ⟨j, hk, hj, p2, c2, rfl, hb1, ho⟩
 · refine xc 21 (args := #[.int .i64 no, .iface 51 (.int .i64 3)]) (block_told no 3 _) ?_
   rintro _ W2 ⟨_, rfl, hb2, hv2⟩
   rw [if_neg (by decide), if_neg (by decide)] at hv2
   have hq2 := hv2
   obtain ⟨bf2, vf2, rfl, _, _⟩ := hq2
   have hB := Bl.next hb1 hb2
   refine xe 6 (.tuple #[.slice none 0 0, .iface 123 (.pointer (some ⟨bf2, 0, none⟩))]) ?_
   have he : idxErr l no = 3 := by unfold idxErr; rw [inE_out hI.len ho]; rfl
   exact .inl ⟨by rw [he]; decide, _, rfl, hB, by rw [he]; exact hv2⟩
 have hs1 := Nat.le_refl w.heap.size
 have hj2 : j < l.length / 256 := by rw [hI.len]; exact hj
 have hlj := blkB_len hj2
 have he2 := inE_in (l := l) (kind := 4) hI.len hk hj
 have ho'1 := own_mono ho hs1
 refine xc 22 (args := #[.slice p2 256 c2, .int .i64 4, .int .i64 no]) (seal_OpenN 4 no p2 256 c2 (blkB l j) _ hlj (bys_of (own_sl ho'1) hlj)) ?_
 rintro e W3 hq3
 rcases hq3 with ⟨hs, rfl, hb3⟩ | ⟨hs, p3, c3, rfl, hb3, h3⟩
 · refine xk 14 (show (((openE 4 no (blkB l j)) != (0 : Int)) : Bool) = true from bne_iff_ne.2 hs) ?_
   refine xc 6 (args := #[.int .i64 no, .iface 51 (.int .i64 (openE 4 no (blkB l j)))]) (block_told no (openE 4 no (blkB l j)) _) ?_
   rintro _ W4 ⟨_, rfl, hb4, hv4⟩
   rw [if_neg hs, if_neg hs] at hv4
   have hq4 := hv4
   obtain ⟨bf4, vf4, rfl, _, _⟩ := hq4
   have hB := Bl.next (Bl.next hb1 hb3) hb4
   refine xe 6 (.tuple #[.slice none 0 0, .iface 123 (.pointer (some ⟨bf4, 0, none⟩))]) ?_
   have he : idxErr l no = openE 4 no (blkB l j) := by unfold idxErr; rw [he2, if_neg hs]
   exact .inl ⟨by rw [he]; exact hs, _, rfl, hB, by rw [he]; exact hv4⟩
 have h3'1 := own_mono h3 hb1.size
 have hin : ((blkB l j).drop 8).take 244 = inB l no := (inB_in hk).symm
 have hil := inB_len hI.len hk hj
 rw [hin] at h3'1
 refine xc 21 (args := #[.slice p3 244 c3]) (slots_Read p3 c3 (inB l no) _ hil (bys_of (own_sl h3'1) hil)) ?_
 rintro e W5 hq5
 rcases hq5 with ⟨hz, rfl, hb5⟩ | ⟨hz, p4, c4, rfl, hb5, h4⟩
 · refine xk 14 (show (((idxE (inB l no)) != (0 : Int)) : Bool) = true from bne_iff_ne.2 hz) ?_
   refine xc 6 (args := #[.int .i64 no, .iface 51 (.int .i64 (idxE (inB l no)))]) (block_told no (idxE (inB l no)) _) ?_
   rintro _ W6 ⟨_, rfl, hb6, hv6⟩
   rw [if_neg hz, if_neg hz] at hv6
   have hq6 := hv6
   obtain ⟨bf6, vf6, rfl, _, _⟩ := hq6
   have hB := Bl.next (Bl.next (Bl.next hb1 hb3) hb5) hb6
   refine xe 6 (.tuple #[.slice none 0 0, .iface 123 (.pointer (some ⟨bf6, 0, none⟩))]) ?_
   have he : idxErr l no = idxE (inB l no) := by unfold idxErr; rw [he2, if_pos hs]
   exact .inl ⟨by rw [he]; exact hz, _, rfl, hB, by rw [he]; exact hv6⟩
 have hs5 := (Bl.next hb1 hb3).size
 have hB := Bl.next (Bl.next hb1 hb3) hb5
 have h4'1 := own_mono h4 hs5
 exact xe 25 (.tuple #[.slice p4 (rawN (inB l no) 0 4) c4, .nilIface]) (.inr ⟨by unfold idxErr; rw [he2, if_pos hs, hz], _, _, rfl, hB, h4'1⟩)
set_option maxRecDepth 100000 in
set_option maxHeartbeats 1000000 in
theorem block_Index (B b : Nat) (p : Option Addr) (n c : Nat) (l : List UInt8) (no : Int) (w : World) (hI : ImgR B b p n c l w) :
    Calls Tryz.prog 43 #[.pointer (some ⟨b, 0, none⟩), .int .i64 no] w (BlkIdxP l no w) := by
 refine zin 11 Tryz.func43 ?_
 refine xc 10 (args := #[.pointer (some ⟨b, 0, none⟩), .int .i64 no, .int .i64 4, .func (.func 72) #[] #[]]) (readIdx B b p n c l no _ (hI.below (Below.refl w.heap.size _))) ?_
 rintro e W1 hq1
 rcases hq1 with ⟨he, bf, rfl, hb1, hv⟩ | ⟨he, p4, c4, rfl, hb1, h4⟩
 · exact xe 7 (.tuple #[.slice none 0 0, .iface 123 (.pointer (some ⟨bf, 0, none⟩))]) (.inl ⟨he, _, rfl, hb1, hv⟩)
 have hs1 := Nat.le_refl w.heap.size
 have h4'1 := own_mono h4 hs1
 exact xe 7 (.tuple #[.slice p4 (rawN (inB l no) 0 4) c4, .nilIface]) (.inr ⟨he, _, _, rfl, hb1, h4'1⟩)
end Go.Proofs.YthlakkdgcgkcdaaGreatDoor
namespace Go.Proofs.YthlakkdgcgkcdaaGreatDoor
open Go.RowKit Go.Extern.Stop Go.Stop Go.Extern
set_option linter.unusedVariables false
attribute [local irreducible] wpList wpAnyH Code.wp Oper.wp Go

theorem seal_OpenNb (kind no : Int) (a : Option Addr) (n c : Nat) (l : List UInt8) (w : World) (hn : l.length = n) (h : Bys w (.slice a n c) l) : Calls Tryz.prog 114 #[.slice a n c, .int .i64 kind, .int .i64 no] w (OpenP kind no l w) := by
  subst hn; exact seal_Open kind no a c l w h
theorem bits_ReadN (a : Option Addr) (n c : Nat) (l : List UInt8) (w : World) (hn : l.length = n) (hl : n ≤ 100000000) (h : Bys w (.slice a n c) l) : Calls Tryz.prog 145 #[.slice a n c] w (BitsP l w) := by
  subst hn; exact bits_Read a c l w hl h
def bitsOkB (l : List UInt8) : Bool := decide (l.length = 244) && decide (rawN l 0 4 ≤ 960) && (List.range 960).all fun i => decide (i < rawN l 0 4) || bitN l i == 0
theorem bitsOkB_iff (l : List UInt8) : bitsOkB l = true ↔ bitsOk l := by
  unfold bitsOkB bitsOk
  simp only [Bool.and_eq_true, decide_eq_true_eq, List.all_eq_true, List.mem_range, Bool.or_eq_true, beq_iff_eq]
  constructor
  · rintro ⟨⟨h1, h2⟩, h3⟩
    exact ⟨h1, h2, fun i hi hc => (h3 i hi).resolve_left (by omega)⟩
  · rintro ⟨h1, h2, h3⟩
    exact ⟨⟨h1, h2⟩, fun i hi => by by_cases h : i < rawN l 0 4; exact .inl h; exact .inr (h3 i hi (by omega))⟩
/-- the number of Bits' error -/
def bitsErr (l : List UInt8) (no : Int) : Int := if inE l 3 no = 0 then (if bitsOkB (inB l no) then 0 else 7) else inE l 3 no
def BlkBitsP (l : List UInt8) (no : Int) (w : World) (e : Ending) (w' : World) : Prop :=
  (bitsErr l no ≠ 0 ∧ ∃ b, e = .returned (.tuple #[.slice none 0 0, .iface 123 (.pointer (some ⟨b, 0, none⟩))]) ∧ Below w.heap.size w w' ∧ ErrV w' [some no] (some (bitsErr l no)) (.iface 123 (.pointer (some ⟨b, 0, none⟩)))) ∨
  (bitsErr l no = 0 ∧ ∃ p c, e = .returned (.tuple #[.slice p (rawN (inB l no) 0 4) c, .nilIface]) ∧ Below w.heap.size w w' ∧ w'.ownsRow w.heap.size 3 1 (.slice p (rawN (inB l no) 0 4) c) (rawN (inB l no) 0 4) ((bitsL (inB l no) (rawN (inB l no) 0 4)).map nv))
set_option maxRecDepth 100000 in
set_option maxHeartbeats 1000000 in
theorem readB (B b : Nat) (p : Option Addr) (n c : Nat) (l : List UInt8) (no : Int) (w : World) (hI : ImgR B b p n c l w) :
    Calls Tryz.prog 144 #[.pointer (some ⟨b, 0, none⟩), .int .i64 no, .int .i64 3, .func (.func 145) #[] #[]] w (BlkBitsP l no w) := by
 refine zin 56 Tryz.func144 ?_
 refine xc 15 (args := #[.pointer (some ⟨b, 0, none⟩), .int .i64 no]) (image_Read B b p n c l no _ (hI.below (Below.refl w.heap.size _))) ?_
 rintro e W1 hq1
 rcases hq1 with ⟨ho, vr, rfl, hb1⟩ | ⟨j, hk, hj, p2, c2, rfl, hb1, ho⟩
 · refine xc 21 (args := #[.int .i64 no, .iface 51 (.int .i64 3)]) (block_told no 3 _) ?_
   rintro _ W2 ⟨_, rfl, hb2, hv2⟩
   rw [if_neg (by decide), if_neg (by decide)] at hv2
   have hq2 := hv2
   obtain ⟨bf2, vf2, rfl, _, _⟩ := hq2
   have hB := Bl.next hb1 hb2
   refine xe 6 (.tuple #[.slice none 0 0, .iface 123 (.pointer (some ⟨bf2, 0, none⟩))]) ?_
   have he : bitsErr l no = 3 := by unfold bitsErr; rw [inE_out hI.len ho]; rfl
   exact .inl ⟨by rw [he]; decide, _, rfl, hB, by rw [he]; exact hv2⟩
 have hs1 := Nat.le_refl w.heap.size
 have hj2 : j < l.length / 256 := by rw [hI.len]; exact hj
 have hlj := blkB_len hj2
 have he2 := inE_in (l := l) (kind := 3) hI.len hk hj
 have ho'1 := own_mono ho hs1
 refine xc 22 (args := #[.slice p2 256 c2, .int .i64 3, .int .i64 no]) (seal_OpenNb 3 no p2 256 c2 (blkB l j) _ hlj (bys_of (own_sl ho'1) hlj)) ?_
 rintro e W3 hq3
 rcases hq3 with ⟨hs, rfl, hb3⟩ | ⟨hs, p3, c3, rfl, hb3, h3⟩
 · refine xk 14 (show (((openE 3 no (blkB l j)) != (0 : Int)) : Bool) = true from bne_iff_ne.2 hs) ?_
   refine xc 6 (args := #[.int .i64 no, .iface 51 (.int .i64 (openE 3 no (blkB l j)))]) (block_told no (openE 3 no (blkB l j)) _) ?_
   rintro _ W4 ⟨_, rfl, hb4, hv4⟩
   rw [if_neg hs, if_neg hs] at hv4
   have hq4 := hv4
   obtain ⟨bf4, vf4, rfl, _, _⟩ := hq4
   have hB := Bl.next (Bl.next hb1 hb3) hb4
   refine xe 6 (.tuple #[.slice none 0 0, .iface 123 (.pointer (some ⟨bf4, 0, none⟩))]) ?_
   have he : bitsErr l no = openE 3 no (blkB l j) := by unfold bitsErr; rw [he2, if_neg hs]
   exact .inl ⟨by rw [he]; exact hs, _, rfl, hB, by rw [he]; exact hv4⟩
 have h3'1 := own_mono h3 hb1.size
 have hin : ((blkB l j).drop 8).take 244 = inB l no := (inB_in hk).symm
 have hil := inB_len hI.len hk hj
 rw [hin] at h3'1
 refine xc 21 (args := #[.slice p3 244 c3]) (bits_ReadN p3 244 c3 (inB l no) _ hil (by decide) (bys_of (own_sl h3'1) hil)) ?_
 rintro e W5 hq5
 rcases hq5 with ⟨hb0, rfl, hb5⟩ | ⟨hb0, p4, c4, rfl, hb5, h4⟩
 · refine xc 21 (args := #[.int .i64 no, .iface 51 (.int .i64 7)]) (block_told no 7 _) ?_
   rintro _ W6 ⟨_, rfl, hb6, hv6⟩
   rw [if_neg (by decide), if_neg (by decide)] at hv6
   have hq6 := hv6
   obtain ⟨bf6, vf6, rfl, _, _⟩ := hq6
   have hB := Bl.next (Bl.next (Bl.next hb1 hb3) hb5) hb6
   refine xe 6 (.tuple #[.slice none 0 0, .iface 123 (.pointer (some ⟨bf6, 0, none⟩))]) ?_
   have he : bitsErr l no = 7 := by unfold bitsErr; rw [he2, if_pos hs, if_neg (by rw [bitsOkB_iff]; exact hb0)]
   exact .inl ⟨by rw [he]; decide, _, rfl, hB, by rw [he]; exact hv6⟩
 have hs5 := (Bl.next hb1 hb3).size
 have hB := Bl.next (Bl.next hb1 hb3) hb5
 have h4'1 := own_mono h4 hs5
 exact xe 25 (.tuple #[.slice p4 (rawN (inB l no) 0 4) c4, .nilIface]) (.inr ⟨by unfold bitsErr; rw [he2, if_pos hs, if_pos ((bitsOkB_iff _).2 hb0)], _, _, rfl, hB, h4'1⟩)
set_option maxRecDepth 100000 in
set_option maxHeartbeats 1000000 in
theorem block_Bits (B b : Nat) (p : Option Addr) (n c : Nat) (l : List UInt8) (no : Int) (w : World) (hI : ImgR B b p n c l w) :
    Calls Tryz.prog 94 #[.pointer (some ⟨b, 0, none⟩), .int .i64 no] w (BlkBitsP l no w) := by
 refine zin 11 Tryz.func94 ?_
 refine xc 10 (args := #[.pointer (some ⟨b, 0, none⟩), .int .i64 no, .int .i64 3, .func (.func 145) #[] #[]]) (readB B b p n c l no _ (hI.below (Below.refl w.heap.size _))) ?_
 rintro e W1 hq1
 rcases hq1 with ⟨he, bf, rfl, hb1, hv⟩ | ⟨he, p4, c4, rfl, hb1, h4⟩
 · exact xe 7 (.tuple #[.slice none 0 0, .iface 123 (.pointer (some ⟨bf, 0, none⟩))]) (.inl ⟨he, _, rfl, hb1, hv⟩)
 have hs1 := Nat.le_refl w.heap.size
 have h4'1 := own_mono h4 hs1
 exact xe 7 (.tuple #[.slice p4 (rawN (inB l no) 0 4) c4, .nilIface]) (.inr ⟨he, _, _, rfl, hb1, h4'1⟩)
end Go.Proofs.YthlakkdgcgkcdaaGreatDoor
namespace Go.Proofs.YthlakkdgcgkcdaaGreatDoor
open Go.RowKit Go.Extern.Stop Go.Stop Go.Extern
set_option linter.unusedVariables false
attribute [local irreducible] wpList wpAnyH Code.wp Oper.wp Go

def padI (l : List Int) (n : Nat) : List Int := (List.range 960).map (atI l n)
theorem padI_len (l : List Int) (n : Nat) : (padI l n).length = 960 := by simp [padI]
theorem padI_get (l : List Int) (n : Nat) {k : Nat} (h : k < 960) : (padI l n).getD k 0 = atI l n k := by simp [padI, List.getD, List.getElem?_range h]
theorem padN_zero (l : List Int) (n : Nat) : (List.range n).map (atI l 0) = List.replicate n 0 := by
  apply List.ext_getElem
  · simp
  · intro i h1 h2; simp [atI]
theorem padI_zero (l : List Int) : padI l 0 = List.replicate 960 0 := padN_zero l 960
theorem padN_set {l : List Int} {i n : Nat} (hi : i < n) : (((List.range n).map (atI l i)).map (Value.int .i64)).set i (.int .i64 (l.getD i 0)) = ((List.range n).map (atI l (i + 1))).map (Value.int .i64) := by
  rw [← List.map_set]
  congr 1
  apply List.ext_getElem
  · simp
  · intro k h1 h2
    rw [List.getElem_set]
    simp only [List.getElem_map, List.getElem_range, atI]
    by_cases e : i = k
    · subst e; rw [if_pos rfl, if_pos (by omega)]
    · rw [if_neg e]
      by_cases h3 : k < i
      · rw [if_pos h3, if_pos (by omega)]
      · rw [if_neg h3, if_neg (by omega)]
theorem padI_set {l : List Int} {i : Nat} (hi : i < 960) : ((padI l i).map (Value.int .i64)).set i (.int .i64 (l.getD i 0)) = (padI l (i + 1)).map (Value.int .i64) := padN_set hi
theorem zeros960 : zeros (Value.int .i64 0).cells.toList 960 = (List.replicate 960 (0 : Int)).map (Value.int .i64) := by
  rw [show (Value.int .i64 0).cells.toList = [Value.int .i64 0] from rfl, zeros, List.map_replicate]
  generalize 960 = n
  induction n with
  | zero => rfl
  | succ n ih => rw [List.replicate_succ, List.flatten_cons, ih, List.replicate_succ]; rfl
/-- the bytes of the first k groups of four -/
def grpB (l : List Int) (k : Nat) : List UInt8 := leB l.length 4 ++ (List.range k).map (g4B l l.length)
theorem grpB_succ (l : List Int) (k : Nat) : grpB l (k + 1) = grpB l k ++ [g4B l l.length k] := by simp [grpB, List.range_succ]
theorem g4_u8 {x : Int} (h0 : 0 ≤ x) (h1 : x < 256) : IntKind.u8.wrap x = ((UInt8.ofNat x.toNat).toNat : Int) := by
  rw [UInt8.toNat_ofNat', Nat.mod_eq_of_lt (by omega), IntWalk.u8_in x (by omega)]; omega
set_option maxRecDepth 100000 in
set_option maxHeartbeats 4000000 in
theorem ref09_Put (a : Option Addr) (c : Nat) (l : List Int) (w : World) (hS : Small l) (hl : l.length ≤ 960) (h : Sl w (.slice a l.length c) l.length (l.map (Value.int .i64))) :
    Calls Tryz.prog 153 #[.slice a l.length c] w (RetS (fun w' r => ∃ p c, r = .tuple #[.slice p 244 c, .int .i64 0] ∧ w'.ownsRow w.heap.size 5 1 (.slice p 244 c) 244 ((bitsB l).map bv)) w) := by
 refine zin 74 Tryz.func153 ?_
 refine xk 14 (show (decide ((↑l.length : Int) > (960 : Int)) : Bool) = false from decide_eq_false (by omega)) ?_
 refine xmk 4 fun _ _ _ _ zJ zQ zo zx zy zK => op_make 960 (.int .i64 0) 1 8 ((List.replicate 960 (0 : Int)).map (Value.int .i64)) zo zx zy Tryz.underlying30 (by kernel_rfl) rfl (by omega) (by omega) (zeros960) fun b1 W1 n1 => ?_
 refine zK _ _ ?_
 have o1 := own_of_blk (size := 1) (n := 960) n1.blk (n1.ge (Below.refl w.heap.size _)) (by rw [List.length_map, List.length_replicate]) (by unfold maxLen; omega)
 refine zl 10 74 (fun zm zkv V => ∃ (i : Nat), zkv = [(0, .slice a l.length c), (4, .slice (some ⟨b1, 0, none⟩) 960 960), (5, .int .i64 (↑i : Int))] ∧ zm = l.length - ((↑i : Int)).toNat ∧ Below w.heap.size w V ∧ V.ownsRow w.heap.size 3 1 (.slice (some ⟨b1, 0, none⟩) 960 960) 960 ((padI l i).map (Value.int .i64)) ∧ i ≤ l.length) ⟨0, rfl, rfl, n1.below, (by rw [padI_zero]; exact o1), Nat.zero_le _⟩ ?_
 rintro _ _ W2 ⟨i, rfl, rfl, hB_2, ho, hi⟩ J2 hJ2 r2
 refine xid 9 ((↑i : Int) < (↑l.length : Int)) (fun hc3 => ?_) (fun hc3 => ?_)
 · refine xx 9 _ l.length i 1 (IntsN.elem h rfl (k := i) (by omega)).1 ?_
   refine xl 0 ((IntsN.elem (h.below hB_2) rfl (k := i) (by omega)).2) ?_
   refine xgk 2 [22, 23] (show (decide ((l.getD i 0) < (0 : Int)) : Bool) = false from decide_eq_false (by have := getI_bd hS i; omega)) ?_
   refine xx 2 _ l.length i 1 (IntsN.elem h rfl (k := i) (by omega)).1 ?_
   refine xl 0 ((IntsN.elem (h.below hB_2) rfl (k := i) (by omega)).2) ?_
   refine xk 4 (show (decide ((l.getD i 0) > (3 : Int)) : Bool) = false from decide_eq_false (by have := getI_bd hS i; omega)) ?_
   refine xx 7 _ l.length i 1 (IntsN.elem h rfl (k := i) (by omega)).1 ?_
   refine xl 0 ((IntsN.elem (h.below hB_2) rfl (k := i) (by omega)).2) ?_
   refine xx 0 _ 960 i 1 (show (some (⟨b1, 0, none⟩ : Addr)).isSome = true from rfl) ?_
   refine xst 0 fun _ _ _ _ zJ zQ zo zx zy zK => op_storeRow (t := 3) (k := i) (v := .int .i64 (l.getD i 0)) zo zx zy (by kernel_rfl) rfl ho (by omega) fun W5 u5 o5 => ?_
   rw [padI_set (l := l) (i := i) (by omega)] at o5
   refine zK _ _ ?_
   refine xwm 5 ((↑i : Int) + 1) (↑(i + 1) : Int) ?_
   have hB'1 := u5.below hB_2 (own_ge ho)
   exact ze 2 (hJ2 _ _ _ ⟨i + 1, rfl, rfl, hB'1, o5, by omega⟩ (by omega))
 refine xc 9 (args := #[.int .i64 (↑l.length : Int), .int .i64 4]) (ref_BytesN (↑l.length : Int) 4 4 _ (Int.natCast_nonneg _) (by omega) rfl (by decide)) ?_
 rintro _ W6 ⟨_, rfl, hb6, p4, c4, rfl, h4⟩
 have hin : i = l.length := by omega
 have ho'1 := own_below ho hb6
 have h4'1 := own_mono h4 hB_2.size
 have hB'2 := Bl.next hB_2 hb6
 refine zl 10 74 (fun zm zkv V => ∃ (k m : Nat) (q : Option Addr) (d : Nat), zkv = [(4, .slice (some ⟨b1, 0, none⟩) 960 960), (6, .slice q m d), (7, .int .i64 (↑(4 * k) : Int))] ∧ zm = 960 - ((↑(4 * k) : Int)).toNat ∧ Below w.heap.size w V ∧ V.ownsRow w.heap.size 3 1 (.slice (some ⟨b1, 0, none⟩) 960 960) 960 ((padI l l.length).map (Value.int .i64)) ∧ V.ownsRow w.heap.size 5 1 (.slice q m d) m ((grpB l k).map bv) ∧ k ≤ 240 ∧ m = 4 + k) ⟨0, 4, _, _, rfl, rfl, hB'2, (by rw [← hin]; exact ho'1), (by simpa [grpB] using h4'1), Nat.zero_le _, rfl⟩ ?_
 rintro _ _ W7 ⟨k, m, q, d, rfl, rfl, hB_7, hq, hr, hk, hm⟩ J7 hJ7 r7
 have hp : ∀ j, j < 960 → (padI l l.length).getD j 0 = atI l l.length j := fun j hj => padI_get l _ hj
 have hb0 := atI_bd hS l.length (4 * k)
 have hb1 := atI_bd hS l.length (4 * k + 1)
 have hb2 := atI_bd hS l.length (4 * k + 2)
 have hb3 := atI_bd hS l.length (4 * k + 3)
 have h9 : k < 240 → (padI l l.length).getD (4 * k) 0 = atI l l.length (4 * k) ∧ (padI l l.length).getD (4 * k + 1) 0 = atI l l.length (4 * k + 1) ∧ (padI l l.length).getD (4 * k + 2) 0 = atI l l.length (4 * k + 2) ∧ (padI l l.length).getD (4 * k + 3) 0 = atI l l.length (4 * k + 3) := fun q => ⟨hp _ (by omega), hp _ (by omega), hp _ (by omega), hp _ (by omega)⟩
 refine xid 7 ((↑(4 * k) : Int) < (960 : Int)) (fun hc8 => ?_) (fun hc8 => ?_)
 · refine xd 4 (.t w.heap.size [5]) ?_
   refine xx (.e [0, 1, 2] 3) _ 960 (4 * k) 1 (show (some (⟨b1, 0, none⟩ : Addr)).isSome = true from rfl) ?_
   have hq'1 := own_below hq (below_drew W7)
   refine xlt (.e [] 4) (.t w.heap.size [5]) (fun V hV => (IntsN.elem (own_sl (own_only hq'1 hV.2 (by decide))) (padI_len l l.length) (k := (4 * k)) (by omega)).2) ?_
   refine xwm (.e [5, 6] 7) ((↑(4 * k) : Int) + 1) (↑((4 * k) + 1) : Int) ?_
   refine xx (.e [] 8) _ 960 ((4 * k) + 1) 1 (show (some (⟨b1, 0, none⟩ : Addr)).isSome = true from rfl) ?_
   refine xlt (.e [] 9) (.t w.heap.size [5]) (fun V hV => (IntsN.elem (own_sl (own_only hq'1 hV.2 (by decide))) (padI_len l l.length) (k := ((4 * k) + 1)) (by omega)).2) ?_
   refine xw (.e [] 10) (4 * ((padI l l.length).getD ((4 * k) + 1) 0)) ?_
   refine xw (.e [] 11) (((padI l l.length).getD (4 * k) 0) + (4 * ((padI l l.length).getD ((4 * k) + 1) 0))) ?_
   refine xwm (.e [12, 13] 14) ((↑(4 * k) : Int) + 2) (↑((4 * k) + 2) : Int) ?_
   refine xx (.e [] 15) _ 960 ((4 * k) + 2) 1 (show (some (⟨b1, 0, none⟩ : Addr)).isSome = true from rfl) ?_
   refine xlt (.e [] 16) (.t w.heap.size [5]) (fun V hV => (IntsN.elem (own_sl (own_only hq'1 hV.2 (by decide))) (padI_len l l.length) (k := ((4 * k) + 2)) (by omega)).2) ?_
   refine xw (.e [] 17) (16 * ((padI l l.length).getD ((4 * k) + 2) 0)) ?_
   refine xw (.e [] 18) (((padI l l.length).getD (4 * k) 0) + (4 * ((padI l l.length).getD ((4 * k) + 1) 0)) + (16 * ((padI l l.length).getD ((4 * k) + 2) 0))) ?_
   refine xwm (.e [19, 20] 21) ((↑(4 * k) : Int) + 3) (↑((4 * k) + 3) : Int) ?_
   refine xx (.e [] 22) _ 960 ((4 * k) + 3) 1 (show (some (⟨b1, 0, none⟩ : Addr)).isSome = true from rfl) ?_
   refine xlt (.e [] 23) (.t w.heap.size [5]) (fun V hV => (IntsN.elem (own_sl (own_only hq'1 hV.2 (by decide))) (padI_len l l.length) (k := ((4 * k) + 3)) (by omega)).2) ?_
   refine xw (.e [] 24) (64 * ((padI l l.length).getD ((4 * k) + 3) 0)) ?_
   refine xw (.e [] 25) (((padI l l.length).getD (4 * k) 0) + (4 * ((padI l l.length).getD ((4 * k) + 1) 0)) + (16 * ((padI l l.length).getD ((4 * k) + 2) 0)) + (64 * ((padI l l.length).getD ((4 * k) + 3) 0))) ?_
   refine xq (.e [] 26) (congrArg (Value.int .u8) (show (IntKind.u8.wrap (((padI l l.length).getD (4 * k) 0) + (4 * ((padI l l.length).getD ((4 * k) + 1) 0)) + (16 * ((padI l l.length).getD ((4 * k) + 2) 0)) + (64 * ((padI l l.length).getD ((4 * k) + 3) 0))) : Int) = (↑(g4B l l.length k).toNat : Int) from by obtain ⟨q0, q1, q2, q3⟩ := h9 (by omega); rw [q0, q1, q2, q3]; exact g4_u8 (by omega) (by omega))) ?_
   refine xbs (.o [] 27) 1 [.int .u8 (↑(g4B l l.length k).toNat : Int)] 5 fun b9 W9 n9 => ?_
   have hB'3 := Bl.next hB_7 (below_drew W7)
   have g9 := n9.ge hB'3
   have hr'1 := own_below hr (below_drew W7)
   have r9_hr := own_ne hr'1 n9
   have hr'2 := own_below hr'1 n9.below
   have hB'4 := Bl.next hB'3 n9.below
   refine ybi (.o [] 28) (.t w.heap.size [5]) fun _ _ _ _ zJ zQ zo zx zy zK => op_app (m := 1) (news := [.int .u8 (↑(g4B l l.length k).toNat : Int)]) (.int .u8 0) 1 1 (m + 1) (((grpB l (k + 1)).map bv)) zo Tryz.underlying22 (by kernel_rfl) rfl (by decide) zx hr'2 zy (n9.blk.sl 1 1 (by decide) (by decide)) rfl (by simp [Value.oneCell']) (by unfold maxLen; omega) (by omega) hB'4.size (by rfl) (by rw [grpB_succ, List.map_append]; rfl) fun px10 cx10 W10 o10 hg10 hb10 => ?_
   refine zK _ _ (sft_grown hb10 hg10 hr'2 (by decide)) ?_
   refine xwm (.r [29] 5) ((↑(4 * k) : Int) + 4) (↑((4 * k) + 4) : Int) ?_
   refine xv1 2 7 (show (.int .i64 (↑((4 * k) + 4) : Int) : Value) = .int .i64 (↑(4 * (k + 1)) : Int) from by congr 1) ?_
   have hB'5 := hB'4.trans hb10
   have hq'2 := own_grown (own_below hq'1 n9.below) hg10 hr'2 (by decide)
   exact ze 0 (hJ7 _ _ _ ⟨k + 1, m + 1, _, _, rfl, rfl, hB'5, hq'2, o10, by omega, by omega⟩ (by omega))
 refine xe 13 (.tuple #[.slice q m d, .int .i64 0]) ?_
 obtain rfl : k = 240 := by omega
 subst hm
 exact ⟨_, rfl, hB_7, _, _, rfl, hr⟩
end Go.Proofs.YthlakkdgcgkcdaaGreatDoor
namespace Go.Proofs.YthlakkdgcgkcdaaGreatDoor
open Go.RowKit Go.Extern.Stop Go.Stop Go.Extern
set_option linter.unusedVariables false
attribute [local irreducible] wpList wpAnyH Code.wp Oper.wp Go

def bitI (l : List UInt8) (n : Nat) : List Int := (bitsL l n).map fun x : Nat => (x : Int)
theorem bitI_len (l : List UInt8) (n : Nat) : (bitI l n).length = n := by simp [bitI, bitsL]
theorem bitI_get (l : List UInt8) {n i : Nat} (h : i < n) : (bitI l n).getD i 0 = (bitN l i : Int) := by simp [bitI, bitsL, List.getD, List.getElem?_range h]
theorem bitN_lt (l : List UInt8) (i : Nat) : bitN l i < 4 := Nat.mod_lt _ (by decide)
theorem bitI_small (l : List UInt8) (n : Nat) : Small (bitI l n) := by
  intro x hx
  obtain ⟨y, hy, rfl⟩ := List.mem_map.1 hx
  obtain ⟨i, _, rfl⟩ := List.mem_map.1 hy
  have := bitN_lt l i
  omega
theorem bitN_at (l : List UInt8) (j r : Nat) (hr : r < 4) : bitN l (4 * j + r) = (l.getD (4 + j) 0).toNat / 2 ^ (r * 2) % 4 := by
  unfold bitN
  rw [show (4 * j + r) / 4 = j by omega, show (4 * j + r) % 4 = r by omega]
theorem bitsT_get (L : List Int) (n : Nat) {j : Nat} (hj : j < 240) : (bitsT L n).getD (4 + j) 0 = g4B L n j := by
  unfold bitsT
  simp only [List.getD]
  rw [List.getElem?_append_right (by rw [leB_len]; omega), leB_len, Nat.add_sub_cancel_left]
  simp [List.getElem?_range hj]
theorem atI_bit (l : List UInt8) (n i : Nat) : atI (bitI l n) n i = if i < n then (bitN l i : Int) else 0 := by
  unfold atI
  by_cases h : i < n
  · rw [if_pos h, if_pos h, bitI_get l h]
  · rw [if_neg h, if_neg h]
theorem g4B_nat {L : List Int} (h : Small L) (n j : Nat) : ((g4B L n j).toNat : Int) = g4 L n j := by
  have b0 := atI_bd h n (4 * j)
  have b1 := atI_bd h n (4 * j + 1)
  have b2 := atI_bd h n (4 * j + 2)
  have b3 := atI_bd h n (4 * j + 3)
  unfold g4B
  rw [UInt8.toNat_ofNat', Nat.mod_eq_of_lt (by unfold g4; omega)]
  unfold g4; omega
/-- counts that were read are put as the bytes they were read from, just when these are a block of counts -/
theorem bits_back {l : List UInt8} (hl : l.length = 244) (hn : rawN l 0 4 ≤ 960) : (bitsB (bitI l (rawN l 0 4)) == l) = bitsOkB l := by
  generalize hnn : rawN l 0 4 = n at *
  have hS := bitI_small l n
  have hLl := bitI_len l n
  have hbl : (bitsB (bitI l n)).length = 244 := bitsT_len _ _
  have hx : ∀ j, (l.getD (4 + j) 0).toNat < 256 := fun j => (l.getD (4 + j) 0).toNat_lt
  have hg : ∀ j, j < 240 → (bitsB (bitI l n)).getD (4 + j) 0 = g4B (bitI l n) n j := fun j hj => by unfold bitsB; rw [hLl, bitsT_get _ _ hj]
  have hsum : ∀ j, g4 (bitI l n) n j = atI (bitI l n) n (4 * j) + 4 * atI (bitI l n) n (4 * j + 1) + 16 * atI (bitI l n) n (4 * j + 2) + 64 * atI (bitI l n) n (4 * j + 3) := fun _ => rfl
  have hdig : ∀ j r, r < 4 → bitN l (4 * j + r) = (l.getD (4 + j) 0).toNat / 2 ^ (r * 2) % 4 := fun j r hr => bitN_at l j r hr
  rw [Bool.eq_iff_iff, beq_iff_eq, bitsOkB_iff]
  constructor
  · intro h
    refine ⟨hl, by omega, fun i hi hc => ?_⟩
    rw [hnn] at hc
    obtain ⟨j, r, rfl, hr⟩ : ∃ j r, i = 4 * j + r ∧ r < 4 := ⟨i / 4, i % 4, by omega, by omega⟩
    have e1 : (g4B (bitI l n) n j).toNat = (l.getD (4 + j) 0).toNat := by rw [← hg j (by omega), h]
    have e2 := g4B_nat hS n j
    rw [e1, hsum] at e2
    rw [hdig j r hr]
    have a0 := atI_bd hS n (4 * j)
    have a1 := atI_bd hS n (4 * j + 1)
    have a2 := atI_bd hS n (4 * j + 2)
    have a3 := atI_bd hS n (4 * j + 3)
    have c : ∀ q, n ≤ 4 * j + q → atI (bitI l n) n (4 * j + q) = 0 := fun q hq => by rw [atI_bit, if_neg (by omega)]
    obtain rfl | rfl | rfl | rfl : r = 0 ∨ r = 1 ∨ r = 2 ∨ r = 3 := by omega
    · have z0 := c 0 hc
      rw [Nat.add_zero] at z0
      simp only [Nat.zero_mul, Nat.reducePow, Nat.div_one]; omega
    · have z0 := c 1 hc
      simp only [Nat.one_mul, Nat.reducePow]; omega
    · have z0 := c 2 hc
      simp only [Nat.reduceMul, Nat.reducePow]; omega
    · have z0 := c 3 hc
      simp only [Nat.reduceMul, Nat.reducePow]; omega
  · rintro ⟨_, _, h0⟩
    rw [hnn] at h0
    have hat : ∀ i, i < 960 → atI (bitI l n) n i = (bitN l i : Int) := fun i hi => by
      rw [atI_bit]
      by_cases q : i < n
      · rw [if_pos q]
      · rw [if_neg q, h0 i hi (by omega)]; rfl
    apply ext_getD (by rw [hbl, hl])
    intro i hi
    rw [hbl] at hi
    by_cases h4 : i < 4
    · have e := leB_raw (l := l) (k := 0) (w := 4) (by omega)
      rw [hnn, List.drop_zero] at e
      unfold bitsB bitsT
      rw [hLl, e]
      simp only [List.getD]
      rw [List.getElem?_append_left (by simp; omega), List.getElem?_take, if_pos h4]
    · obtain ⟨j, rfl⟩ : ∃ j, i = 4 + j := ⟨i - 4, by omega⟩
      rw [hg j (by omega)]
      apply UInt8.toNat_inj.1
      have e2 := g4B_nat hS n j
      rw [hsum, hat _ (by omega), hat _ (by omega), hat _ (by omega), hat _ (by omega)] at e2
      have d0 := hdig j 0 (by decide)
      have d1 := hdig j 1 (by decide)
      have d2 := hdig j 2 (by decide)
      have d3 := hdig j 3 (by decide)
      simp only [Nat.zero_mul, Nat.one_mul, Nat.reduceMul, Nat.reducePow, Nat.add_zero, Nat.div_one] at d0 d1 d2 d3
      have := hx j
      omega
theorem bitI_snoc (l : List UInt8) (n : Nat) : bitI l (n + 1) = bitI l n ++ [(bitN l n : Int)] := by unfold bitI; rw [bitsL_snoc, List.map_append]; rfl
theorem bitN4 (l : List UInt8) (i : Nat) : (l.getD (4 + i / 4) 0).toNat / 4 ^ (i % 4) % 4 = bitN l i := by
  unfold bitN
  rw [Nat.mul_comm (i % 4) 2, Nat.pow_mul]
def RBitsP (l : List UInt8) (w : World) (e : Ending) (w' : World) : Prop :=
  (bitsOkB l = false ∧ e = .returned (.tuple #[.slice none 0 0, .int .i64 7]) ∧ Below w.heap.size w w') ∨
  (bitsOkB l = true ∧ ∃ p c, e = .returned (.tuple #[.slice p (rawN l 0 4) c, .int .i64 0]) ∧ Below w.heap.size w w' ∧ w'.ownsRow w.heap.size 3 1 (.slice p (rawN l 0 4) c) (rawN l 0 4) ((bitI l (rawN l 0 4)).map (Value.int .i64)))
theorem ref09_PutN (a : Option Addr) (n c : Nat) (l : List Int) (w : World) (hn : l.length = n) (hS : Small l) (hl : n ≤ 960) (h : Sl w (.slice a n c) n (l.map (Value.int .i64))) : Calls Tryz.prog 153 #[.slice a n c] w (RetS (fun w' r => ∃ p c, r = .tuple #[.slice p 244 c, .int .i64 0] ∧ w'.ownsRow w.heap.size 5 1 (.slice p 244 c) 244 ((bitsB l).map bv)) w) := by
  subst hn; exact ref09_Put a c l w hS hl h
set_option maxRecDepth 100000 in
set_option maxHeartbeats 4000000 in
theorem ref09_Read (a : Option Addr) (c : Nat) (l : List UInt8) (w : World) (hl : l.length = 244) (h : Bys w (.slice a 244 c) l) :
    Calls Tryz.prog 104 #[.slice a 244 c] w (RBitsP l w) := by
 have hcap := Bys.cap h hl
 refine zin 58 Tryz.func104 ?_
 refine xr 20 (args := #[.slice a 244 c, .int .i64 0, .int .i64 4]) (ref_GetN a 244 c 0 4 0 4 l _ hl rfl rfl (by decide) (by decide) (by decide) (h.below (Below.refl w.heap.size _))) fun W1 hb1 => ?_
 refine xid 14 ((↑(rawN l 0 4) : Int) > (960 : Int)) (fun hc2 => ?_) (fun hc2 => ?_)
 · exact xe 8 (.tuple #[.slice none 0 0, .int .i64 7]) (.inl ⟨by rw [← Bool.not_eq_true, bitsOkB_iff]; intro q; have := q.2.1; omega, rfl, hb1⟩)
 refine zl 14 58 (fun zm zkv V => ∃ (i : Nat) (p : Option Addr) (c2 : Nat), zkv = [(0, .slice a 244 c), (2, .slice none 0 0), (3, .int .i64 0), (4, .int .i64 (↑(rawN l 0 4) : Int)), (6, .slice p i c2), (7, .int .i64 (↑i : Int))] ∧ zm = rawN l 0 4 - ((↑i : Int)).toNat ∧ Below w.heap.size w V ∧ V.ownsRow w.heap.size 3 1 (.slice p i c2) i ((bitI l i).map (Value.int .i64)) ∧ i ≤ rawN l 0 4) ⟨0, _, _, rfl, rfl, hb1, World.ownsRow_nil _ _ _ _, Nat.zero_le _⟩ ?_
 rintro _ _ W3 ⟨i, p, c2, rfl, rfl, hB_3, ho, hi⟩ J3 hJ3 r3
 refine xid 8 ((↑i : Int) < (↑(rawN l 0 4) : Int)) (fun hc4 => ?_) (fun hc4 => ?_)
 · refine xq 8 (congrArg (Value.int .i64) (show (IntKind.i64.wrap (Int.tdiv (↑i : Int) 4) : Int) = (↑(i / 4) : Int) from quo_natB i 4 (by omega) (by decide))) ?_
   refine xwm 0 (4 + (↑(i / 4) : Int)) (↑(4 + (i / 4)) : Int) ?_
   refine xx 0 _ 244 (4 + (i / 4)) 1 (BysM.elem h hl (k := (4 + (i / 4))) (by omega)).1 ?_
   refine xl 0 ((BysM.elem (h.below hB_3) hl (k := (4 + (i / 4))) (by omega)).2) ?_
   refine xq 0 (congrArg (Value.int .i64) (show (IntKind.i64.wrap (↑(l.getD (4 + (i / 4)) 0).toNat : Int) : Int) = (↑(l.getD (4 + (i / 4)) 0).toNat : Int) from i64_nat (by have := (l.getD (4 + i / 4) 0).toNat_lt; omega))) ?_
   refine xv1 10 8 (show (.int .i64 (↑(l.getD (4 + (i / 4)) 0).toNat : Int) : Value) = .int .i64 (↑((l.getD (4 + (i / 4)) 0).toNat / 4 ^ 0 : Nat) : Int) from by rw [Nat.pow_zero, Nat.div_one]) ?_
   refine zl 0 58 (fun zm zkv V => ∃ (k : Nat), zkv = [(0, .slice a 244 c), (2, .slice none 0 0), (3, .int .i64 0), (4, .int .i64 (↑(rawN l 0 4) : Int)), (6, .slice p i c2), (7, .int .i64 (↑i : Int)), (8, .int .i64 (↑((l.getD (4 + (i / 4)) 0).toNat / 4 ^ k : Nat) : Int)), (9, .int .i64 (↑k : Int))] ∧ zm = i % 4 - ((↑k : Int)).toNat ∧ Below w.heap.size w V ∧ V.ownsRow w.heap.size 3 1 (.slice p i c2) i ((bitI l i).map (Value.int .i64)) ∧ k ≤ i % 4) ⟨0, rfl, rfl, hB_3, ho, Nat.zero_le _⟩ ?_
   rintro _ _ W5 ⟨k, rfl, rfl, hB_5, ho_5, hk⟩ J5 hJ5 r5
   refine xq 5 (congrArg (Value.int .i64) (show (Int.tmod (↑i : Int) 4 : Int) = (↑(i % 4) : Int) from tmod_natB i 4)) ?_
   refine xid 3 ((↑k : Int) < (↑(i % 4) : Int)) (fun hc6 => ?_) (fun hc6 => ?_)
   · refine xq 6 (congrArg (Value.int .i64) (show (IntKind.i64.wrap (Int.tdiv (↑((l.getD (4 + (i / 4)) 0).toNat / 4 ^ k : Nat) : Int) 4) : Int) = (↑(((l.getD (4 + (i / 4)) 0).toNat / 4 ^ k : Nat) / 4) : Int) from quo_natB ((l.getD (4 + (i / 4)) 0).toNat / 4 ^ k : Nat) 4 (Nat.lt_of_le_of_lt (Nat.div_le_self _ _) (Nat.lt_trans (l.getD (4 + i / 4) 0).toNat_lt (by decide))) (by decide))) ?_
     refine xwm 6 ((↑k : Int) + 1) (↑(k + 1) : Int) ?_
     refine xv1 2 8 (show (.int .i64 (↑(((l.getD (4 + (i / 4)) 0).toNat / 4 ^ k : Nat) / 4) : Int) : Value) = .int .i64 (↑((l.getD (4 + (i / 4)) 0).toNat / 4 ^ (k + 1) : Nat) : Int) from by rw [Nat.pow_succ, ← Nat.div_div_eq_div_mul]) ?_
     exact ze 0 (hJ5 _ _ _ ⟨k + 1, rfl, rfl, hB_5, ho_5, by omega⟩ (by omega))
   refine xq 8 (congrArg (Value.int .i64) (show (Int.tmod (↑((l.getD (4 + (i / 4)) 0).toNat / 4 ^ k : Nat) : Int) 4 : Int) = (↑(((l.getD (4 + (i / 4)) 0).toNat / 4 ^ k : Nat) % 4) : Int) from tmod_natB ((l.getD (4 + (i / 4)) 0).toNat / 4 ^ k : Nat) 4)) ?_
   refine xbs 0 1 [.int .i64 (↑(((l.getD (4 + (i / 4)) 0).toNat / 4 ^ k : Nat) % 4) : Int)] 3 fun b7 W7 n7 => ?_
   have g7 := n7.ge hB_5
   have r7_ho := own_ne ho_5 n7
   have ho'1 := own_below ho_5 n7.below
   have hB'1 := Bl.next hB_5 n7.below
   refine xbi 0 fun _ _ _ _ zJ zQ zo zx zy zK => op_app (m := 1) (news := [.int .i64 (↑(((l.getD (4 + (i / 4)) 0).toNat / 4 ^ k : Nat) % 4) : Int)]) (.int .i64 0) 1 8 (i + 1) (((bitI l (i + 1)).map (Value.int .i64))) zo Tryz.underlying30 (by kernel_rfl) rfl (by decide) zx ho'1 zy (n7.blk.sl 1 1 (by decide) (by decide)) rfl (by simp [Value.oneCell']) (by unfold maxLen; omega) (by omega) hB'1.size (by rfl) (by rw [bitI_snoc, List.map_append, show k = i % 4 by omega, bitN4]; rfl) fun px8 cx8 W8 o8 hg8 hb8 => ?_
   refine zK _ _ ?_
   refine xwm 6 ((↑i : Int) + 1) (↑(i + 1) : Int) ?_
   have hB'2 := hB'1.trans hb8
   exact ze 2 (hJ3 _ _ _ ⟨i + 1, _, _, rfl, rfl, hB'2, o8, by omega⟩ (by omega))
 refine xc 8 (args := #[.slice p i c2]) (ref09_PutN p i c2 (bitI l i) _ (bitI_len _ _) (bitI_small _ _) (by omega) (own_sl ho)) ?_
 rintro _ W9 ⟨_, rfl, hb9, p4, c4, rfl, h4⟩
 have h4'1 := own_mono h4 hB_3.size
 refine xcv0 11 (fun _ _ _ zo zx => run_bstr zo zx (bys_of (own_sl h4'1) (bitsT_len _ _)) (bitsT_len _ _) Tryz.underlying22 Tryz.underlying5 Tryz.underlying9) ?_
 have hB'3 := Bl.next hB_3 hb9
 refine xcv0 1 (fun _ _ _ zo zx => run_bstr zo zx (h.below hB'3) hl Tryz.underlying22 Tryz.underlying5 Tryz.underlying9) ?_
 refine xi 3 (!((⟨(bitsB (bitI l i)).toArray⟩ : ByteArray).toList == (⟨l.toArray⟩ : ByteArray).toList)) (fun hc10 => ?_) (fun hc10 => ?_)
 · have hok : bitsOkB l = false := by rw [← bits_back hl (by omega), ← show i = rawN l 0 4 by omega, ← str_beq]; exact not_t hc10
   exact xe 8 (.tuple #[.slice none 0 0, .int .i64 7]) (.inl ⟨hok, rfl, hB'3⟩)
 have hok : bitsOkB l = true := by rw [← bits_back hl (by omega), ← show i = rawN l 0 4 by omega, ← str_beq]; exact not_f hc10
 have ho'2 := own_below ho hb9
 refine xe 10 (.tuple #[.slice p i c2, .int .i64 0]) ?_
 obtain rfl : i = rawN l 0 4 := by omega
 exact .inr ⟨hok, _, _, rfl, hB'3, ho'2⟩
end Go.Proofs.YthlakkdgcgkcdaaGreatDoor
namespace Go.Proofs.YthlakkdgcgkcdaaGreatDoor
open Go.RowKit Go.Extern.Stop Go.Stop Go.Extern
set_option linter.unusedVariables false
attribute [local irreducible] wpList wpAnyH Code.wp Oper.wp Go

/-- what a superblock tells -/
structure Sup where
  tx : Int
  time : Int
  unit : Int
  data : Int
  blocks : Int
  top : Int
  details : Int
  dslots : Int
  dover : Int
  mindex : Int
  mover : Int
def supC (s : Sup) : List Value := [.int .i64 s.tx, .int .i64 s.time, .int .i64 s.unit, .int .i64 s.data, .int .i64 s.blocks, .int .i64 s.top, .int .i64 s.details, .int .i64 s.dslots, .int .i64 s.dover, .int .i64 s.mindex, .int .i64 s.mover]
end Go.Proofs.YthlakkdgcgkcdaaGreatDoor
namespace Go.Proofs.YthlakkdgcgkcdaaGreatDoor
open Go.RowKit
set_option linter.unusedVariables false
theorem run_cat {P : Program} {a : Act} {o : Oper} {t t2 : TypeId} {x y : Operand} {l m : List UInt8} (ho : o.op = .binOp .add t x y t2) (hx : a.eval x = .string ⟨l.toArray⟩) (hy : a.eval y = .string ⟨m.toArray⟩) (hl : l.length + m.length ≤ 1000000) (w : World) : (execOp a.eval o).run P w = .ok (.value (.string ⟨(l ++ m).toArray⟩)) w := by
  have e : (⟨l.toArray⟩ : ByteArray) ++ ⟨m.toArray⟩ = ⟨(l ++ m).toArray⟩ := by
    apply ByteArray.ext
    simp
  have g : binOp .add t (.string ⟨l.toArray⟩) (.string ⟨m.toArray⟩) = pure (.string ((⟨l.toArray⟩ : ByteArray) ++ ⟨m.toArray⟩)) := by
    have h : ¬ (9223372036854775807 : Int) < ((⟨l.toArray⟩ : ByteArray).size : Int) + ((⟨m.toArray⟩ : ByteArray).size : Int) := by simp [ByteArray.size]; omega
    simp [binOp, Op.stringOp]
    intro q; exact absurd q h
  have q : eqGuard .add t x y (.string ⟨l.toArray⟩ : Value) (.string ⟨m.toArray⟩ : Value) = pure () := rfl
  simp only [execOp, ho, hx, hy, g, e, q]
  simp
end Go.Proofs.YthlakkdgcgkcdaaGreatDoor
namespace Go.Proofs.YthlakkdgcgkcdaaGreatDoor
open Go.RowKit Go.Extern.Stop Go.Stop Go.Extern
set_option linter.unusedVariables false
attribute [local irreducible] wpList wpAnyH Code.wp Oper.wp Go

set_option maxRecDepth 100000 in
set_option maxHeartbeats 1000000 in
theorem ref08_inT (n lo hi : Int) (w : World) :
    Calls Tryz.prog 102 #[.int .i64 n, .int .i64 lo, .int .i64 hi] w (Ret (.bool (decide (lo ≤ n ∧ n ≤ hi))) w) := by
 refine zin 15 Tryz.func102 ?_
 refine xg 11 [9, 10] (decide (n ≥ lo)) (fun hc1 => ?_) (fun hc1 => ?_)
 · have hc1 := of_decide_eq_true hc1
   exact xe 8 (.bool (decide (n ≤ hi))) ⟨by rw [show decide (lo ≤ n ∧ n ≤ hi) = decide (n ≤ hi) from by simp; omega], (Below.refl w.heap.size _)⟩
 have hc1 := of_decide_eq_false hc1
 exact xe 8 (.bool false) ⟨by rw [show decide (lo ≤ n ∧ n ≤ hi) = false from decide_eq_false (by omega)], (Below.refl w.heap.size _)⟩
def txtL (N : List Int) (ws : List Nat) (k : Nat) : List UInt8 := (List.range k).flatMap fun i => leB (N.getD i 0) (ws.getD i 0)
theorem txtL_succ (N : List Int) (ws : List Nat) (k : Nat) : txtL N ws (k + 1) = txtL N ws k ++ leB (N.getD k 0) (ws.getD k 0) := by simp [txtL, List.range_succ]
/-- numbers that may be told, in so many bytes each -/
def TxtOk (N : List Int) (ws : List Nat) : Prop := N.length ≤ 100 ∧ ws.length = N.length ∧ ∀ i, i < N.length → 0 ≤ N.getD i 0 ∧ N.getD i 0 < 9223372036854775808 ∧ ws.getD i 0 ≤ 8
theorem txtL_len {N : List Int} {ws : List Nat} (h : TxtOk N ws) : ∀ k, k ≤ N.length → (txtL N ws k).length ≤ k * 8
  | 0, _ => Nat.zero_le _
  | k + 1, hk => by
    rw [txtL_succ, List.length_append, leB_len]
    have := txtL_len h k (by omega)
    have := (h.2.2 k (by omega)).2.2
    omega
set_option maxRecDepth 100000 in
set_option maxHeartbeats 1000000 in
theorem ref08_textG (N : List Int) (ws : List Nat) (gn gw : Option Addr) (cn cw : Nat) (w : World) (hok : TxtOk N ws) (hN : Sl w (.slice gn N.length cn) N.length (N.map (Value.int .i64))) (hW : Sl w (.slice gw N.length cw) N.length (ws.map nv)) :
    Calls Tryz.prog 103 #[.slice gn N.length cn, .slice gw N.length cw] w (Ret (.string ⟨(txtL N ws N.length).toArray⟩) w) := by
 have hnl := hok.1
 have hwl := hok.2.1
 refine zin 26 Tryz.func103 ?_
 have hB := Below.refl w.heap.size w
 refine zl 17 26 (fun zm zkv V => ∃ (i : Nat), zkv = [(0, .slice gn N.length cn), (1, .slice gw N.length cw), (4, .string ⟨#[]⟩), (5, .string ⟨(txtL N ws i).toArray⟩), (6, .int .i64 (↑i : Int))] ∧ zm = N.length - ((↑i : Int)).toNat ∧ Below w.heap.size w V ∧ i ≤ N.length) ⟨0, rfl, rfl, hB, Nat.zero_le _⟩ ?_
 rintro _ _ W1 ⟨i, rfl, rfl, hB_1, hi⟩ J1 hJ1 r1
 have htl := txtL_len hok i hi
 have hw8 : i < N.length → ws.getD i 0 ≤ 8 := fun q => (hok.2.2 i q).2.2
 refine xid 9 ((↑i : Int) < (↑N.length : Int)) (fun hc2 => ?_) (fun hc2 => ?_)
 · refine xd 4 .z ?_
   refine xx (.e [0, 1, 2] 3) _ N.length i 1 (IntsN.elem hN rfl (k := i) (by omega)).1 ?_
   have hB'1 := Bl.next hB_1 (below_drew W1)
   refine xl (.e [] 4) ((IntsN.elem (hN.below hB'1) rfl (k := i) (by omega)).2) ?_
   refine xx (.e [5, 6] 7) _ N.length i 1 (nv_elem hW hwl (k := i) (by omega)).1 ?_
   refine xl (.e [] 8) ((nv_elem (hW.below hB'1) hwl (k := i) (by omega)).2) ?_
   refine yc (.o [] 9) (args := #[.int .i64 (N.getD i 0), .int .i64 (↑(ws.getD i 0) : Int)]) .z (ref_BytesN (N.getD i 0) (ws.getD i 0) (↑(ws.getD i 0) : Int) _ (hok.2.2 i (by omega)).1 (hok.2.2 i (by omega)).2.1 rfl (hok.2.2 i (by omega)).2.2) ?_
   rintro _ W3 ⟨_, rfl, hb3, p2, c2, rfl, h2⟩
   refine ⟨hb3, ?_⟩
   have h2'1 := own_mono h2 hB'1.size
   refine xcv (.e [] 10) (fun _ _ _ zo zx V hV => run_bstr zo zx (bys_of (own_sl (own_below h2'1 hV)) (leB_len _ _)) (leB_len _ _) Tryz.underlying22 Tryz.underlying5 Tryz.underlying9) ?_
   refine xbo (.e [] 11) (t := 9) (t2 := 9) (fun _ _ _ _ zo zx zy V hV => run_cat (l := txtL N ws i) (m := leB (N.getD i 0) (ws.getD i 0)) zo zx zy (by rw [leB_len]; omega) V) ?_
   refine xwm (.r [12] 5) ((↑i : Int) + 1) (↑(i + 1) : Int) ?_
   refine xv1 2 5 (show (.string ⟨(txtL N ws i ++ leB (N.getD i 0) (ws.getD i 0)).toArray⟩ : Value) = .string ⟨(txtL N ws (i + 1)).toArray⟩ from by rw [txtL_succ]) ?_
   have hB'2 := Bl.next hB'1 hb3
   exact ze 0 (hJ1 _ _ _ ⟨i + 1, rfl, rfl, hB'2, by omega⟩ (by omega))
 refine xe 12 (.string ⟨(txtL N ws i).toArray⟩) ?_
 obtain rfl : i = N.length := by omega
 exact ⟨rfl, hB_1⟩
def slotQ (x y z : Int) : Bool := decide (1 ≤ x ∧ x ≤ 14399) && decide (0 ≤ y ∧ y ≤ 960) && decide (0 ≤ z ∧ z ≤ 960)
def SlotStrP (x y z : Int) (w : World) (e : Ending) (w' : World) : Prop :=
  (slotQ x y z = false ∧ e = .returned (.string ⟨#[]⟩) ∧ Below w.heap.size w w') ∨ (slotQ x y z = true ∧ e = .returned (.string ⟨(txtL [x, y, z] [8, 4, 4] 3).toArray⟩) ∧ Below w.heap.size w w')
theorem slotQ_ok {x y z : Int} (h : slotQ x y z = true) : TxtOk [x, y, z] [8, 4, 4] := by
  unfold slotQ at h
  simp only [Bool.and_eq_true, decide_eq_true_iff] at h
  refine ⟨show 3 ≤ 100 from by decide, rfl, fun i hi => ?_⟩
  have hi' : i < 3 := hi
  obtain rfl | rfl | rfl : i = 0 ∨ i = 1 ∨ i = 2 := by omega
  all_goals simp [List.getD]
  all_goals omega
theorem txt3_ne (x y z : Int) : ((⟨(txtL [x, y, z] [8, 4, 4] 3).toArray⟩ : ByteArray).toList == (⟨#[]⟩ : ByteArray).toList) = false := by
  rw [show (⟨#[]⟩ : ByteArray) = ⟨([] : List UInt8).toArray⟩ from rfl, str_beq]
  apply beq_false_of_ne
  intro q
  have h1 := congrArg List.length q
  rw [txtL_succ, List.length_append, leB_len, List.length_nil] at h1
  simp at h1
set_option maxRecDepth 100000 in
set_option maxHeartbeats 1000000 in
theorem ref08_Slot (x y z : Int) (w : World) :
    Calls Tryz.prog 65 #[.agg #[.int .i64 x, .int .i64 y, .int .i64 z]] w (SlotStrP x y z w) := by
 refine zin 28 Tryz.func65 ?_
 refine xa 2 [.int .i64 x, .int .i64 y, .int .i64 z] 79 fun b1 W1 n1 => ?_
 refine xb 7 0 n1.blk ?_
 refine xr 0 (args := #[.int .i64 x, .int .i64 1, .int .i64 14399]) (ref08_inT x 1 14399 _) fun W2 hb2 => ?_
 refine xg 2 [6, 7] (!(decide ((1 : Int) ≤ x ∧ x ≤ 14399))) (fun hc3 => ?_) (fun hc3 => ?_)
 · have hd4 : (decide ((1 : Int) ≤ x ∧ x ≤ 14399)) = false := not_t hc3
   have hB := Bl.next n1.below hb2
   exact xe 21 (.string ⟨#[]⟩) (.inl ⟨by unfold slotQ; first | (rw [hd4]; done) | (rw [hd4]; rfl), rfl, hB⟩)
 have hd5 : (decide ((1 : Int) ≤ x ∧ x ≤ 14399)) = true := not_f hc3
 have k1'1 := n1.blk.below hb2
 refine xb 1 1 k1'1 ?_
 refine xr 0 (args := #[.int .i64 y, .int .i64 0, .int .i64 960]) (ref08_inT y 0 960 _) fun W6 hb6 => ?_
 refine xg 3 [11, 12, 13] (!(decide ((0 : Int) ≤ y ∧ y ≤ 960))) (fun hc7 => ?_) (fun hc7 => ?_)
 · have hd8 : (decide ((0 : Int) ≤ y ∧ y ≤ 960)) = false := not_t hc7
   have hB := Bl.next (Bl.next n1.below hb2) hb6
   exact xe 15 (.string ⟨#[]⟩) (.inl ⟨by unfold slotQ; first | (rw [hd5, hd8]; done) | (rw [hd5, hd8]; rfl), rfl, hB⟩)
 have hd9 : (decide ((0 : Int) ≤ y ∧ y ≤ 960)) = true := not_f hc7
 have k1'2 := k1'1.below hb6
 refine xb 1 2 k1'2 ?_
 refine xr 0 (args := #[.int .i64 z, .int .i64 0, .int .i64 960]) (ref08_inT z 0 960 _) fun W10 hb10 => ?_
 refine xi 4 (!(decide ((0 : Int) ≤ z ∧ z ≤ 960))) (fun hc11 => ?_) (fun hc11 => ?_)
 · have hd12 : (decide ((0 : Int) ≤ z ∧ z ≤ 960)) = false := not_t hc11
   have hB := Bl.next (Bl.next (Bl.next n1.below hb2) hb6) hb10
   exact xe 7 (.string ⟨#[]⟩) (.inl ⟨by unfold slotQ; first | (rw [hd5, hd9, hd12]; done) | (rw [hd5, hd9, hd12]; rfl), rfl, hB⟩)
 have hd13 : (decide ((0 : Int) ≤ z ∧ z ≤ 960)) = true := not_f hc11
 have k1'3 := k1'2.below hb10
 refine xb 5 0 k1'3 ?_
 refine xb 1 1 k1'3 ?_
 refine xb 1 2 k1'3 ?_
 refine xbs 0 3 [.int .i64 x, .int .i64 y, .int .i64 z] 3 fun b14 W14 n14 => ?_
 refine xbs 0 3 [.int .i64 8, .int .i64 4, .int .i64 4] 3 fun b15 W15 n15 => ?_
 have d15_b14 := n15.ne n14.blk
 have hsb : slotQ x y z = true := by
   unfold slotQ
   rw [hd5, hd9, hd13]; rfl
 have k14'1 := n14.blk.below n15.below
 refine xr 0 (args := #[.slice (some ⟨b14, 0, none⟩) 3 3, .slice (some ⟨b15, 0, none⟩) 3 3]) (ref08_textG [x, y, z] [8, 4, 4] (some ⟨b14, 0, none⟩) (some ⟨b15, 0, none⟩) 3 3 _ (slotQ_ok hsb) (k14'1.sl 3 3 (by decide) (by decide)) (n15.blk.sl 3 3 (by decide) (by decide))) fun W16 hb16 => ?_
 have hB := Bl.next (Bl.next (Bl.next (Bl.next (Bl.next (Bl.next n1.below hb2) hb6) hb10) n14.below) n15.below) hb16
 exact xe 4 (.string ⟨(txtL [x, y, z] [8, 4, 4] 3).toArray⟩) (.inr ⟨hsb, rfl, hB⟩)
end Go.Proofs.YthlakkdgcgkcdaaGreatDoor
namespace Go.Proofs.YthlakkdgcgkcdaaGreatDoor
open Go.RowKit Go.Extern.Stop Go.Stop Go.Extern
set_option linter.unusedVariables false
attribute [local irreducible] wpList wpAnyH Code.wp Oper.wp Go

theorem raws_slot (s : List UInt8) : rawsL slotP s = [rawN s 0 8, rawN s 8 4, rawN s 12 4] := rfl
theorem slot_readOk (s : List UInt8) : readOk slotP s = slotQ (rawN s 0 8 : Int) (rawN s 8 4 : Int) (rawN s 12 4 : Int) := by
  unfold readOk allIn slotQ
  rw [raws_slot]
  simp [slotP, List.range, List.range.loop, inP, List.getD, part0, Bool.and_assoc]
theorem slot_sum : (wids slotP slotP.length).sum = 16 := rfl
def UnpRP (s : List UInt8) (w : World) (e : Ending) (w' : World) : Prop :=
  (¬ rawN s 0 8 < 9223372036854775808 ∧ e = .returned (.tuple #[.slice none 0 0, .int .i64 2]) ∧ Below w.heap.size w w') ∨
  (rawN s 0 8 < 9223372036854775808 ∧ ∃ p c, e = .returned (.tuple #[.slice p 3 c, .int .i64 0]) ∧ Below w.heap.size w w' ∧ w'.ownsRow w.heap.size 3 1 (.slice p 3 c) 3 (([rawN s 0 8, rawN s 8 4, rawN s 12 4] : List Nat).map nv))
theorem ref_Unp844 (a : Option Addr) (n c : Nat) (s : List UInt8) (g : Nat) (w : World) (hn : s.length = n) (h16 : n = 16) (h : Bys w (.slice a n c) s) (kg : Blk w g [.int .i64 8, .int .i64 4, .int .i64 4] 3) :
    Calls Tryz.prog 64 #[.slice a n c, .slice (some ⟨g, 0, none⟩) 3 3] w (UnpRP s w) := by
  subst hn
  have hk : ∀ i, i < ([8, 4, 4] : List Nat).length → ([8, 4, 4] : List Nat).getD i 0 = 1 ∨ ([8, 4, 4] : List Nat).getD i 0 = 2 ∨ ([8, 4, 4] : List Nat).getD i 0 = 4 ∨ ([8, 4, 4] : List Nat).getD i 0 = 8 := by decide
  have hws : Sl w (.slice (some ⟨g, 0, none⟩) 3 3) 3 (([8, 4, 4] : List Nat).map nv) := kg.sl 3 3 (by decide) (by decide)
  have h1 := rawN_lt4 s 8 4 (by decide)
  have h2 := rawN_lt4 s 12 4 (by decide)
  by_cases hq : rawN s 0 8 < 9223372036854775808
  · refine (ref_Unpack_ok a c s (some ⟨g, 0, none⟩) 3 [8, 4, 4] w hk (by rw [h16]; decide) (by omega) (by decide) h hws ?_).mono ?_
    · intro i hi
      have hi' : i < 3 := hi
      obtain rfl | rfl | rfl : i = 0 ∨ i = 1 ∨ i = 2 := by omega
      · exact hq
      · show rawN s 8 4 < _; omega
      · show rawN s 12 4 < _; omega
    · rintro e W ⟨_, rfl, hb, p, c2, rfl, ho⟩
      exact .inr ⟨hq, p, c2, rfl, hb, ho⟩
  · refine (ref_Unpack_bad a c s (some ⟨g, 0, none⟩) 3 [8, 4, 4] w hk (by rw [h16]; decide) (by omega) (by decide) h hws ?_).mono ?_
    · intro q; exact hq (q 0 (by decide))
    · rintro e W ⟨rfl, hb⟩
      exact .inl ⟨hq, rfl, hb⟩
set_option maxRecDepth 100000 in
set_option maxHeartbeats 2000000 in
theorem ref08_ReadSlot (s : List UInt8) (w : World) (hs : s.length ≤ 1000) :
    Calls Tryz.prog 37 #[.string ⟨s.toArray⟩] w (Ret (.tuple #[.agg #[.int .i64 (↑((readV slotP s).getD 0 0) : Int), .int .i64 (↑((readV slotP s).getD 1 0) : Int), .int .i64 (↑((readV slotP s).getD 2 0) : Int)], .int .i64 (readE slotP s)]) w) := by
 refine zin 36 Tryz.func37 ?_
 refine xa 2 [.int .i64 0, .int .i64 0, .int .i64 0] 79 fun b1 W1 n1 => ?_
 refine xin 11 (↑s.length : Int) (16 : Int) (fun hc2 => ?_) (fun hc2 => ?_)
 · refine xsv 3 n1.blk [.int .i64 0, .int .i64 0, .int .i64 0] fun W3 u3 k3 => ?_
   have g1 := n1.ge (Below.refl w.heap.size _)
   have hB := u3.below n1.below g1
   refine xec 5 k3 (.tuple #[.agg #[.int .i64 0, .int .i64 0, .int .i64 0], .int .i64 7]) ?_
   have he : readE slotP s = 7 := if_neg (by rw [slot_sum]; omega)
   rw [readV, he, if_neg (by decide)]; exact ⟨rfl, hB⟩
 refine xcf 5 fun _ _ _ zJ zQ zo zx zK => op_strBytes s zo zx Tryz.underlying9 Tryz.underlying22 Tryz.underlying5 (by omega) ?_
 intro bz cz W4 hb4 hbz
 refine zK _ _ ?_
 refine xbs 0 3 [.int .i64 8, .int .i64 4, .int .i64 4] 3 fun b5 W5 n5 => ?_
 have hbz'1 := hbz.below n5.below
 refine xc 0 (args := #[.slice (some ⟨bz, 0, none⟩) s.length cz, .slice (some ⟨b5, 0, none⟩) 3 3]) (ref_Unp844 (some ⟨bz, 0, none⟩) s.length cz s b5 _ rfl (by omega) hbz'1 n5.blk) ?_
 rintro e W6 hq6
 rcases hq6 with ⟨hq, rfl, hb6⟩ | ⟨hq, p5, c5, rfl, hb6, h5⟩
 · have k1 := ((n1.blk.below hb4).below n5.below).below hb6
   refine xsv 18 k1 [.int .i64 0, .int .i64 0, .int .i64 0] fun W7 u7 k7 => ?_
   have g1 := n1.ge (Below.refl w.heap.size _)
   have hB := u7.below (Bl.next (Bl.next (Bl.next n1.below hb4) n5.below) hb6) g1
   refine xec 5 k7 (.tuple #[.agg #[.int .i64 0, .int .i64 0, .int .i64 0], .int .i64 2]) ?_
   have he : readE slotP s = 2 := by unfold readE; rw [slot_sum, if_pos (by omega), slot_readOk, show slotQ (rawN s 0 8 : Int) (rawN s 8 4 : Int) (rawN s 12 4 : Int) = false from by unfold slotQ; rw [decide_eq_false (by omega)]; rfl, if_neg (by decide)]
   rw [readV, he, if_neg (by decide)]; exact ⟨rfl, hB⟩
 have hs6 := (Bl.next (Bl.next n1.below hb4) n5.below).size
 refine xd 18 (.t w.heap.size [79]) ?_
 have h5'1 := own_below (own_mono h5 hs6) (below_drew W6)
 refine xx (.e [0] 1) _ 3 0 1 (nv_elem (l := [rawN s 0 8, rawN s 8 4, rawN s 12 4]) (own_sl h5'1) rfl (k := 0) (by decide)).1 ?_
 refine xlt (.e [] 2) (.t w.heap.size [79]) (fun V hV => (nv_elem (l := [rawN s 0 8, rawN s 8 4, rawN s 12 4]) (own_sl (own_only h5'1 hV.2 (by decide))) rfl (k := 0) (by decide)).2) ?_
 refine xx (.e [3] 4) _ 3 1 1 (nv_elem (l := [rawN s 0 8, rawN s 8 4, rawN s 12 4]) (own_sl h5'1) rfl (k := 1) (by decide)).1 ?_
 refine xlt (.e [] 5) (.t w.heap.size [79]) (fun V hV => (nv_elem (l := [rawN s 0 8, rawN s 8 4, rawN s 12 4]) (own_sl (own_only h5'1 hV.2 (by decide))) rfl (k := 1) (by decide)).2) ?_
 refine xx (.e [6] 7) _ 3 2 1 (nv_elem (l := [rawN s 0 8, rawN s 8 4, rawN s 12 4]) (own_sl h5'1) rfl (k := 2) (by decide)).1 ?_
 refine xlt (.e [] 8) (.t w.heap.size [79]) (fun V hV => (nv_elem (l := [rawN s 0 8, rawN s 8 4, rawN s 12 4]) (own_sl (own_only h5'1 hV.2 (by decide))) rfl (k := 2) (by decide)).2) ?_
 refine xa (.o [9] 10) [.int .i64 0, .int .i64 0, .int .i64 0] 79 fun b8 W8 n8 => ?_
 have k1 := (((n1.blk.below hb4).below n5.below).below hb6).below (below_drew W6)
 have d8_b1 := n8.ne k1
 have g8 := n8.ge (Bl.next (Bl.next (Bl.next (Bl.next n1.below hb4) n5.below) hb6) (below_drew W6))
 refine ysv (.o [] 11) n8.blk [.int .i64 (↑(rawN s 0 8) : Int), .int .i64 (↑(rawN s 8 4) : Int), .int .i64 (↑(rawN s 12 4) : Int)] (.t w.heap.size [79]) fun W9 u9 k9 => ⟨(sft_upd u9 n8.blk g8 (by decide)), ?_⟩
 refine xlv 5 k9.rp ?_
 refine xc 0 (args := #[.agg #[.int .i64 (↑(rawN s 0 8) : Int), .int .i64 (↑(rawN s 8 4) : Int), .int .i64 (↑(rawN s 12 4) : Int)]]) (ref08_Slot (↑(rawN s 0 8) : Int) (↑(rawN s 8 4) : Int) (↑(rawN s 12 4) : Int) _) ?_
 rintro e W10 hq10
 rcases hq10 with ⟨hsb, rfl, hb10⟩ | ⟨hsb, rfl, hb10⟩
 · have k1'1 := (u9.blk (k1.below n8.below) (Ne.symm (Ne.symm d8_b1))).below hb10
   refine xsv 7 k1'1 [.int .i64 0, .int .i64 0, .int .i64 0] fun W11 u11 k11 => ?_
   have g1 := n1.ge (Below.refl w.heap.size _)
   have hB := u11.below (Bl.next (u9.below (Bl.next (Bl.next (Bl.next (Bl.next (Bl.next n1.below hb4) n5.below) hb6) (below_drew W6)) n8.below) g8) hb10) g1
   refine xec 5 k11 (.tuple #[.agg #[.int .i64 0, .int .i64 0, .int .i64 0], .int .i64 2]) ?_
   have he : readE slotP s = 2 := by unfold readE; rw [slot_sum, if_pos (by omega), slot_readOk, hsb, if_neg (by decide)]
   rw [readV, he, if_neg (by decide)]; exact ⟨rfl, hB⟩
 refine xk 3 (show (((⟨(txtL [(↑(rawN s 0 8) : Int), (↑(rawN s 8 4) : Int), (↑(rawN s 12 4) : Int)] [8, 4, 4] 3).toArray⟩ : ByteArray).toList == (⟨#[]⟩ : ByteArray).toList) : Bool) = false from txt3_ne _ _ _) ?_
 have k9'1 := k9.below hb10
 refine xlv 4 k9'1.rp ?_
 have k1'2 := (u9.blk (k1.below n8.below) (Ne.symm (Ne.symm d8_b1))).below hb10
 refine xsv 0 k1'2 [.int .i64 (↑(rawN s 0 8) : Int), .int .i64 (↑(rawN s 8 4) : Int), .int .i64 (↑(rawN s 12 4) : Int)] fun W12 u12 k12 => ?_
 have g1 := n1.ge (Below.refl w.heap.size _)
 have hB := u12.below (Bl.next (u9.below (Bl.next (Bl.next (Bl.next (Bl.next (Bl.next n1.below hb4) n5.below) hb6) (below_drew W6)) n8.below) g8) hb10) g1
 refine xec 4 k12 (.tuple #[.agg #[.int .i64 (↑(rawN s 0 8) : Int), .int .i64 (↑(rawN s 8 4) : Int), .int .i64 (↑(rawN s 12 4) : Int)], .int .i64 0]) ?_
 have he : readE slotP s = 0 := by unfold readE; rw [slot_sum, if_pos (by omega), slot_readOk, hsb, if_pos rfl]
 rw [readV, he, if_pos rfl, raws_slot]; exact ⟨rfl, hB⟩
end Go.Proofs.YthlakkdgcgkcdaaGreatDoor
namespace Go.Proofs.YthlakkdgcgkcdaaGreatDoor
open Go.RowKit Go.Extern.Stop Go.Stop Go.Extern
set_option linter.unusedVariables false
attribute [local irreducible] wpList wpAnyH Code.wp Oper.wp Go

theorem ref08_ReadSlotP (l : List UInt8) (i : Nat) (w : World) (hs : (slotS l i).length ≤ 1000) : Calls Tryz.prog 37 #[.string ⟨(slotS l i).toArray⟩] w (fun e w' =>
    (readE slotP (slotS l i) = 0 ∧ e = .returned (.tuple #[.agg #[.int .i64 (slotK l i 0 : Int), .int .i64 (slotK l i 1 : Int), .int .i64 (slotK l i 2 : Int)], .int .i64 0]) ∧ Below w.heap.size w w') ∨
    (readE slotP (slotS l i) ≠ 0 ∧ e = .returned (.tuple #[.agg #[.int .i64 (slotK l i 0 : Int), .int .i64 (slotK l i 1 : Int), .int .i64 (slotK l i 2 : Int)], .int .i64 (readE slotP (slotS l i))]) ∧ Below w.heap.size w w')) := by
  refine (ref08_ReadSlot (slotS l i) w hs).mono ?_
  rintro e W ⟨rfl, hb⟩
  by_cases h : readE slotP (slotS l i) = 0
  · exact .inl ⟨h, by rw [h]; rfl, hb⟩
  · exact .inr ⟨h, rfl, hb⟩
theorem bysZ {w : World} {a : Option Addr} {c r : Nat} {l : List UInt8} (h : Bys w (.slice a 244 c) l) (hl : l.length = 244) (hk : 4 + 16 * r ≤ 244) : Bys w (.slice (cutA a (4 + 16 * r) c 1) (244 - (4 + 16 * r)) (c - (4 + 16 * r))) (l.drop (4 + r * 16)) := by
  rw [Nat.mul_comm r 16]; exact bysK h hl hk
theorem slot_cut {w : World} {a : Option Addr} {c i : Nat} {l : List UInt8} (h : Bys w (.slice a 244 c) l) (hl : l.length = 244) (hi : i < 15) : Bys w (.slice (cutA a (4 + 16 * i) c 1) (20 + 16 * i - (4 + 16 * i)) (c - (4 + 16 * i))) (slotS l i) := by
  have := Bys.cut h hl (4 + 16 * i) (20 + 16 * i) (by omega) (by omega)
  unfold slotS
  have e : 20 + 16 * i - (4 + 16 * i) = 16 := by omega
  rw [Nat.mul_comm i 16]
  rw [e] at this ⊢
  exact this
theorem slot_cutlen {i : Nat} {l : List UInt8} (hl : l.length = 244) (hi : i < 15) : (slotS l i).length = 20 + 16 * i - (4 + 16 * i) := by rw [slotS_len hl hi]; omega
set_option maxRecDepth 100000 in
set_option maxHeartbeats 4000000 in
theorem ref10_Read (a : Option Addr) (c : Nat) (l : List UInt8) (w : World) (hl : l.length = 244) (h : Bys w (.slice a 244 c) l) :
    Calls Tryz.prog 74 #[.slice a 244 c] w (SlotsP l w) := by
 have hcap := Bys.cap h hl
 refine zin 54 Tryz.func74 ?_
 refine xr 20 (args := #[.slice a 244 c, .int .i64 0, .int .i64 4]) (ref_GetN a 244 c 0 4 0 4 l _ hl rfl rfl (by decide) (by decide) (by decide) (h.below (Below.refl w.heap.size _))) fun W1 hb1 => ?_
 refine xg 13 [19, 20] (decide ((↑(rawN l 0 4) : Int) > (15 : Int))) (fun hc2 => ?_) (fun hc2 => ?_)
 · have hc2 := of_decide_eq_true hc2
   refine xe 19 (.tuple #[.slice none 0 0, .int .i64 7]) ?_
   have he : idxE l = 7 := by unfold idxE idxOk; rw [decide_eq_false (by omega), Bool.false_and, if_neg (by decide)]
   exact .inl ⟨by rw [he]; decide, by rw [he], hb1⟩
 have hc2 := of_decide_eq_false hc2
 refine xwm 2 (16 * (↑(rawN l 0 4) : Int)) (↑(16 * (rawN l 0 4)) : Int) ?_
 refine xwm 0 (4 + (↑(16 * (rawN l 0 4)) : Int)) (↑(4 + (16 * (rawN l 0 4))) : Int) ?_
 refine xsL 0 (fun _ _ _ _ zo zx zy V => run_sliceLA (k := (4 + (16 * (rawN l 0 4)))) (b := a) (n := 244) (c := c) (i := (↑(4 + (16 * (rawN l 0 4))) : Int)) (ki := .i64) 1 zo zx zy rfl (by omega) Tryz.underlying22 (by kernel_rfl) V) ?_
 refine xr 0 (args := #[.slice (cutA a (4 + (16 * (rawN l 0 4))) c 1) (244 - (4 + (16 * (rawN l 0 4)))) (c - (4 + (16 * (rawN l 0 4))))]) (ref_ZeroN (cutA a (4 + (16 * (rawN l 0 4))) c 1) (244 - (4 + (16 * (rawN l 0 4)))) (c - (4 + (16 * (rawN l 0 4)))) (l.drop (4 + rawN l 0 4 * 16)) _ (by simp; omega) (by omega) ((bysZ h hl (by omega)).below hb1)) fun W3 hb3 => ?_
 refine xi 4 (!(zeroB (l.drop (4 + rawN l 0 4 * 16)))) (fun hc4 => ?_) (fun hc4 => ?_)
 · have hze : zeroB (l.drop (4 + rawN l 0 4 * 16)) = false := not_t hc4
   have hB'1 := Bl.next hb1 hb3
   refine xe 8 (.tuple #[.slice none 0 0, .int .i64 7]) ?_
   have he : idxE l = 7 := by unfold idxE idxOk; rw [hze, Bool.and_false, if_neg (by decide)]
   exact .inl ⟨by rw [he]; decide, by rw [he], hB'1⟩
 have hze : zeroB (l.drop (4 + rawN l 0 4 * 16)) = true := not_f hc4
 have hB'2 := Bl.next hb1 hb3
 refine zl 14 54 (fun zm zkv V => ∃ (i : Nat) (q : Option Addr) (d : Nat), zkv = [(0, .slice a 244 c), (4, .int .i64 (↑(rawN l 0 4) : Int)), (6, .slice q i d), (7, .int .i64 (↑i : Int))] ∧ zm = (rawN l 0 4) - ((↑i : Int)).toNat ∧ Below w.heap.size w V ∧ V.ownsRow w.heap.size 79 3 (.slice q i d) i ((sltsL l i).flatMap sltC) ∧ i ≤ (rawN l 0 4) ∧ sltsE l i = 0) ⟨0, _, _, rfl, rfl, hB'2, World.ownsRow_nil _ _ _ _, Nat.zero_le _, rfl⟩ ?_
 rintro _ _ W5 ⟨i, q, d, rfl, rfl, hB_5, ho, hi, hz⟩ J5 hJ5 r5
 refine xid 8 ((↑i : Int) < (↑(rawN l 0 4) : Int)) (fun hc6 => ?_) (fun hc6 => ?_)
 · refine xwm 8 (16 * (↑i : Int)) (↑(16 * i) : Int) ?_
   refine xwm 0 (4 + (↑(16 * i) : Int)) (↑(4 + (16 * i)) : Int) ?_
   refine xwm 1 (16 * (↑i : Int)) (↑(16 * i) : Int) ?_
   refine xwm 0 (20 + (↑(16 * i) : Int)) (↑(20 + (16 * i)) : Int) ?_
   refine xsB 0 (fun _ _ _ _ _ zo zx zy zz V => run_sliceLHA (k := (4 + (16 * i))) (h := (20 + (16 * i))) (b := a) (n := 244) (c := c) (i := (↑(4 + (16 * i)) : Int)) (ki := .i64) (j := (↑(20 + (16 * i)) : Int)) (kj := .i64) 1 zo zx zy rfl zz rfl (by omega) (by omega) Tryz.underlying22 (by kernel_rfl) V) ?_
   refine xcv0 0 (fun _ _ _ zo zx => run_bstr zo zx ((slot_cut (i := i) h hl (by omega)).below hB_5) (slot_cutlen (i := i) hl (by omega)) Tryz.underlying22 Tryz.underlying5 Tryz.underlying9) ?_
   refine xc 0 (args := #[.string ⟨(slotS l i).toArray⟩]) (ref08_ReadSlotP l i _ (by rw [slotS_len hl (by omega)]; decide)) ?_
   rintro e W7 hq7
   rcases hq7 with ⟨hz0, rfl, hb7⟩ | ⟨hz0, rfl, hb7⟩
   · refine xa 3 [.int .i64 0, .int .i64 0, .int .i64 0] 79 fun b8 W8 n8 => ?_
     have hB'3 := Bl.next hB_5 hb7
     have g8 := n8.ge hB'3
     have ho'1 := own_below ho hb7
     have r8_ho := own_ne ho'1 n8
     refine xsv 0 n8.blk [.int .i64 (↑(slotK l i 0) : Int), .int .i64 (↑(slotK l i 1) : Int), .int .i64 (↑(slotK l i 2) : Int)] fun W9 u9 k9 => ?_
     refine xlv 15 k9.rp ?_
     refine xbs 0 1 [.int .i64 (↑(slotK l i 0) : Int), .int .i64 (↑(slotK l i 1) : Int), .int .i64 (↑(slotK l i 2) : Int)] 79 fun b10 W10 n10 => ?_
     have d10_b8 := n10.ne k9
     have hB'4 := u9.below (Bl.next hB'3 n8.below) g8
     have g10 := n10.ge hB'4
     have ho'2 := u9.own3 (own_below ho'1 n8.below) r8_ho
     have r10_ho := own_ne ho'2 n10
     have ho'3 := own_below ho'2 n10.below
     have hB'5 := Bl.next hB'4 n10.below
     refine xbi 0 fun _ _ _ _ zJ zQ zo zx zy zK => op_app (m := 1) (news := [.int .i64 (↑(slotK l i 0) : Int), .int .i64 (↑(slotK l i 1) : Int), .int .i64 (↑(slotK l i 2) : Int)]) (.agg #[.int .i64 0, .int .i64 0, .int .i64 0]) 3 24 (i + 1) (((sltsL l (i + 1)).flatMap sltC)) zo Tryz.underlying99 (by kernel_rfl) rfl (by decide) zx ho'3 zy (n10.blk.sl 1 1 (by decide) (by decide)) rfl (by simp [Value.oneCell']) (by unfold maxLen; omega) (by omega) hB'5.size (by rfl) (by rw [sltsL_snoc, List.flatMap_append]; rfl) fun px11 cx11 W11 o11 hg11 hb11 => ?_
     refine zK _ _ ?_
     refine xwm 6 ((↑i : Int) + 1) (↑(i + 1) : Int) ?_
     have hB'6 := hB'5.trans hb11
     exact ze 2 (hJ5 _ _ _ ⟨i + 1, _, _, rfl, rfl, hB'6, o11, by omega, sltsE_next hz hz0⟩ (by omega))
   refine xa 3 [.int .i64 0, .int .i64 0, .int .i64 0] 79 fun b12 W12 n12 => ?_
   have hB'7 := Bl.next hB_5 hb7
   have g12 := n12.ge hB'7
   have ho'4 := own_below ho hb7
   have r12_ho := own_ne ho'4 n12
   refine xsv 0 n12.blk [.int .i64 (↑(slotK l i 0) : Int), .int .i64 (↑(slotK l i 1) : Int), .int .i64 (↑(slotK l i 2) : Int)] fun W13 u13 k13 => ?_
   refine xk 10 (show (((readE slotP (slotS l i)) != (0 : Int)) : Bool) = true from bne_iff_ne.2 hz0) ?_
   have hB'8 := u13.below (Bl.next hB'7 n12.below) g12
   refine xe 13 (.tuple #[.slice none 0 0, .int .i64 2]) ?_
   have hok : idxOk l = true := by unfold idxOk; rw [hze, decide_eq_true (by omega)]; rfl
   have h2 : readE slotP (slotS l i) = 2 := (slot_two hl (by omega)).resolve_left hz0
   have he : idxE l = 2 := by unfold idxE; rw [if_pos hok, sltsE_at hz hz0 (by omega), h2]
   exact .inl ⟨by rw [he]; decide, by rw [he], hB'8⟩
 refine xe 13 (.tuple #[.slice q i d, .int .i64 0]) ?_
 have hok : idxOk l = true := by unfold idxOk; rw [hze, decide_eq_true (by omega)]; rfl
 obtain rfl : i = rawN l 0 4 := by omega
 exact .inr ⟨by unfold idxE; rw [if_pos hok, hz], _, _, rfl, hB_5, ho⟩
def bitR (l : List UInt8) (no : Int) : List Int := if bitsErr l no = 0 then bitI (inB l no) (rawN (inB l no) 0 4) else []
def idxR (l : List UInt8) (no : Int) : List (Nat × Nat × Nat) := if idxErr l no = 0 then sltsL (inB l no) (rawN (inB l no) 0 4) else []
theorem bitR_ok {l : List UInt8} {no : Int} (h : bitsErr l no = 0) : bitR l no = bitI (inB l no) (rawN (inB l no) 0 4) ∧ (bitR l no).length = rawN (inB l no) 0 4 := by unfold bitR; rw [if_pos h]; exact ⟨rfl, bitI_len _ _⟩
theorem bitR_bad {l : List UInt8} {no : Int} (h : bitsErr l no ≠ 0) : bitR l no = [] := if_neg h
theorem idxR_ok {l : List UInt8} {no : Int} (h : idxErr l no = 0) : idxR l no = sltsL (inB l no) (rawN (inB l no) 0 4) ∧ (idxR l no).length = rawN (inB l no) 0 4 := by unfold idxR; rw [if_pos h]; exact ⟨rfl, sltsL_len _ _⟩
theorem idxR_bad {l : List UInt8} {no : Int} (h : idxErr l no ≠ 0) : idxR l no = [] := if_neg h
theorem bitI_map (l : List UInt8) (n : Nat) : (bitI l n).map (Value.int .i64) = (bitsL l n).map nv := by simp [bitI, nv]
/-- a row and the error, as the document has them -/
def RBitsU (l : List UInt8) (no : Int) (w : World) (e : Ending) (w' : World) : Prop :=
  ∃ p c a5 c5, e = .returned (.tuple #[.slice p (bitR l no).length c, .agg #[.slice a5 (fltL no (bitsErr l no)).length c5, .int .i64 (bitsErr l no)]]) ∧ Below w.heap.size w w' ∧ w'.ownsRow w.heap.size 3 1 (.slice p (bitR l no).length c) (bitR l no).length ((bitR l no).map (Value.int .i64)) ∧ w'.ownsRow w.heap.size 3 1 (.slice a5 (fltL no (bitsErr l no)).length c5) (fltL no (bitsErr l no)).length ((fltL no (bitsErr l no)).map (Value.int .i64))
def RIdxU (l : List UInt8) (no : Int) (w : World) (e : Ending) (w' : World) : Prop :=
  ∃ p c a5 c5, e = .returned (.tuple #[.slice p (idxR l no).length c, .agg #[.slice a5 (fltL no (idxErr l no)).length c5, .int .i64 (idxErr l no)]]) ∧ Below w.heap.size w w' ∧ w'.ownsRow w.heap.size 79 3 (.slice p (idxR l no).length c) (idxR l no).length ((idxR l no).flatMap sltC) ∧ w'.ownsRow w.heap.size 3 1 (.slice a5 (fltL no (idxErr l no)).length c5) (fltL no (idxErr l no)).length ((fltL no (idxErr l no)).map (Value.int .i64))
theorem rbitsU_ok {l : List UInt8} {no : Int} {w W : World} {p a5 : Option Addr} {c c5 : Nat} (he : bitsErr l no = 0) (hb : Below w.heap.size w W) (ho : W.ownsRow w.heap.size 3 1 (.slice p (rawN (inB l no) 0 4) c) (rawN (inB l no) 0 4) ((bitI (inB l no) (rawN (inB l no) 0 4)).map (Value.int .i64))) (h5 : W.ownsRow w.heap.size 3 1 (.slice a5 (fltL no 0).length c5) (fltL no 0).length ((fltL no 0).map (Value.int .i64))) :
    RBitsU l no w (.returned (.tuple #[.slice p (rawN (inB l no) 0 4) c, .agg #[.slice a5 (fltL no 0).length c5, .int .i64 0]])) W := by
  obtain ⟨h1, h2⟩ := bitR_ok he
  refine ⟨p, c, a5, c5, by rw [h2, he], hb, ?_, by rw [he]; exact h5⟩
  rw [h2, h1]; exact ho
theorem rbitsU_bad {l : List UInt8} {no er : Int} {w W : World} {a5 : Option Addr} {c5 : Nat} (he : bitsErr l no = er) (hz : er ≠ 0) (hb : Below w.heap.size w W) (h5 : W.ownsRow w.heap.size 3 1 (.slice a5 (fltL no er).length c5) (fltL no er).length ((fltL no er).map (Value.int .i64))) :
    RBitsU l no w (.returned (.tuple #[.slice none 0 0, .agg #[.slice a5 (fltL no er).length c5, .int .i64 er]])) W := by
  subst he
  refine ⟨none, 0, a5, c5, by rw [bitR_bad hz]; rfl, hb, ?_, h5⟩
  rw [bitR_bad hz]; exact World.ownsRow_nil _ _ _ _
theorem ridxU_ok {l : List UInt8} {no : Int} {w W : World} {p a5 : Option Addr} {c c5 : Nat} (he : idxErr l no = 0) (hb : Below w.heap.size w W) (ho : W.ownsRow w.heap.size 79 3 (.slice p (rawN (inB l no) 0 4) c) (rawN (inB l no) 0 4) ((sltsL (inB l no) (rawN (inB l no) 0 4)).flatMap sltC)) (h5 : W.ownsRow w.heap.size 3 1 (.slice a5 (fltL no 0).length c5) (fltL no 0).length ((fltL no 0).map (Value.int .i64))) :
    RIdxU l no w (.returned (.tuple #[.slice p (rawN (inB l no) 0 4) c, .agg #[.slice a5 (fltL no 0).length c5, .int .i64 0]])) W := by
  obtain ⟨h1, h2⟩ := idxR_ok he
  refine ⟨p, c, a5, c5, by rw [h2, he], hb, ?_, by rw [he]; exact h5⟩
  rw [h2, h1]; exact ho
theorem ridxU_bad {l : List UInt8} {no er : Int} {w W : World} {a5 : Option Addr} {c5 : Nat} (he : idxErr l no = er) (hz : er ≠ 0) (hb : Below w.heap.size w W) (h5 : W.ownsRow w.heap.size 3 1 (.slice a5 (fltL no er).length c5) (fltL no er).length ((fltL no er).map (Value.int .i64))) :
    RIdxU l no w (.returned (.tuple #[.slice none 0 0, .agg #[.slice a5 (fltL no er).length c5, .int .i64 er]])) W := by
  subst he
  refine ⟨none, 0, a5, c5, by rw [idxR_bad hz]; rfl, hb, ?_, h5⟩
  rw [idxR_bad hz]; exact World.ownsRow_nil _ _ _ _
set_option maxRecDepth 100000 in
set_option maxHeartbeats 1000000 in
theorem ref11_Bits (B bm : Nat) (p : Option Addr) (k c : Nat) (l : List UInt8) (no : Int) (w : World) (hI : RefI B bm p k c l w) :
    Calls Tryz.prog 66 #[.pointer (some ⟨bm, 0, none⟩), .int .i64 no] w (RBitsU l no w) := by
 refine zin 30 Tryz.func66 ?_
 refine xa 3 [.slice none 0 0, .int .i64 0] 43 fun b1 W1 n1 => ?_
 have hI'1 := hI.below n1.below
 refine xc 6 (args := #[.pointer (some ⟨bm, 0, none⟩), .int .i64 no, .int .i64 3]) (ref11_in B bm p k c l _ hI'1 no 3) ?_
 rintro e W2 hq2
 rcases hq2 with ⟨hse, rfl, hb2⟩ | ⟨hse, hil, p3, c3, rfl, hb2, h3⟩
 · refine xk 14 (show (((inE l 3 no) != (0 : Int)) : Bool) = true from bne_iff_ne.2 hse) ?_
   refine xc 4 (args := #[.int .i64 no, .int .i64 (inE l 3 no)]) (ref11_At no (inE l 3 no) _) ?_
   rintro _ W3 ⟨a5, c5, rfl, hb3, hQ5⟩
   have hs3 := (Bl.next n1.below hb2).size
   have k1 := (n1.blk.below hb2).below hb3
   refine xsv 1 k1 [.slice a5 ((fltL no (inE l 3 no)).length) c5, .int .i64 (inE l 3 no)] fun W4 u4 k4 => ?_
   have g1 := n1.ge (Below.refl w.heap.size _)
   have hB := u4.below (Bl.next (Bl.next n1.below hb2) hb3) g1
   have hQ5'1 := u4.own2 (own_mono hQ5 hs3) k1 (by decide)
   exact xec 4 k4 (.tuple #[.slice none 0 0, .agg #[.slice a5 ((fltL no (inE l 3 no)).length) c5, .int .i64 (inE l 3 no)]]) (rbitsU_bad (by unfold bitsErr; rw [if_neg hse]) hse hB hQ5'1)
 have h3'1 := own_mono h3 n1.below.size
 refine xc 20 (args := #[.slice p3 244 c3]) (ref09_Read p3 c3 (inB l no) _ hil (bys_of (own_sl h3'1) hil)) ?_
 rintro e W5 hq5
 rcases hq5 with ⟨hz, rfl, hb5⟩ | ⟨hz, p4, c4, rfl, hb5, h4⟩
 · refine xc 12 (args := #[.int .i64 no, .int .i64 7]) (ref11_At no 7 _) ?_
   rintro _ W6 ⟨a5, c5, rfl, hb6, hQ5⟩
   have hs6 := (Bl.next (Bl.next n1.below hb2) hb5).size
   have k1 := ((n1.blk.below hb2).below hb5).below hb6
   refine xsv 1 k1 [.slice a5 ((fltL no 7).length) c5, .int .i64 7] fun W7 u7 k7 => ?_
   have g1 := n1.ge (Below.refl w.heap.size _)
   have hB := u7.below (Bl.next (Bl.next (Bl.next n1.below hb2) hb5) hb6) g1
   have hQ5'2 := u7.own2 (own_mono hQ5 hs6) k1 (by decide)
   exact xec 3 k7 (.tuple #[.slice none 0 0, .agg #[.slice a5 ((fltL no 7).length) c5, .int .i64 7]]) (rbitsU_bad (by unfold bitsErr; rw [if_pos hse, hz, if_neg (by decide)]) (by decide) hB hQ5'2)
 have hs5 := (Bl.next n1.below hb2).size
 refine xc 12 (args := #[.int .i64 no, .int .i64 0]) (ref11_At no 0 _) ?_
 rintro _ W8 ⟨a5, c5, rfl, hb8, hQ5⟩
 have hs8 := (Bl.next (Bl.next n1.below hb2) hb5).size
 have k1 := ((n1.blk.below hb2).below hb5).below hb8
 refine xsv 1 k1 [.slice a5 ((fltL no 0).length) c5, .int .i64 0] fun W9 u9 k9 => ?_
 have g1 := n1.ge (Below.refl w.heap.size _)
 have hB := u9.below (Bl.next (Bl.next (Bl.next n1.below hb2) hb5) hb8) g1
 have h4'1 := u9.own2 (own_below (own_mono h4 hs5) hb8) k1 (by decide)
 have hQ5'3 := u9.own2 (own_mono hQ5 hs8) k1 (by decide)
 exact xec 3 k9 (.tuple #[.slice p4 (rawN (inB l no) 0 4) c4, .agg #[.slice a5 ((fltL no 0).length) c5, .int .i64 0]]) (rbitsU_ok (by unfold bitsErr; rw [if_pos hse, if_pos hz]) hB h4'1 hQ5'3)
set_option maxRecDepth 100000 in
set_option maxHeartbeats 1000000 in
theorem ref11_Index (B bm : Nat) (p : Option Addr) (k c : Nat) (l : List UInt8) (no : Int) (w : World) (hI : RefI B bm p k c l w) :
    Calls Tryz.prog 44 #[.pointer (some ⟨bm, 0, none⟩), .int .i64 no] w (RIdxU l no w) := by
 refine zin 30 Tryz.func44 ?_
 refine xa 3 [.slice none 0 0, .int .i64 0] 43 fun b1 W1 n1 => ?_
 have hI'1 := hI.below n1.below
 refine xc 6 (args := #[.pointer (some ⟨bm, 0, none⟩), .int .i64 no, .int .i64 4]) (ref11_in B bm p k c l _ hI'1 no 4) ?_
 rintro e W2 hq2
 rcases hq2 with ⟨hse, rfl, hb2⟩ | ⟨hse, hil, p3, c3, rfl, hb2, h3⟩
 · refine xk 14 (show (((inE l 4 no) != (0 : Int)) : Bool) = true from bne_iff_ne.2 hse) ?_
   refine xc 4 (args := #[.int .i64 no, .int .i64 (inE l 4 no)]) (ref11_At no (inE l 4 no) _) ?_
   rintro _ W3 ⟨a5, c5, rfl, hb3, hQ5⟩
   have hs3 := (Bl.next n1.below hb2).size
   have k1 := (n1.blk.below hb2).below hb3
   refine xsv 1 k1 [.slice a5 ((fltL no (inE l 4 no)).length) c5, .int .i64 (inE l 4 no)] fun W4 u4 k4 => ?_
   have g1 := n1.ge (Below.refl w.heap.size _)
   have hB := u4.below (Bl.next (Bl.next n1.below hb2) hb3) g1
   have hQ5'1 := u4.own2 (own_mono hQ5 hs3) k1 (by decide)
   exact xec 4 k4 (.tuple #[.slice none 0 0, .agg #[.slice a5 ((fltL no (inE l 4 no)).length) c5, .int .i64 (inE l 4 no)]]) (ridxU_bad (by unfold idxErr; rw [if_neg hse]) hse hB hQ5'1)
 have h3'1 := own_mono h3 n1.below.size
 refine xc 20 (args := #[.slice p3 244 c3]) (ref10_Read p3 c3 (inB l no) _ hil (bys_of (own_sl h3'1) hil)) ?_
 rintro e W5 hq5
 rcases hq5 with ⟨hz, rfl, hb5⟩ | ⟨hz, p4, c4, rfl, hb5, h4⟩
 · refine xc 12 (args := #[.int .i64 no, .int .i64 (idxE (inB l no))]) (ref11_At no (idxE (inB l no)) _) ?_
   rintro _ W6 ⟨a5, c5, rfl, hb6, hQ5⟩
   have hs6 := (Bl.next (Bl.next n1.below hb2) hb5).size
   have k1 := ((n1.blk.below hb2).below hb5).below hb6
   refine xsv 1 k1 [.slice a5 ((fltL no (idxE (inB l no))).length) c5, .int .i64 (idxE (inB l no))] fun W7 u7 k7 => ?_
   have g1 := n1.ge (Below.refl w.heap.size _)
   have hB := u7.below (Bl.next (Bl.next (Bl.next n1.below hb2) hb5) hb6) g1
   have hQ5'2 := u7.own2 (own_mono hQ5 hs6) k1 (by decide)
   exact xec 3 k7 (.tuple #[.slice none 0 0, .agg #[.slice a5 ((fltL no (idxE (inB l no))).length) c5, .int .i64 (idxE (inB l no))]]) (ridxU_bad (by unfold idxErr; rw [if_pos hse]) hz hB hQ5'2)
 have hs5 := (Bl.next n1.below hb2).size
 refine xc 12 (args := #[.int .i64 no, .int .i64 0]) (ref11_At no 0 _) ?_
 rintro _ W8 ⟨a5, c5, rfl, hb8, hQ5⟩
 have hs8 := (Bl.next (Bl.next n1.below hb2) hb5).size
 have k1 := ((n1.blk.below hb2).below hb5).below hb8
 refine xsv 1 k1 [.slice a5 ((fltL no 0).length) c5, .int .i64 0] fun W9 u9 k9 => ?_
 have g1 := n1.ge (Below.refl w.heap.size _)
 have hB := u9.below (Bl.next (Bl.next (Bl.next n1.below hb2) hb5) hb8) g1
 have h4'1 := u9.own2 (own_below (own_mono h4 hs5) hb8) k1 (by decide)
 have hQ5'3 := u9.own2 (own_mono hQ5 hs8) k1 (by decide)
 exact xec 3 k9 (.tuple #[.slice p4 (rawN (inB l no) 0 4) c4, .agg #[.slice a5 ((fltL no 0).length) c5, .int .i64 0]]) (ridxU_ok (by unfold idxErr; rw [if_pos hse, hz]) hB h4'1 hQ5'3)
end Go.Proofs.YthlakkdgcgkcdaaGreatDoor
namespace Go.Proofs.YthlakkdgcgkcdaaGreatDoor
open Go.RowKit Go.Extern.Stop Go.Stop Go.Extern
set_option linter.unusedVariables false
attribute [local irreducible] wpList wpAnyH Code.wp Oper.wp Go

/-- how many blocks of counts: of any number -/
def bmI (n : Int) : Nat := bmN n.toNat
/-- a slot, the block in which it stands, and why it is none -/
abbrev Plc := (Nat × Nat × Nat) × Int × Int
def plc0 : Plc := ((0, 0, 0), 0, 0)
def plcC (x : Plc) : List Value := [.int .i64 (x.1.1 : Int), .int .i64 (x.1.2.1 : Int), .int .i64 (x.1.2.2 : Int), .int .i64 x.2.1, .int .i64 x.2.2]
theorem plcC_len (x : Plc) : (plcC x).length = 5 := rfl
/-- the blocks, the number, and the counts that a slot tells -/
def oneO (l : List UInt8) (x : Plc) (want : Int) : List Int × Int × List Int :=
  if x.2.2 ≠ 0 then ([x.2.1], x.2.2, [])
  else if bitsErr l (x.1.1 : Int) ≠ 0 then ([x.2.1, (x.1.1 : Int)], bitsErr l (x.1.1 : Int), [])
  else if ((bitR l (x.1.1 : Int)).length : Int) ≠ want then ([x.2.1], 7, [])
  else if freeN (bitR l (x.1.1 : Int)) = x.1.2.1 ∧ firstN (bitR l (x.1.1 : Int)) = x.1.2.2 then ([], 0, bitR l (x.1.1 : Int))
  else ([x.2.1], 13, [])
theorem oneO_ok {l : List UInt8} {x : Plc} {want : Int} (h : (oneO l x want).2.1 = 0) : oneO l x want = ([], 0, bitR l (x.1.1 : Int)) ∧ ((bitR l (x.1.1 : Int)).length : Int) = want := by
  unfold oneO at h ⊢
  by_cases h1 : x.2.2 = 0
  · rw [if_neg (fun q => q h1)] at h ⊢
    by_cases h2 : bitsErr l (x.1.1 : Int) = 0
    · rw [if_neg (fun q => q h2)] at h ⊢
      by_cases h3 : ((bitR l (x.1.1 : Int)).length : Int) = want
      · rw [if_neg (fun q => q h3)] at h ⊢
        by_cases h4 : freeN (bitR l (x.1.1 : Int)) = x.1.2.1 ∧ firstN (bitR l (x.1.1 : Int)) = x.1.2.2
        · rw [if_pos h4]; exact ⟨rfl, h3⟩
        · rw [if_neg h4] at h; simp at h
      · rw [if_pos h3] at h; simp at h
    · rw [if_pos h2] at h; exact absurd h h2
  · rw [if_pos h1] at h; exact absurd h h1
def wantI (n : Int) (i : Nat) : Int := if n - 960 * i < 960 then n - 960 * i else 960
def oneI (l : List UInt8) (X : List Plc) (n : Int) (i : Nat) : List Int × Int × List Int := oneO l (X.getD i plc0) (wantI n i)
def allL (l : List UInt8) (X : List Plc) (n : Int) (i : Nat) : List (List Int) := (List.range i).map fun j => bitR l ((X.getD j plc0).1.1 : Int)
theorem allL_len (l : List UInt8) (X : List Plc) (n : Int) (i : Nat) : (allL l X n i).length = i := by simp [allL]
theorem allL_get {l : List UInt8} {X : List Plc} {n : Int} {i j : Nat} (h : j < i) : (allL l X n i).getD j [] = bitR l ((X.getD j plc0).1.1 : Int) := by simp [allL, List.getD, List.getElem?_range h]
theorem allL_next (l : List UInt8) (X : List Plc) (n : Int) (i : Nat) : allL l X n (i + 1) = allL l X n i ++ [bitR l ((X.getD i plc0).1.1 : Int)] := by simp [allL, List.range_succ]
def allK (l : List UInt8) (X : List Plc) (n : Int) (i : Nat) : Prop := ∀ j, j < i → (oneI l X n j).2.1 = 0
theorem allK_next {l : List UInt8} {X : List Plc} {n : Int} {i : Nat} (h : allK l X n i) (h2 : (oneI l X n i).2.1 = 0) : allK l X n (i + 1) := fun j hj => by
  by_cases e : j = i
  · subst e; exact h2
  · exact h j (by omega)
theorem bitR_small (l : List UInt8) (no : Int) : Small (bitR l no) := by
  unfold bitR; split
  · exact bitI_small _ _
  · intro n hn; cases hn
/-- all that the lists need, where there are as many as the counts want -/
theorem allL_form {l : List UInt8} {X : List Plc} {n : Int} (h : allK l X n X.length) (hX : X.length = bmI n) : FormOk (allL l X n X.length) := by
  have hw : ∀ i, i < X.length → ((bitR l ((X.getD i plc0).1.1 : Int)).length : Int) = wantI n i := fun i hi => (oneO_ok (h i hi)).2
  constructor
  · intro i hi
    rw [allL_len] at hi ⊢
    rw [allL_get hi]
    have h1 := hw i hi
    unfold wantI at h1
    unfold bmI bmN at hX
    split at h1 <;> refine ⟨by omega, by omega, fun h2 => by omega⟩
  · intro i hi
    rw [allL_len] at hi
    rw [allL_get hi]
    exact bitR_small _ _
/-- what is told above lists -/
def restO (l : List UInt8) (L : List (List Int)) (over fuel : Int) : List Int × Int × List Int :=
  if (scanW l over 5 fuel).fs ≠ [] then ((wholeF (scanW l over 5 fuel)).1, (wholeF (scanW l over 5 fuel)).2, [])
  else if (joinO L.flatten (scanW l over 5 fuel).es).1 ≠ 0 then ([over], (joinO L.flatten (scanW l over 5 fuel).es).1, [])
  else ([], 0, (joinO L.flatten (scanW l over 5 fuel).es).2)
theorem restO_flt {l : List UInt8} {L : List (List Int)} {over fuel : Int} (h : (scanW l over 5 fuel).fs ≠ []) : restO l L over fuel = ((wholeF (scanW l over 5 fuel)).1, (wholeF (scanW l over 5 fuel)).2, []) := if_pos h
theorem restO_join {l : List UInt8} {L : List (List Int)} {over fuel : Int} (h : (scanW l over 5 fuel).fs = []) (h2 : (joinO L.flatten (scanW l over 5 fuel).es).1 ≠ 0) : restO l L over fuel = ([over], (joinO L.flatten (scanW l over 5 fuel).es).1, []) := by
  unfold restO; rw [if_neg (fun q => q h), if_pos h2]
theorem restO_ok {l : List UInt8} {L : List (List Int)} {over fuel : Int} (h : (scanW l over 5 fuel).fs = []) (h2 : (joinO L.flatten (scanW l over 5 fuel).es).1 = 0) : restO l L over fuel = ([], 0, (joinO L.flatten (scanW l over 5 fuel).es).2) := by
  unfold restO; rw [if_neg (fun q => q h), if_neg (fun q => q h2)]
def allO (l : List UInt8) (X : List Plc) (over n fuel : Int) : List Int × Int × List Int :=
  match (List.range X.length).find? (fun i => (oneI l X n i).2.1 != 0) with
  | some i => ((oneI l X n i).1, (oneI l X n i).2.1, [])
  | none => restO l (allL l X n X.length) over fuel
theorem allO_bad {l : List UInt8} {X : List Plc} {over n fuel : Int} {i : Nat} (hi : i < X.length) (h : allK l X n i) (hb : (oneI l X n i).2.1 ≠ 0) : allO l X over n fuel = ((oneI l X n i).1, (oneI l X n i).2.1, []) := by
  unfold allO
  rw [show (List.range X.length).find? (fun i => (oneI l X n i).2.1 != 0) = some i from by
    rw [List.find?_range_eq_some]
    exact ⟨by simpa using hb, List.mem_range.2 hi, fun m hm => by simpa using h m hm⟩]
theorem allO_ok {l : List UInt8} {X : List Plc} {over n fuel : Int} (h : allK l X n X.length) : allO l X over n fuel = restO l (allL l X n X.length) over fuel := by
  unfold allO
  rw [show (List.range X.length).find? (fun i => (oneI l X n i).2.1 != 0) = none from by
    rw [List.find?_eq_none]
    intro i hi
    have := h i (List.mem_range.1 hi)
    simp [this]]
def slotT (v : List UInt8) : Nat × Nat × Nat := ((readV slotP v).getD 0 0, (readV slotP v).getD 1 0, (readV slotP v).getD 2 0)
def plcE (x : Ent) : Plc := (slotT x.2.1, x.2.2, readE slotP x.2.1)
def plcS (index : Int) (x : Nat × Nat × Nat) : Plc := (x, index, 0)
def keysOk (es : List Ent) : Bool := (List.range es.length).all fun i => (es.getD i entD).1 == (i : Int)
/-- what chart.Data tells: blocks, number, counts -/
def dataO (l : List UInt8) (index over n fuel : Int) : List Int × Int × List Int :=
  if (scanW l index 4 fuel).fs ≠ [] then ((wholeF (scanW l index 4 fuel)).1, (wholeF (scanW l index 4 fuel)).2, [])
  else if (scanW l index 4 fuel).es.length ≠ bmI n then ([index], 7, [])
  else if keysOk (scanW l index 4 fuel).es = false then ([index], 7, [])
  else allO l ((scanW l index 4 fuel).es.map plcE) over n fuel
def metaO (l : List UInt8) (index over n fuel : Int) : List Int × Int × List Int :=
  if idxErr l index ≠ 0 then ([index], idxErr l index, [])
  else if (idxR l index).length ≠ bmI n then ([index], 7, [])
  else allO l ((idxR l index).map (plcS index)) over n fuel
theorem keysOk_bad {es : List Ent} {i : Nat} (hi : i < es.length) (h : (es.getD i entD).1 ≠ (i : Int)) : keysOk es = false := by
  unfold keysOk
  rw [List.all_eq_false]
  exact ⟨i, List.mem_range.2 hi, by simpa using h⟩
theorem keysOk_ok {es : List Ent} (h : ∀ i, i < es.length → (es.getD i entD).1 = (i : Int)) : keysOk es = true := by
  unfold keysOk
  rw [List.all_eq_true]
  intro i hi
  simpa using h i (List.mem_range.1 hi)
theorem wholeF_ne {l : List UInt8} {root tree fuel : Int} (h : (scanW l root tree fuel).fs ≠ []) : (wholeF (scanW l root tree fuel)).2 ≠ 0 := by
  obtain ⟨es, fs, hw⟩ := scanW_went l root tree fuel
  have h2 : (scanW l root tree fuel).fs = fs := by rw [hw.fsE]; rfl
  rw [(whole_bad h).2.1]
  rw [h2] at h ⊢
  cases fs with
  | nil => exact absurd rfl h
  | cons f r => exact (hw.flt f (by simp)).2.2
end Go.Proofs.YthlakkdgcgkcdaaGreatDoor
namespace Go.Proofs.YthlakkdgcgkcdaaGreatDoor
open Go.RowKit Go.Extern.Stop Go.Stop Go.Extern
set_option linter.unusedVariables false
attribute [local irreducible] wpList wpAnyH Code.wp Oper.wp Go

set_option maxRecDepth 100000 in
set_option maxHeartbeats 1000000 in
theorem value_count (w : World) :
    Calls Tryz.prog 125 #[] w (RetS (fun w' r => ∃ b, r = .slice (some ⟨b, 0, none⟩) 1 1 ∧ w.heap.size ≤ b ∧ Blk w' b [.int .i64 4, .int .i64 3, .int .i64 2147483647] 176) w) := by
 refine zin 3 Tryz.func125 ?_
 refine xbs 8 1 [.int .i64 4, .int .i64 3, .int .i64 2147483647] 176 fun b1 W1 n1 => ?_
 have g1 := n1.ge (Below.refl w.heap.size _)
 exact xe 4 (.slice (some ⟨b1, 0, none⟩) 1 1) ⟨_, rfl, n1.below, _, rfl, g1, n1.blk⟩
end Go.Proofs.YthlakkdgcgkcdaaGreatDoor
namespace Go.Proofs.YthlakkdgcgkcdaaGreatDoor
open Go.RowKit Go.Extern.Stop Go.Stop Go.Extern
set_option linter.unusedVariables false
attribute [local irreducible] wpList wpAnyH Code.wp Oper.wp Go

set_option maxRecDepth 100000 in
set_option maxHeartbeats 1000000 in
theorem value_ReadCount (s : List UInt8) (w : World) (hs : s.length ≤ 1000) :
    Calls Tryz.prog 96 #[.string ⟨s.toArray⟩] w (Ret (.tuple #[.int .i64 (↑((readV cntP s).getD 0 0) : Int), .int .i64 (readE cntP s)]) w) := by
 refine zin 16 Tryz.func96 ?_
 refine xc 8 (args := #[]) (value_count _) ?_
 rintro _ W1 ⟨_, rfl, hb1, gl, rfl, gg, kl⟩
 refine xc 1 (args := #[.slice (some ⟨gl, 0, none⟩) 1 1, .string ⟨s.toArray⟩]) (value_readG cntP s (some ⟨gl, 0, none⟩) 1 _ cntP_ok (by decide) (by omega) (kl.sl 1 1 (by decide) (by decide))) ?_
 rintro _ W2 ⟨_, rfl, hb2, p5, c5, rfl, h5⟩
 have h5'1 := own_mono h5 hb1.size
 refine xx 10 _ 1 0 1 (nv_elem (l := readV cntP s) (own_sl h5'1) (readV_len _ _) (k := 0) (by decide)).1 ?_
 refine xl 0 ((nv_elem (l := readV cntP s) (own_sl h5'1) (readV_len _ _) (k := 0) (by decide)).2) ?_
 have hB := Bl.next hb1 hb2
 exact xe 6 (.tuple #[.int .i64 (↑((readV cntP s).getD 0 0) : Int), .int .i64 (readE cntP s)]) ⟨rfl, hB⟩
theorem cnt_raws (s : List UInt8) : rawsL cntP s = [rawN s 0 4] := rfl
theorem cnt_same (s : List UInt8) : (if s.length = 4 ∧ (3 : Int) ≤ (rawN s 0 4 : Int) ∧ (rawN s 0 4 : Int) ≤ 2147483647 then (rawN s 0 4 : Int) else 0) = (((readV cntP s).getD 0 0 : Nat) : Int) ∧ (if s.length = 4 then (if (3 : Int) ≤ (rawN s 0 4 : Int) ∧ (rawN s 0 4 : Int) ≤ 2147483647 then 0 else 2) else (7 : Int)) = readE cntP s := by
  have hs : (wids cntP cntP.length).sum = 4 := rfl
  have hk : readOk cntP s = decide ((3 : Int) ≤ (rawN s 0 4 : Int) ∧ (rawN s 0 4 : Int) ≤ 2147483647) := by
    unfold readOk
    rw [cnt_raws, show cntP.length = 1 from rfl]
    simp [allIn, inP, cntP, List.range_succ]
  have he : readE cntP s = if s.length = 4 then (if (3 : Int) ≤ (rawN s 0 4 : Int) ∧ (rawN s 0 4 : Int) ≤ 2147483647 then 0 else 2) else (7 : Int) := by
    unfold readE
    rw [hs, hk]
    simp only [decide_eq_true_eq]
  refine ⟨?_, he.symm⟩
  unfold readV
  rw [he]
  by_cases h4 : s.length = 4
  · by_cases hr : (3 : Int) ≤ (rawN s 0 4 : Int) ∧ (rawN s 0 4 : Int) ≤ 2147483647
    · rw [if_pos ⟨h4, hr⟩, if_pos h4, if_pos hr, if_pos rfl, cnt_raws]; rfl
    · rw [if_neg (fun q => hr q.2), if_pos h4, if_neg hr, if_neg (by decide)]; rfl
  · rw [if_neg (fun q => h4 q.1), if_neg h4, if_neg (by decide)]; rfl
theorem ref08_fourC (s : List UInt8) (w : World) (hs : s.length ≤ 1000) : Calls Tryz.prog 149 #[.string ⟨s.toArray⟩, .int .i64 3, .int .i64 2147483647] w (Ret (.tuple #[.int .i64 (↑((readV cntP s).getD 0 0) : Int), .int .i64 (readE cntP s)]) w) := by
  have h := ref08_four s 3 2147483647 w hs
  rwa [(cnt_same s).1, (cnt_same s).2] at h
set_option maxRecDepth 100000 in
set_option maxHeartbeats 1000000 in
theorem ref08_ReadCount (s : List UInt8) (w : World) (hs : s.length ≤ 1000) :
    Calls Tryz.prog 106 #[.string ⟨s.toArray⟩] w (Ret (.tuple #[.int .i64 (↑((readV cntP s).getD 0 0) : Int), .int .i64 (readE cntP s)]) w) := by
 refine zin 8 Tryz.func106 ?_
 refine xr 9 (args := #[.string ⟨s.toArray⟩, .int .i64 3, .int .i64 2147483647]) (ref08_fourC s _ hs) fun W1 hb1 => ?_
 exact xe 7 (.tuple #[.int .i64 (↑((readV cntP s).getD 0 0) : Int), .int .i64 (readE cntP s)]) ⟨rfl, hb1⟩
set_option maxRecDepth 100000 in
set_option maxHeartbeats 1000000 in
theorem size_BitmapsLP (m : Nat) (w : World) (hm : 1 ≤ m) (hn : m ≤ 1099511627776) :
    Calls Tryz.prog 30 #[.int .i64 (↑m : Int)] w (Ret (.int .i64 (↑(bmN m) : Int)) w) := by
 refine zin 9 Tryz.func30 ?_
 refine xk 12 (show (decide ((↑m : Int) < (1 : Int)) : Bool) = false from decide_eq_false (by omega)) ?_
 refine xwm 5 ((↑m : Int) - 1) (↑(m - 1) : Int) ?_
 refine xq 0 (congrArg (Value.int .i64) (show (IntKind.i64.wrap (Int.tdiv (↑(m - 1) : Int) 960) : Int) = (↑((m - 1) / 960) : Int) from quo_natB (m - 1) 960 (by omega) (by decide))) ?_
 refine xw 0 ((↑((m - 1) / 960) : Int) + 1) ?_
 exact xe 4 (.int .i64 ((↑((m - 1) / 960) : Int) + 1)) ⟨by rw [show bmN m = (m - 1) / 960 + 1 from by unfold bmN; omega, Int.natCast_add]; rfl, (Below.refl w.heap.size _)⟩
set_option maxRecDepth 100000 in
set_option maxHeartbeats 1000000 in
theorem size_BitmapsLN (n : Int) (w : World) (hn : n < 1) :
    Calls Tryz.prog 30 #[.int .i64 n] w (Ret (.int .i64 0) w) := by
 refine zin 9 Tryz.func30 ?_
 refine xk 12 (show (decide (n < (1 : Int)) : Bool) = true from decide_eq_true hn) ?_
 exact xe 7 (.int .i64 0) ⟨rfl, (Below.refl w.heap.size _)⟩
theorem size_BitmapsL (n : Int) (w : World) (hn : n ≤ 1099511627776) : Calls Tryz.prog 30 #[.int .i64 n] w (Ret (.int .i64 (↑(bmI n) : Int)) w) := by
  by_cases h : n < 1
  · have := size_BitmapsLN n w h
    rwa [show (0 : Int) = ((bmI n : Nat) : Int) from by unfold bmI bmN; omega] at this
  · obtain ⟨m, rfl⟩ : ∃ m : Nat, n = (m : Int) := ⟨n.toNat, by omega⟩
    exact size_BitmapsLP m w (by omega) (by omega)
set_option maxRecDepth 100000 in
set_option maxHeartbeats 1000000 in
theorem ref20_BitmapsLP (m : Nat) (w : World) (hm : 1 ≤ m) (hn : m ≤ 1099511627776) :
    Calls Tryz.prog 35 #[.int .i64 (↑m : Int)] w (Ret (.int .i64 (↑(bmN m) : Int)) w) := by
 refine zin 9 Tryz.func35 ?_
 refine xk 12 (show (decide ((↑m : Int) < (1 : Int)) : Bool) = false from decide_eq_false (by omega)) ?_
 refine xwm 5 ((↑m : Int) + 960) (↑(m + 960) : Int) ?_
 refine xwm 0 ((↑(m + 960) : Int) - 1) (↑((m + 960) - 1) : Int) ?_
 refine xq 0 (congrArg (Value.int .i64) (show (IntKind.i64.wrap (Int.tdiv (↑((m + 960) - 1) : Int) 960) : Int) = (↑((m + 960 - 1) / 960) : Int) from quo_natB (m + 960 - 1) 960 (by omega) (by decide))) ?_
 exact xe 4 (.int .i64 (↑((m + 960 - 1) / 960) : Int)) ⟨by rw [show bmN m = (m + 960 - 1) / 960 from rfl], (Below.refl w.heap.size _)⟩
set_option maxRecDepth 100000 in
set_option maxHeartbeats 1000000 in
theorem ref20_BitmapsLN (n : Int) (w : World) (hn : n < 1) :
    Calls Tryz.prog 35 #[.int .i64 n] w (Ret (.int .i64 0) w) := by
 refine zin 9 Tryz.func35 ?_
 refine xk 12 (show (decide (n < (1 : Int)) : Bool) = true from decide_eq_true hn) ?_
 exact xe 7 (.int .i64 0) ⟨rfl, (Below.refl w.heap.size _)⟩
theorem ref20_BitmapsL (n : Int) (w : World) (hn : n ≤ 1099511627776) : Calls Tryz.prog 35 #[.int .i64 n] w (Ret (.int .i64 (↑(bmI n) : Int)) w) := by
  by_cases h : n < 1
  · have := ref20_BitmapsLN n w h
    rwa [show (0 : Int) = ((bmI n : Nat) : Int) from by unfold bmI bmN; omega] at this
  · obtain ⟨m, rfl⟩ : ∃ m : Nat, n = (m : Int) := ⟨n.toNat, by omega⟩
    exact ref20_BitmapsLP m w (by omega) (by omega)
end Go.Proofs.YthlakkdgcgkcdaaGreatDoor
namespace Go.Proofs.YthlakkdgcgkcdaaGreatDoor
open Go.RowKit Go.Extern.Stop Go.Stop Go.Extern
set_option linter.unusedVariables false
attribute [local irreducible] wpList wpAnyH Code.wp Oper.wp Go

theorem value_ReadCountJ (E : List Ent) (i : Nat) (w : World) (hs : (E.getD i entD).2.1.length ≤ 1000) : Calls Tryz.prog 96 #[.string ⟨(E.getD i entD).2.1.toArray⟩] w (Ret (.tuple #[.int .i64 (jVal E i), .int .i64 (readE cntP (E.getD i entD).2.1)]) w) := value_ReadCount _ w hs
theorem outL_setK {F : List Int} {E : List Ent} {i kk : Nat} (h : jOk F E (i + 1)) (hk : jKey E i = (kk : Int)) : ((outL F E i).map (Value.int .i64)).set kk (.int .i64 (jVal E i)) = (outL F E (i + 1)).map (Value.int .i64) := by
  have e := outL_set h
  rwa [hk, Int.toNat_natCast] at e
theorem openL_delK {F : List Int} {E : List Ent} {i kk : Nat} (hk : jKey E i = (kk : Int)) : (openL F E i).erase ((kk : Nat) : Int) = openL F E (i + 1) := by rw [← hk]; exact openL_del F E i
theorem jLast_next (E : List Ent) (i : Nat) : jLast E (i + 1) = jKey E i := by unfold jLast; rw [if_neg (by omega), Nat.add_sub_cancel]
def JoinP (F : List Int) (E : List Ent) (w : World) (e : Ending) (w' : World) : Prop :=
  ∃ p c, e = .returned (.tuple #[.slice p (joinO F E).2.length c, .int .i64 (joinO F E).1]) ∧ Below w.heap.size w w' ∧ w'.ownsRow w.heap.size 3 1 (.slice p (joinO F E).2.length c) (joinO F E).2.length ((joinO F E).2.map (Value.int .i64))
theorem joinP_bad {F : List Int} {E : List Ent} {w W : World} {z : Int} (h : joinO F E = (z, [])) (hb : Below w.heap.size w W) : JoinP F E w (.returned (.tuple #[.slice none 0 0, .int .i64 z])) W := ⟨none, 0, by rw [h]; rfl, hb, by rw [h]; exact World.ownsRow_nil _ _ _ _⟩
theorem jBad_8 {F : List Int} {E : List Ent} {i : Nat} (h : jKey E i ≤ jLast E i) : jBad F E i = 8 := if_pos h
theorem jBad_13 {F : List Int} {E : List Ent} {i : Nat} (h : jLast E i < jKey E i) (h3 : F.getD (jKey E i).toNat 0 ≠ 3) : jBad F E i = 13 := by unfold jBad; rw [if_neg (by omega), if_pos h3]
theorem jBad_r {F : List Int} {E : List Ent} {i : Nat} (h : jLast E i < jKey E i) (h3 : F.getD (jKey E i).toNat 0 = 3) : jBad F E i = readE cntP (E.getD i entD).2.1 := by unfold jBad; rw [if_neg (by omega), if_neg (fun q => q h3)]
set_option maxRecDepth 100000 in
set_option maxHeartbeats 4000000 in
theorem tally_Join (B2 : Nat) (pl : Option Addr) (cl : Nat) (gs : List (Nat × Nat)) (L : List (List Int)) (a : Option Addr) (ce : Nat) (E : List Ent) (w : World) (hL : Lists w B2 (.slice pl L.length cl) gs L) (hF : FormOk L) (hl : L.length ≤ 1200000000) (hE : Sts entC w (.slice a E.length ce) E) (hv : ∀ i, i < E.length → (E.getD i entD).2.1.length ≤ 1000) :
    Calls Tryz.prog 61 #[.slice pl L.length cl, .slice a E.length ce] w (JoinP L.flatten E w) := by
 have hEl := Sl.len hE
 refine zin 61 Tryz.func61 ?_
 refine xc 9 (args := #[.slice pl L.length cl]) (tally_flat B2 pl cl gs L _ (hL.below (Below.refl w.heap.size _)) hF hl) ?_
 rintro _ W1 ⟨_, rfl, hb1, p, c, rm, rfl, ho0, hm0, hfr⟩
 have hs1 := Nat.le_refl w.heap.size
 have hg0 := hfr
 refine xv1 33 9 (show (.int .i64 (-1) : Value) = .int .i64 (jLast E 0) from rfl) ?_
 have ho0'1 := own_mono ho0 hs1
 refine zl 0 61 (fun zm zkv V => ∃ (i : Nat), zkv = [(6, .slice p L.flatten.length c), (7, .map (some rm)), (9, .int .i64 (jLast E i)), (22, .slice a E.length ce), (23, .int .i64 (↑E.length : Int)), (24, .int .i64 (↑i : Int))] ∧ zm = E.length - ((↑i : Int)).toNat ∧ Below w.heap.size w V ∧ V.ownsRow w.heap.size 3 1 (.slice p L.flatten.length c) L.flatten.length ((outL L.flatten E i).map (Value.int .i64)) ∧ MapI V rm (openL L.flatten E i) ∧ i ≤ E.length ∧ jOk L.flatten E i) ⟨0, rfl, rfl, hb1, (by rw [outL_zero]; exact ho0'1), (by rw [openL_zero]; exact hm0), Nat.zero_le _, (fun j hj => absurd hj (by omega))⟩ ?_
 rintro _ _ W2 ⟨i, rfl, rfl, hB_2, ho, hm, hi, hok⟩ J2 hJ2 r2
 have hjl := jOk_last hok
 refine xid 6 ((↑i : Int) < (↑E.length : Int)) (fun hc3 => ?_) (fun hc3 => ?_)
 · refine xx 6 _ E.length i 3 (Sts.cell hE entC_len entD (k := i) (i := 0) (by omega) rfl).1 ?_
   refine xlv 0 (Sts.rp (k := i) (hE.below hB_2) entC_len entD (by omega) (by decide)) ?_
   refine xa 0 [.int .i64 0, .string ⟨#[]⟩, .int .i64 0] 77 fun b4 W4 n4 => ?_
   have g4 := n4.ge hB_2
   refine xsv 0 n4.blk [.int .i64 (jKey E i), .string ⟨((E.getD i entD).2.1).toArray⟩, .int .i64 ((E.getD i entD).2.2)] fun W5 u5 k5 => ?_
   refine xb 6 0 k5 ?_
   refine xid 4 ((jKey E i) ≤ (jLast E i)) (fun hc6 => ?_) (fun hc6 => ?_)
   · have hB'1 := u5.below (Bl.next hB_2 n4.below) g4
     exact xe 13 (.tuple #[.slice none 0 0, .int .i64 8]) (joinP_bad ((joinO_bad (by omega) hok (by rw [jBad_8 (by omega)]; decide)).trans (by rw [jBad_8 (by omega)])) hB'1)
   have hlt : jLast E i < jKey E i := by omega
   refine xb 7 0 k5 ?_
   have hm'1 := (hm.below n4.below).updBlk u5 n4.blk
   refine xlk 0 (k := (jKey E i)) Tryz.underlying178 Tryz.underlying3 (fun V => by kernel_rfl) hm'1 ?_
   refine xi 3 (!(decide ((jKey E i) ∈ (openL L.flatten E i)))) (fun hc7 => ?_) (fun hc7 => ?_)
   · have hno : ¬ (jKey E i ∈ openL L.flatten E i) := by simpa using hc7
     have hB'2 := u5.below (Bl.next hB_2 n4.below) g4
     refine xe 13 (.tuple #[.slice none 0 0, .int .i64 13]) ?_
     have h13 := jBad_13 (F := L.flatten) hlt (fun q => hno ((openL_at hok hlt).2 q))
     exact joinP_bad ((joinO_bad (by omega) hok (by rw [h13]; decide)).trans (by rw [h13])) hB'2
   have hin : jKey E i ∈ openL L.flatten E i := by simpa using hc7
   have h3 := (openL_at hok hlt).1 hin
   have hjr := jBad_r (F := L.flatten) hlt h3
   refine xb 5 1 k5 ?_
   refine xr 0 (args := #[.string ⟨((E.getD i entD).2.1).toArray⟩]) (value_ReadCountJ E i _ (hv i (by omega))) fun W8 hb8 => ?_
   refine xin 14 (readE cntP (E.getD i entD).2.1) (0 : Int) (fun hc9 => ?_) (fun hc9 => ?_)
   · have hB'3 := Bl.next (u5.below (Bl.next hB_2 n4.below) g4) hb8
     exact xe 14 (.tuple #[.slice none 0 0, .int .i64 (readE cntP (E.getD i entD).2.1)]) (joinP_bad ((joinO_bad (by omega) hok (by rw [hjr]; omega)).trans (by rw [hjr])) hB'3)
   have hok2 : jOk L.flatten E (i + 1) := jOk_next hok (by rw [hjr]; omega)
   obtain ⟨kk, hkk⟩ : ∃ kk : Nat, jKey E i = (kk : Int) := ⟨(jKey E i).toNat, by have := hjl.1; omega⟩
   have hkl := jKey_lt h3
   rw [hkk, Int.toNat_natCast] at hkl
   have ho'1 := own_below (u5.own2 (own_below ho n4.below) n4.blk (by decide)) hb8
   obtain ⟨gq, rfl, _⟩ := own_someN ho'1 (by omega)
   have k5'1 := k5.below hb8
   have kq : Blk W8 b4 [.int .i64 (↑kk : Int), .string ⟨((E.getD i entD).2.1).toArray⟩, .int .i64 ((E.getD i entD).2.2)] 77 := by rw [← hkk]; exact k5'1
   refine xb 6 0 kq ?_
   refine xx 1 _ L.flatten.length kk 1 (own_some ho'1 (by omega)).1 ?_
   refine xst 0 fun _ _ _ _ zJ zQ zo zx zy zK => op_storeRow (t := 3) (k := kk) (v := .int .i64 (jVal E i)) zo zx zy (by kernel_rfl) rfl ho'1 (by omega) fun W10 u10 o10 => ?_
   rw [outL_setK (F := L.flatten) hok2 hkk] at o10
   refine zK _ _ ?_
   have kq'1 := u10.blk kq (own_blk_ne kq ho'1 (by decide))
   refine xb 6 0 kq'1 ?_
   have hm'2 := (hm'1.below hb8).updRow u10 ho'1
   refine xmd 0 (k := (↑kk : Int)) Tryz.underlying178 Tryz.underlying3 hm'2 (hkk ▸ hin) fun W11 u11 m11 => ?_
   rw [openL_delK (F := L.flatten) hkk] at m11
   have kq'2 := blk_map kq'1 hm'2 u11
   refine xb 4 0 kq'2 ?_
   refine xwm 5 ((↑i : Int) + 1) (↑(i + 1) : Int) ?_
   refine xv1 2 9 (show (.int .i64 (↑kk : Int) : Value) = .int .i64 (jLast E (i + 1)) from by rw [jLast_next, hkk]) ?_
   have hB'4 := u11.below (u10.below (Bl.next (u5.below (Bl.next hB_2 n4.below) g4) hb8) (own_ge ho'1)) hfr
   have o10'1 := own_map o10 hm'2 u11
   exact ze 0 (hJ2 _ _ _ ⟨i + 1, rfl, rfl, hB'4, o10'1, m11, by omega, hok2⟩ (by omega))
 refine xml 9 Tryz.underlying178 hm ?_
 refine xid 3 ((↑(openL L.flatten E i).length : Int) > (0 : Int)) (fun hc12 => ?_) (fun hc12 => ?_)
 · refine xe 8 (.tuple #[.slice none 0 0, .int .i64 13]) ?_
   obtain rfl : i = E.length := by omega
   exact joinP_bad ((joinO_all hok).trans (if_neg (fun q => by have h0 := congrArg List.length q; rw [List.length_nil] at h0; omega))) hB_2
 refine xe 10 (.tuple #[.slice p L.flatten.length c, .int .i64 0]) ?_
 obtain rfl : i = E.length := by omega
 have hnil : openL L.flatten E E.length = [] := List.eq_nil_of_length_eq_zero (by omega)
 have hj := (joinO_all hok).trans (if_pos hnil)
 exact ⟨p, c, by rw [hj, outL_len], hB_2, by rw [hj, outL_len]; exact ho⟩
end Go.Proofs.YthlakkdgcgkcdaaGreatDoor
namespace Go.Proofs.YthlakkdgcgkcdaaGreatDoor
open Go.RowKit Go.Extern.Stop Go.Stop Go.Extern
set_option linter.unusedVariables false
attribute [local irreducible] wpList wpAnyH Code.wp Oper.wp Go

def jN (E : List Ent) (i : Nat) : Nat := (jKey E i).toNat
theorem jN_cell {w : World} {a : Option Addr} {c k : Nat} {E : List Ent} (h : Sts entC w (.slice a E.length c) E) (hk : k < E.length) (h0 : ∀ i, i < E.length → 0 ≤ jKey E i) : w.cell? ((elemAddr a (k * 3)).add 0) = some (.int .i64 (jN E k : Int)) := by
  have := (Sts.cell h entC_len entD (k := k) (i := 0) hk rfl).2
  rw [show ((jN E k : Nat) : Int) = (E.getD k entD).1 from by have := h0 k hk; unfold jN jKey at *; omega]
  exact this
theorem ref08_ReadCountJ (E : List Ent) (i : Nat) (w : World) (hs : (E.getD i entD).2.1.length ≤ 1000) : Calls Tryz.prog 106 #[.string ⟨(E.getD i entD).2.1.toArray⟩] w (Ret (.tuple #[.int .i64 (jVal E i), .int .i64 (readE cntP (E.getD i entD).2.1)]) w) := ref08_ReadCount _ w hs
theorem jLast_or (E : List Ent) (i : Nat) : (i = 0 ∧ jLast E i = -1) ∨ (0 < i ∧ jLast E i = jKey E (i - 1)) := by
  unfold jLast
  by_cases h : i = 0
  · rw [if_pos h]; exact .inl ⟨h, rfl⟩
  · rw [if_neg h]; exact .inr ⟨by omega, rfl⟩
theorem jN_key {E : List Ent} {i : Nat} (h0 : ∀ i, i < E.length → 0 ≤ jKey E i) (hi : i < E.length) : (jN E i : Int) = jKey E i := by have := h0 i hi; unfold jN; omega
def FindP (E : List Ent) (k : Nat) (w : World) (e : Ending) (w' : World) : Prop :=
  (∃ j, (j < E.length ∧ jKey E j = (k : Int) ∧ ∀ m, m < j → jKey E m ≠ (k : Int)) ∧ e = .returned (.int .i64 (j : Int)) ∧ Below w.heap.size w w') ∨ ((∀ j, j < E.length → jKey E j ≠ (k : Int)) ∧ e = .returned (.int .i64 (-1)) ∧ Below w.heap.size w w')
set_option maxRecDepth 100000 in
set_option maxHeartbeats 2000000 in
theorem ref21_form (B2 : Nat) (pl : Option Addr) (cl : Nat) (gs : List (Nat × Nat)) (L : List (List Int)) (w : World) (hL : Lists w B2 (.slice pl L.length cl) gs L) (hF : FormOk L) (hl : L.length ≤ 1200000000) :
    Calls Tryz.prog 105 #[.slice pl L.length cl] w (Ret (.bool true) w) := by
 refine zin 57 Tryz.func105 ?_
 have hB := Below.refl w.heap.size w
 refine zl 12 57 (fun zm zkv V => ∃ (i : Nat), zkv = [(0, .slice pl L.length cl), (3, .int .i64 (↑i : Int))] ∧ zm = L.length - ((↑i : Int)).toNat ∧ Below w.heap.size w V ∧ i ≤ L.length) ⟨0, rfl, rfl, hB, Nat.zero_le _⟩ ?_
 rintro _ _ W1 ⟨i, rfl, rfl, hB_1, hi⟩ J1 hJ1 r1
 have hfo := fun (q : i < L.length) => hF.len i q
 refine xid 9 ((↑i : Int) < (↑L.length : Int)) (fun hc2 => ?_) (fun hc2 => ?_)
 · refine xx 8 _ L.length i 1 (Lists.elem hL rfl (k := i) (by omega)).1 ?_
   refine xl 0 ((Lists.elem (hL.below hB_1) rfl (k := i) (by omega)).2) ?_
   refine xgk 10 [18, 19] (show (((↑((L.getD i []).length) : Int) == (0 : Int)) : Bool) = false from beq_false_of_ne (by have := (hfo (by omega)).1; omega)) ?_
   refine xgk 4 [21, 22, 23] (show (decide ((↑((L.getD i []).length) : Int) > (960 : Int)) : Bool) = false from decide_eq_false (by have := (hfo (by omega)).2.1; omega)) ?_
   refine xwm 1 ((↑i : Int) + 1) (↑(i + 1) : Int) ?_
   refine xg 4 [28, 29] (decide ((↑(i + 1) : Int) < (↑L.length : Int))) (fun hc5 => ?_) (fun hc5 => ?_)
   · have hc5 := of_decide_eq_true hc5
     refine xk 6 (show (decide ((↑((L.getD i []).length) : Int) < (960 : Int)) : Bool) = false from decide_eq_false (by have := (hfo (by omega)).2.2 (by omega); omega)) ?_
     refine zl 8 57 (fun zm zkv V => ∃ (k : Nat), zkv = [(0, .slice pl L.length cl), (3, .int .i64 (↑i : Int)), (4, .int .i64 (↑((L.getD i []).length) : Int)), (5, .int .i64 (↑k : Int))] ∧ zm = (L.getD i []).length - ((↑k : Int)).toNat ∧ Below w.heap.size w V ∧ k ≤ (L.getD i []).length) ⟨0, rfl, rfl, hB_1, Nat.zero_le _⟩ ?_
     rintro _ _ W6 ⟨k, rfl, rfl, hB_6, hk⟩ J6 hJ6 r6
     have hsm := fun (q : k < (L.getD i []).length) => getI_bd (hF.small i (by omega)) k
     have hf2 := (hF.len i (by omega)).2.1
     refine xid 8 ((↑k : Int) < (↑((L.getD i []).length) : Int)) (fun hc7 => ?_) (fun hc7 => ?_)
     · refine xx 8 _ L.length i 1 (Lists.elem hL rfl (k := i) (by omega)).1 ?_
       refine xl 0 ((Lists.elem (hL.below hB_6) rfl (k := i) (by omega)).2) ?_
       refine xxb 1 (gs.getD i (0, 0)).1 0 ((L.getD i []).length) k 1 ?_
       refine xl 0 (cell_mid (IntsN.elem (own_sl (Lists.each (hL.below hB_6) i (by omega))) rfl (k := k) (by omega)).2) ?_
       refine xgk 2 [46, 47] (show (decide (((L.getD i []).getD k 0) < (0 : Int)) : Bool) = false from decide_eq_false (by have := (hsm (by omega)).1; omega)) ?_
       refine xx 2 _ L.length i 1 (Lists.elem hL rfl (k := i) (by omega)).1 ?_
       refine xl 0 ((Lists.elem (hL.below hB_6) rfl (k := i) (by omega)).2) ?_
       refine xxb 1 (gs.getD i (0, 0)).1 0 ((L.getD i []).length) k 1 ?_
       refine xl 0 (cell_mid (IntsN.elem (own_sl (Lists.each (hL.below hB_6) i (by omega))) rfl (k := k) (by omega)).2) ?_
       refine xk 4 (show (decide (((L.getD i []).getD k 0) > (3 : Int)) : Bool) = false from decide_eq_false (by have := (hsm (by omega)).2; omega)) ?_
       refine xwm 5 ((↑k : Int) + 1) (↑(k + 1) : Int) ?_
       exact ze 2 (hJ6 _ _ _ ⟨k + 1, rfl, rfl, hB_6, by omega⟩ (by omega))
     refine xwm 8 ((↑i : Int) + 1) (↑(i + 1) : Int) ?_
     exact ze 2 (hJ1 _ _ _ ⟨i + 1, rfl, rfl, hB_6, by omega⟩ (by omega))
   have hc5 := of_decide_eq_false hc5
   refine zl 15 57 (fun zm zkv V => ∃ (k : Nat), zkv = [(0, .slice pl L.length cl), (3, .int .i64 (↑i : Int)), (4, .int .i64 (↑((L.getD i []).length) : Int)), (5, .int .i64 (↑k : Int))] ∧ zm = (L.getD i []).length - ((↑k : Int)).toNat ∧ Below w.heap.size w V ∧ k ≤ (L.getD i []).length) ⟨0, rfl, rfl, hB_1, Nat.zero_le _⟩ ?_
   rintro _ _ W9 ⟨k, rfl, rfl, hB_9, hk⟩ J9 hJ9 r9
   have hsm := fun (q : k < (L.getD i []).length) => getI_bd (hF.small i (by omega)) k
   have hf2 := (hF.len i (by omega)).2.1
   refine xid 8 ((↑k : Int) < (↑((L.getD i []).length) : Int)) (fun hc10 => ?_) (fun hc10 => ?_)
   · refine xx 8 _ L.length i 1 (Lists.elem hL rfl (k := i) (by omega)).1 ?_
     refine xl 0 ((Lists.elem (hL.below hB_9) rfl (k := i) (by omega)).2) ?_
     refine xxb 1 (gs.getD i (0, 0)).1 0 ((L.getD i []).length) k 1 ?_
     refine xl 0 (cell_mid (IntsN.elem (own_sl (Lists.each (hL.below hB_9) i (by omega))) rfl (k := k) (by omega)).2) ?_
     refine xgk 2 [46, 47] (show (decide (((L.getD i []).getD k 0) < (0 : Int)) : Bool) = false from decide_eq_false (by have := (hsm (by omega)).1; omega)) ?_
     refine xx 2 _ L.length i 1 (Lists.elem hL rfl (k := i) (by omega)).1 ?_
     refine xl 0 ((Lists.elem (hL.below hB_9) rfl (k := i) (by omega)).2) ?_
     refine xxb 1 (gs.getD i (0, 0)).1 0 ((L.getD i []).length) k 1 ?_
     refine xl 0 (cell_mid (IntsN.elem (own_sl (Lists.each (hL.below hB_9) i (by omega))) rfl (k := k) (by omega)).2) ?_
     refine xk 4 (show (decide (((L.getD i []).getD k 0) > (3 : Int)) : Bool) = false from decide_eq_false (by have := (hsm (by omega)).2; omega)) ?_
     refine xwm 5 ((↑k : Int) + 1) (↑(k + 1) : Int) ?_
     exact ze 2 (hJ9 _ _ _ ⟨k + 1, rfl, rfl, hB_9, by omega⟩ (by omega))
   refine xwm 8 ((↑i : Int) + 1) (↑(i + 1) : Int) ?_
   exact ze 2 (hJ1 _ _ _ ⟨i + 1, rfl, rfl, hB_9, by omega⟩ (by omega))
 exact xe 11 (.bool true) ⟨rfl, hB_1⟩
set_option maxRecDepth 100000 in
set_option maxHeartbeats 2000000 in
theorem ref21_find (a : Option Addr) (ce : Nat) (E : List Ent) (key : Nat) (w : World) (hE : Sts entC w (.slice a E.length ce) E) (h0 : ∀ i, i < E.length → 0 ≤ jKey E i) :
    Calls Tryz.prog 107 #[.slice a E.length ce, .int .i64 (↑key : Int)] w (FindP E key w) := by
 have hEl := Sl.len hE
 refine zin 20 Tryz.func107 ?_
 have hB := Below.refl w.heap.size w
 refine zl 12 20 (fun zm zkv V => ∃ (i : Nat), zkv = [(0, .slice a E.length ce), (1, .int .i64 (↑key : Int)), (5, .int .i64 (↑i : Int))] ∧ zm = E.length - ((↑i : Int)).toNat ∧ Below w.heap.size w V ∧ i ≤ E.length ∧ (∀ j, j < i → jKey E j ≠ (key : Int))) ⟨0, rfl, rfl, hB, Nat.zero_le _, ?_⟩ ?_
 · exact fun j hj => absurd hj (by omega)
 rintro _ _ W1 ⟨i, rfl, rfl, hB_1, hi, hz⟩ J1 hJ1 r1
 have hkn := fun (q : i < E.length) => jN_key h0 q
 refine xid 9 ((↑i : Int) < (↑E.length : Int)) (fun hc2 => ?_) (fun hc2 => ?_)
 · refine xx 8 _ E.length i 3 (Sts.cell hE entC_len entD (k := i) (i := 0) (by omega) rfl).1 ?_
   refine xl 1 (jN_cell (k := i) (hE.below hB_1) (by omega) h0) ?_
   refine xie 4 (↑(jN E i) : Int) (↑key : Int) (fun hc3 => ?_) (fun hc3 => ?_)
   · exact xe 12 (.int .i64 (↑i : Int)) (.inl ⟨i, ⟨by omega, by have := hkn (by omega); omega, hz⟩, rfl, hB_1⟩)
   refine xwm 5 ((↑i : Int) + 1) (↑(i + 1) : Int) ?_
   exact ze 2 (hJ1 _ _ _ ⟨i + 1, rfl, rfl, hB_1, by omega, fun j hj => (Nat.lt_or_ge j i).elim (hz j) (fun q => by obtain rfl : j = i := (by omega); have := hkn (by omega); omega)⟩ (by omega))
 exact xe 11 (.int .i64 (-1)) (.inr ⟨fun j hj => hz j (by omega), rfl, hB_1⟩)
theorem docL_cell {w : World} {p : Option Addr} {F : List Int} {E : List Ent} {n c k : Nat} (h : Sl w (.slice p F.length c) F.length ((docL F E n k).map (Value.int .i64))) (hk : k < F.length) : w.cell? (elemAddr p (k * 1)) = some (.int .i64 (F.getD k 0)) := by
  have h1 := (IntsN.elem h (docL_len (by omega)) hk).2
  rwa [docL_at hk] at h1
theorem docL_setJ {F : List Int} {E : List Ent} {n k j : Nat} (h : k < F.length) (hj : j < n) (hk : jKey E j = (k : Int)) (hn : ∀ m, m < j → jKey E m ≠ (k : Int)) : ((docL F E n k).map (Value.int .i64)).set k (.int .i64 (jVal E j)) = (docL F E n (k + 1)).map (Value.int .i64) := by
  rw [← docL_set h]
  unfold jOut
  rw [jFind_some hj hk hn]
set_option maxRecDepth 100000 in
set_option maxHeartbeats 4000000 in
theorem ref21_Join (B2 : Nat) (pl : Option Addr) (cl : Nat) (gs : List (Nat × Nat)) (L : List (List Int)) (a : Option Addr) (ce : Nat) (E : List Ent) (w : World) (hL : Lists w B2 (.slice pl L.length cl) gs L) (hF : FormOk L) (hl : L.length ≤ 1200000000) (hE : Sts entC w (.slice a E.length ce) E) (hv : ∀ i, i < E.length → (E.getD i entD).2.1.length ≤ 1000) (h0 : ∀ i, i < E.length → 0 ≤ jKey E i) :
    Calls Tryz.prog 68 #[.slice pl L.length cl, .slice a E.length ce] w (JoinP L.flatten E w) := by
 have hEl := Sl.len hE
 have hFl := flatL_len hF L.length (Nat.le_refl _)
 rw [flat_all] at hFl
 refine zin 111 Tryz.func68 ?_
 refine xr 10 (args := #[.slice pl L.length cl]) (ref21_form B2 pl cl gs L _ (hL.below (Below.refl w.heap.size _)) hF hl) fun W1 hb1 => ?_
 refine zl 18 111 (fun zm zkv V => ∃ (i m : Nat) (p : Option Addr) (c : Nat), zkv = [(0, .slice pl L.length cl), (1, .slice a E.length ce), (4, .slice none 0 0), (5, .int .i64 0), (6, .slice p m c), (7, .int .i64 (↑i : Int))] ∧ zm = L.length - ((↑i : Int)).toNat ∧ Below w.heap.size w V ∧ V.ownsRow w.heap.size 3 1 (.slice p m c) m ((flatL L i).map (Value.int .i64)) ∧ i ≤ L.length ∧ m = (flatL L i).length) ⟨0, 0, none, 0, rfl, rfl, hb1, World.ownsRow_nil _ _ _ _, Nat.zero_le _, rfl⟩ ?_
 rintro _ _ W2 ⟨i, m, p, c, rfl, rfl, hB_2, ho, hi, hm⟩ J2 hJ2 r2
 have hfo := fun (q : i < L.length) => hF.len i q
 have hfl := fun (q : i ≤ L.length) => flatL_len hF i q
 refine xid 9 ((↑i : Int) < (↑L.length : Int)) (fun hc3 => ?_) (fun hc3 => ?_)
 · refine xx 8 _ L.length i 1 (Lists.elem hL rfl (k := i) (by omega)).1 ?_
   refine xl 0 ((Lists.elem (hL.below hB_2) rfl (k := i) (by omega)).2) ?_
   refine xbi 0 fun _ _ _ _ zJ zQ zo zx zy zK => op_app (m := (L.getD i []).length) (news := ((L.getD i []).map (Value.int .i64))) (.int .i64 0) 1 8 (m + (L.getD i []).length) (((flatL L (i + 1)).map (Value.int .i64))) zo Tryz.underlying30 (by kernel_rfl) rfl (by decide) zx ho zy (own_sl (Lists.each (hL.below hB_2) i (by omega))) (by simp) (ints_one _) (by have := (hfo (by omega)).2.1; have := hfl (by omega); unfold maxLen; omega) (by have := (hfo (by omega)).2.1; have := hfl (by omega); omega) hB_2.size (by omega) (by rw [flatL_next (by omega), List.map_append]) fun px4 cx4 W4 o4 hg4 hb4 => ?_
   refine zK _ _ ?_
   refine xwm 6 ((↑i : Int) + 1) (↑(i + 1) : Int) ?_
   have hB'1 := hB_2.trans hb4
   exact ze 2 (hJ2 _ _ _ ⟨i + 1, _, _, _, rfl, rfl, hB'1, o4, by omega, by rw [flatL_next (by omega), List.length_append]; omega⟩ (by omega))
 obtain rfl : i = L.length := by omega
 rw [flat_all] at hm
 have hof := ho
 rw [flat_all] at hof
 subst hm
 refine zl 12 111 (fun zm zkv V => ∃ (i : Nat), zkv = [(1, .slice a E.length ce), (6, .slice p L.flatten.length c), (8, .int .i64 (↑i : Int))] ∧ zm = E.length - ((↑i : Int)).toNat ∧ Below w.heap.size w V ∧ V.ownsRow w.heap.size 3 1 (.slice p L.flatten.length c) L.flatten.length (L.flatten.map (Value.int .i64)) ∧ i ≤ E.length ∧ jOk L.flatten E i) ⟨0, rfl, rfl, hB_2, hof, Nat.zero_le _, (fun j hj => absurd hj (by omega))⟩ ?_
 rintro _ _ W5 ⟨i, rfl, rfl, hB_5, ho_5, hi_5, hok⟩ J5 hJ5 r5
 have hjl := jOk_last hok
 have hjo := jLast_or E i
 have hkn := fun (q : i < E.length) => jN_key h0 q
 have hkp := fun (q : i < E.length) => jN_key (i := i - 1) h0 (by omega)
 refine xid 9 ((↑i : Int) < (↑E.length : Int)) (fun hc6 => ?_) (fun hc6 => ?_)
 · refine xx 8 _ E.length i 3 (Sts.cell hE entC_len entD (k := i) (i := 0) (by omega) rfl).1 ?_
   refine xl 1 (jN_cell (k := i) (hE.below hB_5) (by omega) h0) ?_
   refine xgk 9 [43, 44] (show (decide ((↑(jN E i) : Int) < (0 : Int)) : Bool) = false from decide_eq_false (by omega)) ?_
   refine xg 3 [46, 47] (decide ((↑i : Int) > (0 : Int))) (fun hc8 => ?_) (fun hc8 => ?_)
   · have hc8 := of_decide_eq_true hc8
     refine xwm 3 ((↑i : Int) - 1) (↑(i - 1) : Int) ?_
     refine xx 0 _ E.length (i - 1) 3 (Sts.cell hE entC_len entD (k := (i - 1)) (i := 0) (by omega) rfl).1 ?_
     refine xl 1 (jN_cell (k := (i - 1)) (hE.below hB_5) (by omega) h0) ?_
     refine xid 5 ((↑(jN E i) : Int) ≤ (↑(jN E (i - 1)) : Int)) (fun hc9 => ?_) (fun hc9 => ?_)
     · refine xe 13 (.tuple #[.slice none 0 0, .int .i64 8]) ?_
       have h8 : jKey E i ≤ jLast E i := by have := hkn (by omega); have := hkp (by omega); omega
       exact joinP_bad ((joinO_bad (by omega) hok (by rw [jBad_8 h8]; decide)).trans (by rw [jBad_8 h8])) hB_5
     refine xg 10 [61, 62] (decide ((↑(jN E i) : Int) ≥ (↑L.flatten.length : Int))) (fun hc10 => ?_) (fun hc10 => ?_)
     · have hc10 := of_decide_eq_true hc10
       refine xe 22 (.tuple #[.slice none 0 0, .int .i64 13]) ?_
       have hlt : jLast E i < jKey E i := by have := hkn (by omega); have := hkp (by omega); omega
       have h13 := jBad_13 (F := L.flatten) hlt (fun q => by have := jKey_lt q; unfold jN at *; omega)
       exact joinP_bad ((joinO_bad (by omega) hok (by rw [h13]; decide)).trans (by rw [h13])) hB_5
     have hc10 := of_decide_eq_false hc10
     have hkf : jN E i < L.flatten.length := by omega
     refine xx 2 _ L.flatten.length (jN E i) 1 (own_some ho_5 (by omega)).1 ?_
     refine xl 0 ((IntsN.elem (own_sl ho_5) (by rfl) (k := (jN E i)) (by omega)).2) ?_
     refine xin 4 (L.flatten.getD (jN E i) 0) (3 : Int) (fun hc11 => ?_) (fun hc11 => ?_)
     · refine xe 13 (.tuple #[.slice none 0 0, .int .i64 13]) ?_
       have hlt : jLast E i < jKey E i := by have := hkn (by omega); have := hkp (by omega); omega
       have h13 := jBad_13 (F := L.flatten) hlt (fun q => by unfold jN at *; omega)
       exact joinP_bad ((joinO_bad (by omega) hok (by rw [h13]; decide)).trans (by rw [h13])) hB_5
     have hlt : jLast E i < jKey E i := by have := hkn (by omega); have := hkp (by omega); omega
     have h3 : L.flatten.getD (jKey E i).toNat 0 = 3 := by unfold jN at *; omega
     have hjr := jBad_r (F := L.flatten) hlt h3
     refine xx 6 _ E.length i 3 (Sts.cell hE entC_len entD (k := i) (i := 0) (by omega) rfl).1 ?_
     refine xl 1 ((Sts.cell (hE.below hB_5) entC_len entD (k := i) (i := 1) (by omega) rfl).2) ?_
     refine xr 0 (args := #[.string ⟨((E.getD i entD).2.1).toArray⟩]) (ref08_ReadCountJ E i _ (hv i (by omega))) fun W12 hb12 => ?_
     refine xin 13 (readE cntP (E.getD i entD).2.1) (0 : Int) (fun hc13 => ?_) (fun hc13 => ?_)
     · have hB'2 := Bl.next hB_5 hb12
       exact xe 13 (.tuple #[.slice none 0 0, .int .i64 (readE cntP (E.getD i entD).2.1)]) (joinP_bad ((joinO_bad (by omega) hok (by rw [hjr]; omega)).trans (by rw [hjr])) hB'2)
     have hok2 : jOk L.flatten E (i + 1) := jOk_next hok (by rw [hjr]; omega)
     refine xwm 5 ((↑i : Int) + 1) (↑(i + 1) : Int) ?_
     have hB'3 := Bl.next hB_5 hb12
     have ho'1 := own_below ho_5 hb12
     exact ze 2 (hJ5 _ _ _ ⟨i + 1, rfl, rfl, hB'3, ho'1, by omega, hok2⟩ (by omega))
   have hc8 := of_decide_eq_false hc8
   refine xg 23 [61, 62] (decide ((↑(jN E i) : Int) ≥ (↑L.flatten.length : Int))) (fun hc14 => ?_) (fun hc14 => ?_)
   · have hc14 := of_decide_eq_true hc14
     refine xe 22 (.tuple #[.slice none 0 0, .int .i64 13]) ?_
     have hlt : jLast E i < jKey E i := by have := hkn (by omega); have := hkp (by omega); omega
     have h13 := jBad_13 (F := L.flatten) hlt (fun q => by have := jKey_lt q; unfold jN at *; omega)
     exact joinP_bad ((joinO_bad (by omega) hok (by rw [h13]; decide)).trans (by rw [h13])) hB_5
   have hc14 := of_decide_eq_false hc14
   have hkf : jN E i < L.flatten.length := by omega
   refine xx 2 _ L.flatten.length (jN E i) 1 (own_some ho_5 (by omega)).1 ?_
   refine xl 0 ((IntsN.elem (own_sl ho_5) (by rfl) (k := (jN E i)) (by omega)).2) ?_
   refine xin 4 (L.flatten.getD (jN E i) 0) (3 : Int) (fun hc15 => ?_) (fun hc15 => ?_)
   · refine xe 13 (.tuple #[.slice none 0 0, .int .i64 13]) ?_
     have hlt : jLast E i < jKey E i := by have := hkn (by omega); have := hkp (by omega); omega
     have h13 := jBad_13 (F := L.flatten) hlt (fun q => by unfold jN at *; omega)
     exact joinP_bad ((joinO_bad (by omega) hok (by rw [h13]; decide)).trans (by rw [h13])) hB_5
   have hlt : jLast E i < jKey E i := by have := hkn (by omega); have := hkp (by omega); omega
   have h3 : L.flatten.getD (jKey E i).toNat 0 = 3 := by unfold jN at *; omega
   have hjr := jBad_r (F := L.flatten) hlt h3
   refine xx 6 _ E.length i 3 (Sts.cell hE entC_len entD (k := i) (i := 0) (by omega) rfl).1 ?_
   refine xl 1 ((Sts.cell (hE.below hB_5) entC_len entD (k := i) (i := 1) (by omega) rfl).2) ?_
   refine xr 0 (args := #[.string ⟨((E.getD i entD).2.1).toArray⟩]) (ref08_ReadCountJ E i _ (hv i (by omega))) fun W16 hb16 => ?_
   refine xin 13 (readE cntP (E.getD i entD).2.1) (0 : Int) (fun hc17 => ?_) (fun hc17 => ?_)
   · have hB'4 := Bl.next hB_5 hb16
     exact xe 13 (.tuple #[.slice none 0 0, .int .i64 (readE cntP (E.getD i entD).2.1)]) (joinP_bad ((joinO_bad (by omega) hok (by rw [hjr]; omega)).trans (by rw [hjr])) hB'4)
   have hok2 : jOk L.flatten E (i + 1) := jOk_next hok (by rw [hjr]; omega)
   refine xwm 5 ((↑i : Int) + 1) (↑(i + 1) : Int) ?_
   have hB'5 := Bl.next hB_5 hb16
   have ho'2 := own_below ho_5 hb16
   exact ze 2 (hJ5 _ _ _ ⟨i + 1, rfl, rfl, hB'5, ho'2, by omega, hok2⟩ (by omega))
 obtain rfl : i = E.length := by omega
 refine zl 12 111 (fun zm zkv V => ∃ (k : Nat), zkv = [(1, .slice a E.length ce), (6, .slice p L.flatten.length c), (12, .int .i64 (↑k : Int))] ∧ zm = L.flatten.length - ((↑k : Int)).toNat ∧ Below w.heap.size w V ∧ V.ownsRow w.heap.size 3 1 (.slice p L.flatten.length c) L.flatten.length ((docL L.flatten E E.length k).map (Value.int .i64)) ∧ k ≤ L.flatten.length ∧ (∀ j, j < k → L.flatten.getD j 0 = 3 → ∃ m, m < E.length ∧ jKey E m = (j : Int))) ⟨0, rfl, rfl, hB_5, (by rw [docL_zero]; exact ho_5), Nat.zero_le _, ?_⟩ ?_
 · exact fun j hj => absurd hj (by omega)
 rintro _ _ W18 ⟨k, rfl, rfl, hB_18, ho, hk, hal⟩ J18 hJ18 r18
 refine xid 9 ((↑k : Int) < (↑L.flatten.length : Int)) (fun hc19 => ?_) (fun hc19 => ?_)
 · obtain ⟨gq, rfl, _⟩ := own_someN ho (by omega)
   refine xx 9 _ L.flatten.length k 1 (own_some ho (by omega)).1 ?_
   refine xl 0 (docL_cell (E := E) (n := E.length) (k := k) (own_sl ho) (by omega)) ?_
   refine xin 3 (L.flatten.getD k 0) (3 : Int) (fun hc20 => ?_) (fun hc20 => ?_)
   · refine xwm 6 ((↑k : Int) + 1) (↑(k + 1) : Int) ?_
     have hnk : L.flatten.getD k 0 ≠ 3 := by omega
     exact ze 2 (hJ18 _ _ _ ⟨k + 1, rfl, rfl, hB_18, (by rw [← docL_keep (E := E) (n := E.length) (k := k) (by omega) (jOut_not hok hnk)]; exact ho), by omega, fun j hj h3 => (Nat.lt_or_ge j k).elim (fun q => hal j q h3) (fun q => by obtain rfl : j = k := (by omega); exact absurd h3 hnk)⟩ (by omega))
   refine xc 6 (args := #[.slice a E.length ce, .int .i64 (↑k : Int)]) (ref21_find a ce E k _ (Sl.below hE hB_18) h0) ?_
   rintro e W21 hq21
   rcases hq21 with ⟨jj, ⟨hj1, hj2, hj3⟩, rfl, hb21⟩ | ⟨hnf, rfl, hb21⟩
   · refine xk 10 (show (decide ((↑jj : Int) < (0 : Int)) : Bool) = false from decide_eq_false (by omega)) ?_
     refine xx 6 _ E.length jj 3 (Sts.cell hE entC_len entD (k := jj) (i := 0) (by omega) rfl).1 ?_
     have hB'6 := Bl.next hB_18 hb21
     refine xl 1 ((Sts.cell (hE.below hB'6) entC_len entD (k := jj) (i := 1) (by omega) rfl).2) ?_
     refine xr 0 (args := #[.string ⟨((E.getD jj entD).2.1).toArray⟩]) (ref08_ReadCountJ E jj _ (hv jj (by omega))) fun W22 hb22 => ?_
     have ho'3 := own_below (own_below ho hb21) hb22
     refine xx 11 _ L.flatten.length k 1 (own_some ho'3 (by omega)).1 ?_
     refine xst 0 fun _ _ _ _ zJ zQ zo zx zy zK => op_storeRow (t := 3) (k := k) (v := .int .i64 (jVal E jj)) zo zx zy (by kernel_rfl) rfl ho'3 (by omega) fun W23 u23 o23 => ?_
     rw [docL_setJ (F := L.flatten) (E := E) (by omega) hj1 hj2 hj3] at o23
     refine zK _ _ ?_
     refine xwm 5 ((↑k : Int) + 1) (↑(k + 1) : Int) ?_
     have hB'7 := u23.below (Bl.next hB'6 hb22) (own_ge ho'3)
     exact ze 2 (hJ18 _ _ _ ⟨k + 1, rfl, rfl, hB'7, o23, by omega, fun j hj h3 => (Nat.lt_or_ge j k).elim (fun q => hal j q h3) (fun q => by obtain rfl : j = k := (by omega); exact ⟨jj, hj1, hj2⟩)⟩ (by omega))
   have hB'8 := Bl.next hB_18 hb21
   exact xe 24 (.tuple #[.slice none 0 0, .int .i64 13]) (joinP_bad ((joinO_all hok).trans (if_neg (open_ne (k := k) (by omega) hnf))) hB'8)
 refine xe 13 (.tuple #[.slice p L.flatten.length c, .int .i64 0]) ?_
 obtain rfl : k = L.flatten.length := by omega
 have hnil := open_nil (F := L.flatten) (E := E) (n := E.length) (fun j hj h3 => hal j hj h3)
 have hj := (joinO_all hok).trans (if_pos hnil)
 have ho2 := ho
 rw [docL_all] at ho2
 exact ⟨p, c, by rw [hj, outL_len], hB_18, by rw [hj, outL_len]; exact ho2⟩
end Go.Proofs.YthlakkdgcgkcdaaGreatDoor
namespace Go.Proofs.YthlakkdgcgkcdaaGreatDoor
open Go.RowKit Go.Extern.Stop Go.Stop Go.Extern
set_option linter.unusedVariables false
attribute [local irreducible] wpList wpAnyH Code.wp Oper.wp Go

section
variable {P : Program} {a : Act}
end
section
variable {P : Program} {fn : Func} {R : Ending → World → Prop} {w : World} {s : Zs}
end
theorem BysN.elem {w : World} {b : Option Addr} {n c : Nat} {l : List UInt8} (h : Sl w (.slice b n c) n (l.map bv)) (hl : l.length = n) {k : Nat} (hk : k < n) : b.isSome = true ∧ w.cell? (elemAddr b (k * 1)) = some (.int .u8 ((l.getD k 0).toNat : Int)) := by
  subst hl; exact Bys.elem (bys_of h rfl) hk
set_option maxRecDepth 100000 in
set_option maxHeartbeats 2000000 in
theorem bits_Free (a : Option Addr) (c : Nat) (l : List Int) (w : World) (hl : l.length ≤ 960) (h : Sl w (.slice a l.length c) l.length (l.map (Value.int .i64))) :
    Calls Tryz.prog 86 #[.slice a l.length c] w (Ret (.tuple #[.int .i64 (↑(freeN l) : Int), .int .i64 (↑(firstN l) : Int)]) w) := by
 refine zin 27 Tryz.func86 ?_
 have hB := Below.refl w.heap.size w
 refine zl 23 27 (fun zm zkv V => ∃ (i f g : Nat), zkv = [(2, .int .i64 0), (3, .int .i64 0), (4, .int .i64 (↑f : Int)), (5, .int .i64 (↑g : Int)), (10, .slice a l.length c), (11, .int .i64 (↑l.length : Int)), (12, .int .i64 (↑i : Int))] ∧ zm = l.length - ((↑i : Int)).toNat ∧ Below w.heap.size w V ∧ i ≤ l.length ∧ f = freeK l i ∧ ((f = 0 ∧ g = l.length ∧ ∀ j, j < i → l.getD j 0 ≠ 0) ∨ (0 < f ∧ g = firstN l))) ⟨0, 0, l.length, rfl, rfl, hB, Nat.zero_le _, rfl, ?_⟩ ?_
 · exact .inl ⟨rfl, rfl, fun j hj => absurd hj (by omega)⟩
 rintro _ _ W1 ⟨i, f, g, rfl, rfl, hB_1, hi, hf, hg⟩ J1 hJ1 r1
 have hfs := fun (q : i < l.length) => freeK_succ q
 have hfb := freeK_le l i
 refine xid 6 ((↑i : Int) < (↑l.length : Int)) (fun hc2 => ?_) (fun hc2 => ?_)
 · refine xx 7 _ l.length i 1 (Ints.elem h (k := i) (by omega)).1 ?_
   refine xl 0 ((Ints.elem (h.below hB_1) (k := i) (by omega)).2) ?_
   refine xin 11 (l.getD i 0) (0 : Int) (fun hc3 => ?_) (fun hc3 => ?_)
   · refine xwm 5 ((↑i : Int) + 1) (↑(i + 1) : Int) ?_
     exact ze 2 (hJ1 _ _ _ ⟨i + 1, f, g, rfl, rfl, hB_1, by omega, by rw [hfs (by omega), if_neg (by assumption)]; exact hf, hg.elim (fun ⟨h1, h2, h3⟩ => .inl ⟨h1, h2, fun j hj => (Nat.lt_or_ge j i).elim (fun q => h3 j q) (fun q => by obtain rfl : j = i := (by omega); assumption)⟩) .inr⟩ (by omega))
   refine xie 9 (↑f : Int) (0 : Int) (fun hc4 => ?_) (fun hc4 => ?_)
   · refine xwm 7 ((↑f : Int) + 1) (↑(f + 1) : Int) ?_
     refine xwm 5 ((↑i : Int) + 1) (↑(i + 1) : Int) ?_
     exact ze 2 (hJ1 _ _ _ ⟨i + 1, f + 1, i, rfl, rfl, hB_1, by omega, by rw [hfs (by omega), if_pos (by assumption), hf], .inr ⟨by omega, hg.elim (fun ⟨_, _, h3⟩ => (firstN_at (by omega) (by assumption) h3).symm) (fun q => absurd q.1 (by omega))⟩⟩ (by omega))
   refine xwm 4 ((↑f : Int) + 1) (↑(f + 1) : Int) ?_
   refine xwm 5 ((↑i : Int) + 1) (↑(i + 1) : Int) ?_
   exact ze 2 (hJ1 _ _ _ ⟨i + 1, f + 1, g, rfl, rfl, hB_1, by omega, by rw [hfs (by omega), if_pos (by assumption), hf], .inr ⟨by omega, hg.elim (fun ⟨h1, _, _⟩ => absurd h1 (by omega)) (fun q => q.2)⟩⟩ (by omega))
 refine xe 14 (.tuple #[.int .i64 (↑f : Int), .int .i64 (↑g : Int)]) ?_
 obtain rfl : i = l.length := by omega
 have hfin : f = freeN l := hf
 rcases hg with ⟨h1, h2, h3⟩ | ⟨h1, h2⟩
 · exact ⟨by rw [hfin, h2, firstN_none h3], hB_1⟩
 · exact ⟨by rw [hfin, h2], hB_1⟩
end Go.Proofs.YthlakkdgcgkcdaaGreatDoor
namespace Go.Proofs.YthlakkdgcgkcdaaGreatDoor
open Go.RowKit Go.Extern.Stop Go.Stop Go.Extern
set_option linter.unusedVariables false
attribute [local irreducible] wpList wpAnyH Code.wp Oper.wp Go

/-- what the program tells: counts, or an error of these blocks and this number -/
def OutP (O : List Int × Int × List Int) (w : World) (e : Ending) (w' : World) : Prop :=
  (O.2.1 ≠ 0 ∧ ∃ ty x, e = .returned (.tuple #[.slice none 0 0, .iface ty x]) ∧ Below w.heap.size w w' ∧ ErrV w' (O.1.map some) (some O.2.1) (.iface ty x)) ∨
  (O.2.1 = 0 ∧ ∃ p c, e = .returned (.tuple #[.slice p O.2.2.length c, .nilIface]) ∧ Below w.heap.size w w' ∧ w'.ownsRow w.heap.size 3 1 (.slice p O.2.2.length c) O.2.2.length (O.2.2.map (Value.int .i64)))
theorem out_bad {O : List Int × Int × List Int} {bl : List Int} {er : Int} {w W : World} {ty : TypeId} {x : Value} (h : O = (bl, er, [])) (her : er ≠ 0) (hb : Below w.heap.size w W) (hv : ErrV W (bl.map some) (some er) (.iface ty x)) : OutP O w (.returned (.tuple #[.slice none 0 0, .iface ty x])) W := by
  subst h; exact .inl ⟨her, ty, x, rfl, hb, hv⟩
theorem out_ok {O : List Int × Int × List Int} {L : List Int} {n : Nat} {w W : World} {p : Option Addr} {c : Nat} (h : O = ([], 0, L)) (hn : L.length = n) (hb : Below w.heap.size w W) (ho : W.ownsRow w.heap.size 3 1 (.slice p n c) n (L.map (Value.int .i64))) : OutP O w (.returned (.tuple #[.slice p n c, .nilIface])) W := by
  subst h hn; exact .inr ⟨rfl, p, c, rfl, hb, ho⟩
theorem fault_AtE (no er : Int) (bl : List Int) (v : Value) (w : World) (hv : ErrV w (bl.map some) (some er) v) :
    Calls Tryz.prog 31 #[.int .i64 no, v] w (fun e w' => ∃ ty x, e = .returned (.iface ty x) ∧ Below w.heap.size w w' ∧ ErrV w' ((no :: bl).map some) (some er) (.iface ty x)) := by
  refine (fault_At no (some er) (bl.map some) v w hv).mono ?_
  rintro e W ⟨r, rfl, hb, hr⟩
  rw [show atL no (bl.map some) (some er) = (no :: bl).map some from by unfold atL noErr; simp] at hr
  have hr2 : ErrV W (some no :: bl.map some) (some er) r := hr
  obtain ⟨blk, v', rfl, h1, h2⟩ := hr2
  exact ⟨_, _, rfl, hb, blk, v', rfl, h1, h2⟩
theorem bitR_le (l : List UInt8) (no : Int) : (bitR l no).length ≤ 960 := by
  by_cases h : bitsErr l no = 0
  · rw [(bitR_ok h).2]
    unfold bitsErr at h
    by_cases h1 : inE l 3 no = 0
    · rw [if_pos h1] at h
      by_cases h2 : bitsOkB (inB l no) = true
      · exact ((bitsOkB_iff _).1 h2).2.1
      · rw [if_neg h2] at h; omega
    · rw [if_neg h1] at h; exact absurd h h1
  · rw [bitR_bad h]; exact Nat.zero_le _
theorem block_BitsO (B b : Nat) (p : Option Addr) (n c : Nat) (l : List UInt8) (no : Int) (w : World) (hI : ImgR B b p n c l w) :
    Calls Tryz.prog 94 #[.pointer (some ⟨b, 0, none⟩), .int .i64 no] w (fun e w' =>
      (bitsErr l no ≠ 0 ∧ ∃ ty x, e = .returned (.tuple #[.slice none 0 0, .iface ty x]) ∧ Below w.heap.size w w' ∧ ErrV w' (([no] : List Int).map some) (some (bitsErr l no)) (.iface ty x)) ∨
      (bitsErr l no = 0 ∧ ∃ p c, e = .returned (.tuple #[.slice p (bitR l no).length c, .nilIface]) ∧ Below w.heap.size w w' ∧ w'.ownsRow w.heap.size 3 1 (.slice p (bitR l no).length c) (bitR l no).length ((bitR l no).map (Value.int .i64)))) := by
  refine (block_Bits B b p n c l no w hI).mono ?_
  rintro e W q
  rcases q with ⟨h, b, rfl, hb, hv⟩ | ⟨h, p, c, rfl, hb, ho⟩
  · exact .inl ⟨h, _, _, rfl, hb, hv⟩
  · refine .inr ⟨h, p, c, by rw [(bitR_ok h).2], hb, ?_⟩
    rw [(bitR_ok h).2, (bitR_ok h).1, bitI_map]; exact ho
set_option maxRecDepth 100000 in
set_option maxHeartbeats 2000000 in
theorem placed_counts (Bi b : Nat) (pi : Option Addr) (ni ci : Nat) (l : List UInt8) (x : Plc) (want : Int) (w : World) (hI : ImgR Bi b pi ni ci l w) :
    Calls Tryz.prog 60 #[.agg #[.int .i64 (↑x.1.1 : Int), .int .i64 (↑x.1.2.1 : Int), .int .i64 (↑x.1.2.2 : Int), .int .i64 x.2.1, .int .i64 x.2.2], .pointer (some ⟨b, 0, none⟩), .int .i64 want] w (OutP (oneO l x want) w) := by
 refine zin 65 Tryz.func60 ?_
 refine xa 2 [.int .i64 (↑x.1.1 : Int), .int .i64 (↑x.1.2.1 : Int), .int .i64 (↑x.1.2.2 : Int), .int .i64 x.2.1, .int .i64 x.2.2] 83 fun b1 W1 n1 => ?_
 refine xb 8 4 n1.blk ?_
 refine xin 3 x.2.2 (0 : Int) (fun hc2 => ?_) (fun hc2 => ?_)
 · refine xb 3 3 n1.blk ?_
   refine xb 1 4 n1.blk ?_
   refine xc 1 (args := #[.int .i64 x.2.1, .iface 51 (.int .i64 x.2.2)]) (fault_AtE x.2.1 x.2.2 [] _ _ rfl) ?_
   rintro _ W3 ⟨ty3, v3, rfl, hb3, hva⟩
   have hB := Bl.next n1.below hb3
   exact xe 6 (.tuple #[.slice none 0 0, .iface ty3 (v3)]) (out_bad (by unfold oneO; rw [if_pos (by assumption)]) (by assumption) hB hva)
 refine xb 7 0 n1.blk ?_
 refine xc 0 (args := #[.pointer (some ⟨b, 0, none⟩), .int .i64 (↑x.1.1 : Int)]) (block_BitsO Bi b pi ni ci l (↑x.1.1 : Int) _ (hI.below n1.below)) ?_
 rintro e W4 hq4
 rcases hq4 with ⟨hbe, tyb, vb, rfl, hb4, hv9⟩ | ⟨hbe, p9, c9, rfl, hb4, ho9⟩
 · have k1'1 := n1.blk.below hb4
   refine xb 18 3 k1'1 ?_
   refine xc 1 (args := #[.int .i64 x.2.1, .iface tyb (vb)]) (fault_AtE x.2.1 (bitsErr l (↑x.1.1 : Int)) [(↑x.1.1 : Int)] _ _ hv9) ?_
   rintro _ W5 ⟨ty5, v5, rfl, hb5, hva⟩
   have hB'1 := Bl.next (Bl.next n1.below hb4) hb5
   exact xe 6 (.tuple #[.slice none 0 0, .iface ty5 (v5)]) (out_bad (by unfold oneO; rw [if_neg (by omega), if_pos hbe]) hbe hB'1 hva)
 refine xin 26 (↑((bitR l (↑x.1.1 : Int)).length) : Int) want (fun hc6 => ?_) (fun hc6 => ?_)
 · have k1'2 := n1.blk.below hb4
   refine xb 3 3 k1'2 ?_
   refine xc 1 (args := #[.int .i64 x.2.1, .iface 51 (.int .i64 7)]) (fault_AtE x.2.1 7 [] _ _ rfl) ?_
   rintro _ W7 ⟨ty7, v7, rfl, hb7, hva⟩
   have hB'2 := Bl.next (Bl.next n1.below hb4) hb7
   exact xe 6 (.tuple #[.slice none 0 0, .iface ty7 (v7)]) (out_bad (by unfold oneO; rw [if_neg (by omega), if_neg (by omega), if_pos (by assumption)]) (by decide) hB'2 hva)
 have ho9'1 := own_mono ho9 n1.below.size
 refine xr 6 (args := #[.slice p9 ((bitR l (↑x.1.1 : Int)).length) c9]) (bits_Free p9 c9 (bitR l (↑x.1.1 : Int)) _ (bitR_le _ _) (own_sl ho9'1)) fun W8 hb8 => ?_
 have k1'3 := (n1.blk.below hb4).below hb8
 refine xb 12 1 k1'3 ?_
 refine xg 2 [52, 53] ((↑(freeN (bitR l (↑x.1.1 : Int))) : Int) != (↑x.1.2.1 : Int)) (fun hc9 => ?_) (fun hc9 => ?_)
 · have hc9 := ne_of_bne hc9
   refine xb 12 3 k1'3 ?_
   refine xc 1 (args := #[.int .i64 x.2.1, .iface 51 (.int .i64 13)]) (fault_AtE x.2.1 13 [] _ _ rfl) ?_
   rintro _ W10 ⟨ty10, v10, rfl, hb10, hva⟩
   have hB'3 := Bl.next (Bl.next (Bl.next n1.below hb4) hb8) hb10
   exact xe 6 (.tuple #[.slice none 0 0, .iface ty10 (v10)]) (out_bad (by unfold oneO; rw [if_neg (by omega), if_neg (by omega), if_neg (by omega), if_neg (by omega)]) (by decide) hB'3 hva)
 have hc9 := eq_of_bne_false hc9
 refine xb 3 2 k1'3 ?_
 refine xin 4 (↑(firstN (bitR l (↑x.1.1 : Int))) : Int) (↑x.1.2.2 : Int) (fun hc11 => ?_) (fun hc11 => ?_)
 · refine xb 3 3 k1'3 ?_
   refine xc 1 (args := #[.int .i64 x.2.1, .iface 51 (.int .i64 13)]) (fault_AtE x.2.1 13 [] _ _ rfl) ?_
   rintro _ W12 ⟨ty12, v12, rfl, hb12, hva⟩
   have hB'4 := Bl.next (Bl.next (Bl.next n1.below hb4) hb8) hb12
   exact xe 6 (.tuple #[.slice none 0 0, .iface ty12 (v12)]) (out_bad (by unfold oneO; rw [if_neg (by omega), if_neg (by omega), if_neg (by omega), if_neg (by omega)]) (by decide) hB'4 hva)
 have hB'5 := Bl.next (Bl.next n1.below hb4) hb8
 have ho9'2 := own_below ho9'1 hb8
 exact xe 10 (.tuple #[.slice p9 ((bitR l (↑x.1.1 : Int)).length) c9, .nilIface]) (out_ok (by unfold oneO; rw [if_neg (by omega), if_neg (by omega), if_neg (by omega), if_pos (by omega)]) rfl hB'5 ho9'2)
end Go.Proofs.YthlakkdgcgkcdaaGreatDoor
namespace Go.Proofs.YthlakkdgcgkcdaaGreatDoor
open Go.RowKit Go.Extern.Stop Go.Stop Go.Extern
set_option linter.unusedVariables false
attribute [local irreducible] wpList wpAnyH Code.wp Oper.wp Go

attribute [local go_sem] Oper.semAt_some
theorem Lists.put {W U : World} {D base : Nat} {v : Value} {gs : List (Nat × Nat)} {L : List (List Int)} (h : Lists W base v gs L) (u : Upd W D U) (hK : Dfr D W) : Lists U base v gs L := ⟨u.own3 h.row (hK.row h.row), fun i hi => u.own3 (h.each i hi) (hK.row (h.each i hi))⟩
end Go.Proofs.YthlakkdgcgkcdaaGreatDoor
namespace Go.Proofs.YthlakkdgcgkcdaaGreatDoor
open Go.RowKit Go.Extern.Stop Go.Stop Go.Extern
set_option linter.unusedVariables false
attribute [local irreducible] wpList wpAnyH Code.wp Oper.wp Go

theorem scan_short (l : List UInt8) (root tree fuel : Int) : ∀ i, i < (scanW l root tree fuel).es.length → ((scanW l root tree fuel).es.getD i entD).2.1.length ≤ 1000 := fun i hi => by
  have hx : (scanW l root tree fuel).es.getD i entD ∈ (scanW l root tree fuel).es := by rw [show (scanW l root tree fuel).es.getD i entD = (scanW l root tree fuel).es[i] from by simp [List.getD, hi]]; exact List.getElem_mem hi
  obtain ⟨_, _, k, _, _, h, _⟩ := (scan_law l root tree fuel).2.2.1 _ hx
  rw [← h]
  exact valsL_short _ _ _
theorem scan_pos (l : List UInt8) (root tree fuel : Int) : ∀ i, i < (scanW l root tree fuel).es.length → 0 ≤ jKey (scanW l root tree fuel).es i := fun i hi => by
  obtain ⟨es, fs, h⟩ := scanW_went l root tree fuel
  have h1 : (scanW l root tree fuel).es = es := by rw [h.esE]; rfl
  rw [h1] at hi ⊢
  unfold jKey
  rw [show es.getD i entD = es[i] from by simp [List.getD, hi]]
  exact (h.rise.2 _ (List.getElem_mem hi)).1
def remI (n : Int) (i : Nat) : Int := if 0 < i ∧ n - 960 * i < 0 then 0 else n - 960 * i
theorem remI_zero (n : Int) : remI n 0 = n := by unfold remI; rw [if_neg (by omega)]; omega
theorem rem_in {n : Int} {i m : Nat} (hX : m = bmI n) (hi : i < m) : remI n i = n - 960 * i ∧ 1 ≤ n - 960 * i ∧ (if 960 < remI n i then 960 else remI n i) = wantI n i ∧ 1 ≤ wantI n i ∧ wantI n i ≤ 960 ∧ remI n i - wantI n i = remI n (i + 1) := by
  unfold bmI bmN at hX
  have h1 : 1 ≤ n - 960 * i := by omega
  have h2 : remI n i = n - 960 * i := by unfold remI; rw [if_neg (by omega)]
  have h3 : (if 960 < remI n i then 960 else remI n i) = wantI n i := by
    unfold wantI; rw [h2]; split <;> split <;> omega
  have h4 : 1 ≤ wantI n i ∧ wantI n i ≤ 960 := by unfold wantI; split <;> omega
  refine ⟨h2, h1, h3, h4.1, h4.2, ?_⟩
  rw [h2]
  unfold wantI remI
  split <;> split <;> omega
theorem bmI_le {n : Int} (h : n ≤ 1099511627776) : bmI n ≤ 1200000000 := by unfold bmI bmN; omega
theorem joinO_nil {F : List Int} {E : List Ent} (h : (joinO F E).1 ≠ 0) : (joinO F E).2 = [] := by
  unfold joinO at h ⊢
  split
  · rfl
  · rename_i hq
    rw [hq] at h
    dsimp only at h
    split
    · rename_i h2; rw [if_pos h2] at h; exact absurd rfl h
    · rfl
/-- walk.Whole: the first fault, or all entries -/
theorem walk_WholeO (Bi b : Nat) (pi : Option Addr) (ni ci : Nat) (l : List UInt8) (root tree fuel : Int) (w : World) (hfu : fuel ≤ 1000) (hI : ImgR Bi b pi ni ci l w) :
    Calls Tryz.prog 29 #[.pointer (some ⟨b, 0, none⟩), .int .i64 root, .int .i64 tree, .int .i64 fuel] w (fun e w' =>
      ((scanW l root tree fuel).fs ≠ [] ∧ ∃ pe ce pb cb pf cf ty x, e = .returned (.tuple #[.agg #[.slice pe 0 ce, .slice pb 0 cb, .int .i64 0, .int .i64 0, .slice pf 0 cf], .iface ty x]) ∧ Below w.heap.size w w' ∧ ErrV w' ((wholeF (scanW l root tree fuel)).1.map some) (some (wholeF (scanW l root tree fuel)).2) (.iface ty x)) ∨
      ((scanW l root tree fuel).fs = [] ∧ ∃ pe ce pb nb cb dp lk pf cf, e = .returned (.tuple #[.agg #[.slice pe (scanW l root tree fuel).es.length ce, .slice pb nb cb, .int .i64 dp, .int .i64 lk, .slice pf 0 cf], .nilIface]) ∧ Below w.heap.size w w' ∧ w'.ownsRow w.heap.size 77 3 (.slice pe (scanW l root tree fuel).es.length ce) (scanW l root tree fuel).es.length ((scanW l root tree fuel).es.flatMap entC))) := by
  refine (walk_WholeP Bi b pi ni ci l root tree fuel w hfu hI).mono ?_
  rintro e W ⟨t, pe, pb, pf, ce, cb, cf, fv, v, ht, rfl, hb, hW, hv⟩
  by_cases h : (scanW l root tree fuel).fs = []
  · obtain ⟨h1, _, h3, h4⟩ := whole_ok h
    rw [h1] at ht
    rw [h3, h4] at hv
    subst ht
    have hv2 : v = .nilIface := hv
    subst hv2
    refine .inr ⟨h, pe, ce, pb, (scanW l root tree fuel).bs.length, cb, (scanW l root tree fuel).deep, ((scanW l root tree fuel).looked : Int), pf, cf, ?_, hb, hW.ents⟩
    unfold walkC
    rw [h]; rfl
  · obtain ⟨h1, h2, h3, h4⟩ := whole_bad h
    rw [h1] at ht
    rw [h3, h4, ← h2] at hv
    subst ht
    rcases hv.nil_or with ⟨hz, _⟩ | ⟨_, ty, x, rfl⟩
    · simp [noErr] at hz
    · exact .inl ⟨h, pe, ce, pb, cb, pf, cf, ty, x, rfl, hb, hv⟩
/-- a slot's counts, as one of many -/
theorem placed_countsI (Bi b : Nat) (pi : Option Addr) (ni ci : Nat) (l : List UInt8) (X : List Plc) (n : Int) (i : Nat) (w : World) (hI : ImgR Bi b pi ni ci l w) (hw : 1 ≤ wantI n i) :
    Calls Tryz.prog 60 #[.agg #[.int .i64 ((X.getD i plc0).1.1 : Int), .int .i64 ((X.getD i plc0).1.2.1 : Int), .int .i64 ((X.getD i plc0).1.2.2 : Int), .int .i64 (X.getD i plc0).2.1, .int .i64 (X.getD i plc0).2.2], .pointer (some ⟨b, 0, none⟩), .int .i64 (wantI n i)] w (fun e w' =>
      ((oneI l X n i).2.1 ≠ 0 ∧ ∃ ty x, e = .returned (.tuple #[.slice none 0 0, .iface ty x]) ∧ Below w.heap.size w w' ∧ ErrV w' ((oneI l X n i).1.map some) (some (oneI l X n i).2.1) (.iface ty x)) ∨
      ((oneI l X n i).2.1 = 0 ∧ ∃ g c, e = .returned (.tuple #[.slice (some ⟨g, 0, none⟩) (bitR l ((X.getD i plc0).1.1 : Int)).length c, .nilIface]) ∧ Below w.heap.size w w' ∧ w'.ownsRow w.heap.size 3 1 (.slice (some ⟨g, 0, none⟩) (bitR l ((X.getD i plc0).1.1 : Int)).length c) (bitR l ((X.getD i plc0).1.1 : Int)).length ((bitR l ((X.getD i plc0).1.1 : Int)).map (Value.int .i64)))) := by
  refine (placed_counts Bi b pi ni ci l (X.getD i plc0) (wantI n i) w hI).mono ?_
  rintro e W q
  rcases q with ⟨h, ty, x, rfl, hb, hv⟩ | ⟨h, p, c, rfl, hb, ho⟩
  · exact .inl ⟨h, ty, x, rfl, hb, hv⟩
  · obtain ⟨h1, h2⟩ := oneO_ok h
    rw [h1] at ho ⊢
    obtain ⟨g, rfl, _⟩ := own_someN ho (by show 0 < (bitR l ((X.getD i plc0).1.1 : Int)).length; omega)
    exact .inr ⟨h, g, c, rfl, hb, ho⟩
theorem rows_snoc {gs : List (Nat × Nat)} {l : List UInt8} {X : List Plc} {n : Int} {i g c : Nat} (hg : gs.length = i) :
    (List.range i).map (lstV gs (allL l X n i)) ++ [.slice (some ⟨g, 0, none⟩) (bitR l ((X.getD i plc0).1.1 : Int)).length c] = (List.range (i + 1)).map (lstV (gs ++ [(g, c)]) (allL l X n (i + 1))) := by
  have hl : gs.length = (allL l X n i).length := by rw [allL_len]; exact hg
  rw [List.range_succ, List.map_append, List.map_singleton, allL_next]
  congr 1
  · exact List.map_congr_left fun k hk => (lstV_old hl (by rw [allL_len]; exact List.mem_range.1 hk)).symm
  · have := lstV_new (c := c) (g := g) (ch := bitR l ((X.getD i plc0).1.1 : Int)) hl
    rw [allL_len] at this
    rw [this]
theorem each_snoc {W : World} {base g c i : Nat} {gs : List (Nat × Nat)} {l : List UInt8} {X : List Plc} {n : Int} (h : Each W base gs (allL l X n i)) (hg : gs.length = i) (ho : W.ownsRow base 3 1 (.slice (some ⟨g, 0, none⟩) (bitR l ((X.getD i plc0).1.1 : Int)).length c) (bitR l ((X.getD i plc0).1.1 : Int)).length ((bitR l ((X.getD i plc0).1.1 : Int)).map (Value.int .i64))) : Each W base (gs ++ [(g, c)]) (allL l X n (i + 1)) := by
  have hl : gs.length = (allL l X n i).length := by rw [allL_len]; exact hg
  intro k hk
  rw [allL_len] at hk
  rw [allL_next]
  by_cases e : k < i
  · have hk2 : k < (allL l X n i).length := by rw [allL_len]; exact e
    rw [lstV_old hl hk2, show (allL l X n i ++ [bitR l ((X.getD i plc0).1.1 : Int)]).getD k [] = (allL l X n i).getD k [] from by simp [List.getD, List.getElem?_append_left, hk2]]
    exact h k hk2
  · obtain rfl : k = i := by omega
    have h2 := lstV_new (c := c) (g := g) (ch := bitR l ((X.getD k plc0).1.1 : Int)) hl
    rw [allL_len] at h2
    rw [h2, show (allL l X n k ++ [bitR l ((X.getD k plc0).1.1 : Int)]).getD k [] = bitR l ((X.getD k plc0).1.1 : Int) from by
      have h3 := allL_len l X n k
      simp [List.getD, h3]]
    exact ho
theorem lists_all {W : World} {base m c : Nat} {p : Option Addr} {gs : List (Nat × Nat)} {l : List UInt8} {X : List Plc} {n : Int} (hr : W.ownsRow base 30 1 (.slice p m c) m ((List.range m).map (lstV gs (allL l X n m)))) (he : Each W base gs (allL l X n m)) : Lists W base (.slice p (allL l X n m).length c) gs (allL l X n m) := ⟨by rw [allL_len]; exact hr, fun i hi => he i hi⟩
theorem tally_JoinN (m : Nat) (B2 : Nat) (pl : Option Addr) (cl : Nat) (gs : List (Nat × Nat)) (L : List (List Int)) (a : Option Addr) (ce : Nat) (E : List Ent) (w : World) (hm : L.length = m) (hL : Lists w B2 (.slice pl L.length cl) gs L) (hF : FormOk L) (hl : L.length ≤ 1200000000) (hE : Sts entC w (.slice a E.length ce) E) (hv : ∀ i, i < E.length → (E.getD i entD).2.1.length ≤ 1000) :
    Calls Tryz.prog 61 #[.slice pl m cl, .slice a E.length ce] w (JoinP L.flatten E w) := by
  subst hm; exact tally_Join B2 pl cl gs L a ce E w hL hF hl hE hv
set_option maxRecDepth 100000 in
set_option maxHeartbeats 4000000 in
theorem chart_all (Bi b : Nat) (pi : Option Addr) (ni ci : Nat) (l : List UInt8) (px : Option Addr) (cx : Nat) (X : List Plc) (over n fuel : Int) (w : World) (hI : ImgR Bi b pi ni ci l w) (hX : Sts plcC w (.slice px X.length cx) X) (hXn : X.length = bmI n) (hn : n ≤ 1099511627776) (hfu : fuel ≤ 1000) :
    Calls Tryz.prog 33 #[.pointer (some ⟨b, 0, none⟩), .slice px X.length cx, .int .i64 over, .int .i64 n, .int .i64 fuel] w (OutP (allO l X over n fuel) w) := by
 have hXl := bmI_le hn
 rw [← hXn] at hXl
 refine zin 72 Tryz.func33 ?_
 refine xv1 20 3 (show (.int .i64 n : Value) = .int .i64 (remI n 0) from by rw [remI_zero]) ?_
 have hB := Below.refl w.heap.size w
 refine zl 0 72 (fun zm zkv V => ∃ (i : Nat) (gs : List (Nat × Nat)) (p : Option Addr) (c : Nat), zkv = [(0, .pointer (some ⟨b, 0, none⟩)), (2, .int .i64 over), (3, .int .i64 (remI n i)), (4, .int .i64 fuel), (12, .slice p i c), (22, .slice px X.length cx), (23, .int .i64 (↑X.length : Int)), (24, .int .i64 (↑i : Int))] ∧ zm = X.length - ((↑i : Int)).toNat ∧ Below w.heap.size w V ∧ V.ownsRow w.heap.size 30 1 (.slice p i c) i ((List.range i).map (lstV gs (allL l X n i))) ∧ Each V w.heap.size gs (allL l X n i) ∧ i ≤ X.length ∧ gs.length = i ∧ allK l X n i) ⟨0, [], none, 0, rfl, rfl, hB, World.ownsRow_nil _ _ _ _, (fun j hj => absurd hj (by rw [allL_len]; omega)), Nat.zero_le _, rfl, (fun j hj => absurd hj (by omega))⟩ ?_
 rintro _ _ W1 ⟨i, gs, p, c, rfl, rfl, hB_1, ho, hEa, hi, hgl, hok⟩ J1 hJ1 r1
 have hrm := fun (q : i < X.length) => rem_in hXn q
 refine xid 6 ((↑i : Int) < (↑X.length : Int)) (fun hc2 => ?_) (fun hc2 => ?_)
 · refine xx 6 _ X.length i 5 (Sts.cell hX plcC_len plc0 (k := i) (i := 0) (by omega) rfl).1 ?_
   refine xlv 0 (Sts.rp (k := i) (hX.below hB_1) plcC_len plc0 (by omega) (by decide)) ?_
   refine xa 0 [.int .i64 0, .int .i64 0, .int .i64 0, .int .i64 0, .int .i64 0] 83 fun b3 W3 n3 => ?_
   have g3 := n3.ge hB_1
   refine xsv 0 n3.blk [.int .i64 (↑(X.getD i plc0).1.1 : Int), .int .i64 (↑(X.getD i plc0).1.2.1 : Int), .int .i64 (↑(X.getD i plc0).1.2.2 : Int), .int .i64 ((X.getD i plc0).2.1), .int .i64 ((X.getD i plc0).2.2)] fun W4 u4 k4 => ?_
   refine xq 5 (congrArg (Value.int .i64) (show (if (960 : Int) < (remI n i) then (960 : Int) else (remI n i) : Int) = (wantI n i) from (hrm (by omega)).2.2.1)) ?_
   refine xlv 5 k4.rp ?_
   have hB'1 := u4.below (Bl.next hB_1 n3.below) g3
   refine xc 2 (args := #[.agg #[.int .i64 (↑(X.getD i plc0).1.1 : Int), .int .i64 (↑(X.getD i plc0).1.2.1 : Int), .int .i64 (↑(X.getD i plc0).1.2.2 : Int), .int .i64 ((X.getD i plc0).2.1), .int .i64 ((X.getD i plc0).2.2)], .pointer (some ⟨b, 0, none⟩), .int .i64 (wantI n i)]) (placed_countsI Bi b pi ni ci l X n i _ (hI.below hB'1) (hrm (by omega)).2.2.2.1) ?_
   rintro e W5 hq5
   rcases hq5 with ⟨hbe, tyc, vc, rfl, hb5, hv9⟩ | ⟨hbe, g9, c9, rfl, hb5, ho9⟩
   · have hB'2 := Bl.next hB'1 hb5
     exact xe 29 (.tuple #[.slice none 0 0, .iface tyc (vc)]) (out_bad (allO_bad (by omega) hok hbe) hbe hB'2 hv9)
   have hs5 := (u4.below (Bl.next hB_1 n3.below) g3).size
   refine xbs 21 1 [.slice (some ⟨g9, 0, none⟩) ((bitR l (↑(X.getD i plc0).1.1 : Int)).length) c9] 30 fun b6 W6 n6 => ?_
   have hB'3 := Bl.next hB'1 hb5
   have g6 := n6.ge hB'3
   have ho'1 := own_below (u4.own2 (own_below ho n3.below) n3.blk (by decide)) hb5
   have r6_ho := own_ne ho'1 n6
   have ho'2 := own_below ho'1 n6.below
   have hB'4 := Bl.next hB'3 n6.below
   refine xbi 0 fun _ _ _ _ zJ zQ zo zx zy zK => op_app (m := 1) (news := [.slice (some ⟨g9, 0, none⟩) ((bitR l (↑(X.getD i plc0).1.1 : Int)).length) c9]) (.slice none 0 0) 1 24 (i + 1) (((List.range (i + 1)).map (lstV (gs ++ [(g9, c9)]) (allL l X n (i + 1))))) zo Tryz.underlying91 (by kernel_rfl) rfl (by decide) zx ho'2 zy (n6.blk.sl 1 1 (by decide) (by decide)) rfl (by simp [Value.oneCell']) (by unfold maxLen; omega) (by omega) hB'4.size (rfl) (by rw [← rows_snoc hgl]) fun px7 cx7 W7 o7 hg7 hb7 => ?_
   refine zK _ _ ?_
   refine xq 6 (congrArg (Value.int .i64) (show IntKind.i64.wrap ((remI n i) - (wantI n i)) = (remI n (i + 1)) from (show IntKind.i64.wrap ((remI n i) - (wantI n i)) = ((remI n i) - (wantI n i)) from by first | exact IntWalk.i64_in _ (by omega) | (simp only [IntKind.wrap]; omega)).trans ((hrm (by omega)).2.2.2.2.2))) ?_
   refine xwm 5 ((↑i : Int) + 1) (↑(i + 1) : Int) ?_
   have hEa'1 := ((((hEa.below n3.below).only (Only.of_upd (T := [83]) u4 n3.blk (by decide)) (by decide)).below hb5).below n6.below).only (Only.of_grown (T := [30]) hg7 ho'2 (by decide)) (by decide)
   have ho9'1 := own_grown (own_below (own_mono ho9 hs5) n6.below) hg7 ho'2 (by decide)
   have hB'5 := hB'4.trans hb7
   exact ze 2 (hJ1 _ _ _ ⟨i + 1, gs ++ [(g9, c9)], _, _, rfl, rfl, hB'5, o7, (each_snoc hEa'1 hgl ho9'1), by omega, by rw [List.length_append, hgl]; rfl, allK_next hok hbe⟩ (by omega))
 obtain rfl : i = X.length := by omega
 refine xc 10 (args := #[.pointer (some ⟨b, 0, none⟩), .int .i64 over, .int .i64 5, .int .i64 fuel]) (walk_WholeO Bi b pi ni ci l over 5 fuel _ hfu (hI.below hB_1)) ?_
 rintro e W8 hq8
 rcases hq8 with ⟨hfs, pe, ce, pb, cb, pf, cf, tyw, vw, rfl, hb8, hv9⟩ | ⟨hfs, pe, ce, pb, nb, cb, dp, lk, pf, cf, rfl, hb8, hen⟩
 · refine xa 3 [.slice none 0 0, .slice none 0 0, .int .i64 0, .int .i64 0, .slice none 0 0] 70 fun b9 W9 n9 => ?_
   have hB'6 := Bl.next hB_1 hb8
   have g9 := n9.ge hB'6
   refine xsv 0 n9.blk [.slice pe 0 ce, .slice pb 0 cb, .int .i64 0, .int .i64 0, .slice pf 0 cf] fun W10 u10 k10 => ?_
   have hv9'1 := (hv9.below n9.below).only (Only.of_upd (T := [70]) u10 n9.blk (by decide)) (by decide)
   have hB'7 := u10.below (Bl.next hB'6 n9.below) g9
   exact xe 20 (.tuple #[.slice none 0 0, .iface tyw (vw)]) (out_bad ((allO_ok hok).trans (restO_flt hfs)) (wholeF_ne hfs) hB'7 hv9'1)
 refine xa 3 [.slice none 0 0, .slice none 0 0, .int .i64 0, .int .i64 0, .slice none 0 0] 70 fun b11 W11 n11 => ?_
 have hB'8 := Bl.next hB_1 hb8
 have g11 := n11.ge hB'8
 refine xsv 0 n11.blk [.slice pe ((scanW l over 5 fuel).es.length) ce, .slice pb nb cb, .int .i64 dp, .int .i64 lk, .slice pf 0 cf] fun W12 u12 k12 => ?_
 refine xb 17 0 k12 ?_
 have ho'3 := u12.own2 (own_below (own_below ho hb8) n11.below) n11.blk (by decide)
 have hEa'2 := ((hEa.below hb8).below n11.below).only (Only.of_upd (T := [70]) u12 n11.blk (by decide)) (by decide)
 have hen'1 := u12.own2 (own_below (own_mono hen hB_1.size) n11.below) n11.blk (by decide)
 refine xc 0 (args := #[.slice p X.length c, .slice pe ((scanW l over 5 fuel).es.length) ce]) (tally_JoinN X.length w.heap.size p c gs (allL l X n X.length) pe ce (scanW l over 5 fuel).es _ (allL_len _ _ _ _) (lists_all ho'3 hEa'2) (allL_form hok hXn) (by rw [allL_len, hXn]; exact bmI_le hn) (own_sl hen'1) (scan_short _ _ _ _)) ?_
 rintro _ W13 ⟨pj, cj, rfl, hb13, hoj⟩
 have hs13 := (u12.below (Bl.next hB'8 n11.below) g11).size
 refine xin 14 ((joinO (allL l X n X.length).flatten (scanW l over 5 fuel).es).1) (0 : Int) (fun hc14 => ?_) (fun hc14 => ?_)
 · refine xc 5 (args := #[.int .i64 over, .iface 51 (.int .i64 ((joinO (allL l X n X.length).flatten (scanW l over 5 fuel).es).1))]) (fault_AtE over (joinO (allL l X n X.length).flatten (scanW l over 5 fuel).es).1 [] _ _ rfl) ?_
   rintro _ W15 ⟨ty15, v15, rfl, hb15, hva⟩
   have hB'9 := Bl.next (Bl.next (u12.below (Bl.next hB'8 n11.below) g11) hb13) hb15
   exact xe 6 (.tuple #[.slice none 0 0, .iface ty15 (v15)]) (out_bad ((allO_ok hok).trans (restO_join hfs (by assumption))) (by assumption) hB'9 hva)
 have hB'10 := Bl.next (u12.below (Bl.next hB'8 n11.below) g11) hb13
 have hoj'1 := own_mono hoj hs13
 exact xe 10 (.tuple #[.slice pj ((joinO (allL l X n X.length).flatten (scanW l over 5 fuel).es).2.length) cj, .nilIface]) (out_ok ((allO_ok hok).trans (restO_ok hfs (by omega))) rfl hB'10 hoj'1)
end Go.Proofs.YthlakkdgcgkcdaaGreatDoor
namespace Go.Proofs.YthlakkdgcgkcdaaGreatDoor
open Go.RowKit Go.Extern.Stop Go.Stop Go.Extern
set_option linter.unusedVariables false
attribute [local irreducible] wpList wpAnyH Code.wp Oper.wp Go

def sl0 : Nat × Nat × Nat := (0, 0, 0)
theorem plcE_snoc {es : List Ent} {i : Nat} (hi : i < es.length) : ((es.take (i + 1)).map plcE).flatMap plcC = ((es.take i).map plcE).flatMap plcC ++ plcC (plcE (es.getD i entD)) := by
  rw [List.take_succ_eq_append_getElem hi, List.map_append, List.flatMap_append, show es.getD i entD = es[i] from by simp [List.getD, hi]]
  simp only [List.map_cons, List.map_nil, List.flatMap_cons, List.flatMap_nil, List.append_nil]
theorem plcS_snoc {sl : List (Nat × Nat × Nat)} {i : Nat} {at_ : Int} (hi : i < sl.length) : ((sl.take (i + 1)).map (plcS at_)).flatMap plcC = ((sl.take i).map (plcS at_)).flatMap plcC ++ plcC (plcS at_ (sl.getD i sl0)) := by
  rw [List.take_succ_eq_append_getElem hi, List.map_append, List.flatMap_append, show sl.getD i sl0 = sl[i] from by simp [List.getD, hi]]
  simp only [List.map_cons, List.map_nil, List.flatMap_cons, List.flatMap_nil, List.append_nil]
theorem dataO_flt {l : List UInt8} {index over n fuel : Int} (h : (scanW l index 4 fuel).fs ≠ []) : dataO l index over n fuel = ((wholeF (scanW l index 4 fuel)).1, (wholeF (scanW l index 4 fuel)).2, []) := if_pos h
theorem dataO_len {l : List UInt8} {index over n fuel : Int} (h : (scanW l index 4 fuel).fs = []) (h2 : (scanW l index 4 fuel).es.length ≠ bmI n) : dataO l index over n fuel = ([index], 7, []) := by unfold dataO; rw [if_neg (fun q => q h), if_pos h2]
theorem dataO_key {l : List UInt8} {index over n fuel : Int} {i : Nat} (h : (scanW l index 4 fuel).fs = []) (h2 : (scanW l index 4 fuel).es.length = bmI n) (hi : i < (scanW l index 4 fuel).es.length) (h3 : ((scanW l index 4 fuel).es.getD i entD).1 ≠ (i : Int)) : dataO l index over n fuel = ([index], 7, []) := by unfold dataO; rw [if_neg (fun q => q h), if_neg (fun q => q h2), if_pos (keysOk_bad hi h3)]
theorem dataO_all {l : List UInt8} {index over n fuel : Int} (h : (scanW l index 4 fuel).fs = []) (h2 : (scanW l index 4 fuel).es.length = bmI n) (h3 : ∀ i, i < (scanW l index 4 fuel).es.length → ((scanW l index 4 fuel).es.getD i entD).1 = (i : Int)) : dataO l index over n fuel = allO l ((scanW l index 4 fuel).es.map plcE) over n fuel := by unfold dataO; rw [if_neg (fun q => q h), if_neg (fun q => q h2), if_neg (by rw [keysOk_ok h3]; decide)]
theorem metaO_err {l : List UInt8} {index over n fuel : Int} (h : idxErr l index ≠ 0) : metaO l index over n fuel = ([index], idxErr l index, []) := if_pos h
theorem metaO_len {l : List UInt8} {index over n fuel : Int} (h : idxErr l index = 0) (h2 : (idxR l index).length ≠ bmI n) : metaO l index over n fuel = ([index], 7, []) := by unfold metaO; rw [if_neg (fun q => q h), if_pos h2]
theorem metaO_all {l : List UInt8} {index over n fuel : Int} (h : idxErr l index = 0) (h2 : (idxR l index).length = bmI n) : metaO l index over n fuel = allO l ((idxR l index).map (plcS index)) over n fuel := by unfold metaO; rw [if_neg (fun q => q h), if_neg (fun q => q h2)]
theorem chart_allN (m : Nat) (Bi b : Nat) (pi : Option Addr) (ni ci : Nat) (l : List UInt8) (px : Option Addr) (cx : Nat) (X : List Plc) (over n fuel : Int) (w : World) (hm : X.length = m) (hI : ImgR Bi b pi ni ci l w) (hX : Sl w (.slice px m cx) m (X.flatMap plcC)) (hXn : m = bmI n) (hn : n ≤ 1099511627776) (hfu : fuel ≤ 1000) :
    Calls Tryz.prog 33 #[.pointer (some ⟨b, 0, none⟩), .slice px m cx, .int .i64 over, .int .i64 n, .int .i64 fuel] w (OutP (allO l X over n fuel) w) := by
  subst hm; exact chart_all Bi b pi ni ci l px cx X over n fuel w hI hX hXn hn hfu
theorem block_IndexO (B b : Nat) (p : Option Addr) (n c : Nat) (l : List UInt8) (no : Int) (w : World) (hI : ImgR B b p n c l w) :
    Calls Tryz.prog 43 #[.pointer (some ⟨b, 0, none⟩), .int .i64 no] w (fun e w' =>
      (idxErr l no ≠ 0 ∧ ∃ ty x, e = .returned (.tuple #[.slice none 0 0, .iface ty x]) ∧ Below w.heap.size w w' ∧ ErrV w' (([no] : List Int).map some) (some (idxErr l no)) (.iface ty x)) ∨
      (idxErr l no = 0 ∧ ∃ p c, e = .returned (.tuple #[.slice p (idxR l no).length c, .nilIface]) ∧ Below w.heap.size w w' ∧ w'.ownsRow w.heap.size 79 3 (.slice p (idxR l no).length c) (idxR l no).length ((idxR l no).flatMap sltC))) := by
  refine (block_Index B b p n c l no w hI).mono ?_
  rintro e W q
  rcases q with ⟨h, b, rfl, hb, hv⟩ | ⟨h, p, c, rfl, hb, ho⟩
  · exact .inl ⟨h, _, _, rfl, hb, hv⟩
  · refine .inr ⟨h, p, c, by rw [(idxR_ok h).2], hb, ?_⟩
    rw [(idxR_ok h).2, (idxR_ok h).1]; exact ho
set_option maxRecDepth 100000 in
set_option maxHeartbeats 4000000 in
theorem chart_Data (Bi b : Nat) (pi : Option Addr) (ni ci : Nat) (l : List UInt8) (index over n fuel : Int) (w : World) (hI : ImgR Bi b pi ni ci l w) (hn : n ≤ 1099511627776) (hfu : fuel ≤ 1000) :
    Calls Tryz.prog 16 #[.pointer (some ⟨b, 0, none⟩), .int .i64 index, .int .i64 over, .int .i64 n, .int .i64 fuel] w (OutP (dataO l index over n fuel) w) := by
 have hbl := bmI_le hn
 refine zin 76 Tryz.func16 ?_
 refine xc 11 (args := #[.pointer (some ⟨b, 0, none⟩), .int .i64 index, .int .i64 4, .int .i64 fuel]) (walk_WholeO Bi b pi ni ci l index 4 fuel _ hfu (hI.below (Below.refl w.heap.size _))) ?_
 rintro e W1 hq1
 rcases hq1 with ⟨hfs, pe, ce, pb, cb, pf, cf, tyw, vw, rfl, hb1, hv9⟩ | ⟨hfs, pe, ce, pb, nb, cb, dp, lk, pf, cf, rfl, hb1, hen⟩
 · refine xa 3 [.slice none 0 0, .slice none 0 0, .int .i64 0, .int .i64 0, .slice none 0 0] 70 fun b2 W2 n2 => ?_
   refine xsv 0 n2.blk [.slice pe 0 ce, .slice pb 0 cb, .int .i64 0, .int .i64 0, .slice pf 0 cf] fun W3 u3 k3 => ?_
   have g2 := n2.ge hb1
   have hv9'1 := (hv9.below n2.below).only (Only.of_upd (T := [70]) u3 n2.blk (by decide)) (by decide)
   have hB := u3.below (Bl.next hb1 n2.below) g2
   exact xe 20 (.tuple #[.slice none 0 0, .iface tyw (vw)]) (out_bad (dataO_flt hfs) (wholeF_ne hfs) hB hv9'1)
 have hs1 := Nat.le_refl w.heap.size
 refine xa 3 [.slice none 0 0, .slice none 0 0, .int .i64 0, .int .i64 0, .slice none 0 0] 70 fun b4 W4 n4 => ?_
 refine xsv 0 n4.blk [.slice pe ((scanW l index 4 fuel).es.length) ce, .slice pb nb cb, .int .i64 dp, .int .i64 lk, .slice pf 0 cf] fun W5 u5 k5 => ?_
 have g4 := n4.ge hb1
 refine xd 15 .z ?_
 have k5'1 := k5.below (below_drew W5)
 refine xb (.e [0] 1) 0 k5'1 ?_
 refine xr (.o [2, 3] 4) (args := #[.int .i64 n]) (size_BitmapsL n _ hn) fun W6 hb6 => ?_
 refine xin (.r [5] 2) (↑((scanW l index 4 fuel).es.length) : Int) (↑(bmI n) : Int) (fun hc7 => ?_) (fun hc7 => ?_)
 · have hne : (scanW l index 4 fuel).es.length ≠ bmI n := by omega
   refine xc 4 (args := #[.int .i64 index, .iface 51 (.int .i64 7)]) (fault_AtE index 7 [] _ _ rfl) ?_
   rintro _ W8 ⟨ty8, v8, rfl, hb8, hva⟩
   have hB := Bl.next (Bl.next (Bl.next (u5.below (Bl.next hb1 n4.below) g4) (below_drew W5)) hb6) hb8
   exact xe 6 (.tuple #[.slice none 0 0, .iface ty8 (v8)]) (out_bad (dataO_len hfs hne) (by decide) hB hva)
 have hlen : (scanW l index 4 fuel).es.length = bmI n := by omega
 have k5'2 := k5'1.below hb6
 refine xb 11 0 k5'2 ?_
 have hen'1 := own_below (own_below (u5.own2 (own_below (own_mono hen hs1) n4.below) n4.blk (by decide)) (below_drew W5)) hb6
 have hB := Bl.next (Bl.next (u5.below (Bl.next hb1 n4.below) g4) (below_drew W5)) hb6
 refine zl 5 76 (fun zm zkv V => ∃ (i : Nat) (p : Option Addr) (c : Nat), zkv = [(0, .pointer (some ⟨b, 0, none⟩)), (1, .int .i64 index), (2, .int .i64 over), (3, .int .i64 n), (4, .int .i64 fuel), (14, .slice p i c), (39, .slice pe ((scanW l index 4 fuel).es.length) ce), (40, .int .i64 (↑((scanW l index 4 fuel).es.length) : Int)), (41, .int .i64 (↑i : Int))] ∧ zm = (scanW l index 4 fuel).es.length - ((↑i : Int)).toNat ∧ Below w.heap.size w V ∧ Blk V b4 ([.slice pe ((scanW l index 4 fuel).es.length) ce, .slice pb nb cb, .int .i64 dp, .int .i64 lk, .slice pf 0 cf]) 70 ∧ V.ownsRow w.heap.size 77 3 (.slice pe (scanW l index 4 fuel).es.length ce) (scanW l index 4 fuel).es.length ((scanW l index 4 fuel).es.flatMap entC) ∧ V.ownsRow w.heap.size 83 5 (.slice p i c) i ((((scanW l index 4 fuel).es.take i).map plcE).flatMap plcC) ∧ i ≤ (scanW l index 4 fuel).es.length ∧ (∀ j, j < i → ((scanW l index 4 fuel).es.getD j entD).1 = (j : Int))) ⟨0, none, 0, rfl, rfl, hB, k5'2, hen'1, World.ownsRow_nil _ _ _ _, Nat.zero_le _, ?_⟩ ?_
 · exact fun j hj => absurd hj (by omega)
 rintro _ _ W9 ⟨i, p, c, rfl, rfl, hB_9, k9_b4, hen, ho, hi, hky⟩ J9 hJ9 r9
 refine xid 6 ((↑i : Int) < (↑((scanW l index 4 fuel).es.length) : Int)) (fun hc10 => ?_) (fun hc10 => ?_)
 · refine xx 7 _ ((scanW l index 4 fuel).es.length) i 3 (Sts.cell (f := entC) (own_sl hen) entC_len entD (k := i) (i := 0) (by omega) rfl).1 ?_
   refine xlv 0 (Sts.rp (k := i) (own_sl hen) entC_len entD (by omega) (by decide)) ?_
   refine xa 0 [.int .i64 0, .string ⟨#[]⟩, .int .i64 0] 77 fun b11 W11 n11 => ?_
   have g11 := n11.ge hB_9
   have r11_hen := own_ne hen n11
   refine xsv 1 n11.blk [.int .i64 (((scanW l index 4 fuel).es.getD i entD).1), .string ⟨(((scanW l index 4 fuel).es.getD i entD).2.1).toArray⟩, .int .i64 (((scanW l index 4 fuel).es.getD i entD).2.2)] fun W12 u12 k12 => ?_
   refine xb 6 0 k12 ?_
   refine xin 4 (((scanW l index 4 fuel).es.getD i entD).1) (↑i : Int) (fun hc13 => ?_) (fun hc13 => ?_)
   · refine xc 4 (args := #[.int .i64 index, .iface 51 (.int .i64 7)]) (fault_AtE index 7 [] _ _ rfl) ?_
     rintro _ W14 ⟨ty14, v14, rfl, hb14, hva⟩
     have hB'1 := Bl.next (u12.below (Bl.next hB_9 n11.below) g11) hb14
     exact xe 11 (.tuple #[.slice none 0 0, .iface ty14 (v14)]) (out_bad (dataO_key hfs hlen (i := i) (by omega) (by assumption)) (by decide) hB'1 hva)
   refine xb 5 1 k12 ?_
   refine xr 0 (args := #[.string ⟨(((scanW l index 4 fuel).es.getD i entD).2.1).toArray⟩]) (value_ReadSlot ((scanW l index 4 fuel).es.getD i entD).2.1 _ (scan_short _ _ _ _ i (by omega))) fun W15 hb15 => ?_
   refine xa 3 [.int .i64 0, .int .i64 0, .int .i64 0] 79 fun b16 W16 n16 => ?_
   have hB'2 := Bl.next (u12.below (Bl.next hB_9 n11.below) g11) hb15
   have g16 := n16.ge hB'2
   refine xsv 0 n16.blk [.int .i64 (↑((readV slotP ((scanW l index 4 fuel).es.getD i entD).2.1).getD 0 0) : Int), .int .i64 (↑((readV slotP ((scanW l index 4 fuel).es.getD i entD).2.1).getD 1 0) : Int), .int .i64 (↑((readV slotP ((scanW l index 4 fuel).es.getD i entD).2.1).getD 2 0) : Int)] fun W17 u17 k17 => ?_
   refine xlv 5 k17.rp ?_
   have k12'1 := u17.blkT ((k12.below hb15).below n16.below) n16.blk (by decide)
   refine xb 1 2 k12'1 ?_
   refine xbs 2 1 [.int .i64 (↑((readV slotP ((scanW l index 4 fuel).es.getD i entD).2.1).getD 0 0) : Int), .int .i64 (↑((readV slotP ((scanW l index 4 fuel).es.getD i entD).2.1).getD 1 0) : Int), .int .i64 (↑((readV slotP ((scanW l index 4 fuel).es.getD i entD).2.1).getD 2 0) : Int), .int .i64 (((scanW l index 4 fuel).es.getD i entD).2.2), .int .i64 (readE slotP ((scanW l index 4 fuel).es.getD i entD).2.1)] 83 fun b18 W18 n18 => ?_
   have hB'3 := u17.below (Bl.next hB'2 n16.below) g16
   have g18 := n18.ge hB'3
   have ho'1 := u17.own2 (own_below (own_below (u12.own2 (own_below ho n11.below) n11.blk (by decide)) hb15) n16.below) n16.blk (by decide)
   have r18_ho := own_ne ho'1 n18
   have ho'2 := own_below ho'1 n18.below
   have hB'4 := Bl.next hB'3 n18.below
   refine xbi 0 fun _ _ _ _ zJ zQ zo zx zy zK => op_app (m := 1) (news := [.int .i64 (↑((readV slotP ((scanW l index 4 fuel).es.getD i entD).2.1).getD 0 0) : Int), .int .i64 (↑((readV slotP ((scanW l index 4 fuel).es.getD i entD).2.1).getD 1 0) : Int), .int .i64 (↑((readV slotP ((scanW l index 4 fuel).es.getD i entD).2.1).getD 2 0) : Int), .int .i64 (((scanW l index 4 fuel).es.getD i entD).2.2), .int .i64 (readE slotP ((scanW l index 4 fuel).es.getD i entD).2.1)]) (.agg #[.int .i64 0, .int .i64 0, .int .i64 0, .int .i64 0, .int .i64 0]) 5 40 (i + 1) (((((scanW l index 4 fuel).es.take (i + 1)).map plcE).flatMap plcC)) zo Tryz.underlying75 (by kernel_rfl) rfl (by decide) zx ho'2 zy (n18.blk.sl 1 1 (by decide) (by decide)) rfl (by simp [Value.oneCell']) (by unfold maxLen; omega) (by omega) hB'4.size (rfl) (by rw [plcE_snoc (by omega)]; rfl) fun px19 cx19 W19 o19 hg19 hb19 => ?_
   refine zK _ _ ?_
   refine xwm 5 ((↑i : Int) + 1) (↑(i + 1) : Int) ?_
   have hB'5 := hB'4.trans hb19
   have k9_b4'1 := ((u17.blkT (((u12.blkT (k9_b4.below n11.below) n11.blk (by decide)).below hb15).below n16.below) n16.blk (by decide)).below n18.below).grown hg19 ho'2 (by decide)
   have hen'2 := own_grown (own_below (u17.own2 (own_below (own_below (u12.own3 (own_below hen n11.below) r11_hen) hb15) n16.below) n16.blk (by decide)) n18.below) hg19 ho'2 (by decide)
   exact ze 2 (hJ9 _ _ _ ⟨i + 1, _, _, rfl, rfl, hB'5, k9_b4'1, hen'2, o19, by omega, fun j hj => (Nat.lt_or_ge j i).elim (hky j) (fun q => by obtain rfl : j = i := (by omega); omega)⟩ (by omega))
 have hiE : i = (scanW l index 4 fuel).es.length := by omega
 have hsr := own_sl ho
 rw [hiE, List.take_of_length_le (Nat.le_refl _)] at hsr
 rw [← hiE] at hsr
 refine xc 12 (args := #[.pointer (some ⟨b, 0, none⟩), .slice p i c, .int .i64 over, .int .i64 n, .int .i64 fuel]) (chart_allN i Bi b pi ni ci l p c ((scanW l index 4 fuel).es.map plcE) over n fuel _ (by rw [List.length_map]; exact hiE.symm) (hI.below hB_9) hsr (hiE.trans hlen) hn hfu) ?_
 rintro e W20 hq20
 rcases hq20 with ⟨hbe, tya, va, rfl, hb20, hv9⟩ | ⟨hbe, p9, c9, rfl, hb20, ho9⟩
 · have hB'6 := Bl.next hB_9 hb20
   refine xe 7 (.tuple #[.slice none 0 0, .iface tya (va)]) ?_
   rw [dataO_all hfs hlen (fun j hj => hky j (by omega))]
   exact .inl ⟨hbe, _, _, rfl, hB'6, hv9⟩
 have hB'7 := Bl.next hB_9 hb20
 have ho9'1 := own_mono ho9 hB_9.size
 refine xe 7 (.tuple #[.slice p9 ((allO l ((scanW l index 4 fuel).es.map plcE) over n fuel).2.2.length) c9, .nilIface]) ?_
 rw [dataO_all hfs hlen (fun j hj => hky j (by omega))]
 exact .inr ⟨hbe, _, _, rfl, hB'7, ho9'1⟩
set_option maxRecDepth 100000 in
set_option maxHeartbeats 4000000 in
theorem chart_Meta (Bi b : Nat) (pi : Option Addr) (ni ci : Nat) (l : List UInt8) (index over n fuel : Int) (w : World) (hI : ImgR Bi b pi ni ci l w) (hn : n ≤ 1099511627776) (hfu : fuel ≤ 1000) :
    Calls Tryz.prog 20 #[.pointer (some ⟨b, 0, none⟩), .int .i64 index, .int .i64 over, .int .i64 n, .int .i64 fuel] w (OutP (metaO l index over n fuel) w) := by
 have hbl := bmI_le hn
 refine zin 55 Tryz.func20 ?_
 refine xc 10 (args := #[.pointer (some ⟨b, 0, none⟩), .int .i64 index]) (block_IndexO Bi b pi ni ci l index _ (hI.below (Below.refl w.heap.size _))) ?_
 rintro e W1 hq1
 rcases hq1 with ⟨hie, tyw, vw, rfl, hb1, hv9⟩ | ⟨hie, ps, cs, rfl, hb1, hsl⟩
 · exact xe 24 (.tuple #[.slice none 0 0, .iface tyw (vw)]) (out_bad (metaO_err hie) hie hb1 hv9)
 have hs1 := Nat.le_refl w.heap.size
 refine xr 23 (args := #[.int .i64 n]) (size_BitmapsL n _ hn) fun W2 hb2 => ?_
 refine xin 3 (↑((idxR l index).length) : Int) (↑(bmI n) : Int) (fun hc3 => ?_) (fun hc3 => ?_)
 · have hne : (idxR l index).length ≠ bmI n := by omega
   refine xc 4 (args := #[.int .i64 index, .iface 51 (.int .i64 7)]) (fault_AtE index 7 [] _ _ rfl) ?_
   rintro _ W4 ⟨ty4, v4, rfl, hb4, hva⟩
   have hB := Bl.next (Bl.next hb1 hb2) hb4
   exact xe 6 (.tuple #[.slice none 0 0, .iface ty4 (v4)]) (out_bad (metaO_len hie hne) (by decide) hB hva)
 have hlen : (idxR l index).length = bmI n := by omega
 have hsl'1 := own_below (own_mono hsl hs1) hb2
 have hB := Bl.next hb1 hb2
 refine zl 16 55 (fun zm zkv V => ∃ (i : Nat) (p : Option Addr) (c : Nat), zkv = [(0, .pointer (some ⟨b, 0, none⟩)), (1, .int .i64 index), (2, .int .i64 over), (3, .int .i64 n), (4, .int .i64 fuel), (10, .slice none 0 0), (11, .nilIface), (14, .slice p i c), (34, .slice ps ((idxR l index).length) cs), (35, .int .i64 (↑((idxR l index).length) : Int)), (36, .int .i64 (↑i : Int))] ∧ zm = (idxR l index).length - ((↑i : Int)).toNat ∧ Below w.heap.size w V ∧ V.ownsRow w.heap.size 79 3 (.slice ps (idxR l index).length cs) (idxR l index).length ((idxR l index).flatMap sltC) ∧ V.ownsRow w.heap.size 83 5 (.slice p i c) i ((((idxR l index).take i).map (plcS index)).flatMap plcC) ∧ i ≤ (idxR l index).length) ⟨0, none, 0, rfl, rfl, hB, hsl'1, World.ownsRow_nil _ _ _ _, Nat.zero_le _⟩ ?_
 rintro _ _ W5 ⟨i, p, c, rfl, rfl, hB_5, hsl, ho, hi⟩ J5 hJ5 r5
 refine xid 6 ((↑i : Int) < (↑((idxR l index).length) : Int)) (fun hc6 => ?_) (fun hc6 => ?_)
 · refine xx 6 _ ((idxR l index).length) i 3 (Sts.cell (f := sltC) (own_sl hsl) sltC_len sl0 (k := i) (i := 0) (by omega) rfl).1 ?_
   refine xlv 0 (Sts.rp (k := i) (own_sl hsl) sltC_len sl0 (by omega) (by decide)) ?_
   refine xa 0 [.int .i64 0, .int .i64 0, .int .i64 0] 79 fun b7 W7 n7 => ?_
   have g7 := n7.ge hB_5
   have r7_hsl := own_ne hsl n7
   refine xsv 0 n7.blk [.int .i64 (↑((idxR l index).getD i sl0).1 : Int), .int .i64 (↑((idxR l index).getD i sl0).2.1 : Int), .int .i64 (↑((idxR l index).getD i sl0).2.2 : Int)] fun W8 u8 k8 => ?_
   refine xlv 4 k8.rp ?_
   refine xbs 2 1 [.int .i64 (↑((idxR l index).getD i sl0).1 : Int), .int .i64 (↑((idxR l index).getD i sl0).2.1 : Int), .int .i64 (↑((idxR l index).getD i sl0).2.2 : Int), .int .i64 index, .int .i64 0] 83 fun b9 W9 n9 => ?_
   have hB'1 := u8.below (Bl.next hB_5 n7.below) g7
   have g9 := n9.ge hB'1
   have ho'1 := u8.own2 (own_below ho n7.below) n7.blk (by decide)
   have r9_ho := own_ne ho'1 n9
   have ho'2 := own_below ho'1 n9.below
   have hB'2 := Bl.next hB'1 n9.below
   refine xbi 0 fun _ _ _ _ zJ zQ zo zx zy zK => op_app (m := 1) (news := [.int .i64 (↑((idxR l index).getD i sl0).1 : Int), .int .i64 (↑((idxR l index).getD i sl0).2.1 : Int), .int .i64 (↑((idxR l index).getD i sl0).2.2 : Int), .int .i64 index, .int .i64 0]) (.agg #[.int .i64 0, .int .i64 0, .int .i64 0, .int .i64 0, .int .i64 0]) 5 40 (i + 1) (((((idxR l index).take (i + 1)).map (plcS index)).flatMap plcC)) zo Tryz.underlying75 (by kernel_rfl) rfl (by decide) zx ho'2 zy (n9.blk.sl 1 1 (by decide) (by decide)) rfl (by simp [Value.oneCell']) (by unfold maxLen; omega) (by omega) hB'2.size (rfl) (by rw [plcS_snoc (by omega)]; rfl) fun px10 cx10 W10 o10 hg10 hb10 => ?_
   refine zK _ _ ?_
   refine xwm 5 ((↑i : Int) + 1) (↑(i + 1) : Int) ?_
   have hB'3 := hB'2.trans hb10
   have hsl'2 := own_grown (own_below (u8.own3 (own_below hsl n7.below) r7_hsl) n9.below) hg10 ho'2 (by decide)
   exact ze 2 (hJ5 _ _ _ ⟨i + 1, _, _, rfl, rfl, hB'3, hsl'2, o10, by omega⟩ (by omega))
 have hiE : i = (idxR l index).length := by omega
 have hsr := own_sl ho
 rw [hiE, List.take_of_length_le (Nat.le_refl _)] at hsr
 rw [← hiE] at hsr
 refine xc 12 (args := #[.pointer (some ⟨b, 0, none⟩), .slice p i c, .int .i64 over, .int .i64 n, .int .i64 fuel]) (chart_allN i Bi b pi ni ci l p c ((idxR l index).map (plcS index)) over n fuel _ (by rw [List.length_map]; exact hiE.symm) (hI.below hB_5) hsr (hiE.trans hlen) hn hfu) ?_
 rintro e W11 hq11
 rcases hq11 with ⟨hbe, tya, va, rfl, hb11, hv9⟩ | ⟨hbe, p9, c9, rfl, hb11, ho9⟩
 · have hB'4 := Bl.next hB_5 hb11
   refine xe 7 (.tuple #[.slice none 0 0, .iface tya (va)]) ?_
   rw [metaO_all hie hlen]
   exact .inl ⟨hbe, _, _, rfl, hB'4, hv9⟩
 have hB'5 := Bl.next hB_5 hb11
 have ho9'1 := own_mono ho9 hB_5.size
 refine xe 7 (.tuple #[.slice p9 ((allO l ((idxR l index).map (plcS index)) over n fuel).2.2.length) c9, .nilIface]) ?_
 rw [metaO_all hie hlen]
 exact .inr ⟨hbe, _, _, rfl, hB'5, ho9'1⟩
end Go.Proofs.YthlakkdgcgkcdaaGreatDoor
namespace Go.Proofs.YthlakkdgcgkcdaaGreatDoor
open Go.RowKit Go.Extern.Stop Go.Stop Go.Extern
set_option linter.unusedVariables false
attribute [local irreducible] wpList wpAnyH Code.wp Oper.wp Go

set_option maxRecDepth 100000 in
set_option maxHeartbeats 2000000 in
theorem ref09_Free (a : Option Addr) (c : Nat) (l : List Int) (w : World) (hl : l.length ≤ 960) (h : Sl w (.slice a l.length c) l.length (l.map (Value.int .i64))) :
    Calls Tryz.prog 67 #[.slice a l.length c] w (Ret (.tuple #[.int .i64 (↑(freeN l) : Int), .int .i64 (↑(firstN l) : Int)]) w) := by
 refine zin 35 Tryz.func67 ?_
 have hB := Below.refl w.heap.size w
 refine zl 18 35 (fun zm zkv V => ∃ (i f : Nat), zkv = [(0, .slice a l.length c), (2, .int .i64 0), (3, .int .i64 0), (4, .int .i64 (↑f : Int)), (5, .int .i64 (↑i : Int))] ∧ zm = l.length - ((↑i : Int)).toNat ∧ Below w.heap.size w V ∧ i ≤ l.length ∧ f = freeK l i) ⟨0, 0, rfl, rfl, hB, Nat.zero_le _, rfl⟩ ?_
 rintro _ _ W1 ⟨i, f, rfl, rfl, hB_1, hi, hf⟩ J1 hJ1 r1
 have hfs := fun (q : i < l.length) => freeK_succ q
 have hfb := freeK_le l i
 refine xid 9 ((↑i : Int) < (↑l.length : Int)) (fun hc2 => ?_) (fun hc2 => ?_)
 · refine xx 8 _ l.length i 1 (Ints.elem h (k := i) (by omega)).1 ?_
   refine xl 0 ((Ints.elem (h.below hB_1) (k := i) (by omega)).2) ?_
   refine xie 3 (l.getD i 0) (0 : Int) (fun hc3 => ?_) (fun hc3 => ?_)
   · refine xwm 2 ((↑f : Int) + 1) (↑(f + 1) : Int) ?_
     refine xwm 6 ((↑i : Int) + 1) (↑(i + 1) : Int) ?_
     exact ze 2 (hJ1 _ _ _ ⟨i + 1, f + 1, rfl, rfl, hB_1, by omega, by rw [hfs (by omega), if_pos (by assumption), hf]⟩ (by omega))
   refine xwm 5 ((↑i : Int) + 1) (↑(i + 1) : Int) ?_
   exact ze 2 (hJ1 _ _ _ ⟨i + 1, f, rfl, rfl, hB_1, by omega, by rw [hfs (by omega), if_neg (by assumption)]; exact hf⟩ (by omega))
 refine zl 12 35 (fun zm zkv V => ∃ (g : Nat), zkv = [(0, .slice a l.length c), (2, .int .i64 0), (3, .int .i64 0), (4, .int .i64 (↑f : Int)), (6, .int .i64 (↑g : Int))] ∧ zm = l.length - ((↑g : Int)).toNat ∧ Below w.heap.size w V ∧ g ≤ l.length ∧ ((∀ j, j < g → l.getD j 0 ≠ 0))) ⟨0, rfl, rfl, hB_1, Nat.zero_le _, ?_⟩ ?_
 · exact fun j hj => absurd hj (by omega)
 rintro _ _ W4 ⟨g, rfl, rfl, hB_4, hg, hz⟩ J4 hJ4 r4
 refine xg 8 [23, 24] (decide ((↑g : Int) < (↑l.length : Int))) (fun hc5 => ?_) (fun hc5 => ?_)
 · have hc5 := of_decide_eq_true hc5
   refine xx 2 _ l.length g 1 (Ints.elem h (k := g) (by omega)).1 ?_
   refine xl 0 ((Ints.elem (h.below hB_4) (k := g) (by omega)).2) ?_
   refine xin 4 (l.getD g 0) (0 : Int) (fun hc6 => ?_) (fun hc6 => ?_)
   · refine xwm 5 ((↑g : Int) + 1) (↑(g + 1) : Int) ?_
     exact ze 3 (hJ4 _ _ _ ⟨g + 1, rfl, rfl, hB_4, by omega, fun j hj => (Nat.lt_or_ge j g).elim (fun q => hz j q) (fun q => by obtain rfl : j = g := (by omega); first | assumption | omega)⟩ (by omega))
   refine xe 14 (.tuple #[.int .i64 (↑f : Int), .int .i64 (↑g : Int)]) ?_
   obtain rfl : i = l.length := by omega
   have hfin : f = freeN l := hf
   have hgf : g = firstN l := by first | (exact (firstN_at (by omega) (by omega) hz).symm) | (obtain rfl : g = l.length := (by omega); exact (firstN_none hz).symm)
   subst hfin hgf
   exact ⟨rfl, hB_4⟩
 have hc5 := of_decide_eq_false hc5
 refine xe 23 (.tuple #[.int .i64 (↑f : Int), .int .i64 (↑g : Int)]) ?_
 obtain rfl : i = l.length := by omega
 have hfin : f = freeN l := hf
 have hgf : g = firstN l := by first | (exact (firstN_at (by omega) (by omega) hz).symm) | (obtain rfl : g = l.length := (by omega); exact (firstN_none hz).symm)
 subst hfin hgf
 exact ⟨rfl, hB_4⟩
end Go.Proofs.YthlakkdgcgkcdaaGreatDoor
namespace Go.Proofs.YthlakkdgcgkcdaaGreatDoor
open Go.RowKit Go.Extern.Stop Go.Stop Go.Extern
set_option linter.unusedVariables false
attribute [local irreducible] wpList wpAnyH Code.wp Oper.wp Go

/-- what the document tells: counts, or an error of these blocks and this number -/
def ROutP (O : List Int × Int × List Int) (w : World) (e : Ending) (w' : World) : Prop :=
  (O.2.1 ≠ 0 ∧ ∃ p c a c2, e = .returned (.tuple #[.slice p 0 c, .agg #[.slice a O.1.length c2, .int .i64 O.2.1]]) ∧ Below w.heap.size w w' ∧ w'.ownsRow w.heap.size 3 1 (.slice a O.1.length c2) O.1.length (O.1.map (Value.int .i64))) ∨
  (O.2.1 = 0 ∧ ∃ p c a c2, e = .returned (.tuple #[.slice p O.2.2.length c, .agg #[.slice a 0 c2, .int .i64 0]]) ∧ Below w.heap.size w w' ∧ w'.ownsRow w.heap.size 3 1 (.slice p O.2.2.length c) O.2.2.length (O.2.2.map (Value.int .i64)))
theorem rout_bad {O : List Int × Int × List Int} {bl : List Int} {er : Int} {m c c2 : Nat} {w W : World} {p a : Option Addr} (h : O = (bl, er, [])) (her : er ≠ 0) (hm : bl.length = m) (hb : Below w.heap.size w W) (ho : W.ownsRow w.heap.size 3 1 (.slice a m c2) m (bl.map (Value.int .i64))) : ROutP O w (.returned (.tuple #[.slice p 0 c, .agg #[.slice a m c2, .int .i64 er]])) W := by
  subst h hm; exact .inl ⟨her, p, c, a, c2, rfl, hb, ho⟩
theorem rout_ok {O : List Int × Int × List Int} {L : List Int} {n c c2 : Nat} {w W : World} {p a : Option Addr} (h : O = ([], 0, L)) (hn : L.length = n) (hb : Below w.heap.size w W) (ho : W.ownsRow w.heap.size 3 1 (.slice p n c) n (L.map (Value.int .i64))) : ROutP O w (.returned (.tuple #[.slice p n c, .agg #[.slice a 0 c2, .int .i64 0]])) W := by
  subst h hn; exact .inr ⟨rfl, p, c, a, c2, rfl, hb, ho⟩
theorem ref11_BitsO (B bm : Nat) (p : Option Addr) (k c : Nat) (l : List UInt8) (no : Int) (w : World) (hI : RefI B bm p k c l w) :
    Calls Tryz.prog 66 #[.pointer (some ⟨bm, 0, none⟩), .int .i64 no] w (fun e w' =>
      (bitsErr l no ≠ 0 ∧ ∃ p c a c2, e = .returned (.tuple #[.slice p 0 c, .agg #[.slice a 1 c2, .int .i64 (bitsErr l no)]]) ∧ Below w.heap.size w w' ∧ w'.ownsRow w.heap.size 3 1 (.slice a 1 c2) 1 (([no] : List Int).map (Value.int .i64))) ∨
      (bitsErr l no = 0 ∧ ∃ p c a c2, e = .returned (.tuple #[.slice p (bitR l no).length c, .agg #[.slice a 0 c2, .int .i64 0]]) ∧ Below w.heap.size w w' ∧ w'.ownsRow w.heap.size 3 1 (.slice p (bitR l no).length c) (bitR l no).length ((bitR l no).map (Value.int .i64)))) := by
  refine (ref11_Bits B bm p k c l no w hI).mono ?_
  rintro e W ⟨p, c, a5, c5, rfl, hb, ho, hf⟩
  by_cases h : bitsErr l no = 0
  · refine .inr ⟨h, p, c, a5, c5, ?_, hb, ho⟩
    rw [h]; rfl
  · refine .inl ⟨h, p, c, a5, c5, ?_, hb, ?_⟩
    · rw [bitR_bad h, fltL_nz h]; rfl
    · rw [fltL_nz h] at hf; exact hf
theorem ref11_IndexO (B bm : Nat) (p : Option Addr) (k c : Nat) (l : List UInt8) (no : Int) (w : World) (hI : RefI B bm p k c l w) :
    Calls Tryz.prog 44 #[.pointer (some ⟨bm, 0, none⟩), .int .i64 no] w (fun e w' =>
      (idxErr l no ≠ 0 ∧ ∃ p c a c2, e = .returned (.tuple #[.slice p 0 c, .agg #[.slice a 1 c2, .int .i64 (idxErr l no)]]) ∧ Below w.heap.size w w' ∧ w'.ownsRow w.heap.size 3 1 (.slice a 1 c2) 1 (([no] : List Int).map (Value.int .i64))) ∨
      (idxErr l no = 0 ∧ ∃ p c a c2, e = .returned (.tuple #[.slice p (idxR l no).length c, .agg #[.slice a 0 c2, .int .i64 0]]) ∧ Below w.heap.size w w' ∧ w'.ownsRow w.heap.size 79 3 (.slice p (idxR l no).length c) (idxR l no).length ((idxR l no).flatMap sltC))) := by
  refine (ref11_Index B bm p k c l no w hI).mono ?_
  rintro e W ⟨p, c, a5, c5, rfl, hb, ho, hf⟩
  by_cases h : idxErr l no = 0
  · refine .inr ⟨h, p, c, a5, c5, ?_, hb, ho⟩
    rw [h]; rfl
  · refine .inl ⟨h, p, c, a5, c5, ?_, hb, ?_⟩
    · rw [idxR_bad h, fltL_nz h]; rfl
    · rw [fltL_nz h] at hf; exact hf
theorem ref14_WholeO (B bm : Nat) (p : Option Addr) (k c : Nat) (l : List UInt8) (root tree fuel : Int) (w : World) (hfu : fuel ≤ 1000) (hI : RefI B bm p k c l w) :
    Calls Tryz.prog 34 #[.pointer (some ⟨bm, 0, none⟩), .int .i64 root, .int .i64 tree, .int .i64 fuel] w (fun e w' =>
      ((scanW l root tree fuel).fs ≠ [] ∧ ∃ pe ce pb cb pf nf cf a c2, e = .returned (.tuple #[.agg #[.slice pe 0 ce, .slice pb 0 cb, .int .i64 0, .int .i64 0, .slice pf nf cf], .agg #[.slice a (wholeF (scanW l root tree fuel)).1.length c2, .int .i64 (wholeF (scanW l root tree fuel)).2]]) ∧ Below w.heap.size w w' ∧ w'.ownsRow w.heap.size 3 1 (.slice a (wholeF (scanW l root tree fuel)).1.length c2) (wholeF (scanW l root tree fuel)).1.length ((wholeF (scanW l root tree fuel)).1.map (Value.int .i64))) ∨
      ((scanW l root tree fuel).fs = [] ∧ ∃ pe ce pb nb cb dp lk pf nf cf a c2, e = .returned (.tuple #[.agg #[.slice pe (scanW l root tree fuel).es.length ce, .slice pb nb cb, .int .i64 dp, .int .i64 lk, .slice pf nf cf], .agg #[.slice a 0 c2, .int .i64 0]]) ∧ Below w.heap.size w w' ∧ w'.ownsRow w.heap.size 77 3 (.slice pe (scanW l root tree fuel).es.length ce) (scanW l root tree fuel).es.length ((scanW l root tree fuel).es.flatMap entC))) := by
  refine (ref14_WholeP B bm p k c l root tree fuel w hfu hI).mono ?_
  rintro e W ⟨t, pe, pb, pf, ce, cb, cf, fv, a, c2, ht, rfl, hb, hW, hv⟩
  by_cases h : (scanW l root tree fuel).fs = []
  · obtain ⟨h1, h2, _, _⟩ := whole_ok h
    rw [h1] at ht
    subst ht
    refine .inr ⟨h, pe, ce, pb, (scanW l root tree fuel).bs.length, cb, (scanW l root tree fuel).deep, ((scanW l root tree fuel).looked : Int), pf, fv.length, cf, a, c2, ?_, hb, hW.ents⟩
    rw [h2]; rfl
  · obtain ⟨h1, h2, h3, h4⟩ := whole_bad h
    rw [h1] at ht
    subst ht
    exact .inl ⟨h, pe, ce, pb, cb, pf, fv.length, cf, a, c2, rfl, hb, hv⟩
set_option maxRecDepth 100000 in
set_option maxHeartbeats 1000000 in
theorem ref23_want (n : Int) (i : Nat) (w : World) (hi : i ≤ 1200000000) (hn : n ≤ 1099511627776) (hn2 : 0 ≤ n) :
    Calls Tryz.prog 39 #[.int .i64 n, .int .i64 (↑i : Int)] w (Ret (.int .i64 (wantI n i)) w) := by
 refine zin 14 Tryz.func39 ?_
 refine xwm 10 (960 * (↑i : Int)) (↑(960 * i) : Int) ?_
 refine xw 0 (n - (↑(960 * i) : Int)) ?_
 refine xid 3 (n - (↑(960 * i) : Int) < (960 : Int)) (fun hc1 => ?_) (fun hc1 => ?_)
 · refine xwm 4 (960 * (↑i : Int)) (↑(960 * i) : Int) ?_
   refine xw 0 (n - (↑(960 * i) : Int)) ?_
   exact xe 5 (.int .i64 (n - (↑(960 * i) : Int))) ⟨by rw [show wantI n i = n - ((960 * i : Nat) : Int) from by unfold wantI; split <;> omega], (Below.refl w.heap.size _)⟩
 exact xe 8 (.int .i64 960) ⟨by rw [show wantI n i = 960 from by unfold wantI; split <;> omega], (Below.refl w.heap.size _)⟩
set_option maxRecDepth 100000 in
set_option maxHeartbeats 2000000 in
theorem ref23_one (B bm : Nat) (p : Option Addr) (k c : Nat) (l : List UInt8) (x : Plc) (at0 want : Int) (w : World) (hI : RefI B bm p k c l w) (hat : x.2.1 = at0) (h0 : x.2.2 = 0) :
    Calls Tryz.prog 38 #[.pointer (some ⟨bm, 0, none⟩), .agg #[.int .i64 (↑x.1.1 : Int), .int .i64 (↑x.1.2.1 : Int), .int .i64 (↑x.1.2.2 : Int)], .int .i64 at0, .int .i64 want] w (ROutP (oneO l x want) w) := by
 refine zin 52 Tryz.func38 ?_
 refine xa 2 [.int .i64 (↑x.1.1 : Int), .int .i64 (↑x.1.2.1 : Int), .int .i64 (↑x.1.2.2 : Int)] 79 fun b1 W1 n1 => ?_
 refine xa 1 [.slice none 0 0, .int .i64 0] 43 fun b2 W2 n2 => ?_
 have k1 := n1.blk.below n2.below
 refine xb 6 0 k1 ?_
 have hB := Bl.next n1.below n2.below
 refine xc 0 (args := #[.pointer (some ⟨bm, 0, none⟩), .int .i64 (↑x.1.1 : Int)]) (ref11_BitsO B bm p k c l (↑x.1.1 : Int) _ (hI.below hB)) ?_
 rintro e W3 hq3
 rcases hq3 with ⟨hbe, p9, c9, a9, d9, rfl, hb3, hf9⟩ | ⟨hbe, p9, c9, a9, d9, rfl, hb3, ho9⟩
 · have hs3 := (Bl.next n1.below n2.below).size
   refine xa 3 [.slice none 0 0, .int .i64 0] 43 fun b4 W4 n4 => ?_
   have k2 := n2.blk.below hb3
   have d4_b2 := n4.ne k2
   have hB'1 := Bl.next hB hb3
   have g4 := n4.ge hB'1
   refine xsv 1 n4.blk [.slice a9 1 d9, .int .i64 (bitsErr l (↑x.1.1 : Int))] fun W5 u5 k5 => ?_
   refine xb 6 1 k5 ?_
   refine xk 3 (show (((bitsErr l (↑x.1.1 : Int)) != (0 : Int)) : Bool) = true from bne_iff_ne.2 hbe) ?_
   refine xlv 3 k5.rp ?_
   have hf9'1 := u5.own2 (own_below (own_mono hf9 hs3) n4.below) n4.blk (by decide)
   refine xc 0 (args := #[.int .i64 at0, .agg #[.slice a9 1 d9, .int .i64 (bitsErr l (↑x.1.1 : Int))]]) (ref05_AtG at0 (bitsErr l (↑x.1.1 : Int)) a9 1 d9 [(↑x.1.1 : Int)] _ hbe rfl (by decide) (own_sl hf9'1)) ?_
   rintro _ W6 ⟨_, rfl, hb6, pa, ca, rfl, hva⟩
   have hs6 := (u5.below (Bl.next hB'1 n4.below) g4).size
   have k2'1 := (u5.blk (k2.below n4.below) (Ne.symm (Ne.symm d4_b2))).below hb6
   refine xsv 1 k2'1 [.slice pa (1 + 1) ca, .int .i64 (bitsErr l (↑x.1.1 : Int))] fun W7 u7 k7 => ?_
   have g2 := n2.ge n1.below
   have hva'1 := u7.own2 (own_mono hva hs6) k2'1 (by decide)
   have hB'2 := u7.below (Bl.next (u5.below (Bl.next hB'1 n4.below) g4) hb6) g2
   exact xec 4 k7 (.tuple #[.slice none 0 0, .agg #[.slice pa (1 + 1) ca, .int .i64 (bitsErr l (↑x.1.1 : Int))]]) (rout_bad (by unfold oneO; rw [if_neg (fun q => q h0), if_pos hbe, hat]) hbe rfl hB'2 hva'1)
 have hs3 := (Bl.next n1.below n2.below).size
 refine xa 3 [.slice none 0 0, .int .i64 0] 43 fun b8 W8 n8 => ?_
 have k2 := n2.blk.below hb3
 have d8_b2 := n8.ne k2
 have hB'3 := Bl.next hB hb3
 have g8 := n8.ge hB'3
 refine xsv 1 n8.blk [.slice a9 0 d9, .int .i64 0] fun W9 u9 k9 => ?_
 refine xb 6 1 k9 ?_
 refine xin 15 (↑((bitR l (↑x.1.1 : Int)).length) : Int) want (fun hc10 => ?_) (fun hc10 => ?_)
 · refine xc 3 (args := #[.int .i64 at0, .int .i64 7]) (ref11_AtK at0 7 _ (by decide)) ?_
   rintro _ W11 ⟨pa, ca, rfl, hb11, hva⟩
   have hs11 := (u9.below (Bl.next hB'3 n8.below) g8).size
   have k2'2 := (u9.blk (k2.below n8.below) (Ne.symm (Ne.symm d8_b2))).below hb11
   refine xsv 1 k2'2 [.slice pa 1 ca, .int .i64 7] fun W12 u12 k12 => ?_
   have g2 := n2.ge n1.below
   have hva'2 := u12.own2 (own_mono hva hs11) k2'2 (by decide)
   have hB'4 := u12.below (Bl.next (u9.below (Bl.next hB'3 n8.below) g8) hb11) g2
   exact xec 4 k12 (.tuple #[.slice none 0 0, .agg #[.slice pa 1 ca, .int .i64 7]]) (rout_bad (by unfold oneO; rw [if_neg (fun q => q h0), if_neg (by omega), if_pos (by assumption), hat]) (by decide) rfl hB'4 hva'2)
 have ho9'1 := u9.own2 (own_below (own_mono ho9 hs3) n8.below) n8.blk (by decide)
 refine xr 5 (args := #[.slice p9 ((bitR l (↑x.1.1 : Int)).length) c9]) (ref09_Free p9 c9 (bitR l (↑x.1.1 : Int)) _ (bitR_le _ _) (own_sl ho9'1)) fun W13 hb13 => ?_
 have k1'1 := (u9.blkT ((k1.below hb3).below n8.below) n8.blk (by decide)).below hb13
 refine xb 12 1 k1'1 ?_
 refine xg 2 [41, 42] ((↑(freeN (bitR l (↑x.1.1 : Int))) : Int) != (↑x.1.2.1 : Int)) (fun hc14 => ?_) (fun hc14 => ?_)
 · have hc14 := ne_of_bne hc14
   refine xc 11 (args := #[.int .i64 at0, .int .i64 13]) (ref11_AtK at0 13 _ (by decide)) ?_
   rintro _ W15 ⟨pa, ca, rfl, hb15, hva⟩
   have hs15 := (Bl.next (u9.below (Bl.next hB'3 n8.below) g8) hb13).size
   have k2'3 := ((u9.blk (k2.below n8.below) (Ne.symm (Ne.symm d8_b2))).below hb13).below hb15
   refine xsv 1 k2'3 [.slice pa 1 ca, .int .i64 13] fun W16 u16 k16 => ?_
   have g2 := n2.ge n1.below
   have hva'3 := u16.own2 (own_mono hva hs15) k2'3 (by decide)
   have hB'5 := u16.below (Bl.next (Bl.next (u9.below (Bl.next hB'3 n8.below) g8) hb13) hb15) g2
   exact xec 4 k16 (.tuple #[.slice none 0 0, .agg #[.slice pa 1 ca, .int .i64 13]]) (rout_bad (by unfold oneO; rw [if_neg (fun q => q h0), if_neg (by omega), if_neg (by omega), if_neg (by omega), hat]) (by decide) rfl hB'5 hva'3)
 have hc14 := eq_of_bne_false hc14
 refine xb 2 2 k1'1 ?_
 refine xin 4 (↑(firstN (bitR l (↑x.1.1 : Int))) : Int) (↑x.1.2.2 : Int) (fun hc17 => ?_) (fun hc17 => ?_)
 · refine xc 3 (args := #[.int .i64 at0, .int .i64 13]) (ref11_AtK at0 13 _ (by decide)) ?_
   rintro _ W18 ⟨pa, ca, rfl, hb18, hva⟩
   have hs18 := (Bl.next (u9.below (Bl.next hB'3 n8.below) g8) hb13).size
   have k2'4 := ((u9.blk (k2.below n8.below) (Ne.symm (Ne.symm d8_b2))).below hb13).below hb18
   refine xsv 1 k2'4 [.slice pa 1 ca, .int .i64 13] fun W19 u19 k19 => ?_
   have g2 := n2.ge n1.below
   have hva'4 := u19.own2 (own_mono hva hs18) k2'4 (by decide)
   have hB'6 := u19.below (Bl.next (Bl.next (u9.below (Bl.next hB'3 n8.below) g8) hb13) hb18) g2
   exact xec 4 k19 (.tuple #[.slice none 0 0, .agg #[.slice pa 1 ca, .int .i64 13]]) (rout_bad (by unfold oneO; rw [if_neg (fun q => q h0), if_neg (by omega), if_neg (by omega), if_neg (by omega), hat]) (by decide) rfl hB'6 hva'4)
 have k2'5 := (u9.blk (k2.below n8.below) (Ne.symm (Ne.symm d8_b2))).below hb13
 refine xsv 7 k2'5 [.slice none 0 0, .int .i64 0] fun W20 u20 k20 => ?_
 have g2 := n2.ge n1.below
 have hB'7 := u20.below (Bl.next (u9.below (Bl.next hB'3 n8.below) g8) hb13) g2
 have ho9'2 := u20.own2 (own_below ho9'1 hb13) k2'5 (by decide)
 exact xec 3 k20 (.tuple #[.slice p9 ((bitR l (↑x.1.1 : Int)).length) c9, .agg #[.slice none 0 0, .int .i64 0]]) (rout_ok (by unfold oneO; rw [if_neg (fun q => q h0), if_neg (by omega), if_neg (by omega), if_pos (by omega)]) rfl hB'7 ho9'2)
set_option maxRecDepth 100000 in
set_option maxHeartbeats 2000000 in
theorem ref23_rest (B bm : Nat) (p : Option Addr) (k c : Nat) (l : List UInt8) (B2 : Nat) (pl : Option Addr) (cl : Nat) (gs : List (Nat × Nat)) (L : List (List Int)) (over fuel : Int) (w : World) (hI : RefI B bm p k c l w) (hL : Lists w B2 (.slice pl L.length cl) gs L) (hF : FormOk L) (hl : L.length ≤ 1200000000) (hfu : fuel ≤ 1000) :
    Calls Tryz.prog 40 #[.pointer (some ⟨bm, 0, none⟩), .slice pl L.length cl, .int .i64 over, .int .i64 fuel] w (ROutP (restO l L over fuel) w) := by
 refine zin 36 Tryz.func40 ?_
 refine xa 3 [.slice none 0 0, .int .i64 0] 43 fun b1 W1 n1 => ?_
 refine xc 7 (args := #[.pointer (some ⟨bm, 0, none⟩), .int .i64 over, .int .i64 5, .int .i64 fuel]) (ref14_WholeO B bm p k c l over 5 fuel _ hfu (hI.below n1.below)) ?_
 rintro e W2 hq2
 rcases hq2 with ⟨hfs, pe, ce, pb, cb, pf, nf, cf, a9, d9, rfl, hb2, hf9⟩ | ⟨hfs, pe, ce, pb, nb, cb, dp, lk, pf, nf, cf, a9, d9, rfl, hb2, hen⟩
 · refine xa 3 [.slice none 0 0, .slice none 0 0, .int .i64 0, .int .i64 0, .slice none 0 0] 87 fun b3 W3 n3 => ?_
   have hB'1 := Bl.next n1.below hb2
   have g3 := n3.ge hB'1
   refine xa 0 [.slice none 0 0, .int .i64 0] 43 fun b4 W4 n4 => ?_
   have k1 := (n1.blk.below hb2).below n3.below
   have d4_b1 := n4.ne k1
   have hB'2 := Bl.next hB'1 n3.below
   have g4 := n4.ge hB'2
   have k3 := n3.blk.below n4.below
   refine xsv 0 k3 [.slice pe 0 ce, .slice pb 0 cb, .int .i64 0, .int .i64 0, .slice pf nf cf] fun W5 u5 k5 => ?_
   have k4 := u5.blkT n4.blk k3 (by decide)
   refine xsv 0 k4 [.slice a9 ((wholeF (scanW l over 5 fuel)).1.length) d9, .int .i64 ((wholeF (scanW l over 5 fuel)).2)] fun W6 u6 k6 => ?_
   refine xb 6 1 k6 ?_
   refine xk 3 (show (((wholeF (scanW l over 5 fuel)).2 != (0 : Int)) : Bool) = true from bne_iff_ne.2 (wholeF_ne hfs)) ?_
   refine xd 1 (.t w.heap.size [43]) ?_
   have k6'1 := k6.below (below_drew W6)
   refine xlv (.o [1] 0) k6'1.rp ?_
   have k1'1 := (u6.blk (u5.blkT (k1.below n4.below) k3 (by decide)) (Ne.symm (Ne.symm d4_b1))).below (below_drew W6)
   have g1 := n1.ge (Below.refl w.heap.size _)
   refine ysv (.o [] 2) k1'1 [.slice a9 ((wholeF (scanW l over 5 fuel)).1.length) d9, .int .i64 ((wholeF (scanW l over 5 fuel)).2)] (.t w.heap.size [43]) fun W7 u7 k7 => ⟨(sft_upd u7 k1'1 g1 (by decide)), ?_⟩
   have hf9'1 := u7.own2 (own_below (u6.own2 (u5.own2 (own_below (own_below (own_mono hf9 n1.below.size) n3.below) n4.below) k3 (by decide)) k4 (by decide)) (below_drew W6)) k1'1 (by decide)
   have hB'3 := u7.below (Bl.next (u6.below (u5.below (Bl.next hB'2 n4.below) g3) g4) (below_drew W6)) g1
   exact xec 4 k7 (.tuple #[.slice none 0 0, .agg #[.slice a9 ((wholeF (scanW l over 5 fuel)).1.length) d9, .int .i64 ((wholeF (scanW l over 5 fuel)).2)]]) (rout_bad (restO_flt hfs) (wholeF_ne hfs) rfl hB'3 hf9'1)
 refine xa 3 [.slice none 0 0, .slice none 0 0, .int .i64 0, .int .i64 0, .slice none 0 0] 87 fun b8 W8 n8 => ?_
 have hB'4 := Bl.next n1.below hb2
 have g8 := n8.ge hB'4
 refine xa 0 [.slice none 0 0, .int .i64 0] 43 fun b9 W9 n9 => ?_
 have k1 := (n1.blk.below hb2).below n8.below
 have d9_b1 := n9.ne k1
 have hB'5 := Bl.next hB'4 n8.below
 have g9 := n9.ge hB'5
 have k8 := n8.blk.below n9.below
 refine xsv 0 k8 [.slice pe ((scanW l over 5 fuel).es.length) ce, .slice pb nb cb, .int .i64 dp, .int .i64 lk, .slice pf nf cf] fun W10 u10 k10 => ?_
 have k9 := u10.blkT n9.blk k8 (by decide)
 refine xsv 0 k9 [.slice a9 0 d9, .int .i64 0] fun W11 u11 k11 => ?_
 refine xb 6 1 k11 ?_
 have k10'1 := u11.blkT k10 k9 (by decide)
 refine xb 10 0 k10'1 ?_
 have hB'6 := u11.below (u10.below (Bl.next hB'5 n9.below) g8) g9
 have hen'1 := u11.own2 (u10.own2 (own_below (own_below (own_mono hen n1.below.size) n8.below) n9.below) k8 (by decide)) k9 (by decide)
 refine xc 0 (args := #[.slice pl L.length cl, .slice pe ((scanW l over 5 fuel).es.length) ce]) (ref21_Join B2 pl cl gs L pe ce (scanW l over 5 fuel).es _ (hL.below hB'6) hF hl (own_sl hen'1) (scan_short _ _ _ _) (scan_pos _ _ _ _)) ?_
 rintro _ W12 ⟨pj, cj, rfl, hb12, hoj⟩
 have hs12 := (u11.below (u10.below (Bl.next hB'5 n9.below) g8) g9).size
 refine xc 12 (args := #[.int .i64 over, .int .i64 ((joinO L.flatten (scanW l over 5 fuel).es).1)]) (ref11_At over (joinO L.flatten (scanW l over 5 fuel).es).1 _) ?_
 rintro _ W13 ⟨pa, ca, rfl, hb13, hva⟩
 have hs13 := (Bl.next hB'6 hb12).size
 have k1'2 := ((u11.blk (u10.blkT (k1.below n9.below) k8 (by decide)) (Ne.symm (Ne.symm d9_b1))).below hb12).below hb13
 refine xsv 1 k1'2 [.slice pa ((fltL over (joinO L.flatten (scanW l over 5 fuel).es).1).length) ca, .int .i64 ((joinO L.flatten (scanW l over 5 fuel).es).1)] fun W14 u14 k14 => ?_
 have g1 := n1.ge (Below.refl w.heap.size _)
 have hoj'1 := u14.own2 (own_below (own_mono hoj hs12) hb13) k1'2 (by decide)
 have hva'1 := u14.own2 (own_mono hva hs13) k1'2 (by decide)
 have hB'7 := u14.below (Bl.next (Bl.next hB'6 hb12) hb13) g1
 refine xec 3 k14 (.tuple #[.slice pj ((joinO L.flatten (scanW l over 5 fuel).es).2.length) cj, .agg #[.slice pa ((fltL over (joinO L.flatten (scanW l over 5 fuel).es).1).length) ca, .int .i64 ((joinO L.flatten (scanW l over 5 fuel).es).1)]]) ?_
 have hoj9 := hoj'1
 have hva9 := hva'1
 by_cases hz : (joinO L.flatten (scanW l over 5 fuel).es).1 = 0
 · rw [hz]
   exact rout_ok (restO_ok hfs hz) rfl hB'7 hoj9
 · rw [joinO_nil hz]
   rw [fltL_nz hz] at hva9
   rw [fltL_nz hz]
   exact rout_bad (restO_join hfs hz) hz rfl hB'7 hva9
end Go.Proofs.YthlakkdgcgkcdaaGreatDoor
