/- node.Read, whatever the bytes. bits.Read. Errors that lie in memory stay what they are while a block of another type is written. Blocks of an image that are read: (*Image).Read, whatever the number. block.Node, whatever lies in the image. slices.Backward of ints. (*walker).note: an error noted at the blocks of the way. What a round of a range over chunks keeps. value.Count and value.Slot of numbers that may stand there. bits.Put and bits.Free of small counts, slices.Clone of counts. tally.Split of counts. plot.Data$1: a slot noted as an entry. plot.lay with the closure of plot.Data: blocks of counts laid, their slots noted. -/
import Derived.Test.YthlakkdgcgkcdaaGreatMg2
namespace Go.Proofs.YthlakkdgcgkcdaaGreat
open Go.RowKit Go.Extern.Stop Go.Stop Go.Extern
set_option linter.unusedVariables false
attribute [local irreducible] wpList wpAnyH Code.wp Oper.wp Go

def widG (t : Int) (leaf : Bool) : Nat := if 1 ≤ t ∧ t ≤ 5 then widN t leaf else 0
def maxG (t : Int) (leaf : Bool) : Nat := if 1 ≤ t ∧ t ≤ 5 then maxN t leaf else 0
theorem fitG (t : Int) (leaf : Bool) : 12 + maxG t leaf * 8 + maxG t leaf * widG t leaf ≤ 244 := by
  unfold maxG widG; split
  · exact fitN t leaf
  · decide
theorem maxG_le (t : Int) (leaf : Bool) : maxG t leaf ≤ 18 := by
  unfold maxG; split
  · exact (maxN_pos t leaf).2
  · decide
theorem widG_le (t : Int) (leaf : Bool) : widG t leaf ≤ 24 := by
  unfold widG; split
  · exact (widN_bd t leaf).2
  · decide
set_option maxRecDepth 100000 in
set_option maxHeartbeats 1000000 in
theorem node_Width_out (t : Int) (leaf : Bool) (w : World) (h : ¬ (1 ≤ t ∧ t ≤ 5)) :
    Calls Tryz.prog 65 #[.int .i64 t, .bool leaf] w (Ret (.int .i64 0) w) := by
 refine zin 31 Tryz.func65 ?_
 refine xg 17 [8, 9] (decide (t < (1 : Int))) (fun hc1 => ?_) (fun hc1 => ?_)
 · have hc1 := of_decide_eq_true hc1
   exact xe 15 (.int .i64 0) ⟨rfl, (Below.refl w.heap.size _)⟩
 have hc1 := of_decide_eq_false hc1
 refine xk 6 (show (decide (t > (5 : Int)) : Bool) = true from decide_eq_true (by omega)) ?_
 exact xe 8 (.int .i64 0) ⟨rfl, (Below.refl w.heap.size _)⟩
theorem node_WidthG (t : Int) (leaf : Bool) (w : World) : Calls Tryz.prog 65 #[.int .i64 t, .bool leaf] w (Ret (.int .i64 (widG t leaf : Int)) w) := by
  unfold widG
  by_cases h : 1 ≤ t ∧ t ≤ 5
  · rw [if_pos h]; exact node_Width t leaf h.1 h.2 w
  · rw [if_neg h]; exact node_Width_out t leaf w h
set_option maxRecDepth 100000 in
set_option maxHeartbeats 1000000 in
theorem node_Max_out (t : Int) (leaf : Bool) (w : World) (h : ¬ (1 ≤ t ∧ t ≤ 5)) :
    Calls Tryz.prog 61 #[.int .i64 t, .bool leaf] w (Ret (.int .i64 0) w) := by
 refine zin 16 Tryz.func61 ?_
 refine xr 9 (args := #[.int .i64 t, .bool leaf]) (node_Width_out t leaf _ h) fun W1 hb1 => ?_
 exact xe 18 (.int .i64 0) ⟨rfl, hb1⟩
theorem node_MaxG (t : Int) (leaf : Bool) (w : World) : Calls Tryz.prog 61 #[.int .i64 t, .bool leaf] w (Ret (.int .i64 (maxG t leaf : Int)) w) := by
  unfold maxG
  by_cases h : 1 ≤ t ∧ t ≤ 5
  · rw [if_pos h]; exact node_Max t leaf h.1 h.2 w
  · rw [if_neg h]; exact node_Max_out t leaf w h
/-- a key's number, by the last of the keys ahead -/
def keyR (L : List Int) (i : Nat) (k : Int) : Int := if k < 0 ∨ 281474976710655 < k then 2 else if 0 < i ∧ k ≤ L.getD (i - 1) 0 then 8 else 0
/-- the head of a node's bytes -/
def nodT (l : List UInt8) : Int := (rawN l 1 1 : Int)
def nodL (l : List UInt8) : Bool := (rawN l 0 1 : Int) == (1 : Int)
def nodC (l : List UInt8) : Nat := rawN l 2 2
def nodW (l : List UInt8) : Nat := widG (nodT l) (nodL l)
def nodM (l : List UInt8) : Nat := maxG (nodT l) (nodL l)
def shapeB (l : List UInt8) : Bool := decide (rawN l 0 1 ≤ 1 ∧ nodW l ≠ 0 ∧ rawN l 2 2 ≤ nodM l ∧ rawN l 4 2 = nodW l ∧ rawN l 6 2 = nodM l ∧ rawN l 8 4 = 0 ∧ (rawN l 0 1 = 1 ∨ 0 < rawN l 2 2))
def ShapeP (l : List UInt8) (w : World) (e : Ending) (w' : World) : Prop :=
  (shapeB l = false ∧ ∃ a b c, e = .returned (.tuple #[.agg #[.int .i64 a, .bool b, .slice none 0 0, .slice none 0 0], .int .i64 c, .bool false]) ∧ Below w.heap.size w w') ∨
  (shapeB l = true ∧ e = .returned (.tuple #[.agg #[.int .i64 (nodT l), .bool (nodL l), .slice none 0 0, .slice none 0 0], .int .i64 (nodC l : Int), .bool true]) ∧ Below w.heap.size w w')
theorem Unpack_okN (a : Option Addr) (n c : Nat) (l : List UInt8) (aw : Option Addr) (cw m : Nat) (ws : List Nat) (xs : List Nat) (W : World) (hn : l.length = n) (hm : ws.length = m) (hx : unpL l 0 ws = xs) (hk : ∀ i, i < ws.length → ws.getD i 0 = 1 ∨ ws.getD i 0 = 2 ∨ ws.getD i 0 = 4 ∨ ws.getD i 0 = 8) (hs : ws.sum ≤ n) (hl : n ≤ 100000000) (hw : ws.length ≤ 1000) (h : Bys W (.slice a n c) l) (hws : Sl W (.slice aw m cw) m (ws.map nv)) (hq : ∀ i, i < ws.length → (unpL l 0 ws).getD i 0 < 9223372036854775808) :
    Calls Tryz.prog 71 #[.slice a n c, .slice aw m cw] W (RetS (fun w' r => ∃ p c, r = .tuple #[.slice p m c, .int .i64 0] ∧ w'.ownsRow W.heap.size 3 1 (.slice p m c) m (xs.map nv)) W) := by
  subst hn hm hx; exact Unpack_ok a c l aw cw ws W hk hs hl hw h hws hq
def head6 (l : List UInt8) : List Nat := [rawN l 0 1, rawN l 1 1, rawN l 2 2, rawN l 4 2, rawN l 6 2, rawN l 8 4]
theorem head6_bd (l : List UInt8) (i : Nat) (hi : i < 6) : (unpL l 0 [1, 1, 2, 2, 2, 4]).getD i 0 < 9223372036854775808 := by
  have h1 := rawN_lt4 l 0 1 (by decide)
  have h2 := rawN_lt4 l 1 1 (by decide)
  have h3 := rawN_lt4 l 2 2 (by decide)
  have h4 := rawN_lt4 l 4 2 (by decide)
  have h5 := rawN_lt4 l 6 2 (by decide)
  have h6 := rawN_lt4 l 8 4 (by decide)
  obtain rfl | rfl | rfl | rfl | rfl | rfl : i = 0 ∨ i = 1 ∨ i = 2 ∨ i = 3 ∨ i = 4 ∨ i = 5 := by omega
  all_goals simp [unpL]
  all_goals omega
set_option maxRecDepth 100000 in
set_option maxHeartbeats 4000000 in
theorem node_shape (a : Option Addr) (c : Nat) (l : List UInt8) (w : World) (hl : l.length = 244) (h : Bys w (.slice a 244 c) l) :
    Calls Tryz.prog 134 #[.slice a 244 c] w (ShapeP l w) := by
 refine zin 92 Tryz.func134 ?_
 refine xa 2 [.int .i64 0, .bool false, .slice none 0 0, .slice none 0 0] 125 fun b1 W1 n1 => ?_
 refine xbs 18 6 [.int .i64 1, .int .i64 1, .int .i64 2, .int .i64 2, .int .i64 2, .int .i64 4] 3 fun b2 W2 n2 => ?_
 have hB := Bl.next n1.below n2.below
 refine xc 0 (args := #[.slice a 244 c, .slice (some ⟨b2, 0, none⟩) 6 6]) (Unpack_okN a 244 c l (some ⟨b2, 0, none⟩) 6 6 [1, 1, 2, 2, 2, 4] (head6 l) _ hl rfl rfl (by decide) (by decide) (by decide) (by decide) (h.below hB) (n2.blk.sl 6 6 (by decide) (by decide)) (head6_bd l)) ?_
 rintro _ W3 ⟨_, rfl, hb3, p5, c5, rfl, h5⟩
 have hs3 := (Bl.next n1.below n2.below).size
 refine xd 8 (.t w.heap.size [125]) ?_
 have h5'1 := own_below (own_mono h5 hs3) (below_drew W3)
 refine xx (.e [0] 1) _ 6 1 1 (nv_elem (l := head6 l) (own_sl h5'1) rfl (k := 1) (by decide)).1 ?_
 refine xlt (.e [] 2) (.t w.heap.size [125]) (fun V hV => (nv_elem (l := head6 l) (own_sl (own_only h5'1 hV.2 (by decide))) rfl (k := 1) (by decide)).2) ?_
 refine xx (.e [3] 4) _ 6 0 1 (nv_elem (l := head6 l) (own_sl h5'1) rfl (k := 0) (by decide)).1 ?_
 refine xlt (.e [] 5) (.t w.heap.size [125]) (fun V hV => (nv_elem (l := head6 l) (own_sl (own_only h5'1 hV.2 (by decide))) rfl (k := 0) (by decide)).2) ?_
 refine xa (.o [6, 7] 8) [.int .i64 0, .bool false, .slice none 0 0, .slice none 0 0] 125 fun b4 W4 n4 => ?_
 have k1 := ((n1.blk.below n2.below).below hb3).below (below_drew W3)
 have d4_b1 := n4.ne k1
 have hB'1 := Bl.next (Bl.next hB hb3) (below_drew W3)
 have g4 := n4.ge hB'1
 refine ysv (.o [] 9) n4.blk [.int .i64 (↑(rawN l 1 1) : Int), .bool ((↑(rawN l 0 1) : Int) == (1 : Int)), .slice none 0 0, .slice none 0 0] (.t w.heap.size [125]) fun W5 u5 k5 => ⟨(sft_upd u5 n4.blk g4 (by decide)), ?_⟩
 have h5'2 := u5.own2 (own_below h5'1 n4.below) n4.blk (by decide)
 refine xx 6 _ 6 0 1 (nv_elem (l := head6 l) (own_sl h5'2) rfl (k := 0) (by decide)).1 ?_
 refine xl 0 ((nv_elem (l := head6 l) (own_sl h5'2) rfl (k := 0) (by decide)).2) ?_
 refine xg 2 [32, 33] (decide ((↑(rawN l 0 1) : Int) > (1 : Int))) (fun hc6 => ?_) (fun hc6 => ?_)
 · have hc6 := of_decide_eq_true hc6
   have k1'1 := u5.blk (k1.below n4.below) (Ne.symm (Ne.symm d4_b1))
   refine xsv 13 k1'1 [.int .i64 0, .bool false, .slice none 0 0, .slice none 0 0] fun W7 u7 k7 => ?_
   have g1 := n1.ge (Below.refl w.heap.size _)
   have hB'2 := u7.below (u5.below (Bl.next hB'1 n4.below) g4) g1
   exact xec 6 k7 (.tuple #[.agg #[.int .i64 0, .bool false, .slice none 0 0, .slice none 0 0], .int .i64 0, .bool false]) (.inl ⟨decide_eq_false (by omega), _, _, _, rfl, hB'2⟩)
 have hc6 := of_decide_eq_false hc6
 refine xb 1 0 k5 ?_
 refine xb 1 1 k5 ?_
 refine xr 0 (args := #[.int .i64 (↑(rawN l 1 1) : Int), .bool ((↑(rawN l 0 1) : Int) == (1 : Int))]) (node_WidthG (nodT l) (nodL l) _) fun W8 hb8 => ?_
 refine xie 4 (↑(nodW l) : Int) (0 : Int) (fun hc9 => ?_) (fun hc9 => ?_)
 · have k1'2 := (u5.blk (k1.below n4.below) (Ne.symm (Ne.symm d4_b1))).below hb8
   refine xsv 3 k1'2 [.int .i64 0, .bool false, .slice none 0 0, .slice none 0 0] fun W10 u10 k10 => ?_
   have g1 := n1.ge (Below.refl w.heap.size _)
   have hB'3 := u10.below (Bl.next (u5.below (Bl.next hB'1 n4.below) g4) hb8) g1
   exact xec 6 k10 (.tuple #[.agg #[.int .i64 0, .bool false, .slice none 0 0, .slice none 0 0], .int .i64 0, .bool false]) (.inl ⟨decide_eq_false (by omega), _, _, _, rfl, hB'3⟩)
 refine xd 3 .z ?_
 have k5'1 := (k5.below hb8).below (below_drew W8)
 refine xb (.e [0] 1) 0 k5'1 ?_
 refine xb (.e [2] 3) 1 k5'1 ?_
 refine xb (.e [5] 6) 0 k5'1 ?_
 refine xb (.e [7] 8) 1 k5'1 ?_
 refine xr (.o [] 4) (args := #[.int .i64 (↑(rawN l 1 1) : Int), .bool ((↑(rawN l 0 1) : Int) == (1 : Int))]) (node_WidthG (nodT l) (nodL l) _) fun W11 hb11 => ?_
 refine xr (.o [] 9) (args := #[.int .i64 (↑(rawN l 1 1) : Int), .bool ((↑(rawN l 0 1) : Int) == (1 : Int))]) (node_MaxG (nodT l) (nodL l) _) fun W12 hb12 => ?_
 have h5'3 := own_below (own_below (own_below (own_below h5'2 hb8) (below_drew W8)) hb11) hb12
 refine xx (.r [10, 11] 5) _ 6 2 1 (nv_elem (l := head6 l) (own_sl h5'3) rfl (k := 2) (by decide)).1 ?_
 refine xl 0 ((nv_elem (l := head6 l) (own_sl h5'3) rfl (k := 2) (by decide)).2) ?_
 refine xg 3 [56, 57] (decide ((↑(rawN l 2 2) : Int) ≤ (↑(nodM l) : Int))) (fun hc13 => ?_) (fun hc13 => ?_)
 · have hc13 := of_decide_eq_true hc13
   refine xx 1 _ 6 3 1 (nv_elem (l := head6 l) (own_sl h5'3) rfl (k := 3) (by decide)).1 ?_
   refine xl 0 ((nv_elem (l := head6 l) (own_sl h5'3) rfl (k := 3) (by decide)).2) ?_
   refine xg 4 [62, 63, 64] ((↑(rawN l 4 2) : Int) == (↑(nodW l) : Int)) (fun hc14 => ?_) (fun hc14 => ?_)
   · have hc14 := eq_of_beq hc14
     refine xx 1 _ 6 4 1 (nv_elem (l := head6 l) (own_sl h5'3) rfl (k := 4) (by decide)).1 ?_
     refine xl 0 ((nv_elem (l := head6 l) (own_sl h5'3) rfl (k := 4) (by decide)).2) ?_
     refine xg 4 [69, 70, 71] ((↑(rawN l 6 2) : Int) == (↑(nodM l) : Int)) (fun hc15 => ?_) (fun hc15 => ?_)
     · have hc15 := eq_of_beq hc15
       refine xx 1 _ 6 5 1 (nv_elem (l := head6 l) (own_sl h5'3) rfl (k := 5) (by decide)).1 ?_
       refine xl 0 ((nv_elem (l := head6 l) (own_sl h5'3) rfl (k := 5) (by decide)).2) ?_
       refine xg 3 [75, 76, 77] ((↑(rawN l 8 4) : Int) == (0 : Int)) (fun hc16 => ?_) (fun hc16 => ?_)
       · have hc16 := eq_of_beq hc16
         have k5'2 := (k5'1.below hb11).below hb12
         refine xb 1 1 k5'2 ?_
         refine xg 1 [27, 37, 45, 50, 79, 80] ((↑(rawN l 0 1) : Int) == (1 : Int)) (fun hc17 => ?_) (fun hc17 => ?_)
         · have hc17 := eq_of_beq hc17
           refine xd 10 (.t w.heap.size [125]) ?_
           have h5'4 := own_below h5'3 (below_drew W12)
           refine xx (.e [1] 2) _ 6 2 1 (nv_elem (l := head6 l) (own_sl h5'4) rfl (k := 2) (by decide)).1 ?_
           refine xlt (.e [] 3) (.t w.heap.size [125]) (fun V hV => (nv_elem (l := head6 l) (own_sl (own_only h5'4 hV.2 (by decide))) rfl (k := 2) (by decide)).2) ?_
           have k5'3 := k5'2.below (below_drew W12)
           refine xlv (.o [4] 0) k5'3.rp ?_
           have k1'3 := (((((u5.blk (k1.below n4.below) (Ne.symm (Ne.symm d4_b1))).below hb8).below (below_drew W8)).below hb11).below hb12).below (below_drew W12)
           have g1 := n1.ge (Below.refl w.heap.size _)
           refine ysv (.o [] 5) k1'3 [.int .i64 (↑(rawN l 1 1) : Int), .bool ((↑(rawN l 0 1) : Int) == (1 : Int)), .slice none 0 0, .slice none 0 0] (.t w.heap.size [125]) fun W18 u18 k18 => ⟨(sft_upd u18 k1'3 g1 (by decide)), ?_⟩
           have hB'4 := u18.below (Bl.next (Bl.next (Bl.next (Bl.next (Bl.next (u5.below (Bl.next hB'1 n4.below) g4) hb8) (below_drew W8)) hb11) hb12) (below_drew W12)) g1
           exact xec (.r [6, 7] 3) k18 (.tuple #[.agg #[.int .i64 (↑(rawN l 1 1) : Int), .bool ((↑(rawN l 0 1) : Int) == (1 : Int)), .slice none 0 0, .slice none 0 0], .int .i64 (↑(rawN l 2 2) : Int), .bool true]) (.inr ⟨decide_eq_true (by omega), rfl, hB'4⟩)
         have hc17 := ne_of_beq_false hc17
         refine xx 1 _ 6 2 1 (nv_elem (l := head6 l) (own_sl h5'3) rfl (k := 2) (by decide)).1 ?_
         refine xl 0 ((nv_elem (l := head6 l) (own_sl h5'3) rfl (k := 2) (by decide)).2) ?_
         refine xd 7 (.t w.heap.size [125]) ?_
         have h5'5 := own_below h5'3 (below_drew W12)
         refine xx (.e [1] 2) _ 6 2 1 (nv_elem (l := head6 l) (own_sl h5'5) rfl (k := 2) (by decide)).1 ?_
         refine xlt (.e [] 3) (.t w.heap.size [125]) (fun V hV => (nv_elem (l := head6 l) (own_sl (own_only h5'5 hV.2 (by decide))) rfl (k := 2) (by decide)).2) ?_
         have k5'4 := k5'2.below (below_drew W12)
         refine xlv (.o [4] 0) k5'4.rp ?_
         have k1'4 := (((((u5.blk (k1.below n4.below) (Ne.symm (Ne.symm d4_b1))).below hb8).below (below_drew W8)).below hb11).below hb12).below (below_drew W12)
         have g1 := n1.ge (Below.refl w.heap.size _)
         refine ysv (.o [] 5) k1'4 [.int .i64 (↑(rawN l 1 1) : Int), .bool ((↑(rawN l 0 1) : Int) == (1 : Int)), .slice none 0 0, .slice none 0 0] (.t w.heap.size [125]) fun W19 u19 k19 => ⟨(sft_upd u19 k1'4 g1 (by decide)), ?_⟩
         have hB'5 := u19.below (Bl.next (Bl.next (Bl.next (Bl.next (Bl.next (u5.below (Bl.next hB'1 n4.below) g4) hb8) (below_drew W8)) hb11) hb12) (below_drew W12)) g1
         refine xec (.r [6, 7] 3) k19 (.tuple #[.agg #[.int .i64 (↑(rawN l 1 1) : Int), .bool ((↑(rawN l 0 1) : Int) == (1 : Int)), .slice none 0 0, .slice none 0 0], .int .i64 (↑(rawN l 2 2) : Int), .bool (decide ((↑(rawN l 2 2) : Int) > (0 : Int)))]) ?_
         rcases Bool.eq_false_or_eq_true (decide ((↑(rawN l 2 2) : Int) > (0 : Int))) with hq | hq
         · have hq2 := of_decide_eq_true hq
           rw [hq]; exact .inr ⟨decide_eq_true (by omega), rfl, hB'5⟩
         · have hq2 := of_decide_eq_false hq
           rw [hq]; exact .inl ⟨decide_eq_false (by omega), _, _, _, rfl, hB'5⟩
       have hc16 := ne_of_beq_false hc16
       refine xd 13 (.t w.heap.size [125]) ?_
       have h5'6 := own_below h5'3 (below_drew W12)
       refine xx (.e [1] 2) _ 6 2 1 (nv_elem (l := head6 l) (own_sl h5'6) rfl (k := 2) (by decide)).1 ?_
       refine xlt (.e [] 3) (.t w.heap.size [125]) (fun V hV => (nv_elem (l := head6 l) (own_sl (own_only h5'6 hV.2 (by decide))) rfl (k := 2) (by decide)).2) ?_
       have k5'5 := ((k5'1.below hb11).below hb12).below (below_drew W12)
       refine xlv (.o [4] 0) k5'5.rp ?_
       have k1'5 := (((((u5.blk (k1.below n4.below) (Ne.symm (Ne.symm d4_b1))).below hb8).below (below_drew W8)).below hb11).below hb12).below (below_drew W12)
       have g1 := n1.ge (Below.refl w.heap.size _)
       refine ysv (.o [] 5) k1'5 [.int .i64 (↑(rawN l 1 1) : Int), .bool ((↑(rawN l 0 1) : Int) == (1 : Int)), .slice none 0 0, .slice none 0 0] (.t w.heap.size [125]) fun W20 u20 k20 => ⟨(sft_upd u20 k1'5 g1 (by decide)), ?_⟩
       have hB'6 := u20.below (Bl.next (Bl.next (Bl.next (Bl.next (Bl.next (u5.below (Bl.next hB'1 n4.below) g4) hb8) (below_drew W8)) hb11) hb12) (below_drew W12)) g1
       exact xec (.r [6, 7] 3) k20 (.tuple #[.agg #[.int .i64 (↑(rawN l 1 1) : Int), .bool ((↑(rawN l 0 1) : Int) == (1 : Int)), .slice none 0 0, .slice none 0 0], .int .i64 (↑(rawN l 2 2) : Int), .bool false]) (.inl ⟨decide_eq_false (by omega), _, _, _, rfl, hB'6⟩)
     have hc15 := ne_of_beq_false hc15
     refine xd 19 (.t w.heap.size [125]) ?_
     have h5'7 := own_below h5'3 (below_drew W12)
     refine xx (.e [1] 2) _ 6 2 1 (nv_elem (l := head6 l) (own_sl h5'7) rfl (k := 2) (by decide)).1 ?_
     refine xlt (.e [] 3) (.t w.heap.size [125]) (fun V hV => (nv_elem (l := head6 l) (own_sl (own_only h5'7 hV.2 (by decide))) rfl (k := 2) (by decide)).2) ?_
     have k5'6 := ((k5'1.below hb11).below hb12).below (below_drew W12)
     refine xlv (.o [4] 0) k5'6.rp ?_
     have k1'6 := (((((u5.blk (k1.below n4.below) (Ne.symm (Ne.symm d4_b1))).below hb8).below (below_drew W8)).below hb11).below hb12).below (below_drew W12)
     have g1 := n1.ge (Below.refl w.heap.size _)
     refine ysv (.o [] 5) k1'6 [.int .i64 (↑(rawN l 1 1) : Int), .bool ((↑(rawN l 0 1) : Int) == (1 : Int)), .slice none 0 0, .slice none 0 0] (.t w.heap.size [125]) fun W21 u21 k21 => ⟨(sft_upd u21 k1'6 g1 (by decide)), ?_⟩
     have hB'7 := u21.below (Bl.next (Bl.next (Bl.next (Bl.next (Bl.next (u5.below (Bl.next hB'1 n4.below) g4) hb8) (below_drew W8)) hb11) hb12) (below_drew W12)) g1
     exact xec (.r [6, 7] 3) k21 (.tuple #[.agg #[.int .i64 (↑(rawN l 1 1) : Int), .bool ((↑(rawN l 0 1) : Int) == (1 : Int)), .slice none 0 0, .slice none 0 0], .int .i64 (↑(rawN l 2 2) : Int), .bool false]) (.inl ⟨decide_eq_false (by omega), _, _, _, rfl, hB'7⟩)
   have hc14 := ne_of_beq_false hc14
   refine xd 26 (.t w.heap.size [125]) ?_
   have h5'8 := own_below h5'3 (below_drew W12)
   refine xx (.e [1] 2) _ 6 2 1 (nv_elem (l := head6 l) (own_sl h5'8) rfl (k := 2) (by decide)).1 ?_
   refine xlt (.e [] 3) (.t w.heap.size [125]) (fun V hV => (nv_elem (l := head6 l) (own_sl (own_only h5'8 hV.2 (by decide))) rfl (k := 2) (by decide)).2) ?_
   have k5'7 := ((k5'1.below hb11).below hb12).below (below_drew W12)
   refine xlv (.o [4] 0) k5'7.rp ?_
   have k1'7 := (((((u5.blk (k1.below n4.below) (Ne.symm (Ne.symm d4_b1))).below hb8).below (below_drew W8)).below hb11).below hb12).below (below_drew W12)
   have g1 := n1.ge (Below.refl w.heap.size _)
   refine ysv (.o [] 5) k1'7 [.int .i64 (↑(rawN l 1 1) : Int), .bool ((↑(rawN l 0 1) : Int) == (1 : Int)), .slice none 0 0, .slice none 0 0] (.t w.heap.size [125]) fun W22 u22 k22 => ⟨(sft_upd u22 k1'7 g1 (by decide)), ?_⟩
   have hB'8 := u22.below (Bl.next (Bl.next (Bl.next (Bl.next (Bl.next (u5.below (Bl.next hB'1 n4.below) g4) hb8) (below_drew W8)) hb11) hb12) (below_drew W12)) g1
   exact xec (.r [6, 7] 3) k22 (.tuple #[.agg #[.int .i64 (↑(rawN l 1 1) : Int), .bool ((↑(rawN l 0 1) : Int) == (1 : Int)), .slice none 0 0, .slice none 0 0], .int .i64 (↑(rawN l 2 2) : Int), .bool false]) (.inl ⟨decide_eq_false (by omega), _, _, _, rfl, hB'8⟩)
 have hc13 := of_decide_eq_false hc13
 refine xd 33 (.t w.heap.size [125]) ?_
 have h5'9 := own_below h5'3 (below_drew W12)
 refine xx (.e [1] 2) _ 6 2 1 (nv_elem (l := head6 l) (own_sl h5'9) rfl (k := 2) (by decide)).1 ?_
 refine xlt (.e [] 3) (.t w.heap.size [125]) (fun V hV => (nv_elem (l := head6 l) (own_sl (own_only h5'9 hV.2 (by decide))) rfl (k := 2) (by decide)).2) ?_
 have k5'8 := ((k5'1.below hb11).below hb12).below (below_drew W12)
 refine xlv (.o [4] 0) k5'8.rp ?_
 have k1'8 := (((((u5.blk (k1.below n4.below) (Ne.symm (Ne.symm d4_b1))).below hb8).below (below_drew W8)).below hb11).below hb12).below (below_drew W12)
 have g1 := n1.ge (Below.refl w.heap.size _)
 refine ysv (.o [] 5) k1'8 [.int .i64 (↑(rawN l 1 1) : Int), .bool ((↑(rawN l 0 1) : Int) == (1 : Int)), .slice none 0 0, .slice none 0 0] (.t w.heap.size [125]) fun W23 u23 k23 => ⟨(sft_upd u23 k1'8 g1 (by decide)), ?_⟩
 have hB'9 := u23.below (Bl.next (Bl.next (Bl.next (Bl.next (Bl.next (u5.below (Bl.next hB'1 n4.below) g4) hb8) (below_drew W8)) hb11) hb12) (below_drew W12)) g1
 exact xec (.r [6, 7] 3) k23 (.tuple #[.agg #[.int .i64 (↑(rawN l 1 1) : Int), .bool ((↑(rawN l 0 1) : Int) == (1 : Int)), .slice none 0 0, .slice none 0 0], .int .i64 (↑(rawN l 2 2) : Int), .bool false]) (.inl ⟨decide_eq_false (by omega), _, _, _, rfl, hB'9⟩)
set_option maxRecDepth 100000 in
set_option maxHeartbeats 1000000 in
theorem node_keyG (a : Option Addr) (i c : Nat) (L : List Int) (k : Int) (w : World) (hL : L.length = i) (h : Sl w (.slice a i c) i (L.map (Value.int .i64))) (hi : i ≤ 1000) :
    Calls Tryz.prog 113 #[.slice a i c, .int .i64 k] w (Ret (.int .i64 (keyR L i k)) w) := by
 refine zin 26 Tryz.func113 ?_
 refine xg 12 [7, 8] (decide (k < (0 : Int))) (fun hc1 => ?_) (fun hc1 => ?_)
 · have hc1 := of_decide_eq_true hc1
   exact xe 15 (.int .i64 2) ⟨by rw [show keyR L i k = 2 from by unfold keyR; rw [if_pos (by omega)]], (Below.refl w.heap.size _)⟩
 have hc1 := of_decide_eq_false hc1
 refine xid 6 (k > (281474976710655 : Int)) (fun hc2 => ?_) (fun hc2 => ?_)
 · exact xe 8 (.int .i64 2) ⟨by rw [show keyR L i k = 2 from by unfold keyR; rw [if_pos (by omega)]], (Below.refl w.heap.size _)⟩
 refine xg 6 [15, 16] (decide ((↑i : Int) > (0 : Int))) (fun hc3 => ?_) (fun hc3 => ?_)
 · have hc3 := of_decide_eq_true hc3
   refine xwm 3 ((↑i : Int) - 1) (↑(i - 1) : Int) ?_
   refine xx 0 _ i (i - 1) 1 (IntsN.elem h hL (k := (i - 1)) (by omega)).1 ?_
   refine xl 0 ((IntsN.elem h hL (k := (i - 1)) (by omega)).2) ?_
   refine xid 6 ((L.getD (i - 1) 0) ≥ k) (fun hc4 => ?_) (fun hc4 => ?_)
   · exact xe 8 (.int .i64 8) ⟨by rw [show keyR L i k = 8 from by unfold keyR; rw [if_neg (by omega), if_pos (by omega)]], (Below.refl w.heap.size _)⟩
   exact xe 9 (.int .i64 0) ⟨by rw [show keyR L i k = 0 from by unfold keyR; rw [if_neg (by omega), if_neg (by omega)]], (Below.refl w.heap.size _)⟩
 have hc3 := of_decide_eq_false hc3
 exact xe 22 (.int .i64 0) ⟨by rw [show keyR L i k = 0 from by unfold keyR; rw [if_neg (by omega), if_neg (by omega)]], (Below.refl w.heap.size _)⟩
def keyN (l : List UInt8) (i : Nat) : Nat := rawN l (12 + i * 8) 8
def keysI (l : List UInt8) (n : Nat) : List Int := (List.range n).map fun i => (keyN l i : Int)
theorem keysI_len (l : List UInt8) (n : Nat) : (keysI l n).length = n := by simp [keysI]
theorem keysI_snoc (l : List UInt8) (n : Nat) : keysI l (n + 1) = keysI l n ++ [(keyN l n : Int)] := by simp [keysI, List.range_succ]
theorem keysI_get (l : List UInt8) {n i : Nat} (h : i < n) : (keysI l n).getD i 0 = (keyN l i : Int) := by simp [keysI, List.getD, List.getElem?_range h]
def valN (l : List UInt8) (i : Nat) : List UInt8 := (l.drop (12 + nodM l * 8 + i * nodW l)).take (nodW l)
def valsL (l : List UInt8) (n : Nat) : List (List UInt8) := (List.range n).map (valN l)
theorem valsL_len (l : List UInt8) (n : Nat) : (valsL l n).length = n := by simp [valsL]
theorem valsL_snoc (l : List UInt8) (n : Nat) : valsL l (n + 1) = valsL l n ++ [valN l n] := by simp [valsL, List.range_succ]
theorem valsL_get (l : List UInt8) {n i : Nat} (h : i < n) : (valsL l n).getD i [] = valN l i := by simp [valsL, List.getD, List.getElem?_range h]
def keyE (l : List UInt8) (i : Nat) : Int := if 281474976710655 < keyN l i then 2 else if 0 < i ∧ keyN l i ≤ keyN l (i - 1) then 8 else 0
def keysErr (l : List UInt8) : Nat → Int
  | 0 => 0
  | i + 1 => if keysErr l i ≠ 0 then keysErr l i else keyE l i
theorem keysErr_stop {l : List UInt8} {i : Nat} (h : keysErr l i ≠ 0) : ∀ n, i ≤ n → keysErr l n = keysErr l i
  | 0, h2 => by obtain rfl : i = 0 := by omega
                rfl
  | n + 1, h2 => by
    by_cases e : i = n + 1
    · rw [e]
    · have ih := keysErr_stop h n (by omega)
      rw [keysErr, if_pos (by rw [ih]; exact h), ih]
theorem keysErr_at {l : List UInt8} {i n : Nat} (h : keysErr l i = 0) (he : keyE l i ≠ 0) (hi : i < n) : keysErr l n = keyE l i := by
  have e : keysErr l (i + 1) = keyE l i := by rw [keysErr, if_neg (by rw [h]; decide)]
  rw [keysErr_stop (by rw [e]; exact he) n hi, e]
theorem keysErr_next {l : List UInt8} {i : Nat} (h : keysErr l i = 0) (he : keyE l i = 0) : keysErr l (i + 1) = 0 := by rw [keysErr, if_neg (by rw [h]; decide), he]
theorem keyE_R {l : List UInt8} {i : Nat} : keyR (keysI l i) i (keyN l i : Int) = keyE l i := by
  unfold keyR keyE
  by_cases h : 281474976710655 < keyN l i
  · rw [if_pos (by omega), if_pos h]
  · rw [if_neg (by omega), if_neg h]
    by_cases h2 : 0 < i
    · rw [keysI_get l (show i - 1 < i by omega)]
      by_cases h3 : keyN l i ≤ keyN l (i - 1)
      · rw [if_pos (by omega), if_pos (by omega)]
      · rw [if_neg (by omega), if_neg (by omega)]
    · rw [if_neg (by omega), if_neg (by omega)]
def node0 (l : List UInt8) : Nat := 12 + nodC l * 8
def node1 (l : List UInt8) : Nat := 12 + nodM l * 8
def node2 (l : List UInt8) : Nat := node1 l + nodC l * nodW l
def nodeZ (l : List UInt8) : Bool := zeroB ((l.drop (node0 l)).take (node1 l - node0 l)) && zeroB ((l.drop (node2 l)).take (244 - node2 l))
def nodeE (l : List UInt8) : Int := if shapeB l then (if nodeZ l then keysErr l (nodC l) else 7) else 7
def NodeP (l : List UInt8) (w : World) (e : Ending) (w' : World) : Prop :=
  (nodeE l ≠ 0 ∧ e = .returned (.tuple #[.agg #[.int .i64 0, .bool false, .slice none 0 0, .slice none 0 0], .int .i64 (nodeE l)]) ∧ Below w.heap.size w w') ∨
  (nodeE l = 0 ∧ ∃ kp kc vp vc, e = .returned (.tuple #[.agg #[.int .i64 (nodT l), .bool (nodL l), .slice kp (nodC l) kc, .slice vp (nodC l) vc], .int .i64 0]) ∧ Below w.heap.size w w' ∧
    w'.ownsRow w.heap.size 3 1 (.slice kp (nodC l) kc) (nodC l) ((keysI l (nodC l)).map (Value.int .i64)) ∧ w'.ownsRow w.heap.size 9 1 (.slice vp (nodC l) vc) (nodC l) ((valsL l (nodC l)).map sv))
theorem node_shapeP {l : List UInt8} (h : shapeB l = true) : nodC l ≤ nodM l := (of_decide_eq_true h).2.2.1
theorem code_ZeroN (a : Option Addr) (n c : Nat) (l : List UInt8) (w : World) (hn : l.length = n) (hl : n ≤ 100000000) (h : Bys w (.slice a n c) l) : Calls Tryz.prog 85 #[.slice a n c] w (Ret (.bool (zeroB l)) w) := by
  subst hn; exact code_Zero a c l w hl h
theorem valN_bys {a : Option Addr} {c i : Nat} {l : List UInt8} {w : World} (h : Bys w (.slice a 244 c) l) (hl : l.length = 244) (hb : 12 + nodM l * 8 + (i + 1) * nodW l ≤ 244) (hi : (i + 1) * nodW l = i * nodW l + nodW l) :
    Bys w (.slice (cutA a (12 + nodM l * 8 + i * nodW l) c 1) (12 + nodM l * 8 + (i + 1) * nodW l - (12 + nodM l * 8 + i * nodW l)) (c - (12 + nodM l * 8 + i * nodW l))) (valN l i) := by
  have := Bys.cut h hl (12 + nodM l * 8 + i * nodW l) (12 + nodM l * 8 + (i + 1) * nodW l) (by omega) hb
  rw [show 12 + nodM l * 8 + (i + 1) * nodW l - (12 + nodM l * 8 + i * nodW l) = nodW l by omega] at this ⊢
  exact this
theorem valN_lenN {i : Nat} {l : List UInt8} (hl : l.length = 244) (hb : 12 + nodM l * 8 + (i + 1) * nodW l ≤ 244) (hi : (i + 1) * nodW l = i * nodW l + nodW l) : (valN l i).length = 12 + nodM l * 8 + (i + 1) * nodW l - (12 + nodM l * 8 + i * nodW l) := by
  unfold valN; simp only [List.length_take, List.length_drop]; omega
def GetP (l : List UInt8) (k w : Nat) (W : World) (e : Ending) (w' : World) : Prop :=
  (rawN l k w < 9223372036854775808 ∧ e = .returned (.tuple #[.int .i64 (rawN l k w : Int), .int .i64 0]) ∧ Below W.heap.size W w') ∨ (¬ rawN l k w < 9223372036854775808 ∧ e = .returned (.tuple #[.int .i64 0, .int .i64 2]) ∧ Below W.heap.size W w')
theorem Get_P (a : Option Addr) (n c k w : Nat) (l : List UInt8) (W : World) (hn : l.length = n) (hw : w = 1 ∨ w = 2 ∨ w = 4 ∨ w = 8) (hk : k + w ≤ n) (hl : n ≤ 100000000) (h : Bys W (.slice a n c) l) (wi : Int) (hwi : wi = (w : Int)) :
    Calls Tryz.prog 84 #[.slice a n c, .int .i64 (↑k : Int), .int .i64 wi] W (GetP l k w W) := by
  subst hn hwi
  by_cases hq : rawN l k w < 9223372036854775808
  · refine (Get_ok a c k w l W hw hk hl h hq).mono ?_
    rintro e V ⟨rfl, hb⟩; exact .inl ⟨hq, rfl, hb⟩
  · refine (Get_big a c k w l W hw hk hl h hq).mono ?_
    rintro e V ⟨rfl, hb⟩; exact .inr ⟨hq, rfl, hb⟩
theorem node_keyP (l : List UInt8) (a : Option Addr) (i c : Nat) (w : World) (h : Sl w (.slice a i c) i ((keysI l i).map (Value.int .i64))) (hi : i ≤ 1000) :
    Calls Tryz.prog 113 #[.slice a i c, .int .i64 (↑(keyN l i) : Int)] w (fun e w' => (keyE l i = 0 ∧ e = .returned (.int .i64 0) ∧ Below w.heap.size w w') ∨ (keyE l i ≠ 0 ∧ e = .returned (.int .i64 (keyE l i)) ∧ Below w.heap.size w w')) := by
  refine (node_keyG a i c (keysI l i) (keyN l i) w (keysI_len l i) h hi).mono ?_
  rintro e W ⟨rfl, hb⟩
  rw [keyE_R]
  by_cases hz : keyE l i = 0
  · exact .inl ⟨hz, by rw [hz], hb⟩
  · exact .inr ⟨hz, rfl, hb⟩
set_option maxRecDepth 100000 in
set_option maxHeartbeats 4000000 in
theorem node_Read (a : Option Addr) (c : Nat) (l : List UInt8) (w : World) (hl : l.length = 244) (h : Bys w (.slice a 244 c) l) :
    Calls Tryz.prog 129 #[.slice a 244 c] w (NodeP l w) := by
 have hcap := Bys.cap h hl
 refine zin 104 Tryz.func129 ?_
 refine xa 2 [.int .i64 0, .bool false, .slice none 0 0, .slice none 0 0] 125 fun b1 W1 n1 => ?_
 refine xc 6 (args := #[.slice a 244 c]) (node_shape a c l _ hl (h.below n1.below)) ?_
 rintro e W2 hq2
 rcases hq2 with ⟨hs, t0, l0, c0, rfl, hb2⟩ | ⟨hs, rfl, hb2⟩
 · refine xa 4 [.int .i64 0, .bool false, .slice none 0 0, .slice none 0 0] 125 fun b3 W3 n3 => ?_
   have k1 := n1.blk.below hb2
   have d3_b1 := n3.ne k1
   have hB'1 := Bl.next n1.below hb2
   have g3 := n3.ge hB'1
   refine xsv 0 n3.blk [.int .i64 t0, .bool l0, .slice none 0 0, .slice none 0 0] fun W4 u4 k4 => ?_
   have k1'1 := u4.blk (k1.below n3.below) (Ne.symm (Ne.symm d3_b1))
   refine xsv 15 k1'1 [.int .i64 0, .bool false, .slice none 0 0, .slice none 0 0] fun W5 u5 k5 => ?_
   have g1 := n1.ge (Below.refl w.heap.size _)
   have hB'2 := u5.below (u4.below (Bl.next hB'1 n3.below) g3) g1
   refine xec 5 k5 (.tuple #[.agg #[.int .i64 0, .bool false, .slice none 0 0, .slice none 0 0], .int .i64 7]) ?_
   have he : nodeE l = 7 := by unfold nodeE; simp [hs]
   exact .inl ⟨by rw [he]; decide, by rw [he], hB'2⟩
 have hcm := node_shapeP hs
 have hfit := fitG (nodT l) (nodL l)
 have hmle := maxG_le (nodT l) (nodL l)
 have hwle := widG_le (nodT l) (nodL l)
 change 12 + nodM l * 8 + nodM l * nodW l ≤ 244 at hfit
 change nodM l ≤ 18 at hmle
 change nodW l ≤ 24 at hwle
 have hcw : nodC l * nodW l ≤ nodM l * nodW l := Nat.mul_le_mul_right _ hcm
 refine xa 4 [.int .i64 0, .bool false, .slice none 0 0, .slice none 0 0] 125 fun b6 W6 n6 => ?_
 have k1 := n1.blk.below hb2
 have d6_b1 := n6.ne k1
 have hB'3 := Bl.next n1.below hb2
 have g6 := n6.ge hB'3
 refine xsv 0 n6.blk [.int .i64 (nodT l), .bool (nodL l), .slice none 0 0, .slice none 0 0] fun W7 u7 k7 => ?_
 refine xd 15 .z ?_
 have k7'1 := k7.below (below_drew W7)
 refine xb (.e [0] 1) 0 k7'1 ?_
 refine xb (.e [2] 3) 1 k7'1 ?_
 refine xb (.e [5] 6) 0 k7'1 ?_
 refine xb (.e [7] 8) 1 k7'1 ?_
 refine xr (.o [] 4) (args := #[.int .i64 (nodT l), .bool (nodL l)]) (node_WidthG (nodT l) (nodL l) _) fun W8 hb8 => ?_
 refine xr (.o [] 9) (args := #[.int .i64 (nodT l), .bool (nodL l)]) (node_MaxG (nodT l) (nodL l) _) fun W9 hb9 => ?_
 refine xwm (.r [10, 11] 5) ((↑(nodM l) : Int) * 8) (↑((nodM l) * 8) : Int) ?_
 refine xwm 0 (12 + (↑((nodM l) * 8) : Int)) (↑(12 + ((nodM l) * 8)) : Int) ?_
 refine xwm 8 ((↑(nodC l) : Int) * 8) (↑((nodC l) * 8) : Int) ?_
 refine xwm 0 (12 + (↑((nodC l) * 8) : Int)) (↑(12 + ((nodC l) * 8)) : Int) ?_
 refine xsB 1 (fun _ _ _ _ _ zo zx zy zz V => run_sliceLHA (k := (12 + ((nodC l) * 8))) (h := (12 + ((nodM l) * 8))) (b := a) (n := 244) (c := c) (i := (↑(12 + ((nodC l) * 8)) : Int)) (ki := .i64) (j := (↑(12 + ((nodM l) * 8)) : Int)) (kj := .i64) 1 zo zx zy rfl zz rfl (by omega) (by omega) Tryz.underlying53 (by kernel_rfl) V) ?_
 have hB'4 := Bl.next (Bl.next (Bl.next (u7.below (Bl.next hB'3 n6.below) g6) (below_drew W7)) hb8) hb9
 refine xr 0 (args := #[.slice (cutA a (12 + ((nodC l) * 8)) c 1) ((12 + ((nodM l) * 8)) - (12 + ((nodC l) * 8))) (c - (12 + ((nodC l) * 8)))]) (code_ZeroN (cutA a (12 + ((nodC l) * 8)) c 1) ((12 + ((nodM l) * 8)) - (12 + ((nodC l) * 8))) (c - (12 + ((nodC l) * 8))) _ _ (by simp; omega) (by omega) ((Bys.cut h hl (12 + ((nodC l) * 8)) (12 + ((nodM l) * 8)) (by omega) (by omega)).below hB'4)) fun W10 hb10 => ?_
 refine xg 2 [42, 43] (!(zeroB ((l.drop (node0 l)).take (node1 l - node0 l)))) (fun hc11 => ?_) (fun hc11 => ?_)
 · have hz1 : zeroB ((l.drop (node0 l)).take (node1 l - node0 l)) = false := by simpa using hc11
   have k1'2 := ((((u7.blk (k1.below n6.below) (Ne.symm (Ne.symm d6_b1))).below (below_drew W7)).below hb8).below hb9).below hb10
   refine xsv 16 k1'2 [.int .i64 0, .bool false, .slice none 0 0, .slice none 0 0] fun W12 u12 k12 => ?_
   have g1 := n1.ge (Below.refl w.heap.size _)
   have hB'5 := u12.below (Bl.next hB'4 hb10) g1
   refine xec 5 k12 (.tuple #[.agg #[.int .i64 0, .bool false, .slice none 0 0, .slice none 0 0], .int .i64 7]) ?_
   have he : nodeE l = 7 := by unfold nodeE; simp [hs, nodeZ, hz1]
   exact .inl ⟨by rw [he]; decide, by rw [he], hB'5⟩
 have hz1 : zeroB ((l.drop (node0 l)).take (node1 l - node0 l)) = true := by simpa using hc11
 refine xwm 4 ((↑(nodC l) : Int) * (↑(nodW l) : Int)) (↑((nodC l) * (nodW l)) : Int) ?_
 refine xwm 0 ((↑(12 + ((nodM l) * 8)) : Int) + (↑((nodC l) * (nodW l)) : Int)) (↑((12 + ((nodM l) * 8)) + ((nodC l) * (nodW l))) : Int) ?_
 refine xsL 0 (fun _ _ _ _ zo zx zy V => run_sliceLA (k := ((12 + ((nodM l) * 8)) + ((nodC l) * (nodW l)))) (b := a) (n := 244) (c := c) (i := (↑((12 + ((nodM l) * 8)) + ((nodC l) * (nodW l))) : Int)) (ki := .i64) 1 zo zx zy rfl (by omega) Tryz.underlying53 (by kernel_rfl) V) ?_
 have hB'6 := Bl.next hB'4 hb10
 refine xr 0 (args := #[.slice (cutA a ((12 + ((nodM l) * 8)) + ((nodC l) * (nodW l))) c 1) (244 - ((12 + ((nodM l) * 8)) + ((nodC l) * (nodW l)))) (c - ((12 + ((nodM l) * 8)) + ((nodC l) * (nodW l))))]) (code_ZeroN (cutA a ((12 + ((nodM l) * 8)) + ((nodC l) * (nodW l))) c 1) (244 - ((12 + ((nodM l) * 8)) + ((nodC l) * (nodW l)))) (c - ((12 + ((nodM l) * 8)) + ((nodC l) * (nodW l)))) _ _ (by simp; omega) (by omega) ((Bys.cut h hl (12 + ((nodM l) * 8) + ((nodC l) * (nodW l))) 244 (by omega) (by omega)).below hB'6)) fun W13 hb13 => ?_
 refine xi 4 (!(zeroB ((l.drop (node2 l)).take (244 - node2 l)))) (fun hc14 => ?_) (fun hc14 => ?_)
 · have hz2 : zeroB ((l.drop (node2 l)).take (244 - node2 l)) = false := by simpa using hc14
   have k1'3 := (((((u7.blk (k1.below n6.below) (Ne.symm (Ne.symm d6_b1))).below (below_drew W7)).below hb8).below hb9).below hb10).below hb13
   refine xsv 3 k1'3 [.int .i64 0, .bool false, .slice none 0 0, .slice none 0 0] fun W15 u15 k15 => ?_
   have g1 := n1.ge (Below.refl w.heap.size _)
   have hB'7 := u15.below (Bl.next hB'6 hb13) g1
   refine xec 5 k15 (.tuple #[.agg #[.int .i64 0, .bool false, .slice none 0 0, .slice none 0 0], .int .i64 7]) ?_
   have he : nodeE l = 7 := by unfold nodeE; simp [hs, nodeZ, hz1, hz2]
   exact .inl ⟨by rw [he]; decide, by rw [he], hB'7⟩
 have hz2 : zeroB ((l.drop (node2 l)).take (244 - node2 l)) = true := by simpa using hc14
 have hnz : nodeZ l = true := by unfold nodeZ; rw [hz1, hz2]; rfl
 have hB'8 := Bl.next hB'6 hb13
 have k1'4 := (((((u7.blk (k1.below n6.below) (Ne.symm (Ne.symm d6_b1))).below (below_drew W7)).below hb8).below hb9).below hb10).below hb13
 have k7'2 := (((k7'1.below hb8).below hb9).below hb10).below hb13
 refine zl 10 104 (fun zm zkv V => ∃ (i : Nat) (kp : Option Addr) (kc : Nat) (vp : Option Addr) (vc : Nat), zkv = [(0, .slice a 244 c), (2, .pointer (some ⟨b1, 0, none⟩)), (4, .pointer (some ⟨b6, 0, none⟩)), (7, .int .i64 (↑(nodW l) : Int)), (9, .int .i64 (↑(12 + ((nodM l) * 8)) : Int)), (55, .int .i64 (↑(nodC l) : Int)), (56, .int .i64 (↑i : Int))] ∧ zm = nodC l - ((↑i : Int)).toNat ∧ Below w.heap.size w V ∧ Blk V b1 ([.int .i64 0, .bool false, .slice none 0 0, .slice none 0 0]) 125 ∧ Blk V b6 ([.int .i64 (nodT l), .bool (nodL l), .slice kp i kc, .slice vp i vc]) 125 ∧ V.ownsRow w.heap.size 3 1 (.slice kp i kc) i ((keysI l i).map (Value.int .i64)) ∧ V.ownsRow w.heap.size 9 1 (.slice vp i vc) i ((valsL l i).map sv) ∧ i ≤ nodC l ∧ keysErr l i = 0) ⟨0, none, 0, none, 0, rfl, rfl, hB'8, k1'4, k7'2, World.ownsRow_nil _ _ _ _, World.ownsRow_nil _ _ _ _, Nat.zero_le _, rfl⟩ ?_
 rintro _ _ W16 ⟨i, kp, kc, vp, vc, rfl, rfl, hB_16, k16_b1, k16_b6, hK, hV, hi, hz⟩ J16 hJ16 r16
 have hiw : (i + 1) * nodW l = i * nodW l + nodW l := Nat.succ_mul i (nodW l)
 have hiw2 : i < nodC l → (i + 1) * nodW l ≤ nodM l * nodW l := fun hh => Nat.mul_le_mul_right _ (by omega)
 refine xid 6 ((↑i : Int) < (↑(nodC l) : Int)) (fun hc17 => ?_) (fun hc17 => ?_)
 · refine xwm 14 ((↑i : Int) * 8) (↑(i * 8) : Int) ?_
   refine xwm 0 (12 + (↑(i * 8) : Int)) (↑(12 + (i * 8)) : Int) ?_
   refine xc 0 (args := #[.slice a 244 c, .int .i64 (↑(12 + (i * 8)) : Int), .int .i64 8]) (Get_P a 244 c (12 + (i * 8)) 8 l _ hl (by decide) (by omega) (by decide) (h.below hB_16) 8 rfl) ?_
   rintro e W18 hq18
   rcases hq18 with ⟨hgk, rfl, hb18⟩ | ⟨hgk, rfl, hb18⟩
   · have k16_b6'1 := k16_b6.below hb18
     refine xb 17 2 k16_b6'1 ?_
     have hK'1 := own_below hK hb18
     refine xc 1 (args := #[.slice kp i kc, .int .i64 (↑(keyN l i) : Int)]) (node_keyP l kp i kc _ (own_sl hK'1) (by omega)) ?_
     rintro e W19 hq19
     rcases hq19 with ⟨hz0, rfl, hb19⟩ | ⟨hz0, rfl, hb19⟩
     · have k16_b6'2 := k16_b6'1.below hb19
       refine xb 16 2 k16_b6'2 ?_
       refine xbs 1 1 [.int .i64 (↑(keyN l i) : Int)] 3 fun b20 W20 n20 => ?_
       have hB'9 := Bl.next (Bl.next hB_16 hb18) hb19
       have g20 := n20.ge hB'9
       have hK'2 := own_below hK'1 hb19
       have r20_hK := own_ne hK'2 n20
       have hK'3 := own_below hK'2 n20.below
       have hB'10 := Bl.next hB'9 n20.below
       refine xbi 0 fun _ _ _ _ zJ zQ zo zx zy zK => op_app (m := 1) (news := [.int .i64 (↑(keyN l i) : Int)]) (.int .i64 0) 1 8 (i + 1) ((keysI l (i + 1)).map (Value.int .i64)) zo Tryz.underlying22 (by kernel_rfl) rfl (by decide) zx hK'3 zy (n20.blk.sl 1 1 (by decide) (by decide)) rfl (by simp [Value.oneCell']) (by unfold maxLen; omega) (by omega) hB'10.size (by rfl) (by rw [keysI_snoc, List.map_append]; rfl) fun px21 cx21 W21 o21 hg21 hb21 => ?_
       refine zK _ _ ?_
       have k16_b6'3 := (k16_b6'2.below n20.below).grown hg21 hK'3 (by decide)
       refine xs 1 k16_b6'3 [.int .i64 (nodT l), .bool (nodL l), .slice px21 (i + 1) cx21, .slice vp i vc] fun W22 u22 k22 => ?_
       refine xd 2 (.t w.heap.size [9, 125]) ?_
       refine xwm (.e [0, 2, 3, 4, 5] 6) ((↑i : Int) * (↑(nodW l) : Int)) (↑(i * (nodW l)) : Int) ?_
       refine xwm (.e [] 7) ((↑(12 + ((nodM l) * 8)) : Int) + (↑(i * (nodW l)) : Int)) (↑((12 + ((nodM l) * 8)) + (i * (nodW l))) : Int) ?_
       refine xwm (.e [8, 9] 10) ((↑i : Int) + 1) (↑(i + 1) : Int) ?_
       refine xwm (.e [11] 12) ((↑(i + 1) : Int) * (↑(nodW l) : Int)) (↑((i + 1) * (nodW l)) : Int) ?_
       refine xwm (.e [] 13) ((↑(12 + ((nodM l) * 8)) : Int) + (↑((i + 1) * (nodW l)) : Int)) (↑((12 + ((nodM l) * 8)) + ((i + 1) * (nodW l))) : Int) ?_
       refine xsB (.e [] 14) (fun _ _ _ _ _ zo zx zy zz V => run_sliceLHA (k := ((12 + ((nodM l) * 8)) + (i * (nodW l)))) (h := ((12 + ((nodM l) * 8)) + ((i + 1) * (nodW l)))) (b := a) (n := 244) (c := c) (i := (↑((12 + ((nodM l) * 8)) + (i * (nodW l))) : Int)) (ki := .i64) (j := (↑((12 + ((nodM l) * 8)) + ((i + 1) * (nodW l))) : Int)) (kj := .i64) 1 zo zx zy rfl zz rfl (by omega) (by omega) Tryz.underlying53 (by kernel_rfl) V) ?_
       have hV'1 := own_below (u22.own2 (own_grown (own_below (own_below (own_below hV hb18) hb19) n20.below) hg21 hK'3 (by decide)) k16_b6'3 (by decide)) (below_drew W22)
       have hB'11 := Bl.next (u22.below (hB'10.trans hb21) g6) (below_drew W22)
       refine xcvt (.e [] 15) (.t w.heap.size [9, 125]) (fun _ _ _ zo zx V hV'1 => run_bstr zo zx ((valN_bys h hl (by omega) hiw).below (sft_keep hB'11 hV'1 (Nat.le_refl _))) (valN_lenN hl (by omega) hiw) Tryz.underlying53 Tryz.underlying5 Tryz.underlying9) ?_
       refine xm2 0 1 16 ?_ ?_
       · have k22'1 := k22.below (below_drew W22)
         refine xb 0 3 k22'1 ?_
         refine xbs (.o [] 16) 1 [.string ⟨(valN l i).toArray⟩] 9 fun b23 W23 n23 => ?_
         have g23 := n23.ge hB'11
         have r23_hV := own_ne hV'1 n23
         have hV'2 := own_below hV'1 n23.below
         have hB'12 := Bl.next hB'11 n23.below
         refine ybi (.o [] 17) (.t w.heap.size [9, 125]) fun _ _ _ _ zJ zQ zo zx zy zK => op_app (m := 1) (news := [.string ⟨(valN l i).toArray⟩]) (.string ⟨#[]⟩) 1 16 (i + 1) ((valsL l (i + 1)).map sv) zo Tryz.underlying123 (by kernel_rfl) rfl (by decide) zx hV'2 zy (n23.blk.sl 1 1 (by decide) (by decide)) rfl (by simp [Value.oneCell']) (by unfold maxLen; omega) (by omega) hB'12.size (by rfl) (by rw [valsL_snoc, List.map_append]; rfl) fun px24 cx24 W24 o24 hg24 hb24 => ?_
         refine zK _ _ (sft_grown hb24 hg24 hV'2 (by decide)) ?_
         have k22'2 := (k22'1.below n23.below).grown hg24 hV'2 (by decide)
         refine ys (.o [18] 19) k22'2 [.int .i64 (nodT l), .bool (nodL l), .slice px21 (i + 1) cx21, .slice px24 (i + 1) cx24] (.t w.heap.size [9, 125]) fun W25 u25 k25 => ⟨(sft_upd u25 k22'2 g6 (by decide)), ?_⟩
         refine xwm 4 ((↑i : Int) + 1) (↑(i + 1) : Int) ?_
         have hB'13 := u25.below (hB'12.trans hb24) g6
         have k16_b1'1 := u25.blk ((((u22.blk ((((k16_b1.below hb18).below hb19).below n20.below).grown hg21 hK'3 (by decide)) (Ne.symm (Ne.symm d6_b1))).below (below_drew W22)).below n23.below).grown hg24 hV'2 (by decide)) (Ne.symm (Ne.symm d6_b1))
         have o21'1 := u25.own2 (own_grown (own_below (own_below (u22.own2 o21 k16_b6'3 (by decide)) (below_drew W22)) n23.below) hg24 hV'2 (by decide)) k22'2 (by decide)
         have o24'1 := u25.own2 o24 k22'2 (by decide)
         exact ze 2 (hJ16 _ _ _ ⟨i + 1, _, _, _, _, rfl, rfl, hB'13, k16_b1'1, k25, o21'1, o24'1, by omega, keysErr_next hz hz0⟩ (by omega))
       refine xbs 0 1 [.string ⟨(valN l i).toArray⟩] 9 fun b26 W26 n26 => ?_
       have g26 := n26.ge hB'11
       have r26_hV := own_ne hV'1 n26
       have k22'3 := (k22.below (below_drew W22)).below n26.below
       refine xb (.o [] 1) 3 k22'3 ?_
       have hV'3 := own_below hV'1 n26.below
       have hB'14 := Bl.next hB'11 n26.below
       refine ybi (.o [] 17) (.t w.heap.size [9, 125]) fun _ _ _ _ zJ zQ zo zx zy zK => op_app (m := 1) (news := [.string ⟨(valN l i).toArray⟩]) (.string ⟨#[]⟩) 1 16 (i + 1) ((valsL l (i + 1)).map sv) zo Tryz.underlying123 (by kernel_rfl) rfl (by decide) zx hV'3 zy (n26.blk.sl 1 1 (by decide) (by decide)) rfl (by simp [Value.oneCell']) (by unfold maxLen; omega) (by omega) hB'14.size (by rfl) (by rw [valsL_snoc, List.map_append]; rfl) fun px27 cx27 W27 o27 hg27 hb27 => ?_
       refine zK _ _ (sft_grown hb27 hg27 hV'3 (by decide)) ?_
       have k22'4 := k22'3.grown hg27 hV'3 (by decide)
       refine ys (.o [18] 19) k22'4 [.int .i64 (nodT l), .bool (nodL l), .slice px21 (i + 1) cx21, .slice px27 (i + 1) cx27] (.t w.heap.size [9, 125]) fun W28 u28 k28 => ⟨(sft_upd u28 k22'4 g6 (by decide)), ?_⟩
       refine xwm 4 ((↑i : Int) + 1) (↑(i + 1) : Int) ?_
       have hB'15 := u28.below (hB'14.trans hb27) g6
       have k16_b1'2 := u28.blk ((((u22.blk ((((k16_b1.below hb18).below hb19).below n20.below).grown hg21 hK'3 (by decide)) (Ne.symm (Ne.symm d6_b1))).below (below_drew W22)).below n26.below).grown hg27 hV'3 (by decide)) (Ne.symm (Ne.symm d6_b1))
       have o21'2 := u28.own2 (own_grown (own_below (own_below (u22.own2 o21 k16_b6'3 (by decide)) (below_drew W22)) n26.below) hg27 hV'3 (by decide)) k22'4 (by decide)
       have o27'1 := u28.own2 o27 k22'4 (by decide)
       exact ze 2 (hJ16 _ _ _ ⟨i + 1, _, _, _, _, rfl, rfl, hB'15, k16_b1'2, k28, o21'2, o27'1, by omega, keysErr_next hz hz0⟩ (by omega))
     refine xk 10 (show (((keyE l i) != (0 : Int)) : Bool) = true from bne_iff_ne.2 hz0) ?_
     have k16_b1'3 := (k16_b1.below hb18).below hb19
     refine xsv 4 k16_b1'3 [.int .i64 0, .bool false, .slice none 0 0, .slice none 0 0] fun W29 u29 k29 => ?_
     have g1 := n1.ge (Below.refl w.heap.size _)
     have hB'16 := u29.below (Bl.next (Bl.next hB_16 hb18) hb19) g1
     refine xec 10 k29 (.tuple #[.agg #[.int .i64 0, .bool false, .slice none 0 0, .slice none 0 0], .int .i64 (keyE l i)]) ?_
     have he : nodeE l = keyE l i := by unfold nodeE; rw [if_pos hs, if_pos hnz, keysErr_at hz hz0 (by omega)]
     exact .inl ⟨by rw [he]; exact hz0, by rw [he], hB'16⟩
   have k16_b1'4 := k16_b1.below hb18
   refine xsv 29 k16_b1'4 [.int .i64 0, .bool false, .slice none 0 0, .slice none 0 0] fun W30 u30 k30 => ?_
   have g1 := n1.ge (Below.refl w.heap.size _)
   have hB'17 := u30.below (Bl.next hB_16 hb18) g1
   refine xec 10 k30 (.tuple #[.agg #[.int .i64 0, .bool false, .slice none 0 0, .slice none 0 0], .int .i64 2]) ?_
   have hke : keyE l i = 2 := by unfold keyE; rw [if_pos (by unfold keyN; omega)]
   have he : nodeE l = 2 := by unfold nodeE; rw [if_pos hs, if_pos hnz, keysErr_at hz (by rw [hke]; decide) (by omega), hke]
   exact .inl ⟨by rw [he]; decide, by rw [he], hB'17⟩
 refine xlv 7 k16_b6.rp ?_
 refine xsv 0 k16_b1 [.int .i64 (nodT l), .bool (nodL l), .slice kp i kc, .slice vp i vc] fun W31 u31 k31 => ?_
 have g1 := n1.ge (Below.refl w.heap.size _)
 have hB'18 := u31.below hB_16 g1
 have hK'4 := u31.own2 hK k16_b1 (by decide)
 have hV'4 := u31.own2 hV k16_b1 (by decide)
 refine xec 4 k31 (.tuple #[.agg #[.int .i64 (nodT l), .bool (nodL l), .slice kp i kc, .slice vp i vc], .int .i64 0]) ?_
 obtain rfl : i = nodC l := by omega
 exact .inr ⟨by unfold nodeE; rw [if_pos hs, if_pos hnz, hz], _, _, _, _, rfl, hB'18, hK'4, hV'4⟩
end Go.Proofs.YthlakkdgcgkcdaaGreat
namespace Go.Proofs.YthlakkdgcgkcdaaGreat
open Go.RowKit Go.Extern.Stop Go.Stop Go.Extern
set_option linter.unusedVariables false
attribute [local irreducible] wpList wpAnyH Code.wp Oper.wp Go

section
variable {P : Program} {a : Act}
theorem run_shrU8 {o : Oper} {t t2 : TypeId} {x y : Operand} {n s : Nat} {j : Int} {kj : IntKind} (ho : o.op = .binOp .shr t x y t2) (hx : a.eval x = .int .u8 (n : Int)) (hy : a.eval y = .int kj j) (hj : j = (s : Int)) (hs : s ≤ 8) (w : World) : (execOp a.eval o).run P w = .ok (.value (.int .u8 ((n / 2 ^ s : Nat) : Int))) w := by
  subst hj
  have e := shift_shr_u8 kj (n : Int) (s : Int) (Int.natCast_nonneg s) (by omega)
  simp only [execOp, ho, hx, hy, eqGuard_shr, binOp_shr, e]
  simp
end
theorem Get_okN (a : Option Addr) (n c k w : Nat) (ki wi : Int) (l : List UInt8) (W : World) (hn : l.length = n) (hki : ki = (k : Int)) (hwi : wi = (w : Int)) (hw : w = 1 ∨ w = 2 ∨ w = 4) (hk : k + w ≤ n) (hl : n ≤ 100000000) (h : Bys W (.slice a n c) l) :
    Calls Tryz.prog 84 #[.slice a n c, .int .i64 ki, .int .i64 wi] W (Ret (.tuple #[.int .i64 (rawN l k w : Int), .int .i64 0]) W) := by
  subst hn hki hwi; exact Get_ok a c k w l W (by omega) hk hl h (by have := rawN_lt4 l k w (by omega); omega)
/-- the i-th count of a block of bits -/
def bitN (l : List UInt8) (i : Nat) : Nat := (l.getD (4 + i / 4) 0).toNat / 2 ^ (i % 4 * 2) % 4
theorem i64_and3 {n : Nat} (h : n < 9223372036854775808) : IntKind.i64.wrap (↑(BitVec.ofInt 64 (n : Int) &&& BitVec.ofInt 64 (3 : Int)).toNat : Int) = ((n % 4 : Nat) : Int) := by
  rw [show (3 : Int) = ((3 : Nat) : Int) from rfl, BitVec.ofInt_natCast, BitVec.ofInt_natCast, BitVec.toNat_and, BitVec.toNat_ofNat, BitVec.toNat_ofNat, Nat.mod_eq_of_lt (by omega), Nat.mod_eq_of_lt (by omega)]
  rw [show n &&& 3 = n % 4 from Nat.and_two_pow_sub_one_eq_mod n 2]
  exact i64_nat (by omega)
theorem quo_natB (n k : Nat) (hn : n < 9223372036854775808) (hk : 0 < k) : IntKind.i64.wrap (Int.tdiv (n : Int) (k : Int)) = ((n / k : Nat) : Int) := by
  rw [Int.tdiv_eq_ediv_of_nonneg (Int.natCast_nonneg _), ← Int.natCast_ediv]
  exact i64_nat (Nat.lt_of_le_of_lt (Nat.div_le_self _ _) hn)
theorem tmod_natB (n k : Nat) : Int.tmod (n : Int) (k : Int) = ((n % k : Nat) : Int) := by
  rw [Int.tmod_eq_emod_of_nonneg (Int.natCast_nonneg _), ← Int.natCast_emod]
theorem shr_lt (l : List UInt8) (k s : Nat) : (l.getD k 0).toNat / 2 ^ s < 256 := Nat.lt_of_le_of_lt (Nat.div_le_self _ _) (l.getD k 0).toNat_lt
def bitsL (l : List UInt8) (n : Nat) : List Nat := (List.range n).map (bitN l)
theorem bitsL_snoc (l : List UInt8) (n : Nat) : bitsL l (n + 1) = bitsL l n ++ [bitN l n] := by simp [bitsL, List.range_succ]
/-- whether bytes are a block of counts -/
def bitsOk (l : List UInt8) : Prop := l.length = 244 ∧ rawN l 0 4 ≤ 960 ∧ ∀ i, i < 960 → rawN l 0 4 ≤ i → bitN l i = 0
def BitsP (l : List UInt8) (w : World) (e : Ending) (w' : World) : Prop :=
  (¬ bitsOk l ∧ e = .returned (.tuple #[.slice none 0 0, .int .i64 7]) ∧ Below w.heap.size w w') ∨
  (bitsOk l ∧ ∃ p c, e = .returned (.tuple #[.slice p (rawN l 0 4) c, .int .i64 0]) ∧ Below w.heap.size w w' ∧ w'.ownsRow w.heap.size 3 1 (.slice p (rawN l 0 4) c) (rawN l 0 4) ((bitsL l (rawN l 0 4)).map nv))
set_option maxRecDepth 100000 in
set_option maxHeartbeats 2000000 in
theorem bits_Read (a : Option Addr) (c : Nat) (l : List UInt8) (w : World) (hl : l.length ≤ 100000000) (h : Bys w (.slice a l.length c) l) :
    Calls Tryz.prog 97 #[.slice a l.length c] w (BitsP l w) := by
 refine zin 47 Tryz.func97 ?_
 refine xin 14 (↑l.length : Int) (244 : Int) (fun hc1 => ?_) (fun hc1 => ?_)
 · exact xe 8 (.tuple #[.slice none 0 0, .int .i64 7]) (.inl ⟨fun h => by have := h.1; omega, rfl, (Below.refl w.heap.size _)⟩)
 refine xr 5 (args := #[.slice a l.length c, .int .i64 0, .int .i64 4]) (Get_okN a l.length c 0 4 0 4 l _ rfl rfl rfl (by decide) (by omega) hl (h.below (Below.refl w.heap.size _))) fun W2 hb2 => ?_
 refine xid 14 ((↑(rawN l 0 4) : Int) > (960 : Int)) (fun hc3 => ?_) (fun hc3 => ?_)
 · exact xe 8 (.tuple #[.slice none 0 0, .int .i64 7]) (.inl ⟨fun h => by have := h.2.1; omega, rfl, hb2⟩)
 refine zl 14 47 (fun zm zkv V => ∃ (i m : Nat) (p : Option Addr) (c2 : Nat), zkv = [(0, .slice a l.length c), (4, .int .i64 (↑(rawN l 0 4) : Int)), (6, .slice p m c2), (19, .int .i64 (↑i : Int))] ∧ zm = 960 - ((↑i : Int)).toNat ∧ Below w.heap.size w V ∧ V.ownsRow w.heap.size 3 1 (.slice p m c2) m ((bitsL l m).map nv) ∧ i ≤ 960 ∧ m = min i (rawN l 0 4) ∧ (∀ j, j < i → rawN l 0 4 ≤ j → bitN l j = 0)) ⟨0, 0, _, _, rfl, rfl, hb2, World.ownsRow_nil _ _ _ _, Nat.zero_le _, by omega, ?_⟩ ?_
 · exact fun j hj => absurd hj (by omega)
 rintro _ _ W4 ⟨i, m, p, c2, rfl, rfl, hB_4, ho, hi, hm, hz⟩ J4 hJ4 r4
 refine xid 6 ((↑i : Int) < (960 : Int)) (fun hc5 => ?_) (fun hc5 => ?_)
 · refine xq 14 (congrArg (Value.int .i64) (show (IntKind.i64.wrap (Int.tdiv (↑i : Int) 4) : Int) = (↑(i / 4) : Int) from quo_natB i 4 (by omega) (by decide))) ?_
   refine xwm 0 (4 + (↑(i / 4) : Int)) (↑(4 + (i / 4)) : Int) ?_
   refine xx 0 _ l.length (4 + (i / 4)) 1 (Bys.elem h (k := (4 + (i / 4))) (by omega)).1 ?_
   refine xl 0 ((Bys.elem (h.below hB_4) (k := (4 + (i / 4))) (by omega)).2) ?_
   refine xq 1 (congrArg (Value.int .i64) (show (Int.tmod (↑i : Int) 4 : Int) = (↑(i % 4) : Int) from tmod_natB i 4)) ?_
   refine xwm 0 ((↑(i % 4) : Int) * 2) (↑((i % 4) * 2) : Int) ?_
   refine xbo 0 (t := 5) (t2 := 3) (fun _ _ _ _ zo zx zy V hV => run_shrU8 (n := ((l.getD (4 + (i / 4)) 0).toNat)) (s := ((i % 4) * 2)) (kj := .i64) (j := (↑((i % 4) * 2) : Int)) zo zx zy rfl (by omega) V) ?_
   refine xq 0 (congrArg (Value.int .i64) (show (IntKind.i64.wrap (↑((l.getD (4 + (i / 4)) 0).toNat / 2 ^ ((i % 4) * 2)) : Int) : Int) = (↑((l.getD (4 + (i / 4)) 0).toNat / 2 ^ ((i % 4) * 2)) : Int) from i64_nat (by have := shr_lt l (4 + i / 4) (i % 4 * 2); omega))) ?_
   refine xq 0 (congrArg (Value.int .i64) (show (IntKind.i64.wrap (↑(BitVec.ofInt 64 (↑((l.getD (4 + (i / 4)) 0).toNat / 2 ^ ((i % 4) * 2)) : Int) &&& BitVec.ofInt 64 (3 : Int)).toNat : Int) : Int) = (↑(bitN l i) : Int) from i64_and3 (by have := shr_lt l (4 + i / 4) (i % 4 * 2); omega))) ?_
   refine xid 12 ((↑i : Int) < (↑(rawN l 0 4) : Int)) (fun hc6 => ?_) (fun hc6 => ?_)
   · refine xbs 3 1 [.int .i64 (↑(bitN l i) : Int)] 3 fun b7 W7 n7 => ?_
     have g7 := n7.ge hB_4
     have r7_ho := own_ne ho n7
     have ho'1 := own_below ho n7.below
     have hB'1 := Bl.next hB_4 n7.below
     refine xbi 0 fun _ _ _ _ zJ zQ zo zx zy zK => op_app (m := 1) (news := [.int .i64 (↑(bitN l i) : Int)]) (.int .i64 0) 1 8 (m + 1) ((bitsL l (m + 1)).map nv) zo Tryz.underlying22 (by kernel_rfl) rfl (by decide) zx ho'1 zy (n7.blk.sl 1 1 (by decide) (by decide)) rfl (by simp [Value.oneCell']) (by unfold maxLen; omega) (by omega) hB'1.size (by rfl) (by rw [bitsL_snoc, List.map_append, show m = i by omega]; rfl) fun px8 cx8 W8 o8 hg8 hb8 => ?_
     refine zK _ _ ?_
     refine xwm 6 ((↑i : Int) + 1) (↑(i + 1) : Int) ?_
     have hB'2 := hB'1.trans hb8
     exact ze 2 (hJ4 _ _ _ ⟨i + 1, m + 1, _, _, rfl, rfl, hB'2, o8, by omega, by omega, fun j hj hc => (Nat.lt_or_ge j i).elim (fun q => hz j q hc) (fun q => by obtain rfl : j = i := (by omega); omega)⟩ (by omega))
   refine xin 7 (↑(bitN l i) : Int) (0 : Int) (fun hc9 => ?_) (fun hc9 => ?_)
   · exact xe 13 (.tuple #[.slice none 0 0, .int .i64 7]) (.inl ⟨fun h => by have := h.2.2 i (by omega) (by omega); omega, rfl, hB_4⟩)
   refine xwm 5 ((↑i : Int) + 1) (↑(i + 1) : Int) ?_
   exact ze 2 (hJ4 _ _ _ ⟨i + 1, m, _, _, rfl, rfl, hB_4, ho, by omega, by omega, fun j hj hc => (Nat.lt_or_ge j i).elim (fun q => hz j q hc) (fun q => by obtain rfl : j = i := (by omega); omega)⟩ (by omega))
 refine xe 13 (.tuple #[.slice p m c2, .int .i64 0]) ?_
 obtain rfl : m = rawN l 0 4 := by omega
 exact .inr ⟨⟨by omega, by omega, fun j hj hc => hz j (by omega) hc⟩, _, _, rfl, hB_4, ho⟩
end Go.Proofs.YthlakkdgcgkcdaaGreat
namespace Go.Proofs.YthlakkdgcgkcdaaGreat
open Go.RowKit
theorem Blk.ty {w : World} {b : Nat} {cs cs' : List Value} {t t' : TypeId} (k : Blk w b cs t) (q : Blk w b cs' t') : t = t' := by
  have h1 : w.heap[b]? = some (.cells cs.toArray t (0, 0)) := k
  have h2 : w.heap[b]? = some (.cells cs'.toArray t' (0, 0)) := q
  rw [h1] at h2
  simp only [Option.some.injEq, Obj.cells.injEq] at h2
  exact h2.2.1
theorem ErrV.upd {w W : World} {b : Nat} {cs : List Value} {t : TypeId} {l : List (Option Int)} {c : Option Int} {v : Value} (h : ErrV w l c v) (u : Upd w b W) (k : Blk w b cs t) (hne : t ≠ 105) : ErrV W l c v :=
  h.kept fun _ _ q => u.blk q (by rintro rfl; exact hne (k.ty q))
theorem ErrV.grown {w W : World} {e : TypeId} {base size n : Nat} {s : Value} {xs : List Value} {l : List (Option Int)} {c : Option Int} {v : Value} (h : ErrV w l c v) (hg : w.grownBy W s.ownBlock) (hown : w.ownsRow base e size s n xs) (hne : e ≠ 105) : ErrV W l c v :=
  h.kept fun _ _ q => q.grown hg hown hne
theorem ErrV.only {T : List TypeId} {w W : World} {l : List (Option Int)} {c : Option Int} {v : Value} (h : ErrV w l c v) (k : Only T w W) (hne : T.contains 105 = false) : ErrV W l c v := h.kept fun _ _ q => q.only k hne
end Go.Proofs.YthlakkdgcgkcdaaGreat
namespace Go.Proofs.YthlakkdgcgkcdaaGreat
open Go.RowKit Go.Extern.Stop Go.Stop Go.Extern
set_option linter.unusedVariables false
attribute [local irreducible] wpList wpAnyH Code.wp Oper.wp Go

/-- an image at block b, its bytes l in a row of its own -/
structure ImgR (B b : Nat) (p : Option Addr) (n c : Nat) (l : List UInt8) (w : World) : Prop where
  blk : Blk w b [.slice p n c] 91
  row : w.ownsRow B 5 1 (.slice p n c) n (l.map bv)
  hn : n ≤ 3686400
theorem ImgR.below {B b : Nat} {p : Option Addr} {n c : Nat} {l : List UInt8} {w W : World} (h : ImgR B b p n c l w) (hb : Below w.heap.size w W) : ImgR B b p n c l W := ⟨h.blk.below hb, own_below h.row hb, h.hn⟩
theorem ImgR.only {B b : Nat} {p : Option Addr} {n c : Nat} {l : List UInt8} {w W : World} {T : List TypeId} (h : ImgR B b p n c l w) (hO : Only T w W) (hT : T.contains 91 = false ∧ T.contains 5 = false) : ImgR B b p n c l W := ⟨h.blk.only hO hT.1, own_only h.row hO hT.2, h.hn⟩
theorem ImgR.len {B b : Nat} {p : Option Addr} {n c : Nat} {l : List UInt8} {w : World} (h : ImgR B b p n c l w) : l.length = n := by have := h.row.1; simpa using this
theorem ImgR.base {B b : Nat} {p : Option Addr} {n c : Nat} {l : List UInt8} {w : World} (h : ImgR B b p n c l w) (hn : 0 < n) : ∃ g, p = some ⟨g, 0, none⟩ ∧ n ≤ c := by
  rcases h.row.2 with ⟨_, h0⟩ | ⟨g, cap, cur, hv, _, _, hc, _⟩
  · omega
  · simp only [Value.slice.injEq] at hv
    obtain ⟨rfl, _, rfl⟩ := hv
    exact ⟨g, rfl, hc⟩
/-- the bytes of a block -/
def blkB (l : List UInt8) (j : Nat) : List UInt8 := (l.drop (j * 256)).take 256
theorem blkB_len {l : List UInt8} {j : Nat} (h : j < l.length / 256) : (blkB l j).length = 256 := by simp [blkB]; omega
theorem Bys.mid {w : World} {g off n c : Nat} {l : List UInt8} (h : Bys w (.slice (some ⟨g, off, none⟩) n c) l) (hl : l.length = n) (k m : Nat) (hm : 0 < m) (hk : k + m ≤ n) : Bys w (.slice (some ⟨g, off + k, none⟩) m m) ((l.drop k).take m) := by
  have hlen : ((l.drop k).take m).length = m := by simp; omega
  rcases h with ⟨a', c', h1, h2, h3⟩ | ⟨g', off', cap, h1, h2, h3, h4⟩
  · omega
  · simp only [Value.slice.injEq, Option.some.injEq, Addr.mk.injEq] at h1
    obtain ⟨⟨rfl, rfl, _⟩, _, rfl⟩ := h1
    refine .inr ⟨g, off + k, m, by rw [hlen], by omega, by omega, fun j x hj => ?_⟩
    rw [List.getElem?_map, List.getElem?_take] at hj
    split at hj
    · rw [List.getElem?_drop] at hj
      have := h4 (k + j) x (by rw [List.getElem?_map]; exact hj)
      rwa [← Nat.add_assoc] at this
    · cases hj
theorem ImgR.part {B b g : Nat} {n c : Nat} {l : List UInt8} {w : World} (h : ImgR B b (some ⟨g, 0, none⟩) n c l w) {j : Nat} (hj : j < n / 256) : Bys w (.slice (some ⟨g, j * 256, none⟩) 256 256) (blkB l j) := by
  have := Bys.mid (bys_of (own_sl h.row) h.len) h.len (j * 256) 256 (by decide) (by omega)
  rwa [Nat.zero_add] at this
/-- what Read hands back -/
def ReadP (n : Nat) (l : List UInt8) (k : Int) (w : World) (e : Ending) (w' : World) : Prop :=
  (¬ (0 ≤ k ∧ k < (n / 256 : Nat)) ∧ ∃ v, e = .returned (.tuple #[v, .int .i64 3]) ∧ Below w.heap.size w w') ∨
  (∃ j : Nat, k = (j : Int) ∧ j < n / 256 ∧ ∃ p c, e = .returned (.tuple #[.slice p 256 c, .int .i64 0]) ∧ Below w.heap.size w w' ∧ w'.ownsRow w.heap.size 5 1 (.slice p 256 c) 256 ((blkB l j).map bv))
set_option maxRecDepth 100000 in
set_option maxHeartbeats 1000000 in
theorem image_block_out (b : Nat) (p : Option Addr) (n c : Nat) (k : Int) (w : World) (hk : Blk w b [.slice p n c] 91) (hn : n ≤ 100000000) (ho : ¬ (0 ≤ k ∧ k < (n / 256 : Nat))) :
    Calls Tryz.prog 101 #[.pointer (some ⟨b, 0, none⟩), .int .i64 k] w (Ret (.tuple #[.slice none 0 0, .int .i64 3]) w) := by
 refine zin 33 Tryz.func101 ?_
 refine xg 21 [13, 14] (decide (k < (0 : Int))) (fun hc1 => ?_) (fun hc1 => ?_)
 · have hc1 := of_decide_eq_true hc1
   exact xe 18 (.tuple #[.slice none 0 0, .int .i64 3]) ⟨rfl, (Below.refl w.heap.size _)⟩
 have hc1 := of_decide_eq_false hc1
 refine xr 2 (args := #[.pointer (some ⟨b, 0, none⟩)]) (image_Blocks b _ n c _ (hk.below (Below.refl w.heap.size _)) hn) fun W2 hb2 => ?_
 refine xk 5 (show (decide (k ≥ (↑(n / 256) : Int)) : Bool) = true from decide_eq_true (by omega)) ?_
 exact xe 9 (.tuple #[.slice none 0 0, .int .i64 3]) ⟨rfl, hb2⟩
set_option maxRecDepth 100000 in
set_option maxHeartbeats 1000000 in
theorem image_Read_out (B b : Nat) (p : Option Addr) (n c : Nat) (l : List UInt8) (k : Int) (w : World) (hI : ImgR B b p n c l w) (ho : ¬ (0 ≤ k ∧ k < (n / 256 : Nat))) :
    Calls Tryz.prog 82 #[.pointer (some ⟨b, 0, none⟩), .int .i64 k] w (RetS (fun _ r => ∃ v, r = .tuple #[v, .int .i64 3]) w) := by
 refine zin 17 Tryz.func82 ?_
 refine xr 10 (args := #[.pointer (some ⟨b, 0, none⟩), .int .i64 k]) (image_block_out b p n c k _ (hI.below (Below.refl w.heap.size _)).blk (by have := hI.hn; omega) ho) fun W1 hb1 => ?_
 refine xc 10 (args := #[.slice none 0 0]) (clone_nil 0 _) ?_
 rintro _ W2 ⟨v2, rfl, hb2, _⟩
 have hB := Bl.next hb1 hb2
 exact xe 6 (.tuple #[v2, .int .i64 3]) ⟨_, rfl, hB, _, rfl⟩
set_option maxRecDepth 100000 in
set_option maxHeartbeats 1000000 in
theorem image_Read_in (B b g : Nat) (n c : Nat) (l : List UInt8) (j : Nat) (w : World) (hI : ImgR B b (some ⟨g, 0, none⟩) n c l w) (hj : j < n / 256) (hc : n ≤ c) :
    Calls Tryz.prog 82 #[.pointer (some ⟨b, 0, none⟩), .int .i64 (↑j : Int)] w (RetS (fun w' r => ∃ p2 c3, r = .tuple #[.slice p2 256 c3, .int .i64 0] ∧ w'.ownsRow w.heap.size 5 1 (.slice p2 256 c3) 256 ((blkB l j).map bv)) w) := by
 have hlj := blkB_len (l := l) (j := j) (by rw [hI.len]; exact hj)
 refine zin 17 Tryz.func82 ?_
 refine xr 10 (args := #[.pointer (some ⟨b, 0, none⟩), .int .i64 (↑j : Int)]) (image_block b g n c j _ (hI.below (Below.refl w.heap.size _)).blk (by have := hI.hn; omega) hc hj) fun W1 hb1 => ?_
 refine xc 10 (args := #[.slice (some ⟨g, (j * 256), none⟩) 256 256]) (clone_bytesN (some ⟨g, (j * 256), none⟩) 256 256 (blkB l j) _ hlj ((hI.below hb1).part hj) (by decide)) ?_
 rintro _ W2 ⟨_, rfl, hb2, ho⟩
 have ho'1 := own_mono ho hb1.size
 unfold OwnB at ho'1
 rw [hlj] at ho'1
 obtain ⟨p2, c3, rfl⟩ := (own_sl ho'1).slice
 have hB'1 := Bl.next hb1 hb2
 exact xe 6 (.tuple #[.slice p2 256 c3, .int .i64 0]) ⟨_, rfl, hB'1, _, _, rfl, ho'1⟩
theorem image_Read (B b : Nat) (p : Option Addr) (n c : Nat) (l : List UInt8) (k : Int) (w : World) (hI : ImgR B b p n c l w) :
    Calls Tryz.prog 82 #[.pointer (some ⟨b, 0, none⟩), .int .i64 k] w (ReadP n l k w) := by
  by_cases h : 0 ≤ k ∧ k < (n / 256 : Nat)
  · obtain ⟨g, rfl, hc⟩ := hI.base (by omega)
    obtain ⟨j, rfl⟩ : ∃ j : Nat, k = j := ⟨k.toNat, by omega⟩
    refine (image_Read_in B b g n c l j w hI (by omega) hc).mono ?_
    rintro e W ⟨_, rfl, hb, p2, c3, rfl, ho⟩
    exact .inr ⟨j, rfl, by omega, _, _, rfl, hb, ho⟩
  · refine (image_Read_out B b p n c l k w hI h).mono ?_
    rintro e W ⟨_, rfl, hb, v, rfl⟩
    exact .inl ⟨h, _, rfl, hb⟩
/-- what a block of a kind has within: the error's number -/
def inE (l : List UInt8) (kind no : Int) : Int := if 0 ≤ no ∧ no < (l.length / 256 : Nat) then openE kind no (blkB l no.toNat) else 3
/-- and the bytes -/
def inB (l : List UInt8) (no : Int) : List UInt8 := ((blkB l no.toNat).drop 8).take 244
theorem inE_out {l : List UInt8} {kind no : Int} {n : Nat} (hl : l.length = n) (h : ¬ (0 ≤ no ∧ no < (n / 256 : Nat))) : inE l kind no = 3 := by subst hl; exact if_neg h
theorem inE_in {l : List UInt8} {kind no : Int} {n j : Nat} (hl : l.length = n) (hk : no = (j : Int)) (h : j < n / 256) : inE l kind no = openE kind no (blkB l j) := by
  subst hl hk; rw [inE, if_pos ⟨by omega, by omega⟩]; rfl
theorem inB_in {l : List UInt8} {no : Int} {j : Nat} (hk : no = (j : Int)) : inB l no = ((blkB l j).drop 8).take 244 := by subst hk; rfl
theorem inB_len {l : List UInt8} {no : Int} {n j : Nat} (hl : l.length = n) (hk : no = (j : Int)) (h : j < n / 256) : (inB l no).length = 244 := by
  subst hl hk; have := blkB_len h; simp [inB, this]
end Go.Proofs.YthlakkdgcgkcdaaGreat
namespace Go.Proofs.YthlakkdgcgkcdaaGreat
open Go.RowKit Go.Extern.Stop Go.Stop Go.Extern
set_option linter.unusedVariables false
attribute [local irreducible] wpList wpAnyH Code.wp Oper.wp Go

theorem seal_OpenN (kind no : Int) (a : Option Addr) (n c : Nat) (l : List UInt8) (w : World) (hn : l.length = n) (h : Bys w (.slice a n c) l) : Calls Tryz.prog 83 #[.slice a n c, .int .i64 kind, .int .i64 no] w (OpenP kind no l w) := by
  subst hn; exact seal_Open kind no a c l w h
/-- a node, asked as a tree's: the error's number -/
def nodeTE (l : List UInt8) (tree : Int) : Int := if nodeE l = 0 then (if tree = 0 ∨ nodT l = tree then 0 else 6) else nodeE l
/-- what package block has for a node -/
def nodeErr (l : List UInt8) (no tree : Int) : Int := if inE l 2 no = 0 then nodeTE (inB l no) tree else inE l 2 no
def Node1P (l : List UInt8) (tree : Int) (w : World) (e : Ending) (w' : World) : Prop :=
  (nodeTE l tree ≠ 0 ∧ ∃ a b kp n1 kc vp n2 vc, e = .returned (.tuple #[.agg #[.int .i64 a, .bool b, .slice kp n1 kc, .slice vp n2 vc], .int .i64 (nodeTE l tree)]) ∧ Below w.heap.size w w') ∨
  (nodeTE l tree = 0 ∧ ∃ kp kc vp vc, e = .returned (.tuple #[.agg #[.int .i64 (nodT l), .bool (nodL l), .slice kp (nodC l) kc, .slice vp (nodC l) vc], .int .i64 0]) ∧ Below w.heap.size w w' ∧
    w'.ownsRow w.heap.size 3 1 (.slice kp (nodC l) kc) (nodC l) ((keysI l (nodC l)).map (Value.int .i64)) ∧ w'.ownsRow w.heap.size 9 1 (.slice vp (nodC l) vc) (nodC l) ((valsL l (nodC l)).map sv))
def BlkNodeP (l : List UInt8) (no tree : Int) (w : World) (e : Ending) (w' : World) : Prop :=
  (nodeErr l no tree ≠ 0 ∧ ∃ b, e = .returned (.tuple #[.agg #[.int .i64 0, .bool false, .slice none 0 0, .slice none 0 0], .iface 103 (.pointer (some ⟨b, 0, none⟩))]) ∧ Below w.heap.size w w' ∧ ErrV w' [some no] (some (nodeErr l no tree)) (.iface 103 (.pointer (some ⟨b, 0, none⟩)))) ∨
  (nodeErr l no tree = 0 ∧ ∃ kp kc vp vc, e = .returned (.tuple #[.agg #[.int .i64 (nodT (inB l no)), .bool (nodL (inB l no)), .slice kp (nodC (inB l no)) kc, .slice vp (nodC (inB l no)) vc], .nilIface]) ∧ Below w.heap.size w w' ∧
    w'.ownsRow w.heap.size 3 1 (.slice kp (nodC (inB l no)) kc) (nodC (inB l no)) ((keysI (inB l no) (nodC (inB l no))).map (Value.int .i64)) ∧ w'.ownsRow w.heap.size 9 1 (.slice vp (nodC (inB l no)) vc) (nodC (inB l no)) ((valsL (inB l no) (nodC (inB l no))).map sv))
set_option maxRecDepth 100000 in
set_option maxHeartbeats 1000000 in
theorem node_1 (tree : Int) (bt : Nat) (a : Option Addr) (c : Nat) (l : List UInt8) (w : World) (kt : Blk w bt [.int .i64 tree] 3) (hl : l.length = 244) (h : Bys w (.slice a 244 c) l) :
    Calls Tryz.prog 128 #[.slice a 244 c, .pointer (some ⟨bt, 0, none⟩)] w (Node1P l tree w) := by
 refine zin 27 Tryz.func128 ?_
 refine xa 2 [.int .i64 0, .bool false, .slice none 0 0, .slice none 0 0] 125 fun b1 W1 n1 => ?_
 refine xc 6 (args := #[.slice a 244 c]) (node_Read a c l _ hl (h.below n1.below)) ?_
 rintro e W2 hq2
 rcases hq2 with ⟨hz, rfl, hb2⟩ | ⟨hz, kp, kc, vp, vc, rfl, hb2, hk, hv_⟩
 · refine xa 3 [.int .i64 0, .bool false, .slice none 0 0, .slice none 0 0] 125 fun b3 W3 n3 => ?_
   have k1 := n1.blk.below hb2
   have d3_b1 := n3.ne k1
   have hB'1 := Bl.next n1.below hb2
   have g3 := n3.ge hB'1
   refine xsv 0 n3.blk [.int .i64 0, .bool false, .slice none 0 0, .slice none 0 0] fun W4 u4 k4 => ?_
   refine xgk 9 [13, 14] (show (((nodeE l) == (0 : Int)) : Bool) = false from beq_false_of_ne hz) ?_
   refine xlv 16 k4.rp ?_
   have k1'1 := u4.blk (k1.below n3.below) (Ne.symm (Ne.symm d3_b1))
   refine xsv 1 k1'1 [.int .i64 0, .bool false, .slice none 0 0, .slice none 0 0] fun W6 u6 k6 => ?_
   have g1 := n1.ge (Below.refl w.heap.size _)
   have hB'2 := u6.below (u4.below (Bl.next hB'1 n3.below) g3) g1
   exact xec 4 k6 (.tuple #[.agg #[.int .i64 0, .bool false, .slice none 0 0, .slice none 0 0], .int .i64 (nodeE l)]) (.inl ⟨by unfold nodeTE; rw [if_neg hz]; exact hz, _, _, _, _, _, _, _, _, by unfold nodeTE; rw [if_neg hz], hB'2⟩)
 refine xa 3 [.int .i64 0, .bool false, .slice none 0 0, .slice none 0 0] 125 fun b7 W7 n7 => ?_
 have k1 := n1.blk.below hb2
 have d7_b1 := n7.ne k1
 have hB'3 := Bl.next n1.below hb2
 have g7 := n7.ge hB'3
 refine xsv 0 n7.blk [.int .i64 (nodT l), .bool (nodL l), .slice kp (nodC l) kc, .slice vp (nodC l) vc] fun W8 u8 k8 => ?_
 have kt'1 := u8.blkT (((kt.below n1.below).below hb2).below n7.below) n7.blk (by decide)
 refine xb 9 0 kt'1 ?_
 refine xg 3 [16, 17, 18] (tree != (0 : Int)) (fun hc9 => ?_) (fun hc9 => ?_)
 · have hc9 := ne_of_bne hc9
   refine xb 1 0 k8 ?_
   refine xb 0 0 kt'1 ?_
   refine xin 4 (nodT l) tree (fun hc10 => ?_) (fun hc10 => ?_)
   · refine xlv 2 k8.rp ?_
     have k1'2 := u8.blk (k1.below n7.below) (Ne.symm (Ne.symm d7_b1))
     refine xsv 0 k1'2 [.int .i64 (nodT l), .bool (nodL l), .slice kp (nodC l) kc, .slice vp (nodC l) vc] fun W11 u11 k11 => ?_
     have g1 := n1.ge (Below.refl w.heap.size _)
     have hB'4 := u11.below (u8.below (Bl.next hB'3 n7.below) g7) g1
     exact xec 5 k11 (.tuple #[.agg #[.int .i64 (nodT l), .bool (nodL l), .slice kp (nodC l) kc, .slice vp (nodC l) vc], .int .i64 6]) (.inl ⟨by unfold nodeTE; rw [if_pos hz, if_neg (by omega)]; decide, _, _, _, _, _, _, _, _, by unfold nodeTE; rw [if_pos hz, if_neg (by omega)], hB'4⟩)
   refine xlv 4 k8.rp ?_
   have k1'3 := u8.blk (k1.below n7.below) (Ne.symm (Ne.symm d7_b1))
   refine xsv 1 k1'3 [.int .i64 (nodT l), .bool (nodL l), .slice kp (nodC l) kc, .slice vp (nodC l) vc] fun W12 u12 k12 => ?_
   have g1 := n1.ge (Below.refl w.heap.size _)
   have hB'5 := u12.below (u8.below (Bl.next hB'3 n7.below) g7) g1
   have hk'1 := u12.own2 (u8.own2 (own_below (own_mono hk n1.below.size) n7.below) n7.blk (by decide)) k1'3 (by decide)
   have hv_'1 := u12.own2 (u8.own2 (own_below (own_mono hv_ n1.below.size) n7.below) n7.blk (by decide)) k1'3 (by decide)
   exact xec 4 k12 (.tuple #[.agg #[.int .i64 (nodT l), .bool (nodL l), .slice kp (nodC l) kc, .slice vp (nodC l) vc], .int .i64 0]) (.inr ⟨by unfold nodeTE; rw [if_pos hz, if_pos (by omega)], _, _, _, _, rfl, hB'5, hk'1, hv_'1⟩)
 have hc9 := eq_of_bne_false hc9
 refine xlv 12 k8.rp ?_
 have k1'4 := u8.blk (k1.below n7.below) (Ne.symm (Ne.symm d7_b1))
 refine xsv 1 k1'4 [.int .i64 (nodT l), .bool (nodL l), .slice kp (nodC l) kc, .slice vp (nodC l) vc] fun W13 u13 k13 => ?_
 have g1 := n1.ge (Below.refl w.heap.size _)
 have hB'6 := u13.below (u8.below (Bl.next hB'3 n7.below) g7) g1
 have hk'2 := u13.own2 (u8.own2 (own_below (own_mono hk n1.below.size) n7.below) n7.blk (by decide)) k1'4 (by decide)
 have hv_'2 := u13.own2 (u8.own2 (own_below (own_mono hv_ n1.below.size) n7.below) n7.blk (by decide)) k1'4 (by decide)
 exact xec 4 k13 (.tuple #[.agg #[.int .i64 (nodT l), .bool (nodL l), .slice kp (nodC l) kc, .slice vp (nodC l) vc], .int .i64 0]) (.inr ⟨by unfold nodeTE; rw [if_pos hz, if_pos (by omega)], _, _, _, _, rfl, hB'6, hk'2, hv_'2⟩)
set_option maxRecDepth 100000 in
set_option maxHeartbeats 1000000 in
theorem readNode (B b : Nat) (p : Option Addr) (n c : Nat) (l : List UInt8) (no tree : Int) (w : World) (hI : ImgR B b p n c l w) (bt : Nat) (kt : Blk w bt [.int .i64 tree] 3) :
    Calls Tryz.prog 127 #[.pointer (some ⟨b, 0, none⟩), .int .i64 no, .int .i64 2, .func (.func 128) #[] #[.pointer (some ⟨bt, 0, none⟩)]] w (BlkNodeP l no tree w) := by
 refine zin 56 Tryz.func127 ?_
 refine xa 2 [.int .i64 0, .bool false, .slice none 0 0, .slice none 0 0] 125 fun b1 W1 n1 => ?_
 refine xa 5 [.int .i64 0, .bool false, .slice none 0 0, .slice none 0 0] 125 fun b2 W2 n2 => ?_
 have d2_b1 := n2.ne n1.blk
 have hB := Bl.next n1.below n2.below
 refine xc 6 (args := #[.pointer (some ⟨b, 0, none⟩), .int .i64 no]) (image_Read B b p n c l no _ (hI.below hB)) ?_
 rintro e W3 hq3
 rcases hq3 with ⟨ho, vr, rfl, hb3⟩ | ⟨j, hk, hj, p2, c2, rfl, hb3, ho⟩
 · refine xd 16 (.t w.heap.size [125]) ?_
   refine xm2 (.b [1, 2, 3]) 0 4 ?_ ?_
   · have k2 := (n2.blk.below hb3).below (below_drew W3)
     refine xlv 0 k2.rp ?_
     refine yc (.o [] 4) (args := #[.int .i64 no, .iface 26 (.int .i64 3)]) (.t w.heap.size [125]) (block_told no 3 _) ?_
     rintro _ W4 ⟨_, rfl, hb4, hv4⟩
     refine ⟨(SF.of_below _ hb4), ?_⟩
     rw [if_neg (by decide), if_neg (by decide)] at hv4
     have hq4 := hv4
     obtain ⟨bf4, vf4, rfl, _, _⟩ := hq4
     have k1'1 := (((n1.blk.below n2.below).below hb3).below (below_drew W3)).below hb4
     have g1 := n1.ge (Below.refl w.heap.size _)
     refine ysv (.o [] 5) k1'1 [.int .i64 0, .bool false, .slice none 0 0, .slice none 0 0] (.t w.heap.size [125]) fun W5 u5 k5 => ⟨(sft_upd u5 k1'1 g1 (by decide)), ?_⟩
     have hB'1 := u5.below (Bl.next (Bl.next (Bl.next hB hb3) (below_drew W3)) hb4) g1
     have hv4'1 := hv4.upd u5 k1'1 (by decide)
     refine xec (.r [6] 4) k5 (.tuple #[.agg #[.int .i64 0, .bool false, .slice none 0 0, .slice none 0 0], .iface 103 (.pointer (some ⟨bf4, 0, none⟩))]) ?_
     have he : nodeErr l no tree = 3 := by unfold nodeErr; rw [inE_out hI.len ho]; rfl
     exact .inl ⟨by rw [he]; decide, _, rfl, hB'1, by rw [he]; exact hv4'1⟩
   refine yc 0 (args := #[.int .i64 no, .iface 26 (.int .i64 3)]) (.t w.heap.size [125]) (block_told no 3 _) ?_
   rintro _ W6 ⟨_, rfl, hb6, hv6⟩
   refine ⟨(SF.of_below _ hb6), ?_⟩
   rw [if_neg (by decide), if_neg (by decide)] at hv6
   have hq6 := hv6
   obtain ⟨bf6, vf6, rfl, _, _⟩ := hq6
   have k2 := ((n2.blk.below hb3).below (below_drew W3)).below hb6
   refine xlv (.o [] 0) k2.rp ?_
   have k1'2 := (((n1.blk.below n2.below).below hb3).below (below_drew W3)).below hb6
   have g1 := n1.ge (Below.refl w.heap.size _)
   refine ysv (.o [] 5) k1'2 [.int .i64 0, .bool false, .slice none 0 0, .slice none 0 0] (.t w.heap.size [125]) fun W7 u7 k7 => ⟨(sft_upd u7 k1'2 g1 (by decide)), ?_⟩
   have hB'2 := u7.below (Bl.next (Bl.next (Bl.next hB hb3) (below_drew W3)) hb6) g1
   have hv6'1 := hv6.upd u7 k1'2 (by decide)
   refine xec (.r [6] 4) k7 (.tuple #[.agg #[.int .i64 0, .bool false, .slice none 0 0, .slice none 0 0], .iface 103 (.pointer (some ⟨bf6, 0, none⟩))]) ?_
   have he : nodeErr l no tree = 3 := by unfold nodeErr; rw [inE_out hI.len ho]; rfl
   exact .inl ⟨by rw [he]; decide, _, rfl, hB'2, by rw [he]; exact hv6'1⟩
 have hs3 := (Bl.next n1.below n2.below).size
 have hj2 : j < l.length / 256 := by rw [hI.len]; exact hj
 have hlj := blkB_len hj2
 have he2 := inE_in (l := l) (kind := 2) hI.len hk hj
 have ho'1 := own_mono ho hs3
 refine xc 22 (args := #[.slice p2 256 c2, .int .i64 2, .int .i64 no]) (seal_OpenN 2 no p2 256 c2 (blkB l j) _ hlj (bys_of (own_sl ho'1) hlj)) ?_
 rintro e W8 hq8
 rcases hq8 with ⟨hs, rfl, hb8⟩ | ⟨hs, p3, c3, rfl, hb8, h3⟩
 · refine xk 14 (show (((openE 2 no (blkB l j)) != (0 : Int)) : Bool) = true from bne_iff_ne.2 hs) ?_
   refine xd 1 (.t w.heap.size [125]) ?_
   refine xm2 (.b [1, 2, 3]) 0 4 ?_ ?_
   · have k2 := ((n2.blk.below hb3).below hb8).below (below_drew W8)
     refine xlv 0 k2.rp ?_
     refine yc (.o [] 4) (args := #[.int .i64 no, .iface 26 (.int .i64 (openE 2 no (blkB l j)))]) (.t w.heap.size [125]) (block_told no (openE 2 no (blkB l j)) _) ?_
     rintro _ W9 ⟨_, rfl, hb9, hv9⟩
     refine ⟨(SF.of_below _ hb9), ?_⟩
     rw [if_neg hs, if_neg hs] at hv9
     have hq9 := hv9
     obtain ⟨bf9, vf9, rfl, _, _⟩ := hq9
     have k1'3 := ((((n1.blk.below n2.below).below hb3).below hb8).below (below_drew W8)).below hb9
     have g1 := n1.ge (Below.refl w.heap.size _)
     refine ysv (.o [] 5) k1'3 [.int .i64 0, .bool false, .slice none 0 0, .slice none 0 0] (.t w.heap.size [125]) fun W10 u10 k10 => ⟨(sft_upd u10 k1'3 g1 (by decide)), ?_⟩
     have hB'3 := u10.below (Bl.next (Bl.next (Bl.next (Bl.next hB hb3) hb8) (below_drew W8)) hb9) g1
     have hv9'1 := hv9.upd u10 k1'3 (by decide)
     refine xec (.r [6] 4) k10 (.tuple #[.agg #[.int .i64 0, .bool false, .slice none 0 0, .slice none 0 0], .iface 103 (.pointer (some ⟨bf9, 0, none⟩))]) ?_
     have he : nodeErr l no tree = openE 2 no (blkB l j) := by unfold nodeErr; rw [he2, if_neg hs]
     exact .inl ⟨by rw [he]; exact hs, _, rfl, hB'3, by rw [he]; exact hv9'1⟩
   refine yc 0 (args := #[.int .i64 no, .iface 26 (.int .i64 (openE 2 no (blkB l j)))]) (.t w.heap.size [125]) (block_told no (openE 2 no (blkB l j)) _) ?_
   rintro _ W11 ⟨_, rfl, hb11, hv11⟩
   refine ⟨(SF.of_below _ hb11), ?_⟩
   rw [if_neg hs, if_neg hs] at hv11
   have hq11 := hv11
   obtain ⟨bf11, vf11, rfl, _, _⟩ := hq11
   have k2 := (((n2.blk.below hb3).below hb8).below (below_drew W8)).below hb11
   refine xlv (.o [] 0) k2.rp ?_
   have k1'4 := ((((n1.blk.below n2.below).below hb3).below hb8).below (below_drew W8)).below hb11
   have g1 := n1.ge (Below.refl w.heap.size _)
   refine ysv (.o [] 5) k1'4 [.int .i64 0, .bool false, .slice none 0 0, .slice none 0 0] (.t w.heap.size [125]) fun W12 u12 k12 => ⟨(sft_upd u12 k1'4 g1 (by decide)), ?_⟩
   have hB'4 := u12.below (Bl.next (Bl.next (Bl.next (Bl.next hB hb3) hb8) (below_drew W8)) hb11) g1
   have hv11'1 := hv11.upd u12 k1'4 (by decide)
   refine xec (.r [6] 4) k12 (.tuple #[.agg #[.int .i64 0, .bool false, .slice none 0 0, .slice none 0 0], .iface 103 (.pointer (some ⟨bf11, 0, none⟩))]) ?_
   have he : nodeErr l no tree = openE 2 no (blkB l j) := by unfold nodeErr; rw [he2, if_neg hs]
   exact .inl ⟨by rw [he]; exact hs, _, rfl, hB'4, by rw [he]; exact hv11'1⟩
 have hs8 := (Bl.next hB hb3).size
 have h3'1 := own_mono h3 hs8
 have hin : ((blkB l j).drop 8).take 244 = inB l no := (inB_in hk).symm
 have hil := inB_len hI.len hk hj
 rw [hin] at h3'1
 have hB'5 := Bl.next (Bl.next hB hb3) hb8
 refine xc 21 (args := #[.slice p3 244 c3, .pointer (some ⟨bt, 0, none⟩)]) (node_1 tree bt p3 c3 (inB l no) _ (kt.below hB'5) hil (bys_of (own_sl h3'1) hil)) ?_
 rintro e W13 hq13
 rcases hq13 with ⟨hz, a5, b5, kp, m1, kc, vp, m2, vc, rfl, hb13⟩ | ⟨hz, kp, kc, vp, vc, rfl, hb13, hk, hv_⟩
 · refine xa 3 [.int .i64 0, .bool false, .slice none 0 0, .slice none 0 0] 125 fun b14 W14 n14 => ?_
   have k1'5 := (((n1.blk.below n2.below).below hb3).below hb8).below hb13
   have d14_b1 := n14.ne k1'5
   have k2 := ((n2.blk.below hb3).below hb8).below hb13
   have d14_b2 := n14.ne k2
   have hB'6 := Bl.next hB'5 hb13
   have g14 := n14.ge hB'6
   refine xsv 0 n14.blk [.int .i64 a5, .bool b5, .slice kp m1 kc, .slice vp m2 vc] fun W15 u15 k15 => ?_
   refine xk 10 (show (((nodeTE (inB l no) tree) != (0 : Int)) : Bool) = true from bne_iff_ne.2 hz) ?_
   refine xd 1 (.t w.heap.size [125]) ?_
   refine xm2 (.b [1, 2, 3]) 0 4 ?_ ?_
   · have k2'1 := (u15.blk (k2.below n14.below) (Ne.symm (Ne.symm d14_b2))).below (below_drew W15)
     refine xlv 0 k2'1.rp ?_
     refine yc (.o [] 4) (args := #[.int .i64 no, .iface 26 (.int .i64 (nodeTE (inB l no) tree))]) (.t w.heap.size [125]) (block_told no (nodeTE (inB l no) tree) _) ?_
     rintro _ W16 ⟨_, rfl, hb16, hv16⟩
     refine ⟨(SF.of_below _ hb16), ?_⟩
     rw [if_neg hz, if_neg hz] at hv16
     have hq16 := hv16
     obtain ⟨bf16, vf16, rfl, _, _⟩ := hq16
     have k1'6 := ((u15.blk (k1'5.below n14.below) (Ne.symm (Ne.symm d14_b1))).below (below_drew W15)).below hb16
     have g1 := n1.ge (Below.refl w.heap.size _)
     refine ysv (.o [] 5) k1'6 [.int .i64 0, .bool false, .slice none 0 0, .slice none 0 0] (.t w.heap.size [125]) fun W17 u17 k17 => ⟨(sft_upd u17 k1'6 g1 (by decide)), ?_⟩
     have hB'7 := u17.below (Bl.next (Bl.next (u15.below (Bl.next hB'6 n14.below) g14) (below_drew W15)) hb16) g1
     have hv16'1 := hv16.upd u17 k1'6 (by decide)
     refine xec (.r [6] 4) k17 (.tuple #[.agg #[.int .i64 0, .bool false, .slice none 0 0, .slice none 0 0], .iface 103 (.pointer (some ⟨bf16, 0, none⟩))]) ?_
     have he : nodeErr l no tree = nodeTE (inB l no) tree := by unfold nodeErr; rw [he2, if_pos hs]
     exact .inl ⟨by rw [he]; exact hz, _, rfl, hB'7, by rw [he]; exact hv16'1⟩
   refine yc 0 (args := #[.int .i64 no, .iface 26 (.int .i64 (nodeTE (inB l no) tree))]) (.t w.heap.size [125]) (block_told no (nodeTE (inB l no) tree) _) ?_
   rintro _ W18 ⟨_, rfl, hb18, hv18⟩
   refine ⟨(SF.of_below _ hb18), ?_⟩
   rw [if_neg hz, if_neg hz] at hv18
   have hq18 := hv18
   obtain ⟨bf18, vf18, rfl, _, _⟩ := hq18
   have k2'2 := ((u15.blk (k2.below n14.below) (Ne.symm (Ne.symm d14_b2))).below (below_drew W15)).below hb18
   refine xlv (.o [] 0) k2'2.rp ?_
   have k1'7 := ((u15.blk (k1'5.below n14.below) (Ne.symm (Ne.symm d14_b1))).below (below_drew W15)).below hb18
   have g1 := n1.ge (Below.refl w.heap.size _)
   refine ysv (.o [] 5) k1'7 [.int .i64 0, .bool false, .slice none 0 0, .slice none 0 0] (.t w.heap.size [125]) fun W19 u19 k19 => ⟨(sft_upd u19 k1'7 g1 (by decide)), ?_⟩
   have hB'8 := u19.below (Bl.next (Bl.next (u15.below (Bl.next hB'6 n14.below) g14) (below_drew W15)) hb18) g1
   have hv18'1 := hv18.upd u19 k1'7 (by decide)
   refine xec (.r [6] 4) k19 (.tuple #[.agg #[.int .i64 0, .bool false, .slice none 0 0, .slice none 0 0], .iface 103 (.pointer (some ⟨bf18, 0, none⟩))]) ?_
   have he : nodeErr l no tree = nodeTE (inB l no) tree := by unfold nodeErr; rw [he2, if_pos hs]
   exact .inl ⟨by rw [he]; exact hz, _, rfl, hB'8, by rw [he]; exact hv18'1⟩
 have hs13 := (Bl.next (Bl.next hB hb3) hb8).size
 refine xa 3 [.int .i64 0, .bool false, .slice none 0 0, .slice none 0 0] 125 fun b20 W20 n20 => ?_
 have k1'8 := (((n1.blk.below n2.below).below hb3).below hb8).below hb13
 have d20_b1 := n20.ne k1'8
 have k2 := ((n2.blk.below hb3).below hb8).below hb13
 have d20_b2 := n20.ne k2
 have hB'9 := Bl.next hB'5 hb13
 have g20 := n20.ge hB'9
 refine xsv 0 n20.blk [.int .i64 (nodT (inB l no)), .bool (nodL (inB l no)), .slice kp (nodC (inB l no)) kc, .slice vp (nodC (inB l no)) vc] fun W21 u21 k21 => ?_
 refine xlv 15 k21.rp ?_
 have k1'9 := u21.blk (k1'8.below n20.below) (Ne.symm (Ne.symm d20_b1))
 refine xsv 0 k1'9 [.int .i64 (nodT (inB l no)), .bool (nodL (inB l no)), .slice kp (nodC (inB l no)) kc, .slice vp (nodC (inB l no)) vc] fun W22 u22 k22 => ?_
 have g1 := n1.ge (Below.refl w.heap.size _)
 have hB'10 := u22.below (u21.below (Bl.next hB'9 n20.below) g20) g1
 have hk'1 := u22.own2 (u21.own2 (own_below (own_mono hk hs13) n20.below) n20.blk (by decide)) k1'9 (by decide)
 have hv_'1 := u22.own2 (u21.own2 (own_below (own_mono hv_ hs13) n20.below) n20.blk (by decide)) k1'9 (by decide)
 exact xec 4 k22 (.tuple #[.agg #[.int .i64 (nodT (inB l no)), .bool (nodL (inB l no)), .slice kp (nodC (inB l no)) kc, .slice vp (nodC (inB l no)) vc], .nilIface]) (.inr ⟨by unfold nodeErr; rw [he2, if_pos hs, hz], _, _, _, _, rfl, hB'10, hk'1, hv_'1⟩)
set_option maxRecDepth 100000 in
set_option maxHeartbeats 1000000 in
theorem block_Node (B b : Nat) (p : Option Addr) (n c : Nat) (l : List UInt8) (no tree : Int) (w : World) (hI : ImgR B b p n c l w) :
    Calls Tryz.prog 116 #[.pointer (some ⟨b, 0, none⟩), .int .i64 no, .int .i64 tree] w (BlkNodeP l no tree w) := by
 refine zin 14 Tryz.func116 ?_
 refine xa 2 [.int .i64 tree] 3 fun b1 W1 n1 => ?_
 refine xa 0 [.int .i64 0, .bool false, .slice none 0 0, .slice none 0 0] 125 fun b2 W2 n2 => ?_
 have hB := Bl.next n1.below n2.below
 have k1 := n1.blk.below n2.below
 refine xc 8 (args := #[.pointer (some ⟨b, 0, none⟩), .int .i64 no, .int .i64 2, .func (.func 128) #[] #[.pointer (some ⟨b1, 0, none⟩)]]) (readNode B b p n c l no tree _ (hI.below hB) b1 k1) ?_
 rintro e W3 hq3
 rcases hq3 with ⟨he, bf, rfl, hb3, hv⟩ | ⟨he, kp, kc, vp, vc, rfl, hb3, hk, hv_⟩
 · have k2 := n2.blk.below hb3
   refine xsv 2 k2 [.int .i64 0, .bool false, .slice none 0 0, .slice none 0 0] fun W4 u4 k4 => ?_
   have g2 := n2.ge n1.below
   have hB'1 := u4.below (Bl.next hB hb3) g2
   have hv'1 := hv.upd u4 k2 (by decide)
   exact xec 4 k4 (.tuple #[.agg #[.int .i64 0, .bool false, .slice none 0 0, .slice none 0 0], .iface 103 (.pointer (some ⟨bf, 0, none⟩))]) (.inl ⟨he, _, rfl, hB'1, hv'1⟩)
 have hs3 := (Bl.next n1.below n2.below).size
 have k2 := n2.blk.below hb3
 refine xsv 2 k2 [.int .i64 (nodT (inB l no)), .bool (nodL (inB l no)), .slice kp (nodC (inB l no)) kc, .slice vp (nodC (inB l no)) vc] fun W5 u5 k5 => ?_
 have g2 := n2.ge n1.below
 have hB'2 := u5.below (Bl.next hB hb3) g2
 have hk'1 := u5.own2 (own_mono hk hs3) k2 (by decide)
 have hv_'1 := u5.own2 (own_mono hv_ hs3) k2 (by decide)
 exact xec 4 k5 (.tuple #[.agg #[.int .i64 (nodT (inB l no)), .bool (nodL (inB l no)), .slice kp (nodC (inB l no)) kc, .slice vp (nodC (inB l no)) vc], .nilIface]) (.inr ⟨he, _, _, _, _, rfl, hB'2, hk'1, hv_'1⟩)
end Go.Proofs.YthlakkdgcgkcdaaGreat
namespace Go.Proofs.YthlakkdgcgkcdaaGreat
open Go.RowKit Go.Extern.Stop Go.Stop Go.Extern
set_option linter.unusedVariables false
attribute [local irreducible] wpList wpAnyH Code.wp Oper.wp Go

set_option maxRecDepth 100000 in
set_option maxHeartbeats 1000000 in
theorem slices_Backward (p : Option Addr) (n c : Nat) (w : World) :
    Calls Tryz.prog 114 #[.slice p n c] w (fun e w' => ∃ b, e = .returned (.func (.func 125) #[] #[.pointer (some ⟨b, 0, none⟩)]) ∧ Below w.heap.size w w' ∧ w.heap.size ≤ b ∧ Blk w' b [.slice p n c] 22) := by
 refine zin 4 Tryz.func114 ?_
 refine xa 2 [.slice p n c] 22 fun b1 W1 n1 => ?_
 have g1 := n1.ge (Below.refl w.heap.size _)
 exact xe 10 (.func (.func 125) #[] #[.pointer (some ⟨b1, 0, none⟩)]) ⟨_, rfl, n1.below, g1, n1.blk⟩
end Go.Proofs.YthlakkdgcgkcdaaGreat
namespace Go.Proofs.YthlakkdgcgkcdaaGreat
open Go.RowKit Go.Extern.Stop Go.Stop Go.Extern
set_option linter.unusedVariables false
attribute [local irreducible] wpList wpAnyH Code.wp Oper.wp Go

attribute [local go_sem] Oper.semAt_some
theorem Upd.of_put (w : World) (D : Nat) (o : Obj) : Upd w D (w.putObj D o) := ⟨rfl, rfl, rfl, by simp [World.putObj], fun k hk => World.putObj_heap_other hk⟩
/-- a record of deferred calls at block D -/
def Dfr (D : Nat) (w : World) : Prop := w.heap[D]? = some (.deferred (some []))
theorem Dfr.below {D : Nat} {w W : World} (h : Dfr D w) (hb : Below w.heap.size w W) : Dfr D W := (hb.block D (Array.getElem?_eq_some_iff.1 h).1).trans h
theorem Dfr.ne {D b : Nat} {w : World} {cs : List Value} {t : TypeId} (h : Dfr D w) (k : Blk w b cs t) : b ≠ D := by
  rintro rfl
  have h' : w.heap[b]? = _ := h
  rw [show w.heap[b]? = _ from k] at h'
  cases h'
theorem Dfr.upd {D b : Nat} {w W : World} {cs : List Value} {t : TypeId} (h : Dfr D w) (u : Upd w b W) (k : Blk w b cs t) : Dfr D W := (u.block D fun e => h.ne k e.symm).trans h
theorem Dfr.row {D : Nat} {w : World} {base e size n : Nat} {v : Value} {xs : List Value} (h : Dfr D w) (k : w.ownsRow base e size v n xs) : ∀ g, v.ownBlock = some g → g ≠ D := by
  rintro g hg rfl
  rcases k.2 with ⟨rfl, _⟩ | ⟨g', cap, cur, rfl, _, hh, _⟩
  · cases hg
  · simp only [Value.ownBlock, Option.some.injEq] at hg
    subst hg
    rw [show w.heap[g']? = _ from h] at hh
    cases hh
theorem Dfr.grown {D : Nat} {w W : World} {base e size n : Nat} {v : Value} {xs : List Value} (h : Dfr D w) (hg : w.grownBy W v.ownBlock) (k : w.ownsRow base e size v n xs) : Dfr D W :=
  (hg.block D (Array.getElem?_eq_some_iff.1 h).1 fun q => h.row k D q.symm rfl).trans h
theorem g_endM {P : Program} {fn : Func} {R : Ending → World → Prop} {a : Act} {w : World} {D : Nat} (hK : Dfr D w) (v : Value) (hd : a.defers = [{ target := .collected D, args := #[] }]) (hr : (results fn a.tmps).run P (w.putObj D (.deferred none)) = .ok v (w.putObj D (.deferred none))) (h : R (.returned v) (w.putObj D (.deferred none))) : bodyPostM Fence.wide 4 P fn R .normal a w :=
  by
  show LeavesInM _ _ _ _ a.tmps R a.defers .returning w
  rw [hd]
  exact ⟨by simp, .inl ⟨_, _, rfl, run_takeDeferred hK, _, hr, h⟩⟩
def noPan (Q : Exit → Act → World → Prop) : Exit → Act → World → Prop
  | .normal, a, w => Q .normal a w
  | .ret, a, w => Q .ret a w
  | _, _, _ => False
theorem g_nopan {P : Program} {c : Code} {Q : Exit → Act → World → Prop} {a : Act} {w : World} (h : c.wp P (noPan Q) a w) : c.wp P Q a w := wp_mono h fun e a w q => by cases e <;> first | exact q | exact q.elim
theorem own_ty_ne {w : World} {base size n b : Nat} {e t : TypeId} {v : Value} {xs cs : List Value} (k : w.ownsRow base e size v n xs) (q : Blk w b cs t) (hne : e ≠ t) : ∀ g, v.ownBlock = some g → g ≠ b := by
  rintro g hg rfl
  rcases k.2 with ⟨rfl, _⟩ | ⟨g', cap, cur, rfl, _, hh, _⟩
  · cases hg
  · simp only [Value.ownBlock, Option.some.injEq] at hg
    subst hg
    rw [show w.heap[g']? = _ from q] at hh
    simp only [Option.some.injEq, Obj.cells.injEq] at hh
    exact hne hh.2.1.symm
theorem keepsO_below {w W : World} (h : Below w.heap.size w W) : KeepsOthers w W := ⟨h.size, fun b o hb _ => (h.block b (Array.getElem?_eq_some_iff.1 hb).1).trans hb⟩
theorem keepsO_upd {w W : World} {b : Nat} {cs : List Value} {t : TypeId} (u : Upd w b W) (k : Blk w b cs t) : KeepsOthers w W := ⟨Nat.le_of_eq u.size.symm, fun d o hd ho => (u.block d (by rintro rfl; rw [show w.heap[d]? = _ from k] at hd; cases hd; cases ho)).trans hd⟩
theorem Dfr.only_new {T : List TypeId} {a w W : World} {b : Nat} (h : Only T a w) (hbb : BelowBut w b W) (hb : a.heap.size ≤ b) : Only T a W := fun k cs t fr hk ht => by
  have h0 := (Array.getElem?_eq_some_iff.1 hk).1
  have h1 := h k cs t fr hk ht
  rw [hbb.block k (Array.getElem?_eq_some_iff.1 h1).1 (by omega)]; exact h1
theorem BelowBut.own3 {w W : World} {b base size n : Nat} {e : TypeId} {v : Value} {xs : List Value} (h : BelowBut w b W) (k : w.ownsRow base e size v n xs) (hs : ∀ j, v.ownBlock = some j → j ≠ b) : W.ownsRow base e size v n xs := by
  obtain ⟨h1, h2⟩ := k
  refine ⟨h1, ?_⟩
  rcases h2 with h2 | ⟨g, cap, cur, rfl, hg, hh, r⟩
  · exact Or.inl h2
  · exact Or.inr ⟨g, cap, cur, rfl, hg, by rw [h.block g (Array.getElem?_eq_some_iff.1 hh).1 (hs g rfl)]; exact hh, r⟩
theorem ownFrom_but {β : Type} {w : World} {b B : Nat} (hB : w.heap.size ≤ B) : OwnFrom B (fun (_ : β) W => BelowBut w b W) := fun _ W W' row hs hg hr =>
  ⟨hg.os.trans hs.os, hg.tape.trans hs.tape, hg.output.trans hs.output, Nat.le_trans hs.size hg.size, fun k hk hne => (hg.block k (Nat.lt_of_lt_of_le hk hs.size) (fun e => by have := (hr k e.symm).1; omega)).trans (hs.block k hk hne)⟩
theorem ErrV.turn {A B : World} {row : Option Nat} {l : List (Option Int)} {c : Option Int} {v : Value} (h : ErrV A l c v) (hg : A.grownBy B row) (hr : ∀ r, row = some r → ∃ o : Obj, A.heap[r]? = some o ∧ o.isCells = false) : ErrV B l c v := h.kept fun _ _ k => k.turn hg hr
/-- the blocks of the way, seen from below -/
def atW (way : List Int) (pre : List (Fin way.length)) (bs : List Int) : List Int := (pre.map fun j => way[qOf j]?.getD 0).reverse ++ bs
theorem atW_snoc (way : List Int) (pre : List (Fin way.length)) (x : Fin way.length) (bs : List Int) : atW way (pre ++ [x]) bs = (way[qOf x]?.getD 0) :: atW way pre bs := by simp [atW]
theorem atW_all (way bs : List Int) : atW way (List.finRange way.length) bs = way ++ bs := by
  unfold atW
  congr 1
  apply List.ext_getElem
  · simp
  · intro i h1 h2
    simp only [List.length_reverse, List.length_map, List.length_finRange] at h1
    rw [List.getElem_reverse, List.getElem_map]
    simp only [List.length_map, List.length_finRange, List.getElem_finRange, qOf]
    have e : way.length - 1 - (way.length - 1 - i) = i := by omega
    simp [e, h2]
theorem ErrV.one {w : World} {l : List (Option Int)} {c : Option Int} {v : Value} (h : ErrV w l c v) : v.oneCell' = true := by
  rcases h.nil_or with ⟨_, rfl⟩ | ⟨_, t, x, rfl⟩ <;> rfl
theorem ErrV.iface {w : World} {l : List (Option Int)} {c : Int} {v : Value} (h : ErrV w l (some c) v) : ∃ t x, v = .iface t x := by
  rcases h.nil_or with ⟨q, _⟩ | ⟨_, q⟩
  · simp [noErr] at q
  · exact q
theorem atL_some {b c : Int} {l : List (Option Int)} : atL b l (some c) = some b :: l := by simp [atL, noErr]
theorem one_one {v : Value} (h : v.oneCell' = true) : ∀ u ∈ [v], u.oneCell' = true := by simpa using h
def NoteP (B bw : Nat) (c0 c1 c2 c3 c5 c6 c7 c8 c9 : Value) (nf : Nat) (fs : List Value) (l : List Int) (ec : Int) (w : World) (e : Ending) (w' : World) : Prop :=
  ∃ u p c ty x, e = .returned u ∧ Below B w w' ∧ Only [129, 32] w w' ∧ Blk w' bw [c0, c1, c2, c3, .slice p (nf + 1) c, c5, c6, c7, c8, c9] 129 ∧ w'.ownsRow B 32 1 (.slice p (nf + 1) c) (nf + 1) (fs ++ [.iface ty x]) ∧ ErrV w' (l.map some) (some ec) (.iface ty x)
set_option maxRecDepth 100000 in
set_option maxHeartbeats 4000000 in
theorem walker_note (B bw : Nat) (c0 c1 c2 c3 c5 c6 c7 c9 : Value) (pf : Option Addr) (nf cf : Nat) (fs : List Value) (pw : Option Addr) (cw : Nat) (way bs : List Int) (ec : Int) (ty : TypeId) (ev : Value) (w : World) (hBb : B ≤ bw) (hBw : B ≤ w.heap.size) (kW : Blk w bw [c0, c1, c2, c3, .slice pf nf cf, c5, c6, c7, .slice pw way.length cw, c9] 129) (hF : w.ownsRow B 32 1 (.slice pf nf cf) nf fs) (hway : w.ownsRow B 3 1 (.slice pw way.length cw) way.length (way.map (Value.int .i64))) (hE : ErrV w (bs.map some) (some ec) (.iface ty ev)) (hwl : way.length ≤ 1000000) (hnf : nf ≤ 1000000) :
    Calls Tryz.prog 91 #[.pointer (some ⟨bw, 0, none⟩), .iface ty ev] w (NoteP B bw c0 c1 c2 c3 c5 c6 c7 (.slice pw way.length cw) c9 nf fs (way ++ bs) ec w) := by
  refine calls_of_marks Tryz.func91 rfl ?_
  refine g_fr ⟨#[.pointer (some ⟨bw, 0, none⟩), .iface ty ev, undef, undef, undef, undef, undef, undef, undef, undef, undef, undef, undef, undef, undef, undef, undef, undef, undef, undef, undef, undef, undef, undef, undef, undef, undef, undef], []⟩ (by kernel_rfl) ?_
  refine wp_seq ?_
  refine wp_region_lit ?_
  refine g_op (by kernel_rfl) (op_box [.iface ty ev] rfl (by kernel_rfl) ?_)
  intro b1 W1 n1
  have d1_bw := n1.ne kW
  have g1 := n1.ge0 (Below.refl B _)
  have r1_hF := own_ne hF n1
  have hO : Only [129, 32] w _ := (Only.of_below n1.below)
  have hB := Bl.nextB (Below.refl B w) hBw n1.below
  replace kW := kW.below n1.below
  replace hF := own_below hF n1.below
  replace hway := own_below hway n1.below
  replace hE := hE.below n1.below
  have k1 := n1.blk
  refine wpList_nil ?_
  refine wp_seq ?_
  refine wp_seq ?_
  refine wp_region_lit ?_
  refine g_pv 3 [(6, .pointer (some ⟨bw, 0, none⟩)), (7, .pointer (some ⟨bw, 0, none⟩)), (8, .pointer (some ⟨bw, 8, none⟩))] (by kernel_rfl) ?_
  refine g_op (by kernel_rfl) (op_load ⟨bw, 8, none⟩ (.slice pw way.length cw) rfl (by kernel_rfl) (by kernel_rfl) (kW.cell (i := 8) rfl) ?_)
  have lt2_bw := kW.lt
  have lt2_b1 := k1.lt
  have hs2 : w.heap.size ≤ (W1).heap.size := hB.size
  refine g_op (by kernel_rfl) (op_call (lb := #[]) 114 #[.slice pw way.length cw] rfl (by kernel_rfl) (fun _ _ => by kernel_rfl) (by kernel_rfl) ((slices_Backward pw way.length cw _).mono ?_))
  rintro e W2 ⟨bk2, rfl, hb2, hg2, kk2⟩
  refine ⟨_, rfl, ?_⟩
  replace hO := hO.trans (Only.of_below hb2)
  replace hB := Bl.nextB hB hBw hb2
  replace kW := kW.below hb2
  replace k1 := k1.below hb2
  replace hF := own_below hF hb2
  replace hway := own_below hway hb2
  replace hE := hE.below hb2
  have gb2 : w.heap.size ≤ bk2 := Nat.le_trans hs2 hg2
  have nb2_bw : bk2 ≠ bw := by omega
  have nb2_b1 : bk2 ≠ b1 := by omega
  refine wpList_nil ?_
  refine wp_block ?_
  have hzk := kk2.lt
  have hz3 := k1.lt
  have hst := back_stops bk2 (fun b => b < W2.heap.size ∧ b ≠ b1) (.slice pw way.length cw) way W2 (fun b h => h.1) ⟨hzk, nb2_b1⟩ (by omega) (own_sl hway) (fun _ b off n cap q => by cases q; exact ⟨(hway.lt b rfl).2, own_ty_ne hway k1 (by decide) b rfl⟩) (kk2.cell (i := 0) rfl)
  refine g_fr ⟨#[.pointer (some ⟨bw, 0, none⟩), .iface ty ev, undef, .pointer (some ⟨b1, 0, none⟩), undef, undef, .pointer (some ⟨bw, 0, none⟩), .pointer (some ⟨bw, 0, none⟩), .pointer (some ⟨bw, 8, none⟩), .slice pw way.length cw, .func (.func 125) #[] #[.pointer (some ⟨bk2, 0, none⟩)], undef, undef, undef, undef, undef, undef, undef, undef, undef, undef, undef, undef, undef, undef, undef, undef, undef], []⟩ (by kernel_rfl) ?_
  refine wp_range (g := .tmp 10) (gf := 125) (lb := #[.pointer (some ⟨bk2, 0, none⟩)]) rfl (enters_of Tryz.func125 (by kernel_rfl) rfl) _ (fun b h => h.1) hst (fun _ => rfl)
    (fun pre W => (∃ v', Blk W b1 [v'] 32 ∧ ErrV W ((atW way pre bs).map some) (some ec) v') ∧ BelowBut W2 b1 W)
    (fun _ _ _ => False) ?own (fun _ _ _ _ _ h _ _ => h) ⟨⟨_, k1, hE⟩, (Below.refl _ _).but _⟩
    (fun x a' _ => a' = { tmps := #[.pointer (some ⟨bw, 0, none⟩), .iface ty ev, undef, .pointer (some ⟨b1, 0, none⟩), undef, .int .i64 (way[qOf x]?.getD 0), .pointer (some ⟨bw, 0, none⟩), .pointer (some ⟨bw, 0, none⟩), .pointer (some ⟨bw, 8, none⟩), .slice pw way.length cw, .func (.func 125) #[] #[.pointer (some ⟨bk2, 0, none⟩)], .int .i64 (qOf x : Int), .int .i64 (way[qOf x]?.getD 0), undef, undef, undef, undef, undef, undef, undef, undef, undef, undef, undef, undef, undef, undef, undef], defers := [] }) (fun _ _ _ _ _ _ h _ _ => h) ?assign ?body ?done (fun _ _ _ _ _ _ h _ => h.elim)
  case own => exact OwnFrom.and (Own.from (fun s A B row hs hg hr => by obtain ⟨v', h1, h2⟩ := hs; exact ⟨v', h1.turn hg hr, h2.turn hg hr⟩) _) (ownFrom_but (Nat.le_refl _))
  case assign =>
    rintro lr pre x W K hI hK
    unfold encB
    gi_wp2
    exact hK _ _ (KeepsFrom.refl _ _) (Keeps.refl _ _) hI rfl
  case body =>
    rintro lr pre x a' W hlr ⟨⟨v', m3, hv'⟩, hbb⟩ rfl hlt
    have mc := m3.cell (i := 0) rfl
    gi_wp2_with (refine ⟨trivial, ?_⟩; gi_at_call 28; refine (CallsIn.inRound lr (callsIn_wide.2 (fault_At _ _ _ _ _ hv'))).mono ?_; rintro e w2 ⟨r2, rfl, hb2, hE2⟩; obtain ⟨t2, x2, rfl⟩ := hE2.iface; have m4 := m3.below hb2; have mg := m4.frozen 0; have md := m4.cell (i := 0) rfl)
    have hb2s := hb2.size
    have u2 := Upd.setCell w2 b1 0 (.iface t2 x2)
    exact ⟨((keepsO_below hb2).trans (KeepsOthers.setCell _ _ _)).from _, Keeps.setCell (Keeps.of_below hb2 (fun b hb => by have := hbb.size; have := hb.1; omega)) (fun hb => hb.2 rfl) _, ⟨_, m4.set 0 _, by rw [atW_snoc, List.map_cons, ← atL_some (c := ec)]; exact (hE2.upd u2 m4 (by decide))⟩, (hbb.next hb2).upd u2⟩
  case done =>
  rintro D xs W hD rfl ⟨⟨v', m3, hv'⟩, hbb⟩ hK0
  rw [atW_all] at hv'
  have hK : Dfr D W := hK0; clear hK0
  refine g_nopan ?_
  refine g_fr ⟨#[.pointer (some ⟨bw, 0, none⟩), .iface ty ev, undef, .pointer (some ⟨b1, 0, none⟩), undef, undef, .pointer (some ⟨bw, 0, none⟩), .pointer (some ⟨bw, 0, none⟩), .pointer (some ⟨bw, 8, none⟩), .slice pw way.length cw, .func (.func 125) #[] #[.pointer (some ⟨bk2, 0, none⟩)], undef, undef, undef, undef, undef, undef, undef, undef, undef, undef, undef, undef, undef, undef, undef, undef, undef], [{ target := .collected D, args := #[] }]⟩ (by kernel_rfl) ?_
  have hv1 := hv'.one
  obtain ⟨ty', x', rfl⟩ := hv'.iface
  have hDB : w.heap.size ≤ D := Nat.le_trans (Nat.le_trans (by have := hz3; have := g1; omega) (Nat.le_refl _)) hD
  replace kW := hbb.blk kW (Ne.symm (Ne.symm d1_bw))
  replace kk2 := hbb.blk kk2 nb2_b1
  replace hF := hbb.own3 hF r1_hF
  replace hway := hbb.own2 hway k1 (by decide)
  have hB0 := hB
  replace hB := hbb.below hB (Nat.le_trans hBw g1) (Nat.le_trans hBw hB0.size)
  replace hO := Dfr.only_new hO hbb g1
  replace k1 := m3
  replace hO := hO.trans (Only.of_below (below_drew W))
  replace hB := Bl.nextB hB hBw (below_drew W)
  replace kW := kW.below (below_drew W)
  replace k1 := k1.below (below_drew W)
  replace kk2 := kk2.below (below_drew W)
  replace hF := own_below hF (below_drew W)
  replace hway := own_below hway (below_drew W)
  replace hv' := hv'.below (below_drew W)
  replace hK := hK.below (below_drew W)
  refine h_reg (Below B (W.drew)) 13 rfl #[false, false, false, false, false, false, false, false, false, false, false, false, false] rfl (by kernel_rfl) (Below.refl _ _) ?_
  intro hS3
  have hBd5 := hB
  have kd5_bw := kW
  have kd5_b1 := k1
  have kd5_bk2 := kk2
  have hOd5 := hO
  refine h_pv [0, 1, 2, 3, 4] 8 rfl #[true, true, true, true, true, false, false, false, false, false, false, false, false] [(16, .pointer (some ⟨bw, 0, none⟩)), (17, .pointer (some ⟨bw, 0, none⟩)), (18, .pointer (some ⟨bw, 0, none⟩)), (19, .pointer (some ⟨bw, 0, none⟩)), (20, .pointer (some ⟨bw, 4, none⟩))] (by kernel_rfl) (fun _ _ _ _ _ h => h) (by kernel_rfl) hS3 ?_
  refine h_two 5 6 7 rfl (by kernel_rfl) rfl rfl (by kernel_rfl) (by kernel_rfl) ?_ ?_
  · refine op_load ⟨bw, 4, none⟩ (.slice pf nf cf) rfl (by kernel_rfl) (by kernel_rfl) (kW.cell (i := 4) rfl) ?_
    have hS6 : Below B (W.drew) (W.drew) := hS3
    refine ⟨hS6, ?_⟩
    refine h_one 6 6 rfl (by kernel_rfl) rfl (by kernel_rfl) (op_load ⟨b1, 0, none⟩ (.iface ty' x') rfl (by kernel_rfl) (by kernel_rfl) (k1.cell (i := 0) rfl) ?_)
    have hS7 : Below B (W.drew) (W.drew) := hS6
    refine ⟨hS7, ?_⟩
    refine h_one 7 5 rfl (by kernel_rfl) rfl (by kernel_rfl) (op_buildSlice 32 [.iface ty' x'] rfl (by kernel_rfl) ?_)
    intro b8 W8 n8
    have d8_bw := n8.ne kW
    have d8_b1 := n8.ne k1
    have d8_bk2 := n8.ne kk2
    have g8 := n8.ge0 hB
    have r8_hF := own_ne hF n8
    replace hO := hO.trans (Only.of_below n8.below)
    replace hB := Bl.nextB hB hBw n8.below
    replace kW := kW.below n8.below
    replace k1 := k1.below n8.below
    replace kk2 := kk2.below n8.below
    replace hF := own_below hF n8.below
    replace hway := own_below hway n8.below
    replace hv' := hv'.below n8.below
    replace hK := hK.below n8.below
    have k8 := n8.blk
    have hS9 : Below B (W.drew) (W8) := Bl.nextB hS7 (Nat.le_trans hBw hBd5.size) n8.below
    refine ⟨hS9, ?_⟩
    refine h_one 8 4 rfl (by kernel_rfl) rfl (by kernel_rfl) (op_app (e := 32) (n := nf) (xs := fs) (m := 1) (news := [.iface ty' x']) (.nilIface) 1 16 (nf + 1) (fs ++ [.iface ty' x']) rfl Tryz.underlying62 (by kernel_rfl) rfl (by decide) (by kernel_rfl) hF (by kernel_rfl) (k8.sl 1 1 (by decide) (by decide)) rfl (one_one hv1) (by unfold maxLen; omega) (by omega) (Nat.le_trans hBw hB.size) (by simp) (by simp) ?_)
    intro p10 c10 W10 o10 hg10 hb10
    replace hO := hO.trans (Only.of_grown hg10 hF (by decide))
    replace kW := kW.grown hg10 hF (by decide)
    replace k1 := k1.grown3 hg10 r1_hF
    replace kk2 := kk2.grown hg10 hF (by decide)
    replace hway := own_grown hway hg10 hF (by decide)
    replace hv' := hv'.grown hg10 hF (by decide)
    replace hK := hK.grown hg10 hF
    replace hB := hB.trans hb10
    have hS11 : Below B (W.drew) (W10) := hS9.trans hb10
    refine ⟨hS11, ?_⟩
    refine h_pv [9, 10, 11] 1 rfl #[true, true, true, true, true, true, true, true, true, true, true, true, false] [(25, .pointer (some ⟨bw, 0, none⟩)), (26, .pointer (some ⟨bw, 0, none⟩)), (27, .pointer (some ⟨bw, 4, none⟩))] (by kernel_rfl) (fun _ _ _ _ _ h => h) (by kernel_rfl) hS11 ?_
    refine h_one 12 0 rfl (by kernel_rfl) rfl (by kernel_rfl) (op_store (v := .slice p10 (nf + 1) c10) (b := bw) (off := 4) rfl (by kernel_rfl) (by kernel_rfl) (by kernel_rfl) rfl kW (by first | decide | simp) ?_)
    intro W12 u12 k12
    change Blk _ _ [c0, c1, c2, c3, .slice p10 (nf + 1) c10, c5, c6, c7, .slice pw way.length cw, c9] _ at k12
    replace hO := hO.trans (Only.of_upd u12 kW (by decide))
    replace hB := u12.below hB hBb
    replace k1 := u12.blk k1 (Ne.symm d1_bw)
    replace kk2 := u12.blk kk2 nb2_bw
    replace hway := u12.own2 hway kW (by decide)
    replace hv' := hv'.upd u12 kW (by decide)
    replace hK := hK.upd u12 kW
    replace o10 := u12.own2 o10 kW (by decide)
    have hS13 : Below B (W.drew) (W12) := u12.below hS11 hBb
    refine ⟨hS13, ?_⟩
    refine h_done _ (by kernel_rfl) ?_
    exact g_endM hK (.tuple #[]) (by kernel_rfl) (by kernel_rfl) ⟨_, _, _, _, _, rfl, (Upd.of_put _ _ _).below hB (Nat.le_trans hBw hDB), Only.upd_new hO (Upd.of_put _ _ _) hDB, (Upd.of_put _ _ _).blk k12 (hK.ne k12), (Upd.of_put _ _ _).own3 o10 (hK.row o10), hv'.kept fun _ _ q => (Upd.of_put _ _ _).blk q (hK.ne q)⟩
  · refine op_load ⟨b1, 0, none⟩ (.iface ty' x') rfl (by kernel_rfl) (by kernel_rfl) (k1.cell (i := 0) rfl) ?_
    have hS14 : Below B (W.drew) (W.drew) := hS3
    refine ⟨hS14, ?_⟩
    refine h_two 5 7 6 rfl (by kernel_rfl) rfl rfl (by kernel_rfl) (by kernel_rfl) ?_ ?_
    · refine op_load ⟨bw, 4, none⟩ (.slice pf nf cf) rfl (by kernel_rfl) (by kernel_rfl) (kW.cell (i := 4) rfl) ?_
      have hS15 : Below B (W.drew) (W.drew) := hS14
      refine ⟨hS15, ?_⟩
      refine h_one 7 5 rfl (by kernel_rfl) rfl (by kernel_rfl) (op_buildSlice 32 [.iface ty' x'] rfl (by kernel_rfl) ?_)
      intro b16 W16 n16
      have d16_bw := n16.ne kW
      have d16_b1 := n16.ne k1
      have d16_bk2 := n16.ne kk2
      have g16 := n16.ge0 hB
      have r16_hF := own_ne hF n16
      replace hO := hO.trans (Only.of_below n16.below)
      replace hB := Bl.nextB hB hBw n16.below
      replace kW := kW.below n16.below
      replace k1 := k1.below n16.below
      replace kk2 := kk2.below n16.below
      replace hF := own_below hF n16.below
      replace hway := own_below hway n16.below
      replace hv' := hv'.below n16.below
      replace hK := hK.below n16.below
      have k16 := n16.blk
      have hS17 : Below B (W.drew) (W16) := Bl.nextB hS15 (Nat.le_trans hBw hBd5.size) n16.below
      refine ⟨hS17, ?_⟩
      refine h_one 8 4 rfl (by kernel_rfl) rfl (by kernel_rfl) (op_app (e := 32) (n := nf) (xs := fs) (m := 1) (news := [.iface ty' x']) (.nilIface) 1 16 (nf + 1) (fs ++ [.iface ty' x']) rfl Tryz.underlying62 (by kernel_rfl) rfl (by decide) (by kernel_rfl) hF (by kernel_rfl) (k16.sl 1 1 (by decide) (by decide)) rfl (one_one hv1) (by unfold maxLen; omega) (by omega) (Nat.le_trans hBw hB.size) (by simp) (by simp) ?_)
      intro p18 c18 W18 o18 hg18 hb18
      replace hO := hO.trans (Only.of_grown hg18 hF (by decide))
      replace kW := kW.grown hg18 hF (by decide)
      replace k1 := k1.grown3 hg18 r1_hF
      replace kk2 := kk2.grown hg18 hF (by decide)
      replace hway := own_grown hway hg18 hF (by decide)
      replace hv' := hv'.grown hg18 hF (by decide)
      replace hK := hK.grown hg18 hF
      replace hB := hB.trans hb18
      have hS19 : Below B (W.drew) (W18) := hS17.trans hb18
      refine ⟨hS19, ?_⟩
      refine h_pv [9, 10, 11] 1 rfl #[true, true, true, true, true, true, true, true, true, true, true, true, false] [(25, .pointer (some ⟨bw, 0, none⟩)), (26, .pointer (some ⟨bw, 0, none⟩)), (27, .pointer (some ⟨bw, 4, none⟩))] (by kernel_rfl) (fun _ _ _ _ _ h => h) (by kernel_rfl) hS19 ?_
      refine h_one 12 0 rfl (by kernel_rfl) rfl (by kernel_rfl) (op_store (v := .slice p18 (nf + 1) c18) (b := bw) (off := 4) rfl (by kernel_rfl) (by kernel_rfl) (by kernel_rfl) rfl kW (by first | decide | simp) ?_)
      intro W20 u20 k20
      change Blk _ _ [c0, c1, c2, c3, .slice p18 (nf + 1) c18, c5, c6, c7, .slice pw way.length cw, c9] _ at k20
      replace hO := hO.trans (Only.of_upd u20 kW (by decide))
      replace hB := u20.below hB hBb
      replace k1 := u20.blk k1 (Ne.symm d1_bw)
      replace kk2 := u20.blk kk2 nb2_bw
      replace hway := u20.own2 hway kW (by decide)
      replace hv' := hv'.upd u20 kW (by decide)
      replace hK := hK.upd u20 kW
      replace o18 := u20.own2 o18 kW (by decide)
      have hS21 : Below B (W.drew) (W20) := u20.below hS19 hBb
      refine ⟨hS21, ?_⟩
      refine h_done _ (by kernel_rfl) ?_
      exact g_endM hK (.tuple #[]) (by kernel_rfl) (by kernel_rfl) ⟨_, _, _, _, _, rfl, (Upd.of_put _ _ _).below hB (Nat.le_trans hBw hDB), Only.upd_new hO (Upd.of_put _ _ _) hDB, (Upd.of_put _ _ _).blk k20 (hK.ne k20), (Upd.of_put _ _ _).own3 o18 (hK.row o18), hv'.kept fun _ _ q => (Upd.of_put _ _ _).blk q (hK.ne q)⟩
    · refine op_buildSlice 32 [.iface ty' x'] rfl (by kernel_rfl) ?_
      intro b22 W22 n22
      have d22_bw := n22.ne kW
      have d22_b1 := n22.ne k1
      have d22_bk2 := n22.ne kk2
      have g22 := n22.ge0 hB
      have r22_hF := own_ne hF n22
      replace hO := hO.trans (Only.of_below n22.below)
      replace hB := Bl.nextB hB hBw n22.below
      replace kW := kW.below n22.below
      replace k1 := k1.below n22.below
      replace kk2 := kk2.below n22.below
      replace hF := own_below hF n22.below
      replace hway := own_below hway n22.below
      replace hv' := hv'.below n22.below
      replace hK := hK.below n22.below
      have k22 := n22.blk
      have hS23 : Below B (W.drew) (W22) := Bl.nextB hS14 (Nat.le_trans hBw hBd5.size) n22.below
      refine ⟨hS23, ?_⟩
      refine h_one 5 5 rfl (by kernel_rfl) rfl (by kernel_rfl) (op_load ⟨bw, 4, none⟩ (.slice pf nf cf) rfl (by kernel_rfl) (by kernel_rfl) (kW.cell (i := 4) rfl) ?_)
      have hS24 : Below B (W.drew) (W22) := hS23
      refine ⟨hS24, ?_⟩
      refine h_one 8 4 rfl (by kernel_rfl) rfl (by kernel_rfl) (op_app (e := 32) (n := nf) (xs := fs) (m := 1) (news := [.iface ty' x']) (.nilIface) 1 16 (nf + 1) (fs ++ [.iface ty' x']) rfl Tryz.underlying62 (by kernel_rfl) rfl (by decide) (by kernel_rfl) hF (by kernel_rfl) (k22.sl 1 1 (by decide) (by decide)) rfl (one_one hv1) (by unfold maxLen; omega) (by omega) (Nat.le_trans hBw hB.size) (by simp) (by simp) ?_)
      intro p25 c25 W25 o25 hg25 hb25
      replace hO := hO.trans (Only.of_grown hg25 hF (by decide))
      replace kW := kW.grown hg25 hF (by decide)
      replace k1 := k1.grown3 hg25 r1_hF
      replace kk2 := kk2.grown hg25 hF (by decide)
      replace hway := own_grown hway hg25 hF (by decide)
      replace hv' := hv'.grown hg25 hF (by decide)
      replace hK := hK.grown hg25 hF
      replace hB := hB.trans hb25
      have hS26 : Below B (W.drew) (W25) := hS24.trans hb25
      refine ⟨hS26, ?_⟩
      refine h_pv [9, 10, 11] 1 rfl #[true, true, true, true, true, true, true, true, true, true, true, true, false] [(25, .pointer (some ⟨bw, 0, none⟩)), (26, .pointer (some ⟨bw, 0, none⟩)), (27, .pointer (some ⟨bw, 4, none⟩))] (by kernel_rfl) (fun _ _ _ _ _ h => h) (by kernel_rfl) hS26 ?_
      refine h_one 12 0 rfl (by kernel_rfl) rfl (by kernel_rfl) (op_store (v := .slice p25 (nf + 1) c25) (b := bw) (off := 4) rfl (by kernel_rfl) (by kernel_rfl) (by kernel_rfl) rfl kW (by first | decide | simp) ?_)
      intro W27 u27 k27
      change Blk _ _ [c0, c1, c2, c3, .slice p25 (nf + 1) c25, c5, c6, c7, .slice pw way.length cw, c9] _ at k27
      replace hO := hO.trans (Only.of_upd u27 kW (by decide))
      replace hB := u27.below hB hBb
      replace k1 := u27.blk k1 (Ne.symm d1_bw)
      replace kk2 := u27.blk kk2 nb2_bw
      replace hway := u27.own2 hway kW (by decide)
      replace hv' := hv'.upd u27 kW (by decide)
      replace hK := hK.upd u27 kW
      replace o25 := u27.own2 o25 kW (by decide)
      have hS28 : Below B (W.drew) (W27) := u27.below hS26 hBb
      refine ⟨hS28, ?_⟩
      refine h_done _ (by kernel_rfl) ?_
      exact g_endM hK (.tuple #[]) (by kernel_rfl) (by kernel_rfl) ⟨_, _, _, _, _, rfl, (Upd.of_put _ _ _).below hB (Nat.le_trans hBw hDB), Only.upd_new hO (Upd.of_put _ _ _) hDB, (Upd.of_put _ _ _).blk k27 (hK.ne k27), (Upd.of_put _ _ _).own3 o25 (hK.row o25), hv'.kept fun _ _ q => (Upd.of_put _ _ _).blk q (hK.ne q)⟩
end Go.Proofs.YthlakkdgcgkcdaaGreat
namespace Go.Proofs.YthlakkdgcgkcdaaGreat
open Go.RowKit
set_option linter.unusedVariables false
theorem own_turn {A B : World} {row : Option Nat} {base size n : Nat} {e : TypeId} {v : Value} {xs : List Value} (k : A.ownsRow base e size v n xs) (hg : A.grownBy B row) (hr : ∀ r, row = some r → ∃ o : Obj, A.heap[r]? = some o ∧ o.isCells = false) : B.ownsRow base e size v n xs := by
  obtain ⟨h1, h2⟩ := k
  refine ⟨h1, ?_⟩
  rcases h2 with h2 | ⟨g, cap, cur, hv, hb, hh, r⟩
  · exact Or.inl h2
  · refine Or.inr ⟨g, cap, cur, hv, hb, ?_, r⟩
    rw [hg.block g (Array.getElem?_eq_some_iff.1 hh).1 (fun q => by
      obtain ⟨o, ho, hc⟩ := hr g q.symm
      rw [hh] at ho
      cases ho
      cases hc)]
    exact hh
theorem Lists.turn {A B : World} {row : Option Nat} {base : Nat} {v : Value} {gs : List (Nat × Nat)} {L : List (List Int)} (h : Lists A base v gs L) (hg : A.grownBy B row) (hr : ∀ r, row = some r → ∃ o : Obj, A.heap[r]? = some o ∧ o.isCells = false) : Lists B base v gs L := ⟨own_turn h.row hg hr, fun i hi => own_turn (h.each i hi) hg hr⟩
/-- from the world w0 the worlds ahead of a round differ in block b alone; and what the round keeps -/
structure RdZ (w0 : World) (b : Nat) (W V : World) : Prop where
  bb : BelowBut w0 b V
  ko : KeepsOthers W V
  fr : ∀ k, k < w0.heap.size → k ≠ b → V.heap[k]? = W.heap[k]?
  le : W.heap.size ≤ V.heap.size
theorem RdZ.refl {w0 W : World} {b : Nat} (h : BelowBut w0 b W) : RdZ w0 b W W := ⟨h, ⟨Nat.le_refl _, fun _ _ h _ => h⟩, fun _ _ _ => rfl, Nat.le_refl _⟩
theorem RdZ.below {w0 W V U : World} {b : Nat} (h : RdZ w0 b W V) (hb : Below V.heap.size V U) : RdZ w0 b W U :=
  ⟨h.bb.next hb, h.ko.trans (keepsO_below hb), fun k hk hn => (hb.block k (Nat.lt_of_lt_of_le hk h.bb.size)).trans (h.fr k hk hn), Nat.le_trans h.le hb.size⟩
theorem RdZ.upd {w0 W V U : World} {b : Nat} {cs : List Value} {t : TypeId} (h : RdZ w0 b W V) (u : Upd V b U) (k : Blk V b cs t) : RdZ w0 b W U :=
  ⟨h.bb.upd u, h.ko.trans (keepsO_upd u k), fun k hk hn => (u.block k hn).trans (h.fr k hk hn), Nat.le_trans h.le (Nat.le_of_eq u.size.symm)⟩
theorem RdZ.grown {w0 W V U : World} {b size n : Nat} {e : TypeId} {v : Value} {xs : List Value} (h : RdZ w0 b W V) (hg : V.grownBy U v.ownBlock) (k : V.ownsRow w0.heap.size e size v n xs) : RdZ w0 b W U :=
  ⟨⟨hg.os.trans h.bb.os, hg.tape.trans h.bb.tape, hg.output.trans h.bb.output, Nat.le_trans h.bb.size hg.size, fun i hi hn => (hg.block i (Nat.lt_of_lt_of_le hi h.bb.size) (fun e => by have := (k.lt i e.symm).1; omega)).trans (h.bb.block i hi hn)⟩,
   ⟨Nat.le_trans h.ko.size hg.size, fun i o hi ho => by
      have h1 := h.ko.same i o hi ho
      rw [hg.block i (Array.getElem?_eq_some_iff.1 h1).1 (fun q => by
        rcases k.2 with ⟨rfl, _⟩ | ⟨g, cap, cur, rfl, _, hh, _⟩
        · cases q
        · simp only [Value.ownBlock, Option.some.injEq] at q
          subst q
          rw [hh] at h1
          cases h1
          cases ho)]
      exact h1⟩,
   fun i hi hn => (hg.block i (Nat.lt_of_lt_of_le hi h.bb.size) (fun e => by have := (k.lt i e.symm).1; omega)).trans (h.fr i hi hn), Nat.le_trans h.le hg.size⟩
theorem row_or {w : World} {base e n c : Nat} {p : Option Addr} {xs : List Value} (k : w.ownsRow base e 1 (.slice p n c) n xs) : ∃ g, (n = 0 ∧ ∃ a c', Value.slice p n c = .slice a 0 c') ∨ Value.slice p n c = .slice (some ⟨g, 0, none⟩) n c ∧ n ≤ c := by
  rcases k.2 with ⟨h, _⟩ | ⟨g, cap, cur, hv, _, _, hc, _⟩
  · simp only [Value.slice.injEq] at h
    exact ⟨0, .inl ⟨h.2.1, none, 0, by rw [h.1, h.2.1, h.2.2]⟩⟩
  · simp only [Value.slice.injEq] at hv
    obtain ⟨rfl, _, rfl⟩ := hv
    exact ⟨g, .inr ⟨rfl, hc⟩⟩
/-- each row of counts, without the row that holds them -/
def Each (w : World) (base : Nat) (gs : List (Nat × Nat)) (L : List (List Int)) : Prop := ∀ i, i < L.length → w.ownsRow base 3 1 (lstV gs L i) (L.getD i []).length ((L.getD i []).map (Value.int .i64))
theorem Each.below {w W : World} {base : Nat} {gs : List (Nat × Nat)} {L : List (List Int)} (h : Each w base gs L) (hb : Below w.heap.size w W) : Each W base gs L := fun i hi => own_below (h i hi) hb
theorem Each.only {T : List TypeId} {w W : World} {base : Nat} {gs : List (Nat × Nat)} {L : List (List Int)} (h : Each w base gs L) (hO : Only T w W) (hT : T.contains 3 = false) : Each W base gs L := fun i hi => own_only (h i hi) hO hT
theorem lstV_old {gs : List (Nat × Nat)} {L : List (List Int)} {g c i : Nat} {ch : List Int} (hg : gs.length = L.length) (hi : i < L.length) : lstV (gs ++ [(g, c)]) (L ++ [ch]) i = lstV gs L i := by
  unfold lstV
  simp [List.getD, List.getElem?_append_left, hi, hg]
theorem lstV_new {gs : List (Nat × Nat)} {L : List (List Int)} {g c : Nat} {ch : List Int} (hg : gs.length = L.length) : lstV (gs ++ [(g, c)]) (L ++ [ch]) L.length = .slice (some ⟨g, 0, none⟩) ch.length c := by
  unfold lstV
  rw [show (gs ++ [(g, c)]).getD L.length (0, 0) = (g, c) from by rw [← hg]; simp [List.getD], show (L ++ [ch]).getD L.length [] = ch from by simp [List.getD]]
theorem Lists.snoc {w : World} {base g c n : Nat} {v : Value} {gs : List (Nat × Nat)} {L : List (List Int)} {ch : List Int} (hn : n = L.length + 1) (hrow : w.ownsRow base 22 1 v n ((List.range L.length).map (lstV gs L) ++ [.slice (some ⟨g, 0, none⟩) ch.length c])) (he : Each w base gs L) (hnew : w.ownsRow base 3 1 (.slice (some ⟨g, 0, none⟩) ch.length c) ch.length (ch.map (Value.int .i64))) (hg : gs.length = L.length) : Lists w base v (gs ++ [(g, c)]) (L ++ [ch]) := by
  subst hn
  refine ⟨?_, fun i hi => ?_⟩
  · rw [show (L ++ [ch]).length = L.length + 1 from by simp, List.range_succ, List.map_append]
    rw [show (List.range L.length).map (lstV (gs ++ [(g, c)]) (L ++ [ch])) = (List.range L.length).map (lstV gs L) from List.map_congr_left fun i hi => lstV_old hg (List.mem_range.1 hi), List.map_singleton, lstV_new hg]
    exact hrow
  · by_cases h : i < L.length
    · rw [lstV_old hg h, show (L ++ [ch]).getD i [] = L.getD i [] from by simp [List.getD, List.getElem?_append_left, h]]
      exact he i h
    · obtain rfl : i = L.length := by simp at hi; omega
      rw [lstV_new hg, show (L ++ [ch]).getD L.length [] = ch from by simp [List.getD]]
      exact hnew
/-- a piece of a row of counts -/
theorem Sl.midI {w : World} {g n c : Nat} {xs : List Value} (h : Sl w (.slice (some ⟨g, 0, none⟩) n c) n xs) (hl : xs.length = n) (k m : Nat) (hm : 0 < m) (hk : k + m ≤ n) : Sl w (.slice (some ⟨g, 0 + k, none⟩) m m) m ((xs.drop k).take m) := by
  rcases h with ⟨a', c', h1, h2, h3⟩ | ⟨g', off', cap, h1, h2, h3, h4⟩
  · omega
  · simp only [Value.slice.injEq, Option.some.injEq, Addr.mk.injEq] at h1
    obtain ⟨⟨rfl, rfl, _⟩, _, rfl⟩ := h1
    refine .inr ⟨g, 0 + k, m, rfl, Nat.le_refl _, by omega, fun j x hj => ?_⟩
    have hjm : j < m := by
      rcases Nat.lt_or_ge j m with q | q
      · exact q
      · rw [List.getElem?_eq_none (by simp; omega)] at hj; cases hj
    rw [List.getElem?_take_of_lt hjm, List.getElem?_drop] at hj
    have := h4 (k + j) x hj
    rw [show 0 + k + j = 0 + (k + j) from by omega]
    exact this
end Go.Proofs.YthlakkdgcgkcdaaGreat
namespace Go.Proofs.YthlakkdgcgkcdaaGreat
open Go.RowKit Go.Extern.Stop Go.Stop Go.Extern
set_option linter.unusedVariables false
attribute [local irreducible] wpList wpAnyH Code.wp Oper.wp Go

set_option maxRecDepth 100000 in
set_option maxHeartbeats 1000000 in
theorem value_count (w : World) :
    Calls Tryz.prog 39 #[] w (RetS (fun w' r => ∃ b, r = .slice (some ⟨b, 0, none⟩) 1 1 ∧ w.heap.size ≤ b ∧ Blk w' b [.int .i64 4, .int .i64 3, .int .i64 2147483647] 118) w) := by
 refine zin 3 Tryz.func39 ?_
 refine xbs 8 1 [.int .i64 4, .int .i64 3, .int .i64 2147483647] 118 fun b1 W1 n1 => ?_
 have g1 := n1.ge (Below.refl w.heap.size _)
 exact xe 4 (.slice (some ⟨b1, 0, none⟩) 1 1) ⟨_, rfl, n1.below, _, rfl, g1, n1.blk⟩
set_option maxRecDepth 100000 in
set_option maxHeartbeats 1000000 in
theorem value_put_count (gl gn : Nat) (n : Int) (h1 : 3 ≤ n) (h2 : n ≤ 2147483647) (w : World) (hl : Blk w gl [.int .i64 4, .int .i64 3, .int .i64 2147483647] 118) (hn : Blk w gn [.int .i64 n] 3) :
    Calls Tryz.prog 38 #[.slice (some ⟨gl, 0, none⟩) 1 1, .slice (some ⟨gn, 0, none⟩) 1 1] w (Ret (.string ⟨(leB n 4).toArray⟩) w) := by
 refine zin 51 Tryz.func38 ?_
 refine xu 19 2 ?_
 refine xlv 15 hl.rp ?_
 refine xa 0 [.int .i64 0, .int .i64 0, .int .i64 0] 118 fun b1 W1 n1 => ?_
 have d1_gl := n1.ne hl
 refine xsv 1 n1.blk [.int .i64 4, .int .i64 3, .int .i64 2147483647] fun W2 u2 k2 => ?_
 have g1 := n1.ge (Below.refl w.heap.size _)
 refine xd 4 .z ?_
 have hn'1 := (u2.blkT (hn.below n1.below) n1.blk (by decide)).below (below_drew W2)
 refine xb (.e [0, 1, 2] 3) 0 hn'1 ?_
 have k2'1 := k2.below (below_drew W2)
 refine xb (.e [4] 5) 1 k2'1 ?_
 refine xgk (.b [6, 7]) [23, 24] (show (decide (n < (3 : Int)) : Bool) = false from decide_eq_false (by omega)) ?_
 refine xb (.e [8, 9, 10] 11) 0 hn'1 ?_
 refine xb (.e [12] 13) 2 k2'1 ?_
 refine xk (.r [14, 15] 2) (show (decide (n > (2147483647 : Int)) : Bool) = false from decide_eq_false (by omega)) ?_
 refine xd 3 .z ?_
 have k2'2 := k2'1.below (below_drew W2.drew)
 refine xb (.e [0] 1) 0 k2'2 ?_
 have hn'2 := hn'1.below (below_drew W2.drew)
 refine xb (.e [2, 3, 4] 5) 0 hn'2 ?_
 refine xbs (.o [6] 7) 1 [.int .i64 4, .int .i64 n] 112 fun b4 W4 n4 => ?_
 refine yc (.o [] 8) (args := #[.slice (some ⟨b4, 0, none⟩) 1 1]) .z (Pack_4 b4 n (by omega) (by omega) _ n4.blk) ?_
 rintro _ W5 ⟨_, rfl, hb5, p2_0, c2_0, rfl, h2_0⟩
 have hs5 := (Bl.next (Bl.next (Bl.next (u2.below n1.below g1) (below_drew W2)) (below_drew W2.drew)) n4.below).size
 refine ⟨hb5, ?_⟩
 have o6 := World.ownsRow_nil W5 w.heap.size 5 1
 have h2_0'1 := own_mono h2_0 hs5
 have hB := Bl.next (Bl.next (Bl.next (Bl.next (u2.below n1.below g1) (below_drew W2)) (below_drew W2.drew)) n4.below) hb5
 refine xbi (.r [9, 10, 11, 12, 13] 5) fun _ _ _ _ zJ zQ zo zx zy zK => op_app (m := 4) (news := (leB n 4).map bv) (.int .u8 0) 1 1 (4) ((leB n 4).map bv) zo Tryz.underlying53 (by kernel_rfl) rfl (by decide) zx o6 zy (own_sl h2_0'1) (by simp [leB_len]) (bv_one _) (by unfold maxLen; omega) (by omega) hB.size (by rfl) (by simp) fun px7 cx7 W7 o7 hg7 hb7 => ?_
 refine zK _ _ ?_
 refine xcv0 24 (fun _ _ _ zo zx => run_bstr zo zx (bys_of (own_sl o7) (by simp [leB_len])) (by simp [leB_len]) Tryz.underlying53 Tryz.underlying5 Tryz.underlying9) ?_
 have hB'1 := hB.trans hb7
 exact xe 4 (.string ⟨(leB n 4).toArray⟩) ⟨rfl, hB'1⟩
set_option maxRecDepth 100000 in
set_option maxHeartbeats 1000000 in
theorem value_Count (n : Int) (h1 : 3 ≤ n) (h2 : n ≤ 2147483647) (w : World) :
    Calls Tryz.prog 15 #[.int .i64 n] w (Ret (.string ⟨(leB n 4).toArray⟩) w) := by
 refine zin 7 Tryz.func15 ?_
 refine xc 7 (args := #[]) (value_count _) ?_
 rintro _ W1 ⟨_, rfl, hb1, gl, rfl, gg, kl⟩
 refine xbs 1 1 [.int .i64 n] 3 fun b2 W2 n2 => ?_
 have kl'1 := kl.below n2.below
 refine xr 0 (args := #[.slice (some ⟨gl, 0, none⟩) 1 1, .slice (some ⟨b2, 0, none⟩) 1 1]) (value_put_count gl b2 n h1 h2 _ kl'1 n2.blk) fun W3 hb3 => ?_
 have hB := Bl.next (Bl.next hb1 n2.below) hb3
 exact xe 4 (.string ⟨(leB n 4).toArray⟩) ⟨rfl, hB⟩
set_option maxRecDepth 100000 in
set_option maxHeartbeats 1000000 in
theorem value_slot (w : World) :
    Calls Tryz.prog 46 #[] w (RetS (fun w' r => ∃ b, r = .slice (some ⟨b, 0, none⟩) 3 3 ∧ w.heap.size ≤ b ∧ Blk w' b [.int .i64 8, .int .i64 1, .int .i64 14399, .int .i64 4, .int .i64 0, .int .i64 960, .int .i64 4, .int .i64 0, .int .i64 960] 118) w) := by
 refine zin 5 Tryz.func46 ?_
 refine xbs 10 3 [.int .i64 8, .int .i64 1, .int .i64 14399, .int .i64 4, .int .i64 0, .int .i64 960, .int .i64 4, .int .i64 0, .int .i64 960] 118 fun b1 W1 n1 => ?_
 have g1 := n1.ge (Below.refl w.heap.size _)
 exact xe 4 (.slice (some ⟨b1, 0, none⟩) 3 3) ⟨_, rfl, n1.below, _, rfl, g1, n1.blk⟩
set_option maxRecDepth 100000 in
set_option maxHeartbeats 1000000 in
theorem value_put_slot (gl gn : Nat) (n f g : Int) (h1 : 1 ≤ n) (h2 : n ≤ 14399) (h3 : 0 ≤ f) (h4 : f ≤ 960) (h5 : 0 ≤ g) (h6 : g ≤ 960) (w : World) (hl : Blk w gl [.int .i64 8, .int .i64 1, .int .i64 14399, .int .i64 4, .int .i64 0, .int .i64 960, .int .i64 4, .int .i64 0, .int .i64 960] 118) (hn : Blk w gn [.int .i64 n, .int .i64 f, .int .i64 g] 3) :
    Calls Tryz.prog 38 #[.slice (some ⟨gl, 0, none⟩) 3 3, .slice (some ⟨gn, 0, none⟩) 3 3] w (Ret (.string ⟨(leB n 8 ++ leB f 4 ++ leB g 4).toArray⟩) w) := by
 refine zin 51 Tryz.func38 ?_
 refine xu 19 4 ?_
 refine xlv 15 (hl.rpp 0 3) ?_
 refine xa 0 [.int .i64 0, .int .i64 0, .int .i64 0] 118 fun b1 W1 n1 => ?_
 have d1_gl := n1.ne hl
 refine xsv 1 n1.blk [.int .i64 8, .int .i64 1, .int .i64 14399] fun W2 u2 k2 => ?_
 have g1 := n1.ge (Below.refl w.heap.size _)
 refine xd 4 .z ?_
 have hn'1 := (u2.blkT (hn.below n1.below) n1.blk (by decide)).below (below_drew W2)
 refine xb (.e [0, 1, 2] 3) 0 hn'1 ?_
 have k2'1 := k2.below (below_drew W2)
 refine xb (.e [4] 5) 1 k2'1 ?_
 refine xgk (.b [6, 7]) [23, 24] (show (decide (n < (1 : Int)) : Bool) = false from decide_eq_false (by omega)) ?_
 refine xb (.e [8, 9, 10] 11) 0 hn'1 ?_
 refine xb (.e [12] 13) 2 k2'1 ?_
 refine xk (.r [14, 15] 2) (show (decide (n > (14399 : Int)) : Bool) = false from decide_eq_false (by omega)) ?_
 refine xd 3 .z ?_
 have k2'2 := k2'1.below (below_drew W2.drew)
 refine xb (.e [0] 1) 0 k2'2 ?_
 have hn'2 := hn'1.below (below_drew W2.drew)
 refine xb (.e [2, 3, 4] 5) 0 hn'2 ?_
 refine xbs (.o [6] 7) 1 [.int .i64 8, .int .i64 n] 112 fun b4 W4 n4 => ?_
 refine yc (.o [] 8) (args := #[.slice (some ⟨b4, 0, none⟩) 1 1]) .z (Pack_8 b4 n (by omega) _ n4.blk) ?_
 rintro _ W5 ⟨_, rfl, hb5, p2_0, c2_0, rfl, h2_0⟩
 have hs5 := (Bl.next (Bl.next (Bl.next (u2.below n1.below g1) (below_drew W2)) (below_drew W2.drew)) n4.below).size
 refine ⟨hb5, ?_⟩
 have o6 := World.ownsRow_nil W5 w.heap.size 5 1
 have h2_0'1 := own_mono h2_0 hs5
 have hB := Bl.next (Bl.next (Bl.next (Bl.next (u2.below n1.below g1) (below_drew W2)) (below_drew W2.drew)) n4.below) hb5
 refine xbi (.r [9, 10, 11, 12, 13] 5) fun _ _ _ _ zJ zQ zo zx zy zK => op_app (m := 8) (news := (leB n 8).map bv) (.int .u8 0) 1 1 (8) ((leB n 8).map bv) zo Tryz.underlying53 (by kernel_rfl) rfl (by decide) zx o6 zy (own_sl h2_0'1) (by simp [leB_len]) (bv_one _) (by unfold maxLen; omega) (by omega) hB.size (by rfl) (by simp) fun px7 cx7 W7 o7 hg7 hb7 => ?_
 refine zK _ _ ?_
 have hl'1 := (((((u2.blk (hl.below n1.below) (Ne.symm (Ne.symm d1_gl))).below (below_drew W2)).below (below_drew W2.drew)).below n4.below).below hb5).grown hg7 o6 (by decide)
 refine xlv 24 (hl'1.rpp 3 3) ?_
 refine xa 0 [.int .i64 0, .int .i64 0, .int .i64 0] 118 fun b8 W8 n8 => ?_
 have d8_gl := n8.ne hl'1
 have k2'3 := ((k2'2.below n4.below).below hb5).grown hg7 o6 (by decide)
 have d8_b1 := n8.ne k2'3
 have hB'1 := hB.trans hb7
 have g8 := n8.ge hB'1
 refine xsv 1 n8.blk [.int .i64 4, .int .i64 0, .int .i64 960] fun W9 u9 k9 => ?_
 refine xd 4 .z ?_
 have hn'3 := (u9.blkT ((((hn'2.below n4.below).below hb5).grown hg7 o6 (by decide)).below n8.below) n8.blk (by decide)).below (below_drew W9)
 refine xb (.e [0, 1, 2] 3) 1 hn'3 ?_
 have k9'1 := k9.below (below_drew W9)
 refine xb (.e [4] 5) 1 k9'1 ?_
 refine xgk (.b [6, 7]) [23, 24] (show (decide (f < (0 : Int)) : Bool) = false from decide_eq_false (by omega)) ?_
 refine xb (.e [8, 9, 10] 11) 1 hn'3 ?_
 refine xb (.e [12] 13) 2 k9'1 ?_
 refine xk (.r [14, 15] 2) (show (decide (f > (960 : Int)) : Bool) = false from decide_eq_false (by omega)) ?_
 refine xd 3 .z ?_
 have k9'2 := k9'1.below (below_drew W9.drew)
 refine xb (.e [0] 1) 0 k9'2 ?_
 have hn'4 := hn'3.below (below_drew W9.drew)
 refine xb (.e [2, 3, 4] 5) 1 hn'4 ?_
 refine xbs (.o [6] 7) 1 [.int .i64 4, .int .i64 f] 112 fun b11 W11 n11 => ?_
 have k4'1 := ((u9.blkT (((n4.blk.below hb5).grown hg7 o6 (by decide)).below n8.below) n8.blk (by decide)).below (below_drew W9)).below (below_drew W9.drew)
 have d11_b4 := n11.ne k4'1
 have hB'2 := Bl.next (Bl.next (u9.below (Bl.next hB'1 n8.below) g8) (below_drew W9)) (below_drew W9.drew)
 have g11 := n11.ge hB'2
 refine yc (.o [] 8) (args := #[.slice (some ⟨b11, 0, none⟩) 1 1]) .z (Pack_4 b11 f (by omega) (by omega) _ n11.blk) ?_
 rintro _ W12 ⟨_, rfl, hb12, p2_1, c2_1, rfl, h2_1⟩
 have hs12 := (Bl.next hB'2 n11.below).size
 refine ⟨hb12, ?_⟩
 have o7'1 := own_below (own_below (own_below (own_below (u9.own2 (own_below o7 n8.below) n8.blk (by decide)) (below_drew W9)) (below_drew W9.drew)) n11.below) hb12
 have h2_1'1 := own_mono h2_1 hs12
 have hB'3 := Bl.next (Bl.next hB'2 n11.below) hb12
 refine xbi (.r [9, 10, 11, 12, 13] 5) fun _ _ _ _ zJ zQ zo zx zy zK => op_app (m := 4) (news := (leB f 4).map bv) (.int .u8 0) 1 1 (12) ((leB n 8 ++ leB f 4).map bv) zo Tryz.underlying53 (by kernel_rfl) rfl (by decide) zx o7'1 zy (own_sl h2_1'1) (by simp [leB_len]) (bv_one _) (by unfold maxLen; omega) (by omega) hB'3.size (by rfl) (by simp) fun px13 cx13 W13 o13 hg13 hb13 => ?_
 refine zK _ _ ?_
 have hl'2 := (((((u9.blk (hl'1.below n8.below) (Ne.symm (Ne.symm d8_gl))).below (below_drew W9)).below (below_drew W9.drew)).below n11.below).below hb12).grown hg13 o7'1 (by decide)
 refine xlv 24 (hl'2.rpp 6 3) ?_
 refine xa 0 [.int .i64 0, .int .i64 0, .int .i64 0] 118 fun b14 W14 n14 => ?_
 have d14_gl := n14.ne hl'2
 have k2'4 := (((((u9.blk (k2'3.below n8.below) (Ne.symm (Ne.symm d8_b1))).below (below_drew W9)).below (below_drew W9.drew)).below n11.below).below hb12).grown hg13 o7'1 (by decide)
 have d14_b1 := n14.ne k2'4
 have k9'3 := ((k9'2.below n11.below).below hb12).grown hg13 o7'1 (by decide)
 have d14_b8 := n14.ne k9'3
 have hB'4 := hB'3.trans hb13
 have g14 := n14.ge hB'4
 refine xsv 1 n14.blk [.int .i64 4, .int .i64 0, .int .i64 960] fun W15 u15 k15 => ?_
 refine xd 4 .z ?_
 have hn'5 := (u15.blkT ((((hn'4.below n11.below).below hb12).grown hg13 o7'1 (by decide)).below n14.below) n14.blk (by decide)).below (below_drew W15)
 refine xb (.e [0, 1, 2] 3) 2 hn'5 ?_
 have k15'1 := k15.below (below_drew W15)
 refine xb (.e [4] 5) 1 k15'1 ?_
 refine xgk (.b [6, 7]) [23, 24] (show (decide (g < (0 : Int)) : Bool) = false from decide_eq_false (by omega)) ?_
 refine xb (.e [8, 9, 10] 11) 2 hn'5 ?_
 refine xb (.e [12] 13) 2 k15'1 ?_
 refine xk (.r [14, 15] 2) (show (decide (g > (960 : Int)) : Bool) = false from decide_eq_false (by omega)) ?_
 refine xd 3 .z ?_
 have k15'2 := k15'1.below (below_drew W15.drew)
 refine xb (.e [0] 1) 0 k15'2 ?_
 have hn'6 := hn'5.below (below_drew W15.drew)
 refine xb (.e [2, 3, 4] 5) 2 hn'6 ?_
 refine xbs (.o [6] 7) 1 [.int .i64 4, .int .i64 g] 112 fun b17 W17 n17 => ?_
 have k4'2 := ((u15.blkT ((((k4'1.below n11.below).below hb12).grown hg13 o7'1 (by decide)).below n14.below) n14.blk (by decide)).below (below_drew W15)).below (below_drew W15.drew)
 have d17_b4 := n17.ne k4'2
 have k11'1 := ((u15.blkT (((n11.blk.below hb12).grown hg13 o7'1 (by decide)).below n14.below) n14.blk (by decide)).below (below_drew W15)).below (below_drew W15.drew)
 have d17_b11 := n17.ne k11'1
 have hB'5 := Bl.next (Bl.next (u15.below (Bl.next hB'4 n14.below) g14) (below_drew W15)) (below_drew W15.drew)
 have g17 := n17.ge hB'5
 refine yc (.o [] 8) (args := #[.slice (some ⟨b17, 0, none⟩) 1 1]) .z (Pack_4 b17 g (by omega) (by omega) _ n17.blk) ?_
 rintro _ W18 ⟨_, rfl, hb18, p2_2, c2_2, rfl, h2_2⟩
 have hs18 := (Bl.next hB'5 n17.below).size
 refine ⟨hb18, ?_⟩
 have o13'1 := own_below (own_below (own_below (own_below (u15.own2 (own_below o13 n14.below) n14.blk (by decide)) (below_drew W15)) (below_drew W15.drew)) n17.below) hb18
 have h2_2'1 := own_mono h2_2 hs18
 have hB'6 := Bl.next (Bl.next hB'5 n17.below) hb18
 refine xbi (.r [9, 10, 11, 12, 13] 5) fun _ _ _ _ zJ zQ zo zx zy zK => op_app (m := 4) (news := (leB g 4).map bv) (.int .u8 0) 1 1 (16) ((leB n 8 ++ leB f 4 ++ leB g 4).map bv) zo Tryz.underlying53 (by kernel_rfl) rfl (by decide) zx o13'1 zy (own_sl h2_2'1) (by simp [leB_len]) (bv_one _) (by unfold maxLen; omega) (by omega) hB'6.size (by rfl) (by simp) fun px19 cx19 W19 o19 hg19 hb19 => ?_
 refine zK _ _ ?_
 refine xcv0 24 (fun _ _ _ zo zx => run_bstr zo zx (bys_of (own_sl o19) (by simp [leB_len])) (by simp [leB_len]) Tryz.underlying53 Tryz.underlying5 Tryz.underlying9) ?_
 have hB'7 := hB'6.trans hb19
 exact xe 4 (.string ⟨(leB n 8 ++ leB f 4 ++ leB g 4).toArray⟩) ⟨rfl, hB'7⟩
set_option maxRecDepth 100000 in
set_option maxHeartbeats 1000000 in
theorem value_Slot (n f g : Int) (h1 : 1 ≤ n) (h2 : n ≤ 14399) (h3 : 0 ≤ f) (h4 : f ≤ 960) (h5 : 0 ≤ g) (h6 : g ≤ 960) (w : World) :
    Calls Tryz.prog 24 #[.agg #[.int .i64 n, .int .i64 f, .int .i64 g]] w (Ret (.string ⟨(leB n 8 ++ leB f 4 ++ leB g 4).toArray⟩) w) := by
 refine zin 12 Tryz.func24 ?_
 refine xa 2 [.int .i64 n, .int .i64 f, .int .i64 g] 57 fun b1 W1 n1 => ?_
 refine xd 4 .z ?_
 have k1 := n1.blk.below (below_drew W1)
 refine xb (.e [1] 2) 0 k1 ?_
 refine xb (.e [3] 4) 1 k1 ?_
 refine xb (.e [5] 6) 2 k1 ?_
 refine xm2 0 0 7 ?_ ?_
 · refine yc 0 (args := #[]) .z (value_slot _) ?_
   rintro _ W2 ⟨_, rfl, hb2, gl, rfl, gg, kl⟩
   refine ⟨hb2, ?_⟩
   refine xbs (.o [] 7) 3 [.int .i64 n, .int .i64 f, .int .i64 g] 3 fun b3 W3 n3 => ?_
   have kl'1 := kl.below n3.below
   refine xr (.o [] 8) (args := #[.slice (some ⟨gl, 0, none⟩) 3 3, .slice (some ⟨b3, 0, none⟩) 3 3]) (value_put_slot gl b3 n f g h1 h2 h3 h4 h5 h6 _ kl'1 n3.blk) fun W4 hb4 => ?_
   have hB := Bl.next (Bl.next (Bl.next (Bl.next n1.below (below_drew W1)) hb2) n3.below) hb4
   exact xe (.r [9] 3) (.string ⟨(leB n 8 ++ leB f 4 ++ leB g 4).toArray⟩) ⟨rfl, hB⟩
 refine xbs 0 3 [.int .i64 n, .int .i64 f, .int .i64 g] 3 fun b5 W5 n5 => ?_
 refine yc (.o [] 0) (args := #[]) .z (value_slot _) ?_
 rintro _ W6 ⟨_, rfl, hb6, gl, rfl, gg, kl⟩
 refine ⟨hb6, ?_⟩
 have k5 := n5.blk.below hb6
 refine xr (.o [] 8) (args := #[.slice (some ⟨gl, 0, none⟩) 3 3, .slice (some ⟨b5, 0, none⟩) 3 3]) (value_put_slot gl b5 n f g h1 h2 h3 h4 h5 h6 _ kl k5) fun W7 hb7 => ?_
 have hB := Bl.next (Bl.next (Bl.next (Bl.next n1.below (below_drew W1)) n5.below) hb6) hb7
 exact xe (.r [9] 3) (.string ⟨(leB n 8 ++ leB f 4 ++ leB g 4).toArray⟩) ⟨rfl, hB⟩
end Go.Proofs.YthlakkdgcgkcdaaGreat
namespace Go.Proofs.YthlakkdgcgkcdaaGreat
open Go.RowKit Go.Extern.Stop Go.Stop Go.Extern
set_option linter.unusedVariables false
attribute [local irreducible] wpList wpAnyH Code.wp Oper.wp Go

section
variable {P : Program} {a : Act}
theorem shl_bd {n : Int} (h : 0 ≤ n ∧ n ≤ 3) {s : Nat} (hs : s ≤ 6) : 0 ≤ n * 2 ^ s ∧ n * 2 ^ s ≤ 192 := by
  obtain rfl | rfl | rfl | rfl : n = 0 ∨ n = 1 ∨ n = 2 ∨ n = 3 := by omega
  all_goals obtain rfl | rfl | rfl | rfl | rfl | rfl | rfl : s = 0 ∨ s = 1 ∨ s = 2 ∨ s = 3 ∨ s = 4 ∨ s = 5 ∨ s = 6 := by omega
  all_goals decide
theorem run_shlS {o : Oper} {t t2 : TypeId} {x y : Operand} {n : Int} {s : Nat} {j : Int} {kj : IntKind} (ho : o.op = .binOp .shl t x y t2) (hx : a.eval x = .int .i64 n) (hy : a.eval y = .int kj j) (hj : j = (s : Int)) (hn : 0 ≤ n ∧ n ≤ 3) (hs : s ≤ 6) (w : World) : (execOp a.eval o).run P w = .ok (.value (.int .i64 (n * 2 ^ s))) w := by
  subst hj
  have e := shift_shl .i64 kj n (s : Int) (Int.natCast_nonneg s) (by show (s : Int) ≤ 64; omega)
  rw [show ((s : Int)).toNat = s from by omega] at e
  have hb := shl_bd hn hs
  rw [IntWalk.i64_in _ (by omega)] at e
  simp only [execOp, ho, hx, hy, eqGuard_shl, binOp_shl, e]
  simp
end
section
variable {P : Program} {fn : Func} {R : Ending → World → Prop} {w : World} {s : Zs}
theorem xbot (q : Zq) {b : BinOp} {t t2 : TypeId} {u1 u2 v : Value} (hv : ∀ (a : Act) (o : Oper) (x y : Operand), o.op = .binOp b t x y t2 → a.eval x = u1 → a.eval y = u2 → ∀ V, True → (execOp a.eval o).run P V = .ok (.value v) V) (g : Go P fn R (znx (zq P q s) v) w) (h : zk (zq P q s) = some (.bn b t t2 u1 u2) := by kernel_rfl) : Go P fn R s w := by
  refine zq_sound q s ?_
  obtain ⟨o, ho, h⟩ := zop_of h
  exact zgov ho (fun V _ => by
    obtain ⟨x, y, h1, h2, h3⟩ := zkf_ok h
    exact hv _ o x y h1 h2 h3 V trivial) g
end
theorem u8_shl {n : Int} (h : 0 ≤ n ∧ n ≤ 3) {s : Nat} (hs : s ≤ 6) : IntKind.u8.wrap (n * 2 ^ s) = n * 2 ^ s := by
  have hb := shl_bd h hs
  generalize n * 2 ^ s = m at *
  simp [IntKind.wrap, IntKind.bits, IntKind.signed]; omega
theorem bitsT_at (l : List Int) (i : Nat) {k : Nat} (hk : k < 240) : (bitsT l i).getD (4 + k) 0 = g4B l i k := by
  unfold bitsT
  rw [List.getD, List.getElem?_append_right (by rw [leB_len]; omega), leB_len, Nat.add_sub_cancel_left]
  simp [hk]
theorem bits_or {l : List Int} (h : Small l) {i : Nat} (hi : i < 960) : IntKind.u8.wrap (↑(BitVec.ofInt 8 (↑((bitsT l i).getD (4 + (i / 4)) 0).toNat : Int) ||| BitVec.ofInt 8 (l.getD i 0 * 2 ^ ((i % 4) * 2))).toNat : Int) = ((g4B l (i + 1) (i / 4)).toNat : Int) := by
  rw [bitsT_at l i (by omega)]
  obtain ⟨h1, h2⟩ := g4B_at h (i := i)
  rw [h1]
  obtain ⟨n, hn⟩ : ∃ n : Nat, l.getD i 0 = n := ⟨(l.getD i 0).toNat, by have := (getI_bd h i).1; omega⟩
  have hb := getI_bd h i
  rw [hn] at hb ⊢
  generalize (g4B l i (i / 4)).toNat = o at *
  have hr : i % 4 < 4 := by omega
  generalize i % 4 = r at *
  have ho : o < 64 := Nat.lt_of_lt_of_le h2 (by obtain rfl | rfl | rfl | rfl : r = 0 ∨ r = 1 ∨ r = 2 ∨ r = 3 := by omega
                                                all_goals decide)
  have hs := or_step ⟨r, hr⟩ ⟨n, by omega⟩ ⟨o, ho⟩ h2
  simp only at hs
  have e4 : (4 : Nat) ^ r = 2 ^ (r * 2) := by rw [Nat.mul_comm, Nat.pow_mul]
  have e : ((n : Int) * 2 ^ (r * 2)) = ((n * 4 ^ r : Nat) : Int) := by rw [e4]; simp
  have e' : ((n : Int) * 4 ^ r) = ((n * 4 ^ r : Nat) : Int) := by simp
  have hm : n * 4 ^ r ≤ 192 := by
    have h3 : 4 ^ r ≤ 64 := by obtain rfl | rfl | rfl | rfl : r = 0 ∨ r = 1 ∨ r = 2 ∨ r = 3 := by omega
                               all_goals decide
    calc n * 4 ^ r ≤ 3 * 64 := Nat.mul_le_mul (by omega) h3
      _ = 192 := rfl
  rw [e, e', BitVec.ofInt_natCast, BitVec.ofInt_natCast, BitVec.toNat_or, BitVec.toNat_ofNat, BitVec.toNat_ofNat, Nat.mod_eq_of_lt (by omega), Nat.mod_eq_of_lt (by omega), hs]
  generalize n * 4 ^ r = m at *
  simp [IntKind.wrap, IntKind.bits, IntKind.signed]; omega
theorem bits_set {l : List Int} {i : Nat} (hi : i < 960) : ((bitsT l i).map bv).set (4 + (i / 4)) (.int .u8 ((g4B l (i + 1) (i / 4)).toNat : Int)) = (bitsT l (i + 1)).map bv := by
  rw [show Value.int .u8 ((g4B l (i + 1) (i / 4)).toNat : Int) = bv (g4B l (i + 1) (i / 4)) from rfl, ← List.map_set]
  congr 1
  unfold bitsT
  rw [List.set_append_right _ _ (by rw [leB_len]; omega), leB_len, Nat.add_sub_cancel_left]
  congr 1
  apply List.ext_getElem
  · simp
  · intro k h1 h2
    rw [List.getElem_set]
    split
    · rename_i e; subst e; simp
    · rename_i e; simp only [List.getElem_map, List.getElem_range]; unfold g4B; rw [g4_ne (by omega)]
set_option maxRecDepth 100000 in
theorem bits0 (l : List Int) : ((List.replicate 244 (0 : UInt8)).map bv).take 0 ++ (leB (↑l.length : Int) 4).map bv ++ ((List.replicate 244 (0 : UInt8)).map bv).drop (0 + 4) = (bitsT l 0).map bv := by
  unfold bitsT
  rw [List.map_append, List.take_zero, List.nil_append]
  congr 1
theorem BysN.elem {w : World} {b : Option Addr} {n c : Nat} {l : List UInt8} (h : Sl w (.slice b n c) n (l.map bv)) (hl : l.length = n) {k : Nat} (hk : k < n) : b.isSome = true ∧ w.cell? (elemAddr b (k * 1)) = some (.int .u8 ((l.getD k 0).toNat : Int)) := by
  subst hl; exact Bys.elem (bys_of h rfl) hk
set_option maxRecDepth 100000 in
set_option maxHeartbeats 1000000 in
theorem bits_put1 (n : Int) (w : World) (h0 : 0 ≤ n) (h3 : n ≤ 3) :
    Calls Tryz.prog 64 #[.int .i64 n] w (Ret (.bool false) w) := by
 refine zin 9 Tryz.func64 ?_
 refine xgk 10 [4, 5] (show (decide (n < (0 : Int)) : Bool) = false from decide_eq_false (by omega)) ?_
 refine xe 7 (.bool (decide (n > (3 : Int)))) ?_
 rw [show decide (n > (3 : Int)) = false from decide_eq_false (by omega)]; exact ⟨rfl, (Below.refl w.heap.size _)⟩
set_option maxRecDepth 100000 in
set_option maxHeartbeats 1000000 in
theorem indexSmall (a : Option Addr) (c : Nat) (l : List Int) (w : World) (hS : Small l) (hl : l.length ≤ 960) (h : Sl w (.slice a l.length c) l.length (l.map (Value.int .i64))) :
    Calls Tryz.prog 87 #[.slice a l.length c, .func (.func 64) #[] #[]] w (Ret (.int .i64 (-1)) w) := by
 refine zin 19 Tryz.func87 ?_
 have hB := Below.refl w.heap.size w
 refine zl 14 19 (fun zm zkv V => ∃ (i : Nat), zkv = [(0, .slice a l.length c), (1, .func (.func 64) #[] #[]), (7, .int .i64 (↑l.length : Int)), (8, .int .i64 (↑i : Int))] ∧ zm = l.length - ((↑i : Int)).toNat ∧ Below w.heap.size w V ∧ i ≤ l.length) ⟨0, rfl, rfl, hB, Nat.zero_le _⟩ ?_
 rintro _ _ W1 ⟨i, rfl, rfl, hB_1, hi⟩ J1 hJ1 r1
 refine xid 6 ((↑i : Int) < (↑l.length : Int)) (fun hc2 => ?_) (fun hc2 => ?_)
 · refine xx 15 _ l.length i 1 (Ints.elem h (k := i) (by omega)).1 ?_
   refine xl 0 ((Ints.elem (h.below hB_1) (k := i) (by omega)).2) ?_
   refine xr 0 (args := #[.int .i64 (l.getD i 0)]) (bits_put1 (l.getD i 0) _ (getI_bd hS i).1 (getI_bd hS i).2) fun W3 hb3 => ?_
   refine xwm 7 ((↑i : Int) + 1) (↑(i + 1) : Int) ?_
   have hB'1 := Bl.next hB_1 hb3
   exact ze 2 (hJ1 _ _ _ ⟨i + 1, rfl, rfl, hB'1, by omega⟩ (by omega))
 exact xe 11 (.int .i64 (-1)) ⟨rfl, hB_1⟩
set_option maxRecDepth 100000 in
set_option maxHeartbeats 1000000 in
theorem containsSmall (a : Option Addr) (c : Nat) (l : List Int) (w : World) (hS : Small l) (hl : l.length ≤ 960) (h : Sl w (.slice a l.length c) l.length (l.map (Value.int .i64))) :
    Calls Tryz.prog 63 #[.slice a l.length c, .func (.func 64) #[] #[]] w (Ret (.bool false) w) := by
 refine zin 9 Tryz.func63 ?_
 refine xr 9 (args := #[.slice a l.length c, .func (.func 64) #[] #[]]) (indexSmall a c l _ hS hl (h.below (Below.refl w.heap.size _))) fun W1 hb1 => ?_
 exact xe 5 (.bool false) ⟨rfl, hb1⟩
set_option maxRecDepth 100000 in
set_option maxHeartbeats 2000000 in
theorem bits_Free (a : Option Addr) (c : Nat) (l : List Int) (w : World) (hl : l.length ≤ 960) (h : Sl w (.slice a l.length c) l.length (l.map (Value.int .i64))) :
    Calls Tryz.prog 45 #[.slice a l.length c] w (Ret (.tuple #[.int .i64 (↑(freeN l) : Int), .int .i64 (↑(firstN l) : Int)]) w) := by
 refine zin 27 Tryz.func45 ?_
 have hB := Below.refl w.heap.size w
 refine zl 23 27 (fun zm zkv V => ∃ (i f g : Nat), zkv = [(2, .int .i64 0), (3, .int .i64 0), (4, .int .i64 (↑f : Int)), (5, .int .i64 (↑g : Int)), (10, .slice a l.length c), (11, .int .i64 (↑l.length : Int)), (12, .int .i64 (↑i : Int))] ∧ zm = l.length - ((↑i : Int)).toNat ∧ Below w.heap.size w V ∧ i ≤ l.length ∧ f = freeK l i ∧ ((f = 0 ∧ g = l.length ∧ ∀ j, j < i → l.getD j 0 ≠ 0) ∨ (0 < f ∧ g = firstN l))) ⟨0, 0, l.length, rfl, rfl, hB, Nat.zero_le _, rfl, ?_⟩ ?_
 · exact .inl ⟨rfl, rfl, fun j hj => absurd hj (by omega)⟩
 rintro _ _ W1 ⟨i, f, g, rfl, rfl, hB_1, hi, hf, hg⟩ J1 hJ1 r1
 have hfs := fun (q : i < l.length) => freeK_succ q
 have hfb := freeK_le l i
 refine xid 6 ((↑i : Int) < (↑l.length : Int)) (fun hc2 => ?_) (fun hc2 => ?_)
 · refine xx 7 _ l.length i 1 (Ints.elem h (k := i) (by omega)).1 ?_
   refine xl 0 ((Ints.elem (h.below hB_1) (k := i) (by omega)).2) ?_
   refine xin 11 (l.getD i 0) (0 : Int) (fun hc3 => ?_) (fun hc3 => ?_)
   · refine xwm 5 ((↑i : Int) + 1) (↑(i + 1) : Int) ?_
     exact ze 2 (hJ1 _ _ _ ⟨i + 1, f, g, rfl, rfl, hB_1, by omega, by rw [hfs (by omega), if_neg (by assumption)]; exact hf, hg.elim (fun ⟨h1, h2, h3⟩ => .inl ⟨h1, h2, fun j hj => (Nat.lt_or_ge j i).elim (fun q => h3 j q) (fun q => by obtain rfl : j = i := (by omega); assumption)⟩) .inr⟩ (by omega))
   refine xie 9 (↑f : Int) (0 : Int) (fun hc4 => ?_) (fun hc4 => ?_)
   · refine xwm 7 ((↑f : Int) + 1) (↑(f + 1) : Int) ?_
     refine xwm 5 ((↑i : Int) + 1) (↑(i + 1) : Int) ?_
     exact ze 2 (hJ1 _ _ _ ⟨i + 1, f + 1, i, rfl, rfl, hB_1, by omega, by rw [hfs (by omega), if_pos (by assumption), hf], .inr ⟨by omega, hg.elim (fun ⟨_, _, h3⟩ => (firstN_at (by omega) (by assumption) h3).symm) (fun q => absurd q.1 (by omega))⟩⟩ (by omega))
   refine xwm 4 ((↑f : Int) + 1) (↑(f + 1) : Int) ?_
   refine xwm 5 ((↑i : Int) + 1) (↑(i + 1) : Int) ?_
   exact ze 2 (hJ1 _ _ _ ⟨i + 1, f + 1, g, rfl, rfl, hB_1, by omega, by rw [hfs (by omega), if_pos (by assumption), hf], .inr ⟨by omega, hg.elim (fun ⟨h1, _, _⟩ => absurd h1 (by omega)) (fun q => q.2)⟩⟩ (by omega))
 refine xe 14 (.tuple #[.int .i64 (↑f : Int), .int .i64 (↑g : Int)]) ?_
 obtain rfl : i = l.length := by omega
 have hfin : f = freeN l := hf
 rcases hg with ⟨h1, h2, h3⟩ | ⟨h1, h2⟩
 · exact ⟨by rw [hfin, h2, firstN_none h3], hB_1⟩
 · exact ⟨by rw [hfin, h2], hB_1⟩
set_option maxRecDepth 100000 in
set_option maxHeartbeats 4000000 in
theorem bits_Put (a : Option Addr) (c : Nat) (l : List Int) (w : World) (hS : Small l) (hl : l.length ≤ 960) (h : Sl w (.slice a l.length c) l.length (l.map (Value.int .i64))) :
    Calls Tryz.prog 44 #[.slice a l.length c] w (RetS (fun w' r => ∃ g, r = .tuple #[.slice (some ⟨g, 0, none⟩) 244 244, .int .i64 0] ∧ w'.ownsRow w.heap.size 5 1 (.slice (some ⟨g, 0, none⟩) 244 244) 244 ((bitsB l).map bv)) w) := by
 refine zin 51 Tryz.func44 ?_
 refine xgk 13 [11, 12] (show (decide ((↑l.length : Int) > (960 : Int)) : Bool) = false from decide_eq_false (by omega)) ?_
 refine xr 1 (args := #[.slice a l.length c, .func (.func 64) #[] #[]]) (containsSmall a c l _ hS hl (h.below (Below.refl w.heap.size _))) fun W2 hb2 => ?_
 refine xbs 11 1 [.int .i64 4, .int .i64 (↑l.length : Int)] 112 fun b3 W3 n3 => ?_
 refine xc 0 (args := #[.slice (some ⟨b3, 0, none⟩) 1 1]) (Pack_4 b3 (↑l.length : Int) (by omega) (by omega) _ n3.blk) ?_
 rintro _ W4 ⟨_, rfl, hb4, p2, c2, rfl, h2⟩
 have hs4 := (Bl.next hb2 n3.below).size
 refine xmk 9 fun _ _ _ _ zJ zQ zo zx zy zK => op_make 244 (.int .u8 0) 1 1 ((List.replicate 244 (0 : UInt8)).map bv) zo zx zy Tryz.underlying53 (by kernel_rfl) rfl (by omega) (by omega) (zerosB 244) fun b5 W5 n5 => ?_
 have h2'1 := own_mono h2 hs4
 have r5_h2 := own_ne h2'1 n5
 refine zK _ _ ?_
 have o5 := own_of_blk (size := 1) (n := 244) n5.blk (n5.ge (Bl.next (Bl.next hb2 n3.below) hb4)) (by rw [List.length_map, List.length_replicate]) (by unfold maxLen; omega)
 have h2'2 := own_below h2'1 n5.below
 have hB := Bl.next (Bl.next (Bl.next hb2 n3.below) hb4) n5.below
 refine xbi 7 (t2 := 53) fun _ _ _ _ zJ zQ zo zx zy zK => op_copy (dLen := 244) (dCap := 244) (off := 0) 4 ((leB (↑l.length : Int) 4).map bv) ((bitsT l 0).map bv) zo Tryz.underlying53 (by kernel_rfl) zx zy (own_sl h2'2) o5 (by simp [leB_len]) (by omega) (by omega) (bv_one _) hB.size (bits0 l) fun W6 o6 hg6 hb6 => ?_
 refine zK _ _ ?_
 have hB'1 := hB.trans hb6
 have k3'1 := ((n3.blk.below hb4).below n5.below).grown hg6 o5 (by decide)
 refine zl 11 51 (fun zm zkv V => ∃ (i : Nat), zkv = [(2, .slice none 0 0), (3, .int .i64 0), (6, .slice (some ⟨b5, 0, none⟩) 244 244), (28, .slice a l.length c), (29, .int .i64 (↑l.length : Int)), (30, .int .i64 (↑i : Int))] ∧ zm = l.length - ((↑i : Int)).toNat ∧ Below w.heap.size w V ∧ Blk V b3 ([.int .i64 4, .int .i64 (↑l.length : Int)]) 112 ∧ V.ownsRow w.heap.size 5 1 (.slice (some ⟨b5, 0, none⟩) 244 244) 244 ((bitsT l i).map bv) ∧ i ≤ l.length) ⟨0, rfl, rfl, hB'1, k3'1, o6, Nat.zero_le _⟩ ?_
 rintro _ _ W7 ⟨i, rfl, rfl, hB_7, k7_b3, ho, hi⟩ J7 hJ7 r7
 refine xid 6 ((↑i : Int) < (↑l.length : Int)) (fun hc8 => ?_) (fun hc8 => ?_)
 · refine xx 7 _ l.length i 1 (Ints.elem h (k := i) (by omega)).1 ?_
   refine xl 0 ((Ints.elem (h.below hB_7) (k := i) (by omega)).2) ?_
   refine xd 4 (.t w.heap.size [5]) ?_
   refine xq (.e [0, 1] 2) (congrArg (Value.int .i64) (show (IntKind.i64.wrap (Int.tdiv (↑i : Int) 4) : Int) = (↑(i / 4) : Int) from quo_natB i 4 (by omega) (by decide))) ?_
   refine xwm (.e [] 3) (4 + (↑(i / 4) : Int)) (↑(4 + (i / 4)) : Int) ?_
   refine xx (.e [] 4) _ 244 (4 + (i / 4)) 1 (show (some (⟨b5, 0, none⟩ : Addr)).isSome = true from rfl) ?_
   refine xq (.e [6, 7] 8) (congrArg (Value.int .i64) (show (Int.tmod (↑i : Int) 4 : Int) = (↑(i % 4) : Int) from tmod_natB i 4)) ?_
   refine xwm (.e [] 9) ((↑(i % 4) : Int) * 2) (↑((i % 4) * 2) : Int) ?_
   refine xbot (.e [] 10) (t := 3) (t2 := 3) (fun _ _ _ _ zo zx zy V hV => run_shlS (n := (l.getD i 0)) (s := ((i % 4) * 2)) (kj := .i64) (j := (↑((i % 4) * 2) : Int)) zo zx zy rfl (getI_bd hS i) (by omega) V) ?_
   refine xq (.e [] 11) (congrArg (Value.int .u8) (show (IntKind.u8.wrap (l.getD i 0 * 2 ^ ((i % 4) * 2)) : Int) = l.getD i 0 * 2 ^ ((i % 4) * 2) from u8_shl (getI_bd hS i) (by omega))) ?_
   have ho'1 := own_below ho (below_drew W7)
   refine xl (.o [] 5) ((BysN.elem (own_sl ho'1) (bitsT_len l i) (k := (4 + (i / 4))) (by omega)).2) ?_
   refine xq (.e [] 12) (congrArg (Value.int .u8) (show (IntKind.u8.wrap (↑(BitVec.ofInt 8 (↑((bitsT l i).getD (4 + (i / 4)) 0).toNat : Int) ||| BitVec.ofInt 8 (l.getD i 0 * 2 ^ ((i % 4) * 2))).toNat : Int) : Int) = (↑(g4B l (i + 1) (i / 4)).toNat : Int) from bits_or hS (by omega))) ?_
   refine xx (.e [] 13) _ 244 (4 + (i / 4)) 1 (show (some (⟨b5, 0, none⟩ : Addr)).isSome = true from rfl) ?_
   refine yst (.o [] 14) (.t w.heap.size [5]) fun _ _ _ _ zJ zQ zo zx zy zK => op_storeRow (t := 5) (k := (4 + (i / 4))) (v := .int .u8 (↑(g4B l (i + 1) (i / 4)).toNat : Int)) zo zx zy (by kernel_rfl) rfl ho'1 (by omega) fun W9 u9 o9 => ?_
   rw [bits_set (l := l) (i := i) (by omega)] at o9
   have k7_b3'1 := k7_b3.below (below_drew W7)
   refine zK _ _ (sft_only (T := [5]) (u9.below (Below.refl _ _) (own_ge ho'1)) (Only.of_updRow u9 ho'1 (by decide))) ?_
   refine xwm 4 ((↑i : Int) + 1) (↑(i + 1) : Int) ?_
   have hB'2 := u9.below (Bl.next hB_7 (below_drew W7)) (own_ge ho'1)
   have k7_b3'2 := u9.blk k7_b3'1 (own_blk_ne k7_b3'1 ho'1 (by decide))
   exact ze 2 (hJ7 _ _ _ ⟨i + 1, rfl, rfl, hB'2, k7_b3'2, o9, by omega⟩ (by omega))
 refine xe 13 (.tuple #[.slice (some ⟨b5, 0, none⟩) 244 244, .int .i64 0]) ?_
 obtain rfl : i = l.length := by omega
 exact ⟨_, rfl, hB_7, _, rfl, ho⟩
set_option maxRecDepth 100000 in
set_option maxHeartbeats 1000000 in
theorem clone_cnt (p : Addr) (N c : Nat) (xs : List Value) (w : World) (h : Sl w (.slice (some p) N c) N xs) (hl : xs.length = N) (h1 : ∀ u ∈ xs, u.oneCell' = true) (hn : N ≤ 1000000) :
    Calls Tryz.prog 17 #[.slice (some p) N c] w (RetS (fun w' r => ∃ q c2, r = .slice q N c2 ∧ w'.ownsRow w.heap.size 3 1 (.slice q N c2) N xs) w) := by
 refine zin 8 Tryz.func17 ?_
 refine xb0 17 3 fun b1 W1 n1 => ?_
 have o1 := own_of_blk (size := 1) (n := 0) n1.blk (n1.ge (Below.refl w.heap.size _)) rfl (by decide)
 refine xbi 1 fun _ _ _ _ zJ zQ zo zx zy zK => op_app (m := N) (news := xs) (.int .i64 0) 1 8 (N) (xs) zo Tryz.underlying22 (by kernel_rfl) rfl (by decide) zx o1 zy (h.below n1.below) (by rw [hl, Nat.mul_one]) h1 (by unfold maxLen; omega) (by omega) n1.below.size (by omega) (by rfl) fun px2 cx2 W2 o2 hg2 hb2 => ?_
 refine zK _ _ ?_
 have hB'1 := n1.below.trans hb2
 exact xe 4 (.slice px2 N cx2) ⟨_, rfl, hB'1, _, _, rfl, o2⟩
end Go.Proofs.YthlakkdgcgkcdaaGreat
namespace Go.Proofs.YthlakkdgcgkcdaaGreat
open Go.RowKit Go.Extern.Stop Go.Stop Go.Extern
set_option linter.unusedVariables false
attribute [local irreducible] wpList wpAnyH Code.wp Oper.wp Go

def SplitP (l : List Int) (w : World) (e : Ending) (w' : World) : Prop :=
  (splitE l ≠ 0 ∧ e = .returned (.tuple #[.slice none 0 0, .slice none 0 0, .int .i64 2]) ∧ Below w.heap.size w w') ∨
  (splitE l = 0 ∧ ∃ pb cb gs po co, e = .returned (.tuple #[.slice pb (bmN l.length) cb, .slice po (overK l l.length).length co, .int .i64 0]) ∧ Below w.heap.size w w' ∧ Lists w' w.heap.size (.slice pb (bmN l.length) cb) gs (chunksI (smallL l) (bmN l.length)) ∧ w'.ownsRow w.heap.size 45 3 (.slice po (overK l l.length).length co) (overK l l.length).length ((overK l l.length).flatMap entC))
theorem splitE_bad {l : List Int} {i : Nat} (hl : l.length ≤ 65536) (hi : i < l.length) (h : ¬ cntOk (l.getD i 0)) : splitE l ≠ 0 := fun q => h ((splitE_ok q).2 i hi)
theorem splitE_good {l : List Int} (hl : l.length ≤ 65536) (h : ∀ k, k < l.length → cntOk (l.getD k 0)) : splitE l = 0 := by
  unfold splitE; rw [if_neg (by omega), if_pos h]
attribute [local go_sem] Oper.semAt_some
theorem g_retM {P : Program} {fn : Func} {R : Ending → World → Prop} {a : Act} {w : World} (v : Value) (hd : a.defers = []) (hr : (results fn a.tmps).run P w = .ok v w) (h : R (.returned v) w) : bodyPostM Fence.wide 4 P fn R .ret a w := by
  show LeavesInM _ _ _ _ a.tmps R a.defers .returning w
  rw [hd]
  exact ⟨v, hr, h⟩
theorem Lists.put {W U : World} {D base : Nat} {v : Value} {gs : List (Nat × Nat)} {L : List (List Int)} (h : Lists W base v gs L) (u : Upd W D U) (hK : Dfr D W) : Lists U base v gs L := ⟨u.own3 h.row (hK.row h.row), fun i hi => u.own3 (h.each i hi) (hK.row (h.each i hi))⟩
theorem mn3_if (n : Int) : (if 3 < n then 3 else n) = mn3 n := by unfold mn3; split <;> split <;> omega
/-- the chunks of a prefix of the places -/
def preC (s : List Int) {n : Nat} (pre : List (Fin n)) : List (List Int) := pre.map fun j => chunkI s j.val
theorem preC_snoc (s : List Int) {n : Nat} (pre : List (Fin n)) (x : Fin n) : preC s (pre ++ [x]) = preC s pre ++ [chunkI s x.val] := by simp [preC]
theorem preC_all (s : List Int) (n : Nat) : preC s (List.finRange n) = chunksI s n := by
  unfold preC chunksI
  apply List.ext_getElem
  · simp
  · intro i h1 h2; simp
set_option maxRecDepth 100000 in
set_option maxHeartbeats 4000000 in
theorem tally_Split (a : Option Addr) (c : Nat) (l : List Int) (w : World) (h : Sl w (.slice a l.length c) l.length (l.map (Value.int .i64))) (hl : l.length ≤ 65536) :
    Calls Tryz.prog 6 #[.slice a l.length c] w (SplitP l w) := by
  refine calls_of_marks Tryz.func6 rfl ?_
  refine g_fr ⟨#[.slice a l.length c, undef, undef, undef, undef, undef, undef, undef, undef, undef, undef, undef, undef, undef, undef, undef, undef, undef, undef, undef, undef, undef, undef, undef, undef, undef, undef, undef, undef, undef, undef, undef, undef, undef, undef, undef, undef, undef, undef, undef, undef, undef, undef, undef, undef, undef, undef, undef, undef, undef, undef, undef], []⟩ (by kernel_rfl) ?_
  refine wp_seq ?_
  refine wp_region_lit ?_
  refine g_pv 3 [(2, .slice none 0 0), (3, .slice none 0 0), (4, .int .i64 0)] (by kernel_rfl) ?_
  refine wpList_nil ?_
  refine wp_seq ?_
  refine wp_seq ?_
  refine wp_region_lit ?_
  refine g_pv 3 [(11, .slice a l.length c), (12, .int .i64 (↑l.length : Int)), (13, .bool (decide ((↑l.length : Int) > (65536 : Int))))] (by kernel_rfl) ?_
  refine wpList_nil ?_
  refine wp_cond_split (t := decide ((↑l.length : Int) > (65536 : Int))) (by kernel_rfl) (fun hh => absurd (hh.symm.trans (show (decide ((↑l.length : Int) > (65536 : Int)) : Bool) = false from decide_eq_false (by omega))) (by decide)) (fun _ => ?_)
  refine wp_skip ?_
  refine wp_seq ?_
  refine wp_region_lit ?_
  refine g_pv 1 [(5, .slice none 0 0)] (by kernel_rfl) ?_
  refine wpList_nil ?_
  refine wp_seq ?_
  refine wp_region_lit ?_
  refine g_pv 1 [(6, .slice none 0 0)] (by kernel_rfl) ?_
  refine wpList_nil ?_
  refine wp_seq ?_
  refine wp_seq ?_
  refine wp_region_lit ?_
  refine g_pv 3 [(14, .slice a l.length c), (15, .int .i64 (↑l.length : Int)), (16, .int .i64 0)] (by kernel_rfl) ?_
  refine wpList_nil ?_
  refine wp_block ?_
  refine g_fr ⟨#[.slice a l.length c, undef, .slice none 0 0, .slice none 0 0, .int .i64 0, .slice none 0 0, .slice none 0 0, undef, undef, undef, undef, .slice a l.length c, .int .i64 (↑l.length : Int), .bool (decide ((↑l.length : Int) > (65536 : Int))), .slice a l.length c, .int .i64 (↑l.length : Int), .int .i64 0, undef, undef, undef, undef, undef, undef, undef, undef, undef, undef, undef, undef, undef, undef, undef, undef, undef, undef, undef, undef, undef, undef, undef, undef, undef, undef, undef, undef, undef, undef, undef, undef, undef, undef, undef], []⟩ (by kernel_rfl) ?_
  have hB := Below.refl w.heap.size w
  refine wp_loop (fun act V => ∃ (i : Nat) (ps : Option Addr) (cs : Nat) (po : Option Addr) (co : Nat) (x2 : Nat → Value), act = ⟨#[.slice a l.length c, undef, (x2 0), (x2 1), (x2 2), .slice ps i cs, .slice po ((overK l i).length) co, (x2 3), (x2 4), undef, undef, .slice a l.length c, .int .i64 (↑l.length : Int), .bool (decide ((↑l.length : Int) > (65536 : Int))), .slice a l.length c, .int .i64 (↑l.length : Int), .int .i64 (↑i : Int), (x2 5), (x2 6), (x2 7), (x2 8), (x2 9), (x2 10), (x2 11), (x2 12), (x2 13), (x2 14), (x2 15), (x2 16), (x2 17), (x2 18), (x2 19), (x2 20), (x2 21), (x2 22), (x2 23), (x2 24), (x2 25), (x2 26), (x2 27), (x2 28), (x2 29), undef, undef, undef, undef, undef, undef, undef, undef, undef, undef], []⟩ ∧ Below w.heap.size w V ∧ V.ownsRow w.heap.size 3 1 (.slice ps i cs) i ((smallL (l.take i)).map (Value.int .i64)) ∧ V.ownsRow w.heap.size 45 3 (.slice po (overK l i).length co) (overK l i).length ((overK l i).flatMap entC) ∧ i ≤ l.length ∧ ((∀ j, j < i → cntOk (l.getD j 0)))) (fun act V => l.length - ((intOf (act.tmps.getD 16 undef))).toNat) ⟨0, none, 0, none, 0, (pk [.slice none 0 0, .slice none 0 0, .int .i64 0, undef, undef, undef, undef, undef, undef, undef, undef, undef, undef, undef, undef, undef, undef, undef, undef, undef, undef, undef, undef, undef, undef, undef, undef, undef, undef, undef]), rfl, hB, World.ownsRow_nil _ _ _ _, World.ownsRow_nil _ _ _ _, Nat.zero_le _, ?_⟩ ?_
  · exact fun j hj => absurd hj (by omega)
  rintro _ W2 ⟨i, ps, cs, po, co, x2, rfl, hB, hs, ho, hi, hz⟩
  refine wp_seq ?_
  refine wp_region_lit ?_
  refine g_pv 1 [(17, .bool (decide ((↑i : Int) < (↑l.length : Int))))] (by kernel_rfl) ?_
  refine wpList_nil ?_
  refine wp_seq ?_
  refine wp_cond_split (t := decide ((↑i : Int) < (↑l.length : Int))) (by kernel_rfl) (fun hc3 => ?_) (fun hc3 => ?_)
  · have hc3 := of_decide_eq_true hc3
    refine wp_skip ?_
    refine wp_seq ?_
    refine wp_block ?_
    refine wp_seq ?_
    refine wp_region_lit ?_
    refine g_pv 1 [(18, .int .i64 (↑i : Int))] (by kernel_rfl) ?_
    refine g_op (by kernel_rfl) (op_val (run_indexA (size := 1) (k := i) (b := a) (n := l.length) (c := c) (i := (↑i : Int)) (ki := .i64) rfl (by kernel_rfl) (by kernel_rfl) rfl (by omega) (Ints.elem h (k := i) (by omega)).1 Tryz.underlying22 (by kernel_rfl) W2) ?_)
    refine g_op (by kernel_rfl) (op_load (elemAddr a (i * 1)) (.int .i64 (l.getD i 0)) rfl (by kernel_rfl) (by kernel_rfl) (Ints.elem (h.below hB) (k := i) (by omega)).2 ?_)
    refine g_pv 2 [(7, .int .i64 (↑i : Int)), (8, .int .i64 (l.getD i 0))] (by kernel_rfl) ?_
    refine wpList_nil ?_
    refine wp_seq ?_
    refine wp_seq ?_
    refine wp_region_lit ?_
    refine g_pv 3 [(21, .int .i64 (l.getD i 0)), (22, .bool (decide ((l.getD i 0) < (0 : Int)))), (23, .bool (decide ((l.getD i 0) < (0 : Int))))] (by kernel_rfl) ?_
    rcases Bool.eq_false_or_eq_true (decide ((l.getD i 0) < (0 : Int))) with hc4 | hc4
    · refine g_b [22, 23] _ _ hc4 (by kernel_rfl) ?_
      have hc4 := of_decide_eq_true hc4
      refine g_pv 3 [(24, undef), (25, undef), (26, .bool true)] (by kernel_rfl) ?_
      refine wpList_nil ?_
      refine wp_cond_true (by kernel_rfl) ?_
      refine wp_seq ?_
      refine wp_region_lit ?_
      refine g_pv 3 [(2, .slice none 0 0), (3, .slice none 0 0), (4, .int .i64 2)] (by kernel_rfl) ?_
      refine wpList_nil ?_
      refine wp_ret (then_ret (inBlock_ret (then_ret (then_ret (inBlock_ret (then_ret ?_))))))
      exact g_retM (.tuple #[.slice none 0 0, .slice none 0 0, .int .i64 2]) (by kernel_rfl) (by kernel_rfl) (.inl ⟨splitE_bad (i := i) hl (by omega) (fun q => by unfold cntOk at q; omega), rfl, hB⟩)
    · refine g_b [22, 23] _ _ hc4 (by kernel_rfl) ?_
      have hc4 := of_decide_eq_false hc4
      refine g_pv 3 [(24, .int .i64 (l.getD i 0)), (25, .bool (decide ((l.getD i 0) > (2147483647 : Int)))), (26, .bool (decide ((l.getD i 0) > (2147483647 : Int))))] (by kernel_rfl) ?_
      refine wpList_nil ?_
      refine wp_cond_split (t := decide ((l.getD i 0) > (2147483647 : Int))) (by kernel_rfl) (fun hc5 => ?_) (fun hc5 => ?_)
      · have hc5 := of_decide_eq_true hc5
        refine wp_seq ?_
        refine wp_region_lit ?_
        refine g_pv 3 [(2, .slice none 0 0), (3, .slice none 0 0), (4, .int .i64 2)] (by kernel_rfl) ?_
        refine wpList_nil ?_
        refine wp_ret (then_ret (inBlock_ret (then_ret (then_ret (inBlock_ret (then_ret ?_))))))
        exact g_retM (.tuple #[.slice none 0 0, .slice none 0 0, .int .i64 2]) (by kernel_rfl) (by kernel_rfl) (.inl ⟨splitE_bad (i := i) hl (by omega) (fun q => by unfold cntOk at q; omega), rfl, hB⟩)
      · have hc5 := of_decide_eq_false hc5
        refine wp_skip ?_
        refine wp_seq ?_
        refine wp_region_lit ?_
        refine g_pv 3 [(27, .slice ps i cs), (28, .int .i64 (l.getD i 0)), (29, .int .i64 (if (3 : Int) < (l.getD i 0) then (3 : Int) else (l.getD i 0)))] (by kernel_rfl) ?_
        refine g_op (by kernel_rfl) (op_buildSlice 3 [.int .i64 (if (3 : Int) < (l.getD i 0) then (3 : Int) else (l.getD i 0))] rfl (by kernel_rfl) ?_)
        intro b6 W6 n6
        have g6 := n6.ge hB
        have r6_hs := own_ne hs n6
        replace hB := Bl.next hB n6.below
        replace hs := own_below hs n6.below
        replace ho := own_below ho n6.below
        have k6 := n6.blk
        refine g_op (by kernel_rfl) (op_app (e := 3) (n := i) (xs := (smallL (l.take i)).map (Value.int .i64)) (m := 1) (news := [.int .i64 (if (3 : Int) < (l.getD i 0) then (3 : Int) else (l.getD i 0))]) (.int .i64 0) 1 8 (i + 1) ((smallL (l.take (i + 1))).map (Value.int .i64)) rfl Tryz.underlying22 (by kernel_rfl) rfl (by decide) (by kernel_rfl) hs (by kernel_rfl) (k6.sl 1 1 (by decide) (by decide)) rfl (by simp [Value.oneCell']) (by unfold maxLen; omega) (by omega) hB.size (by rfl) (by rw [mn3_if, small_snoc (by omega), List.map_append]; rfl) ?_)
        intro p7 c7 W7 o7 hg7 hb7
        replace ho := own_grown ho hg7 hs (by decide)
        replace hB := hB.trans hb7
        refine g_pv 1 [(5, .slice p7 (i + 1) c7)] (by kernel_rfl) ?_
        refine wpList_nil ?_
        refine wp_seq ?_
        refine wp_region_lit ?_
        refine g_pv 2 [(32, .int .i64 (l.getD i 0)), (33, .bool (decide ((l.getD i 0) ≥ (3 : Int))))] (by kernel_rfl) ?_
        refine wpList_nil ?_
        refine wp_cond_split (t := decide ((l.getD i 0) ≥ (3 : Int))) (by kernel_rfl) (fun hc8 => ?_) (fun hc8 => ?_)
        · have hc8 := of_decide_eq_true hc8
          refine wp_region_lit ?_
          refine g_pv 3 [(34, .slice po ((overK l i).length) co), (35, .int .i64 (↑i : Int)), (36, .int .i64 (l.getD i 0))] (by kernel_rfl) ?_
          refine g_op (by kernel_rfl) (op_call (lb := #[]) 15 #[.int .i64 (l.getD i 0)] rfl (by kernel_rfl) (fun _ _ => by kernel_rfl) (by kernel_rfl) ((value_Count (l.getD i 0) (by omega) (by omega) _).mono ?_))
          rintro e W9 ⟨rfl, hb9⟩
          refine ⟨_, rfl, ?_⟩
          replace hB := Bl.next hB hb9
          replace ho := own_below ho hb9
          replace o7 := own_below o7 hb9
          refine g_pv 1 [(38, .agg #[.int .i64 (↑i : Int), .string ⟨(leB (l.getD i 0) 4).toArray⟩, .int .i64 0])] (by kernel_rfl) ?_
          refine g_op (by kernel_rfl) (op_buildSlice 45 [.int .i64 (↑i : Int), .string ⟨(leB (l.getD i 0) 4).toArray⟩, .int .i64 0] rfl (by kernel_rfl) ?_)
          intro b10 W10 n10
          have g10 := n10.ge hB
          have r10_ho := own_ne ho n10
          replace hB := Bl.next hB n10.below
          replace ho := own_below ho n10.below
          replace o7 := own_below o7 n10.below
          have k10 := n10.blk
          refine g_op (by kernel_rfl) (op_app (e := 45) (n := (overK l i).length) (xs := (overK l i).flatMap entC) (m := 1) (news := [.int .i64 (↑i : Int), .string ⟨(leB (l.getD i 0) 4).toArray⟩, .int .i64 0]) (.agg #[.int .i64 0, .string ⟨#[]⟩, .int .i64 0]) 3 32 ((overK l (i + 1)).length) ((overK l (i + 1)).flatMap entC) rfl Tryz.underlying25 (by kernel_rfl) rfl (by decide) (by kernel_rfl) ho (by kernel_rfl) (k10.sl 1 1 (by decide) (by decide)) rfl (by simp [Value.oneCell']) (by have := overK_len l i; unfold maxLen; omega) (by have := overK_len l i; omega) hB.size (by rw [overK_yes (by omega)]; simp) (by rw [overK_yes (by omega)]; simp [entC]) ?_)
          intro p11 c11 W11 o11 hg11 hb11
          replace o7 := own_grown o7 hg11 ho (by decide)
          replace hB := hB.trans hb11
          refine g_pv 1 [(6, .slice p11 ((overK l (i + 1)).length) c11)] (by kernel_rfl) ?_
          refine wpList_nil ?_
          refine wp_region_lit ?_
          refine g_op (by kernel_rfl) (op_wrap .i64 ((↑i : Int) + 1) (↑(i + 1) : Int) (by kernel_rfl) ((show IntKind.i64.wrap ((↑i : Int) + 1) = ((↑i : Int) + 1) from by first | exact IntWalk.i64_in _ (by omega) | (simp only [IntKind.wrap]; omega)).trans (by omega)) ?_)
          refine g_pv 1 [(16, .int .i64 (↑(i + 1) : Int))] (by kernel_rfl) ?_
          refine wpList_nil ?_
          refine g_nfr ⟨#[.slice a l.length c, undef, (x2 0), (x2 1), (x2 2), .slice p7 (i + 1) c7, .slice p11 ((overK l (i + 1)).length) c11, .int .i64 (↑i : Int), .int .i64 (l.getD i 0), undef, undef, .slice a l.length c, .int .i64 (↑l.length : Int), .bool (decide ((↑l.length : Int) > (65536 : Int))), .slice a l.length c, .int .i64 (↑l.length : Int), .int .i64 (↑(i + 1) : Int), .bool (decide ((↑i : Int) < (↑l.length : Int))), .int .i64 (↑i : Int), .pointer (some (elemAddr a (i * 1))), .int .i64 (l.getD i 0), .int .i64 (l.getD i 0), .bool false, .bool false, .int .i64 (l.getD i 0), .bool (decide ((l.getD i 0) > (2147483647 : Int))), .bool (decide ((l.getD i 0) > (2147483647 : Int))), .slice ps i cs, .int .i64 (l.getD i 0), .int .i64 (if (3 : Int) < (l.getD i 0) then (3 : Int) else (l.getD i 0)), .slice (some ⟨b6, 0, none⟩) 1 1, .slice p7 (i + 1) c7, .int .i64 (l.getD i 0), .bool (decide ((l.getD i 0) ≥ (3 : Int))), .slice po ((overK l i).length) co, .int .i64 (↑i : Int), .int .i64 (l.getD i 0), .string ⟨(leB (l.getD i 0) 4).toArray⟩, .agg #[.int .i64 (↑i : Int), .string ⟨(leB (l.getD i 0) 4).toArray⟩, .int .i64 0], .slice (some ⟨b10, 0, none⟩) 1 1, .slice p11 ((overK l (i + 1)).length) c11, .int .i64 (↑(i + 1) : Int), undef, undef, undef, undef, undef, undef, undef, undef, undef, undef], []⟩ (by kernel_rfl) ?_
          refine ⟨⟨i + 1, _, _, _, _, (pk [(x2 0), (x2 1), (x2 2), .int .i64 (↑i : Int), .int .i64 (l.getD i 0), .bool (decide ((↑i : Int) < (↑l.length : Int))), .int .i64 (↑i : Int), .pointer (some (elemAddr a (i * 1))), .int .i64 (l.getD i 0), .int .i64 (l.getD i 0), .bool false, .bool false, .int .i64 (l.getD i 0), .bool (decide ((l.getD i 0) > (2147483647 : Int))), .bool (decide ((l.getD i 0) > (2147483647 : Int))), .slice ps i cs, .int .i64 (l.getD i 0), .int .i64 (if (3 : Int) < (l.getD i 0) then (3 : Int) else (l.getD i 0)), .slice (some ⟨b6, 0, none⟩) 1 1, .slice p7 (i + 1) c7, .int .i64 (l.getD i 0), .bool (decide ((l.getD i 0) ≥ (3 : Int))), .slice po ((overK l i).length) co, .int .i64 (↑i : Int), .int .i64 (l.getD i 0), .string ⟨(leB (l.getD i 0) 4).toArray⟩, .agg #[.int .i64 (↑i : Int), .string ⟨(leB (l.getD i 0) 4).toArray⟩, .int .i64 0], .slice (some ⟨b10, 0, none⟩) 1 1, .slice p11 ((overK l (i + 1)).length) c11, .int .i64 (↑(i + 1) : Int)]), rfl, hB, o7, o11, by omega, fun j hj => (Nat.lt_or_ge j i).elim (hz j) (fun q => by obtain rfl : j = i := (by omega); exact ⟨by omega, by omega⟩)⟩, ?_⟩
          show l.length - ((↑(i + 1) : Int)).toNat < l.length - ((↑i : Int)).toNat
          omega
        · have hc8 := of_decide_eq_false hc8
          refine wp_skip ?_
          refine wp_region_lit ?_
          refine g_op (by kernel_rfl) (op_wrap .i64 ((↑i : Int) + 1) (↑(i + 1) : Int) (by kernel_rfl) ((show IntKind.i64.wrap ((↑i : Int) + 1) = ((↑i : Int) + 1) from by first | exact IntWalk.i64_in _ (by omega) | (simp only [IntKind.wrap]; omega)).trans (by omega)) ?_)
          refine g_pv 1 [(16, .int .i64 (↑(i + 1) : Int))] (by kernel_rfl) ?_
          refine wpList_nil ?_
          refine g_nfr ⟨#[.slice a l.length c, undef, (x2 0), (x2 1), (x2 2), .slice p7 (i + 1) c7, .slice po ((overK l i).length) co, .int .i64 (↑i : Int), .int .i64 (l.getD i 0), undef, undef, .slice a l.length c, .int .i64 (↑l.length : Int), .bool (decide ((↑l.length : Int) > (65536 : Int))), .slice a l.length c, .int .i64 (↑l.length : Int), .int .i64 (↑(i + 1) : Int), .bool (decide ((↑i : Int) < (↑l.length : Int))), .int .i64 (↑i : Int), .pointer (some (elemAddr a (i * 1))), .int .i64 (l.getD i 0), .int .i64 (l.getD i 0), .bool false, .bool false, .int .i64 (l.getD i 0), .bool (decide ((l.getD i 0) > (2147483647 : Int))), .bool (decide ((l.getD i 0) > (2147483647 : Int))), .slice ps i cs, .int .i64 (l.getD i 0), .int .i64 (if (3 : Int) < (l.getD i 0) then (3 : Int) else (l.getD i 0)), .slice (some ⟨b6, 0, none⟩) 1 1, .slice p7 (i + 1) c7, .int .i64 (l.getD i 0), .bool (decide ((l.getD i 0) ≥ (3 : Int))), (x2 22), (x2 23), (x2 24), (x2 25), (x2 26), (x2 27), (x2 28), .int .i64 (↑(i + 1) : Int), undef, undef, undef, undef, undef, undef, undef, undef, undef, undef], []⟩ (by kernel_rfl) ?_
          refine g_nfr ⟨#[.slice a l.length c, undef, (x2 0), (x2 1), (x2 2), .slice p7 (i + 1) c7, .slice po ((overK l (i + 1)).length) co, .int .i64 (↑i : Int), .int .i64 (l.getD i 0), undef, undef, .slice a l.length c, .int .i64 (↑l.length : Int), .bool (decide ((↑l.length : Int) > (65536 : Int))), .slice a l.length c, .int .i64 (↑l.length : Int), .int .i64 (↑(i + 1) : Int), .bool (decide ((↑i : Int) < (↑l.length : Int))), .int .i64 (↑i : Int), .pointer (some (elemAddr a (i * 1))), .int .i64 (l.getD i 0), .int .i64 (l.getD i 0), .bool false, .bool false, .int .i64 (l.getD i 0), .bool (decide ((l.getD i 0) > (2147483647 : Int))), .bool (decide ((l.getD i 0) > (2147483647 : Int))), .slice ps i cs, .int .i64 (l.getD i 0), .int .i64 (if (3 : Int) < (l.getD i 0) then (3 : Int) else (l.getD i 0)), .slice (some ⟨b6, 0, none⟩) 1 1, .slice p7 (i + 1) c7, .int .i64 (l.getD i 0), .bool (decide ((l.getD i 0) ≥ (3 : Int))), (x2 22), (x2 23), (x2 24), (x2 25), (x2 26), (x2 27), (x2 28), .int .i64 (↑(i + 1) : Int), undef, undef, undef, undef, undef, undef, undef, undef, undef, undef], []⟩ (by rw [overK_no (by omega)]) ?_
          refine ⟨⟨i + 1, _, _, _, _, (pk [(x2 0), (x2 1), (x2 2), .int .i64 (↑i : Int), .int .i64 (l.getD i 0), .bool (decide ((↑i : Int) < (↑l.length : Int))), .int .i64 (↑i : Int), .pointer (some (elemAddr a (i * 1))), .int .i64 (l.getD i 0), .int .i64 (l.getD i 0), .bool false, .bool false, .int .i64 (l.getD i 0), .bool (decide ((l.getD i 0) > (2147483647 : Int))), .bool (decide ((l.getD i 0) > (2147483647 : Int))), .slice ps i cs, .int .i64 (l.getD i 0), .int .i64 (if (3 : Int) < (l.getD i 0) then (3 : Int) else (l.getD i 0)), .slice (some ⟨b6, 0, none⟩) 1 1, .slice p7 (i + 1) c7, .int .i64 (l.getD i 0), .bool (decide ((l.getD i 0) ≥ (3 : Int))), (x2 22), (x2 23), (x2 24), (x2 25), (x2 26), (x2 27), (x2 28), .int .i64 (↑(i + 1) : Int)]), rfl, hB, o7, (by rw [overK_no (by omega)]; exact ho), by omega, fun j hj => (Nat.lt_or_ge j i).elim (hz j) (fun q => by obtain rfl : j = i := (by omega); exact ⟨by omega, by omega⟩)⟩, ?_⟩
          show l.length - ((↑(i + 1) : Int)).toNat < l.length - ((↑i : Int)).toNat
          omega
  · have hc3 := of_decide_eq_false hc3
    refine wp_exit ?_
    refine then_exit ?_
    refine then_exit ?_
    refine inBlock_hit ?_
    refine wp_seq ?_
    refine wp_region_lit ?_
    refine g_op (by kernel_rfl) (op_alloc [.slice none 0 0] rfl (by kernel_rfl) ?_)
    intro b12 W12 n12
    have g12 := n12.ge hB
    replace hB := Bl.next hB n12.below
    replace hs := own_below hs n12.below
    replace ho := own_below ho n12.below
    have k12 := n12.blk
    refine wpList_nil ?_
    refine wp_seq ?_
    refine wp_seq ?_
    refine wp_region_lit ?_
    refine g_pv 1 [(42, .slice ps i cs)] (by kernel_rfl) ?_
    refine g_op (by kernel_rfl) (op_call (lb := #[]) 16 #[.slice ps i cs, .int .i64 960] rfl (by kernel_rfl) (fun _ _ => by kernel_rfl) (by kernel_rfl) ((slices_Chunk ps i cs _).mono ?_))
    rintro e W13 ⟨b1, b2, rfl, hb13, ga1, ga2, gn12, kkb1, kkb2⟩
    refine ⟨_, rfl, ?_⟩
    replace hB := Bl.next hB hb13
    replace k12 := k12.below hb13
    replace hs := own_below hs hb13
    replace ho := own_below ho hb13
    refine wpList_nil ?_
    refine wp_block ?_
    have hin : i = l.length := by omega
    obtain ⟨g, hv⟩ := row_or hs
    have hst := chunk_stops b1 b2 (fun b => b < W13.heap.size ∧ b ≠ b12) g 0 i cs (.slice ps i cs) W13 (fun b h => h.1) ⟨kkb1.lt, (by rintro rfl; exact absurd (kkb1.ty k12) (by decide))⟩ ⟨kkb2.lt, (by rintro rfl; exact absurd (kkb2.ty k12) (by decide))⟩ (by omega) hv (kkb1.cell (i := 0) rfl) (kkb2.cell (i := 0) rfl)
    refine g_fr ⟨#[.slice a l.length c, undef, (x2 0), (x2 1), (x2 2), .slice ps i cs, .slice po ((overK l i).length) co, (x2 3), (x2 4), .pointer (some ⟨b12, 0, none⟩), undef, .slice a l.length c, .int .i64 (↑l.length : Int), .bool (decide ((↑l.length : Int) > (65536 : Int))), .slice a l.length c, .int .i64 (↑l.length : Int), .int .i64 (↑i : Int), .bool (decide ((↑i : Int) < (↑l.length : Int))), (x2 6), (x2 7), (x2 8), (x2 9), (x2 10), (x2 11), (x2 12), (x2 13), (x2 14), (x2 15), (x2 16), (x2 17), (x2 18), (x2 19), (x2 20), (x2 21), (x2 22), (x2 23), (x2 24), (x2 25), (x2 26), (x2 27), (x2 28), (x2 29), .slice ps i cs, .func (.func 40) #[] #[.pointer (some ⟨b1, 0, none⟩), .pointer (some ⟨b2, 0, none⟩)], undef, undef, undef, undef, undef, undef, undef, undef], []⟩ (by kernel_rfl) ?_
    refine wp_range (g := .tmp 43) (gf := 40) (lb := #[.pointer (some ⟨b1, 0, none⟩), .pointer (some ⟨b2, 0, none⟩)]) rfl (enters_of Tryz.func40 (by kernel_rfl) rfl) _ (fun b h => h.1) hst (fun _ => rfl)
      (fun pre W => (∃ pb cb gs, gs.length = pre.length ∧ Blk W b12 [.slice pb (preC (smallL (l.take i)) pre).length cb] 24 ∧ Lists W W13.heap.size (.slice pb (preC (smallL (l.take i)) pre).length cb) gs (preC (smallL (l.take i)) pre)) ∧ BelowBut W13 b12 W)
      (fun _ _ _ => False) ?own (fun _ _ _ _ _ h _ _ => h) ⟨⟨none, 0, [], rfl, k12, ⟨World.ownsRow_nil _ _ _ _, fun i hi => absurd hi (Nat.not_lt_zero _)⟩⟩, (Below.refl _ _).but _⟩
      (fun x a' _ => a' = { tmps := #[.slice a l.length c, undef, (x2 0), (x2 1), (x2 2), .slice ps i cs, .slice po ((overK l i).length) co, (x2 3), (x2 4), .pointer (some ⟨b12, 0, none⟩), .slice (some ⟨g, 0 + x.val * 960, none⟩) (min 960 (i - x.val * 960)) (min 960 (i - x.val * 960)), .slice a l.length c, .int .i64 (↑l.length : Int), .bool (decide ((↑l.length : Int) > (65536 : Int))), .slice a l.length c, .int .i64 (↑l.length : Int), .int .i64 (↑i : Int), .bool (decide ((↑i : Int) < (↑l.length : Int))), (x2 6), (x2 7), (x2 8), (x2 9), (x2 10), (x2 11), (x2 12), (x2 13), (x2 14), (x2 15), (x2 16), (x2 17), (x2 18), (x2 19), (x2 20), (x2 21), (x2 22), (x2 23), (x2 24), (x2 25), (x2 26), (x2 27), (x2 28), (x2 29), .slice ps i cs, .func (.func 40) #[] #[.pointer (some ⟨b1, 0, none⟩), .pointer (some ⟨b2, 0, none⟩)], .slice (some ⟨g, 0 + x.val * 960, none⟩) (min 960 (i - x.val * 960)) (min 960 (i - x.val * 960)), undef, undef, undef, undef, undef, undef, undef], defers := [] }) (fun _ _ _ _ _ _ h _ _ => h) ?assign ?body ?done (fun _ _ _ _ _ _ h _ => h.elim)
    case own => exact OwnFrom.and (Own.from (fun s A B row hs hg hr => by obtain ⟨pb, cb, gs, h0, h1, h2⟩ := hs; exact ⟨pb, cb, gs, h0, h1.turn hg hr, h2.turn hg hr⟩) _) (ownFrom_but (Nat.le_refl _))
    case assign =>
      rintro lr pre x W K hI hK
      unfold encK
      gi_wp2
      refine hK _ _ (KeepsFrom.refl _ _) (Keeps.refl _ _) hI ?_
      simp only [hin, Nat.zero_add, decide_eq_false (show ¬ ((l.length : Int) > 65536) by omega), Int.lt_irrefl, decide_false]
    case body =>
      rintro lr pre x a' W hlr ⟨⟨pb, cb, gs, hgl, m9, hL⟩, hbb⟩ rfl hlt
      have hx := bmN_lt x.isLt
      have hvs := hv.resolve_left (fun q => by omega)
      have hsW := hbb.own2 hs k12 (by decide)
      rw [hvs.1] at hsW
      obtain ⟨m, hm⟩ : ∃ m, min 960 (i - x.val * 960) = m := ⟨_, rfl⟩
      rw [hm]
      have hm0 : 0 < m := by omega
      have hmk : x.val * 960 + m ≤ i := by omega
      have hsl : (smallL (l.take i)).length = i := by simp [smallL]; omega
      have hcl : (chunkI (smallL (l.take i)) x.val).length = m := by rw [chunkI_len, hsl]; exact hm
      have hpt : (((smallL (l.take i)).map (Value.int .i64)).drop (x.val * 960)).take m = (chunkI (smallL (l.take i)) x.val).map (Value.int .i64) := by rw [← List.map_drop, ← List.map_take]; unfold chunkI; rw [show ((smallL (l.take i)).drop (x.val * 960)).take m = ((smallL (l.take i)).drop (x.val * 960)).take 960 from by rw [List.take_eq_take_iff, List.length_drop, hsl]; omega]
      have hpl : (preC (smallL (l.take i)) pre).length = pre.length := by simp [preC]
      have hbl : pre.length ≤ 69 := by have : bmN i ≤ 69 := (by unfold bmN; omega); omega
      have hrw := hL.row
      have hE : Each W W13.heap.size gs (preC (smallL (l.take i)) pre) := hL.each
      have hZ : RdZ W13 b12 W W := RdZ.refl hbb
      have hW1 : W13.heap.size ≤ W.heap.size := hbb.size
      have hBW : w.heap.size ≤ W13.heap.size := hB.size
      have hb9 := g12
      refine wpIn_block ?_
      have hB := Bl.nextB (Below.refl w.heap.size W) (Nat.le_trans hBW hW1) (below_drew W)
      replace m9 := m9.below (below_drew W)
      replace hsW := own_below hsW (below_drew W)
      replace hrw := own_below hrw (below_drew W)
      replace hE := hE.below (below_drew W)
      replace hZ := hZ.below (below_drew W)
      refine h_regIn (fun V => Below w.heap.size (W.drew) V ∧ Only [24, 22] (W.drew) V) 6 rfl #[false, false, false, false, false, false] rfl (by kernel_rfl) (fun ⟨_, _, q⟩ => q) (by simp) ⟨Below.refl _ _, Only.refl _ _⟩ ?_
      intro hS14
      have hBd16 := hB
      have kd16_b12 := m9
      have fd_hrw := hrw
      refine h_pv [1] 5 rfl #[false, true, false, false, false, false] [(46, .slice (some ⟨g, 0 + x.val * 960, none⟩) m m)] (by kernel_rfl) (fun _ _ _ _ _ h => h) (by kernel_rfl) hS14 ?_
      refine h_two 0 2 4 rfl (by kernel_rfl) rfl rfl (by kernel_rfl) (by kernel_rfl) ?_ ?_
      · refine op_load ⟨b12, 0, none⟩ (.slice pb ((preC (smallL (l.take i)) pre).length) cb) rfl (by kernel_rfl) (by kernel_rfl) (m9.cell (i := 0) rfl) ?_
        have hS17 : Below w.heap.size (W.drew) (W.drew) ∧ Only [24, 22] (W.drew) (W.drew) := hS14
        refine ⟨hS17, ?_⟩
        have hs18 : W.heap.size ≤ (W.drew).heap.size := hB.size
        refine h_one 2 3 rfl (by kernel_rfl) rfl (by kernel_rfl) (op_call (lb := #[]) 17 #[.slice (some ⟨g, 0 + x.val * 960, none⟩) m m] rfl (by kernel_rfl) (fun _ _ => by kernel_rfl) (by kernel_rfl) ((clone_cnt ⟨g, 0 + x.val * 960, none⟩ m m ((chunkI (smallL (l.take i)) x.val).map (Value.int .i64)) _ (hpt ▸ Sl.midI (own_sl hsW) (by rw [List.length_map]; exact hsl) (x.val * 960) m hm0 hmk) (by rw [List.length_map]; exact hcl) (fun u hu => by obtain ⟨y, _, rfl⟩ := List.mem_map.1 hu; rfl) (by omega)).mono ?_))
        rintro e W18 ⟨_, rfl, hb18, q, c2, rfl, hq⟩
        refine ⟨_, rfl, ?_⟩
        replace hB := Bl.nextB hB (Nat.le_trans hBW hW1) hb18
        replace m9 := m9.below hb18
        replace hsW := own_below hsW hb18
        replace hrw := own_below hrw hb18
        replace hE := hE.below hb18
        replace hZ := hZ.below hb18
        replace hq := own_mono hq hs18
        have hS19 : Below w.heap.size (W.drew) (W18) ∧ Only [24, 22] (W.drew) (W18) := ⟨Bl.nextB hS17.1 (Nat.le_trans (Nat.le_trans hBW hW1) hBd16.size) hb18, hS17.2.trans (Only.of_below hb18)⟩
        refine ⟨hS19, ?_⟩
        refine h_one 3 2 rfl (by kernel_rfl) rfl (by kernel_rfl) (op_buildSlice 22 [.slice q m c2] rfl (by kernel_rfl) ?_)
        intro b20 W20 n20
        have d20_b12 := n20.ne m9
        have g20 := n20.ge0 hB
        have r20_hrw := own_ne hrw n20
        have gd_b20 : (W.drew).heap.size ≤ b20 := by have := hS19.1.size; have := n20.at_; omega
        replace hB := Bl.nextB hB (Nat.le_trans hBW hW1) n20.below
        replace m9 := m9.below n20.below
        replace hsW := own_below hsW n20.below
        replace hrw := own_below hrw n20.below
        replace hE := hE.below n20.below
        replace hZ := hZ.below n20.below
        replace hq := own_below hq n20.below
        have k20 := n20.blk
        have hS21 : Below w.heap.size (W.drew) (W20) ∧ Only [24, 22] (W.drew) (W20) := ⟨Bl.nextB hS19.1 (Nat.le_trans (Nat.le_trans hBW hW1) hBd16.size) n20.below, hS19.2.trans (Only.of_below n20.below)⟩
        refine ⟨hS21, ?_⟩
        refine h_one 4 1 rfl (by kernel_rfl) rfl (by kernel_rfl) (op_app (e := 22) (n := (preC (smallL (l.take i)) pre).length) (xs := (List.range (preC (smallL (l.take i)) pre).length).map (lstV gs (preC (smallL (l.take i)) pre))) (m := 1) (news := [.slice q m c2]) (.slice none 0 0) 1 24 ((preC (smallL (l.take i)) pre).length + 1) ((List.range (preC (smallL (l.take i)) pre).length).map (lstV gs (preC (smallL (l.take i)) pre)) ++ [.slice q m c2]) rfl Tryz.underlying24 (by kernel_rfl) rfl (by decide) (by kernel_rfl) hrw (by kernel_rfl) (k20.sl 1 1 (by decide) (by decide)) rfl (by simp [Value.oneCell']) (by unfold maxLen; omega) (by omega) (Nat.le_trans hW1 hZ.le) (by simp) (by simp) ?_)
        intro p22 c22 W22 o22 hg22 hb22
        replace m9 := m9.grown hg22 hrw (by decide)
        replace hsW := own_grown hsW hg22 hrw (by decide)
        replace hE := hE.only (Only.of_grown (T := [22]) hg22 hrw (by decide)) (by decide)
        replace hZ := hZ.grown hg22 hrw
        replace hq := own_grown hq hg22 hrw (by decide)
        replace hB := hB.trans (hb22.mono hBW)
        have hS23 : Below w.heap.size (W.drew) (W22) ∧ Only [24, 22] (W.drew) (W22) := ⟨hS21.1.trans (hb22.mono hBW), hS21.2.trans (Only.of_grown hg22 hrw (by decide))⟩
        refine ⟨hS23, ?_⟩
        refine h_one 5 0 rfl (by kernel_rfl) rfl (by kernel_rfl) (op_store (v := .slice p22 ((preC (smallL (l.take i)) pre).length + 1) c22) (b := b12) (off := 0) rfl (by kernel_rfl) (by kernel_rfl) (by kernel_rfl) rfl m9 (by first | decide | simp) ?_)
        intro W24 u24 k24
        change Blk _ _ [.slice p22 ((preC (smallL (l.take i)) pre).length + 1) c22] _ at k24
        replace hB := u24.below hB hb9
        replace hsW := u24.own2 hsW m9 (by decide)
        replace hE := hE.only (Only.of_upd (T := [24]) u24 m9 (by decide)) (by decide)
        replace hZ := hZ.upd u24 m9
        replace hq := u24.own2 hq m9 (by decide)
        replace o22 := u24.own2 o22 m9 (by decide)
        have hS25 : Below w.heap.size (W.drew) (W24) ∧ Only [24, 22] (W.drew) (W24) := ⟨u24.below hS23.1 hb9, hS23.2.trans (Only.of_upd u24 m9 (by decide))⟩
        refine ⟨hS25, ?_⟩
        refine h_done _ (by kernel_rfl) ?_
        obtain ⟨g2, rfl, hc2⟩ := own_someN hq hm0
        rw [← hcl] at hq
        have hrw2 := o22
        rw [← hcl] at hrw2
        have hS := Lists.snoc (n := (preC (smallL (l.take i)) pre).length + 1) rfl hrw2 hE (own_mono hq hW1) (by rw [hgl, hpl])
        exact ⟨hZ.ko.from _, ⟨hZ.le, fun b hb => hZ.fr b hb.1 hb.2⟩, ⟨_, _, gs ++ [(g2, _)], by simp [hgl], by rw [preC_snoc, List.length_append]; exact k24, by rw [preC_snoc, List.length_append]; exact hS⟩, hZ.bb⟩
      · have hs26 : W.heap.size ≤ (W.drew).heap.size := hB.size
        refine op_call (lb := #[]) 17 #[.slice (some ⟨g, 0 + x.val * 960, none⟩) m m] rfl (by kernel_rfl) (fun _ _ => by kernel_rfl) (by kernel_rfl) ((clone_cnt ⟨g, 0 + x.val * 960, none⟩ m m ((chunkI (smallL (l.take i)) x.val).map (Value.int .i64)) _ (hpt ▸ Sl.midI (own_sl hsW) (by rw [List.length_map]; exact hsl) (x.val * 960) m hm0 hmk) (by rw [List.length_map]; exact hcl) (fun u hu => by obtain ⟨y, _, rfl⟩ := List.mem_map.1 hu; rfl) (by omega)).mono ?_)
        rintro e W26 ⟨_, rfl, hb26, q, c2, rfl, hq⟩
        refine ⟨_, rfl, ?_⟩
        replace hB := Bl.nextB hB (Nat.le_trans hBW hW1) hb26
        replace m9 := m9.below hb26
        replace hsW := own_below hsW hb26
        replace hrw := own_below hrw hb26
        replace hE := hE.below hb26
        replace hZ := hZ.below hb26
        replace hq := own_mono hq hs26
        have hS27 : Below w.heap.size (W.drew) (W26) ∧ Only [24, 22] (W.drew) (W26) := ⟨Bl.nextB hS14.1 (Nat.le_trans (Nat.le_trans hBW hW1) hBd16.size) hb26, hS14.2.trans (Only.of_below hb26)⟩
        refine ⟨hS27, ?_⟩
        refine h_two 0 3 3 rfl (by kernel_rfl) rfl rfl (by kernel_rfl) (by kernel_rfl) ?_ ?_
        · refine op_load ⟨b12, 0, none⟩ (.slice pb ((preC (smallL (l.take i)) pre).length) cb) rfl (by kernel_rfl) (by kernel_rfl) (m9.cell (i := 0) rfl) ?_
          have hS28 : Below w.heap.size (W.drew) (W26) ∧ Only [24, 22] (W.drew) (W26) := hS27
          refine ⟨hS28, ?_⟩
          refine h_one 3 2 rfl (by kernel_rfl) rfl (by kernel_rfl) (op_buildSlice 22 [.slice q m c2] rfl (by kernel_rfl) ?_)
          intro b29 W29 n29
          have d29_b12 := n29.ne m9
          have g29 := n29.ge0 hB
          have r29_hrw := own_ne hrw n29
          have gd_b29 : (W.drew).heap.size ≤ b29 := by have := hS28.1.size; have := n29.at_; omega
          replace hB := Bl.nextB hB (Nat.le_trans hBW hW1) n29.below
          replace m9 := m9.below n29.below
          replace hsW := own_below hsW n29.below
          replace hrw := own_below hrw n29.below
          replace hE := hE.below n29.below
          replace hZ := hZ.below n29.below
          replace hq := own_below hq n29.below
          have k29 := n29.blk
          have hS30 : Below w.heap.size (W.drew) (W29) ∧ Only [24, 22] (W.drew) (W29) := ⟨Bl.nextB hS28.1 (Nat.le_trans (Nat.le_trans hBW hW1) hBd16.size) n29.below, hS28.2.trans (Only.of_below n29.below)⟩
          refine ⟨hS30, ?_⟩
          refine h_one 4 1 rfl (by kernel_rfl) rfl (by kernel_rfl) (op_app (e := 22) (n := (preC (smallL (l.take i)) pre).length) (xs := (List.range (preC (smallL (l.take i)) pre).length).map (lstV gs (preC (smallL (l.take i)) pre))) (m := 1) (news := [.slice q m c2]) (.slice none 0 0) 1 24 ((preC (smallL (l.take i)) pre).length + 1) ((List.range (preC (smallL (l.take i)) pre).length).map (lstV gs (preC (smallL (l.take i)) pre)) ++ [.slice q m c2]) rfl Tryz.underlying24 (by kernel_rfl) rfl (by decide) (by kernel_rfl) hrw (by kernel_rfl) (k29.sl 1 1 (by decide) (by decide)) rfl (by simp [Value.oneCell']) (by unfold maxLen; omega) (by omega) (Nat.le_trans hW1 hZ.le) (by simp) (by simp) ?_)
          intro p31 c31 W31 o31 hg31 hb31
          replace m9 := m9.grown hg31 hrw (by decide)
          replace hsW := own_grown hsW hg31 hrw (by decide)
          replace hE := hE.only (Only.of_grown (T := [22]) hg31 hrw (by decide)) (by decide)
          replace hZ := hZ.grown hg31 hrw
          replace hq := own_grown hq hg31 hrw (by decide)
          replace hB := hB.trans (hb31.mono hBW)
          have hS32 : Below w.heap.size (W.drew) (W31) ∧ Only [24, 22] (W.drew) (W31) := ⟨hS30.1.trans (hb31.mono hBW), hS30.2.trans (Only.of_grown hg31 hrw (by decide))⟩
          refine ⟨hS32, ?_⟩
          refine h_one 5 0 rfl (by kernel_rfl) rfl (by kernel_rfl) (op_store (v := .slice p31 ((preC (smallL (l.take i)) pre).length + 1) c31) (b := b12) (off := 0) rfl (by kernel_rfl) (by kernel_rfl) (by kernel_rfl) rfl m9 (by first | decide | simp) ?_)
          intro W33 u33 k33
          change Blk _ _ [.slice p31 ((preC (smallL (l.take i)) pre).length + 1) c31] _ at k33
          replace hB := u33.below hB hb9
          replace hsW := u33.own2 hsW m9 (by decide)
          replace hE := hE.only (Only.of_upd (T := [24]) u33 m9 (by decide)) (by decide)
          replace hZ := hZ.upd u33 m9
          replace hq := u33.own2 hq m9 (by decide)
          replace o31 := u33.own2 o31 m9 (by decide)
          have hS34 : Below w.heap.size (W.drew) (W33) ∧ Only [24, 22] (W.drew) (W33) := ⟨u33.below hS32.1 hb9, hS32.2.trans (Only.of_upd u33 m9 (by decide))⟩
          refine ⟨hS34, ?_⟩
          refine h_done _ (by kernel_rfl) ?_
          obtain ⟨g2, rfl, hc2⟩ := own_someN hq hm0
          rw [← hcl] at hq
          have hrw2 := o31
          rw [← hcl] at hrw2
          have hS := Lists.snoc (n := (preC (smallL (l.take i)) pre).length + 1) rfl hrw2 hE (own_mono hq hW1) (by rw [hgl, hpl])
          exact ⟨hZ.ko.from _, ⟨hZ.le, fun b hb => hZ.fr b hb.1 hb.2⟩, ⟨_, _, gs ++ [(g2, _)], by simp [hgl], by rw [preC_snoc, List.length_append]; exact k33, by rw [preC_snoc, List.length_append]; exact hS⟩, hZ.bb⟩
        · refine op_buildSlice 22 [.slice q m c2] rfl (by kernel_rfl) ?_
          intro b35 W35 n35
          have d35_b12 := n35.ne m9
          have g35 := n35.ge0 hB
          have r35_hrw := own_ne hrw n35
          have gd_b35 : (W.drew).heap.size ≤ b35 := by have := hS27.1.size; have := n35.at_; omega
          replace hB := Bl.nextB hB (Nat.le_trans hBW hW1) n35.below
          replace m9 := m9.below n35.below
          replace hsW := own_below hsW n35.below
          replace hrw := own_below hrw n35.below
          replace hE := hE.below n35.below
          replace hZ := hZ.below n35.below
          replace hq := own_below hq n35.below
          have k35 := n35.blk
          have hS36 : Below w.heap.size (W.drew) (W35) ∧ Only [24, 22] (W.drew) (W35) := ⟨Bl.nextB hS27.1 (Nat.le_trans (Nat.le_trans hBW hW1) hBd16.size) n35.below, hS27.2.trans (Only.of_below n35.below)⟩
          refine ⟨hS36, ?_⟩
          refine h_one 0 2 rfl (by kernel_rfl) rfl (by kernel_rfl) (op_load ⟨b12, 0, none⟩ (.slice pb ((preC (smallL (l.take i)) pre).length) cb) rfl (by kernel_rfl) (by kernel_rfl) (m9.cell (i := 0) rfl) ?_)
          have hS37 : Below w.heap.size (W.drew) (W35) ∧ Only [24, 22] (W.drew) (W35) := hS36
          refine ⟨hS37, ?_⟩
          refine h_one 4 1 rfl (by kernel_rfl) rfl (by kernel_rfl) (op_app (e := 22) (n := (preC (smallL (l.take i)) pre).length) (xs := (List.range (preC (smallL (l.take i)) pre).length).map (lstV gs (preC (smallL (l.take i)) pre))) (m := 1) (news := [.slice q m c2]) (.slice none 0 0) 1 24 ((preC (smallL (l.take i)) pre).length + 1) ((List.range (preC (smallL (l.take i)) pre).length).map (lstV gs (preC (smallL (l.take i)) pre)) ++ [.slice q m c2]) rfl Tryz.underlying24 (by kernel_rfl) rfl (by decide) (by kernel_rfl) hrw (by kernel_rfl) (k35.sl 1 1 (by decide) (by decide)) rfl (by simp [Value.oneCell']) (by unfold maxLen; omega) (by omega) (Nat.le_trans hW1 hZ.le) (by simp) (by simp) ?_)
          intro p38 c38 W38 o38 hg38 hb38
          replace m9 := m9.grown hg38 hrw (by decide)
          replace hsW := own_grown hsW hg38 hrw (by decide)
          replace hE := hE.only (Only.of_grown (T := [22]) hg38 hrw (by decide)) (by decide)
          replace hZ := hZ.grown hg38 hrw
          replace hq := own_grown hq hg38 hrw (by decide)
          replace hB := hB.trans (hb38.mono hBW)
          have hS39 : Below w.heap.size (W.drew) (W38) ∧ Only [24, 22] (W.drew) (W38) := ⟨hS37.1.trans (hb38.mono hBW), hS37.2.trans (Only.of_grown hg38 hrw (by decide))⟩
          refine ⟨hS39, ?_⟩
          refine h_one 5 0 rfl (by kernel_rfl) rfl (by kernel_rfl) (op_store (v := .slice p38 ((preC (smallL (l.take i)) pre).length + 1) c38) (b := b12) (off := 0) rfl (by kernel_rfl) (by kernel_rfl) (by kernel_rfl) rfl m9 (by first | decide | simp) ?_)
          intro W40 u40 k40
          change Blk _ _ [.slice p38 ((preC (smallL (l.take i)) pre).length + 1) c38] _ at k40
          replace hB := u40.below hB hb9
          replace hsW := u40.own2 hsW m9 (by decide)
          replace hE := hE.only (Only.of_upd (T := [24]) u40 m9 (by decide)) (by decide)
          replace hZ := hZ.upd u40 m9
          replace hq := u40.own2 hq m9 (by decide)
          replace o38 := u40.own2 o38 m9 (by decide)
          have hS41 : Below w.heap.size (W.drew) (W40) ∧ Only [24, 22] (W.drew) (W40) := ⟨u40.below hS39.1 hb9, hS39.2.trans (Only.of_upd u40 m9 (by decide))⟩
          refine ⟨hS41, ?_⟩
          refine h_done _ (by kernel_rfl) ?_
          obtain ⟨g2, rfl, hc2⟩ := own_someN hq hm0
          rw [← hcl] at hq
          have hrw2 := o38
          rw [← hcl] at hrw2
          have hS := Lists.snoc (n := (preC (smallL (l.take i)) pre).length + 1) rfl hrw2 hE (own_mono hq hW1) (by rw [hgl, hpl])
          exact ⟨hZ.ko.from _, ⟨hZ.le, fun b hb => hZ.fr b hb.1 hb.2⟩, ⟨_, _, gs ++ [(g2, _)], by simp [hgl], by rw [preC_snoc, List.length_append]; exact k40, by rw [preC_snoc, List.length_append]; exact hS⟩, hZ.bb⟩
    case done =>
      rintro D xs W hD rfl ⟨⟨pb, cb, gs, hgl, m9, hL⟩, hbb⟩ hK0
      rw [preC_all] at m9 hL
      have hK : Dfr D W := hK0; clear hK0
      subst hin
      rw [List.take_length] at m9 hL
      rw [chunksI_len] at m9 hL
      refine g_nopan ?_
      have hB1 := hB
      replace hB := hbb.below hB g12 hB.size
      have ho2 := hbb.own2 ho k12 (by decide)
      have hBW := hB1.size
      replace k12 := m9
      refine wp_seq ?_
      refine wp_region_lit ?_
      refine g_op (by kernel_rfl) (op_load ⟨b12, 0, none⟩ (.slice pb (bmN l.length) cb) rfl (by kernel_rfl) (by kernel_rfl) (k12.cell (i := 0) rfl) ?_)
      refine g_pv 4 [(51, .slice po ((overK l l.length).length) co), (2, .slice pb (bmN l.length) cb), (3, .slice po ((overK l l.length).length) co), (4, .int .i64 0)] (by kernel_rfl) ?_
      refine wpList_nil ?_
      refine wp_ret ?_
      exact g_endM hK (.tuple #[.slice pb (bmN l.length) cb, .slice po ((overK l l.length).length) co, .int .i64 0]) (by kernel_rfl) (by kernel_rfl) (.inr ⟨splitE_good hl (fun k hk => hz k (by omega)), _, _, gs, _, _, rfl, (Upd.of_put _ _ _).below hB (Nat.le_trans hBW hD), (hL.mono hBW).put (Upd.of_put _ _ _) hK, (Upd.of_put _ _ _).own3 ho2 (hK.row ho2)⟩)
end Go.Proofs.YthlakkdgcgkcdaaGreat
namespace Go.Proofs.YthlakkdgcgkcdaaGreat
open Go.RowKit Go.Extern.Stop Go.Stop Go.Extern
set_option linter.unusedVariables false
attribute [local irreducible] wpList wpAnyH Code.wp Oper.wp Go

def ClosP (B Bx bl : Nat) (L : List (List Int)) (q i : Nat) (w : World) (e : Ending) (w' : World) : Prop :=
  ∃ u p c, e = .returned u ∧ Below B w w' ∧ Only [25, 45] w w' ∧ Blk w' bl [.slice p (i + 1) c] 25 ∧ w'.ownsRow Bx 45 3 (.slice p (i + 1) c) (i + 1) ((slotsE L q (i + 1)).flatMap entC) ∧ FrB Bx [bl] w w'
theorem slots_row (L : List (List Int)) (q i : Nat) : (slotsE L q i).flatMap entC ++ [.int .i64 (i : Int), .string ⟨(leB ((q + i : Nat) : Int) 8 ++ leB (freeN (L.getD i []) : Int) 4 ++ leB (firstN (L.getD i []) : Int) 4).toArray⟩, .int .i64 0] = (slotsE L q (i + 1)).flatMap entC := by
  rw [slotsE_succ]; simp [entC, slotX, slotB]
structure FrZ (Bx : Nat) (S : List Nat) (a w : World) : Prop where
  fr : FrB Bx S a w
  le : Bx ≤ a.heap.size
theorem FrZ.refl {Bx : Nat} {S : List Nat} {w : World} (h : Bx ≤ w.heap.size) : FrZ Bx S w w := ⟨⟨Nat.le_refl _, fun _ _ _ => rfl⟩, h⟩
theorem FrZ.below {Bx : Nat} {S : List Nat} {a w W : World} (h : FrZ Bx S a w) (hb : Below w.heap.size w W) : FrZ Bx S a W := ⟨⟨Nat.le_trans h.fr.1 hb.size, fun k hk hn => (hb.block k (by have := h.fr.1; have := h.le; omega)).trans (h.fr.2 k hk hn)⟩, h.le⟩
theorem FrZ.upd {Bx b : Nat} {S : List Nat} {a w W : World} (h : FrZ Bx S a w) (u : Upd w b W) (hb : b ∈ S) : FrZ Bx S a W := ⟨⟨Nat.le_trans h.fr.1 (Nat.le_of_eq u.size.symm), fun k hk hn => (u.block k fun e => hn (e ▸ hb)).trans (h.fr.2 k hk hn)⟩, h.le⟩
theorem FrZ.grown {Bx : Nat} {S : List Nat} {a w W : World} {size n : Nat} {e : TypeId} {v : Value} {xs : List Value} (h : FrZ Bx S a w) (hg : w.grownBy W v.ownBlock) (hown : w.ownsRow Bx e size v n xs) : FrZ Bx S a W := ⟨⟨Nat.le_trans h.fr.1 hg.size, fun k hk hn => (hg.block k (by have := h.fr.1; have := h.le; omega) (fun e => by have := (hown.lt k e.symm).1; omega)).trans (h.fr.2 k hk hn)⟩, h.le⟩
set_option maxRecDepth 100000 in
set_option maxHeartbeats 4000000 in
theorem plot_data1 (B Bx bl : Nat) (p : Option Addr) (c : Nat) (L : List (List Int)) (q i : Nat) (w : World) (hBm : B ≤ Bx) (hBx : Bx ≤ w.heap.size) (hBw : B ≤ w.heap.size) (hBl : B ≤ bl) (kl : Blk w bl [.slice p i c] 25) (hup : w.ownsRow Bx 45 3 (.slice p i c) i ((slotsE L q i).flatMap entC)) (hq : 1 ≤ q + i) (hq2 : q + i ≤ 14399) (hi : i ≤ 100000) (hf : freeN (L.getD i []) ≤ 960) (hg : firstN (L.getD i []) ≤ 960) :
    Calls Tryz.prog 23 #[.agg #[.int .i64 (↑(q + i) : Int), .int .i64 (↑(freeN (L.getD i [])) : Int), .int .i64 (↑(firstN (L.getD i [])) : Int)], .pointer (some ⟨bl, 0, none⟩)] w (ClosP B Bx bl L q i w) := by
 have hZ : FrZ Bx [bl] w w := FrZ.refl hBx
 refine zin 11 Tryz.func23 ?_
 refine xa 2 [.int .i64 (↑(q + i) : Int), .int .i64 (↑(freeN (L.getD i [])) : Int), .int .i64 (↑(firstN (L.getD i [])) : Int)] 57 fun b1 W1 n1 => ?_
 refine xd 2 (.t B [25, 45]) ?_
 have k1 := n1.blk.below (below_drew W1)
 refine xlvt (.e [] 3) (.t B [25, 45]) (fun V hV => (k1.only hV.2 (by decide)).rp) ?_
 refine xm3 0 0 1 4 ?_ ?_ ?_
 · have kl'1 := (kl.below n1.below).below (below_drew W1)
   refine xb 0 0 kl'1 ?_
   refine xm2 0 1 4 ?_ ?_
   · refine xb 0 0 kl'1 ?_
     refine xr (.o [2] 4) (args := #[.agg #[.int .i64 (↑(q + i) : Int), .int .i64 (↑(freeN (L.getD i [])) : Int), .int .i64 (↑(firstN (L.getD i [])) : Int)]]) (value_Slot (↑(q + i) : Int) (↑(freeN (L.getD i [])) : Int) (↑(firstN (L.getD i [])) : Int) (by omega) (by omega) (by omega) (by omega) (by omega) (by omega) _) fun W2 hb2 => ?_
     refine xbs (.o [5] 6) 1 [.int .i64 (↑i : Int), .string ⟨(leB (↑(q + i) : Int) 8 ++ leB (↑(freeN (L.getD i [])) : Int) 4 ++ leB (↑(firstN (L.getD i [])) : Int) 4).toArray⟩, .int .i64 0] 45 fun b3 W3 n3 => ?_
     have hup'1 := own_below (own_below (own_below hup n1.below) (below_drew W1)) hb2
     have r3_hup := own_ne hup'1 n3
     have hup'2 := own_below hup'1 n3.below
     have hB := Bl.nextB (Bl.nextB (Bl.nextB (Bl.nextB (Below.refl B w) hBw n1.below) hBw (below_drew W1)) hBw hb2) hBw n3.below
     refine ybi (.o [] 7) (.t B [25, 45]) fun _ _ _ _ zJ zQ zo zx zy zK => op_app (m := 1) (news := [.int .i64 (↑i : Int), .string ⟨(leB (↑(q + i) : Int) 8 ++ leB (↑(freeN (L.getD i [])) : Int) 4 ++ leB (↑(firstN (L.getD i [])) : Int) 4).toArray⟩, .int .i64 0]) (.agg #[.int .i64 0, .string ⟨#[]⟩, .int .i64 0]) 3 32 (i + 1) ((slotsE L q (i + 1)).flatMap entC) zo Tryz.underlying25 (by kernel_rfl) rfl (by decide) zx hup'2 zy (n3.blk.sl 1 1 (by decide) (by decide)) rfl (by simp [Value.oneCell']) (by unfold maxLen; omega) (by omega) (Nat.le_trans hBx hB.size) (by rfl) (slots_row L q i) fun px4 cx4 W4 o4 hg4 hb4 => ?_
     refine zK _ _ (sft_grown (hb4.mono hBm) hg4 hup'2 (by decide)) ?_
     have kl'2 := ((kl'1.below hb2).below n3.below).grown hg4 hup'2 (by decide)
     refine ys (.o [] 8) kl'2 [.slice px4 (i + 1) cx4] (.t B [25, 45]) fun W5 u5 k5 => ⟨(sft_upd u5 kl'2 hBl (by decide)), ?_⟩
     have hB'1 := u5.below (hB.trans (hb4.mono hBm)) hBl
     have hO := (((((show Only [25, 45] w _ from (Only.of_below n1.below)).trans (Only.of_below (below_drew W1))).trans (Only.of_below hb2)).trans (Only.of_below n3.below)).trans (Only.of_grown hg4 hup'2 (by decide))).trans (Only.of_upd u5 kl'2 (by decide))
     have o4'1 := u5.own2 o4 kl'2 (by decide)
     have hZ'1 := (((((hZ.below n1.below).below (below_drew W1)).below hb2).below n3.below).grown hg4 hup'2).upd u5 (by simp)
     exact xe 1 (.tuple #[]) ⟨_, _, _, rfl, hB'1, hO, k5, o4'1, hZ'1.fr⟩
   refine xr 0 (args := #[.agg #[.int .i64 (↑(q + i) : Int), .int .i64 (↑(freeN (L.getD i [])) : Int), .int .i64 (↑(firstN (L.getD i [])) : Int)]]) (value_Slot (↑(q + i) : Int) (↑(freeN (L.getD i [])) : Int) (↑(firstN (L.getD i [])) : Int) (by omega) (by omega) (by omega) (by omega) (by omega) (by omega) _) fun W6 hb6 => ?_
   have kl'3 := kl'1.below hb6
   refine xb (.o [] 1) 0 kl'3 ?_
   refine xbs (.o [2, 5] 6) 1 [.int .i64 (↑i : Int), .string ⟨(leB (↑(q + i) : Int) 8 ++ leB (↑(freeN (L.getD i [])) : Int) 4 ++ leB (↑(firstN (L.getD i [])) : Int) 4).toArray⟩, .int .i64 0] 45 fun b7 W7 n7 => ?_
   have hup'3 := own_below (own_below (own_below hup n1.below) (below_drew W1)) hb6
   have r7_hup := own_ne hup'3 n7
   have hup'4 := own_below hup'3 n7.below
   have hB := Bl.nextB (Bl.nextB (Bl.nextB (Bl.nextB (Below.refl B w) hBw n1.below) hBw (below_drew W1)) hBw hb6) hBw n7.below
   refine ybi (.o [] 7) (.t B [25, 45]) fun _ _ _ _ zJ zQ zo zx zy zK => op_app (m := 1) (news := [.int .i64 (↑i : Int), .string ⟨(leB (↑(q + i) : Int) 8 ++ leB (↑(freeN (L.getD i [])) : Int) 4 ++ leB (↑(firstN (L.getD i [])) : Int) 4).toArray⟩, .int .i64 0]) (.agg #[.int .i64 0, .string ⟨#[]⟩, .int .i64 0]) 3 32 (i + 1) ((slotsE L q (i + 1)).flatMap entC) zo Tryz.underlying25 (by kernel_rfl) rfl (by decide) zx hup'4 zy (n7.blk.sl 1 1 (by decide) (by decide)) rfl (by simp [Value.oneCell']) (by unfold maxLen; omega) (by omega) (Nat.le_trans hBx hB.size) (by rfl) (slots_row L q i) fun px8 cx8 W8 o8 hg8 hb8 => ?_
   refine zK _ _ (sft_grown (hb8.mono hBm) hg8 hup'4 (by decide)) ?_
   have kl'4 := (kl'3.below n7.below).grown hg8 hup'4 (by decide)
   refine ys (.o [] 8) kl'4 [.slice px8 (i + 1) cx8] (.t B [25, 45]) fun W9 u9 k9 => ⟨(sft_upd u9 kl'4 hBl (by decide)), ?_⟩
   have hB'2 := u9.below (hB.trans (hb8.mono hBm)) hBl
   have hO := (((((show Only [25, 45] w _ from (Only.of_below n1.below)).trans (Only.of_below (below_drew W1))).trans (Only.of_below hb6)).trans (Only.of_below n7.below)).trans (Only.of_grown hg8 hup'4 (by decide))).trans (Only.of_upd u9 kl'4 (by decide))
   have o8'1 := u9.own2 o8 kl'4 (by decide)
   have hZ'2 := (((((hZ.below n1.below).below (below_drew W1)).below hb6).below n7.below).grown hg8 hup'4).upd u9 (by simp)
   exact xe 1 (.tuple #[]) ⟨_, _, _, rfl, hB'2, hO, k9, o8'1, hZ'2.fr⟩
 · have kl'5 := (kl.below n1.below).below (below_drew W1)
   refine xb 0 0 kl'5 ?_
   refine xm2 (.b [2]) 0 4 ?_ ?_
   · refine xb 0 0 kl'5 ?_
     refine xr (.o [] 4) (args := #[.agg #[.int .i64 (↑(q + i) : Int), .int .i64 (↑(freeN (L.getD i [])) : Int), .int .i64 (↑(firstN (L.getD i [])) : Int)]]) (value_Slot (↑(q + i) : Int) (↑(freeN (L.getD i [])) : Int) (↑(firstN (L.getD i [])) : Int) (by omega) (by omega) (by omega) (by omega) (by omega) (by omega) _) fun W10 hb10 => ?_
     refine xbs (.o [5] 6) 1 [.int .i64 (↑i : Int), .string ⟨(leB (↑(q + i) : Int) 8 ++ leB (↑(freeN (L.getD i [])) : Int) 4 ++ leB (↑(firstN (L.getD i [])) : Int) 4).toArray⟩, .int .i64 0] 45 fun b11 W11 n11 => ?_
     have hup'5 := own_below (own_below (own_below hup n1.below) (below_drew W1)) hb10
     have r11_hup := own_ne hup'5 n11
     have hup'6 := own_below hup'5 n11.below
     have hB := Bl.nextB (Bl.nextB (Bl.nextB (Bl.nextB (Below.refl B w) hBw n1.below) hBw (below_drew W1)) hBw hb10) hBw n11.below
     refine ybi (.o [] 7) (.t B [25, 45]) fun _ _ _ _ zJ zQ zo zx zy zK => op_app (m := 1) (news := [.int .i64 (↑i : Int), .string ⟨(leB (↑(q + i) : Int) 8 ++ leB (↑(freeN (L.getD i [])) : Int) 4 ++ leB (↑(firstN (L.getD i [])) : Int) 4).toArray⟩, .int .i64 0]) (.agg #[.int .i64 0, .string ⟨#[]⟩, .int .i64 0]) 3 32 (i + 1) ((slotsE L q (i + 1)).flatMap entC) zo Tryz.underlying25 (by kernel_rfl) rfl (by decide) zx hup'6 zy (n11.blk.sl 1 1 (by decide) (by decide)) rfl (by simp [Value.oneCell']) (by unfold maxLen; omega) (by omega) (Nat.le_trans hBx hB.size) (by rfl) (slots_row L q i) fun px12 cx12 W12 o12 hg12 hb12 => ?_
     refine zK _ _ (sft_grown (hb12.mono hBm) hg12 hup'6 (by decide)) ?_
     have kl'6 := ((kl'5.below hb10).below n11.below).grown hg12 hup'6 (by decide)
     refine ys (.o [] 8) kl'6 [.slice px12 (i + 1) cx12] (.t B [25, 45]) fun W13 u13 k13 => ⟨(sft_upd u13 kl'6 hBl (by decide)), ?_⟩
     have hB'3 := u13.below (hB.trans (hb12.mono hBm)) hBl
     have hO := (((((show Only [25, 45] w _ from (Only.of_below n1.below)).trans (Only.of_below (below_drew W1))).trans (Only.of_below hb10)).trans (Only.of_below n11.below)).trans (Only.of_grown hg12 hup'6 (by decide))).trans (Only.of_upd u13 kl'6 (by decide))
     have o12'1 := u13.own2 o12 kl'6 (by decide)
     have hZ'3 := (((((hZ.below n1.below).below (below_drew W1)).below hb10).below n11.below).grown hg12 hup'6).upd u13 (by simp)
     exact xe 1 (.tuple #[]) ⟨_, _, _, rfl, hB'3, hO, k13, o12'1, hZ'3.fr⟩
   refine xr 0 (args := #[.agg #[.int .i64 (↑(q + i) : Int), .int .i64 (↑(freeN (L.getD i [])) : Int), .int .i64 (↑(firstN (L.getD i [])) : Int)]]) (value_Slot (↑(q + i) : Int) (↑(freeN (L.getD i [])) : Int) (↑(firstN (L.getD i [])) : Int) (by omega) (by omega) (by omega) (by omega) (by omega) (by omega) _) fun W14 hb14 => ?_
   refine xm2 (.b [5]) 0 6 ?_ ?_
   · have kl'7 := kl'5.below hb14
     refine xb 0 0 kl'7 ?_
     refine xbs (.o [] 6) 1 [.int .i64 (↑i : Int), .string ⟨(leB (↑(q + i) : Int) 8 ++ leB (↑(freeN (L.getD i [])) : Int) 4 ++ leB (↑(firstN (L.getD i [])) : Int) 4).toArray⟩, .int .i64 0] 45 fun b15 W15 n15 => ?_
     have hup'7 := own_below (own_below (own_below hup n1.below) (below_drew W1)) hb14
     have r15_hup := own_ne hup'7 n15
     have hup'8 := own_below hup'7 n15.below
     have hB := Bl.nextB (Bl.nextB (Bl.nextB (Bl.nextB (Below.refl B w) hBw n1.below) hBw (below_drew W1)) hBw hb14) hBw n15.below
     refine ybi (.o [] 7) (.t B [25, 45]) fun _ _ _ _ zJ zQ zo zx zy zK => op_app (m := 1) (news := [.int .i64 (↑i : Int), .string ⟨(leB (↑(q + i) : Int) 8 ++ leB (↑(freeN (L.getD i [])) : Int) 4 ++ leB (↑(firstN (L.getD i [])) : Int) 4).toArray⟩, .int .i64 0]) (.agg #[.int .i64 0, .string ⟨#[]⟩, .int .i64 0]) 3 32 (i + 1) ((slotsE L q (i + 1)).flatMap entC) zo Tryz.underlying25 (by kernel_rfl) rfl (by decide) zx hup'8 zy (n15.blk.sl 1 1 (by decide) (by decide)) rfl (by simp [Value.oneCell']) (by unfold maxLen; omega) (by omega) (Nat.le_trans hBx hB.size) (by rfl) (slots_row L q i) fun px16 cx16 W16 o16 hg16 hb16 => ?_
     refine zK _ _ (sft_grown (hb16.mono hBm) hg16 hup'8 (by decide)) ?_
     have kl'8 := (kl'7.below n15.below).grown hg16 hup'8 (by decide)
     refine ys (.o [] 8) kl'8 [.slice px16 (i + 1) cx16] (.t B [25, 45]) fun W17 u17 k17 => ⟨(sft_upd u17 kl'8 hBl (by decide)), ?_⟩
     have hB'4 := u17.below (hB.trans (hb16.mono hBm)) hBl
     have hO := (((((show Only [25, 45] w _ from (Only.of_below n1.below)).trans (Only.of_below (below_drew W1))).trans (Only.of_below hb14)).trans (Only.of_below n15.below)).trans (Only.of_grown hg16 hup'8 (by decide))).trans (Only.of_upd u17 kl'8 (by decide))
     have o16'1 := u17.own2 o16 kl'8 (by decide)
     have hZ'4 := (((((hZ.below n1.below).below (below_drew W1)).below hb14).below n15.below).grown hg16 hup'8).upd u17 (by simp)
     exact xe 1 (.tuple #[]) ⟨_, _, _, rfl, hB'4, hO, k17, o16'1, hZ'4.fr⟩
   refine xbs 0 1 [.int .i64 (↑i : Int), .string ⟨(leB (↑(q + i) : Int) 8 ++ leB (↑(freeN (L.getD i [])) : Int) 4 ++ leB (↑(firstN (L.getD i [])) : Int) 4).toArray⟩, .int .i64 0] 45 fun b18 W18 n18 => ?_
   have hup'9 := own_below (own_below (own_below hup n1.below) (below_drew W1)) hb14
   have r18_hup := own_ne hup'9 n18
   have kl'9 := (kl'5.below hb14).below n18.below
   refine xb (.o [] 0) 0 kl'9 ?_
   have hup'10 := own_below hup'9 n18.below
   have hB := Bl.nextB (Bl.nextB (Bl.nextB (Bl.nextB (Below.refl B w) hBw n1.below) hBw (below_drew W1)) hBw hb14) hBw n18.below
   refine ybi (.o [] 7) (.t B [25, 45]) fun _ _ _ _ zJ zQ zo zx zy zK => op_app (m := 1) (news := [.int .i64 (↑i : Int), .string ⟨(leB (↑(q + i) : Int) 8 ++ leB (↑(freeN (L.getD i [])) : Int) 4 ++ leB (↑(firstN (L.getD i [])) : Int) 4).toArray⟩, .int .i64 0]) (.agg #[.int .i64 0, .string ⟨#[]⟩, .int .i64 0]) 3 32 (i + 1) ((slotsE L q (i + 1)).flatMap entC) zo Tryz.underlying25 (by kernel_rfl) rfl (by decide) zx hup'10 zy (n18.blk.sl 1 1 (by decide) (by decide)) rfl (by simp [Value.oneCell']) (by unfold maxLen; omega) (by omega) (Nat.le_trans hBx hB.size) (by rfl) (slots_row L q i) fun px19 cx19 W19 o19 hg19 hb19 => ?_
   refine zK _ _ (sft_grown (hb19.mono hBm) hg19 hup'10 (by decide)) ?_
   have kl'10 := kl'9.grown hg19 hup'10 (by decide)
   refine ys (.o [] 8) kl'10 [.slice px19 (i + 1) cx19] (.t B [25, 45]) fun W20 u20 k20 => ⟨(sft_upd u20 kl'10 hBl (by decide)), ?_⟩
   have hB'5 := u20.below (hB.trans (hb19.mono hBm)) hBl
   have hO := (((((show Only [25, 45] w _ from (Only.of_below n1.below)).trans (Only.of_below (below_drew W1))).trans (Only.of_below hb14)).trans (Only.of_below n18.below)).trans (Only.of_grown hg19 hup'10 (by decide))).trans (Only.of_upd u20 kl'10 (by decide))
   have o19'1 := u20.own2 o19 kl'10 (by decide)
   have hZ'5 := (((((hZ.below n1.below).below (below_drew W1)).below hb14).below n18.below).grown hg19 hup'10).upd u20 (by simp)
   exact xe 1 (.tuple #[]) ⟨_, _, _, rfl, hB'5, hO, k20, o19'1, hZ'5.fr⟩
 refine xr 0 (args := #[.agg #[.int .i64 (↑(q + i) : Int), .int .i64 (↑(freeN (L.getD i [])) : Int), .int .i64 (↑(firstN (L.getD i [])) : Int)]]) (value_Slot (↑(q + i) : Int) (↑(freeN (L.getD i [])) : Int) (↑(firstN (L.getD i [])) : Int) (by omega) (by omega) (by omega) (by omega) (by omega) (by omega) _) fun W21 hb21 => ?_
 refine xm2 0 0 1 ?_ ?_
 · have kl'11 := ((kl.below n1.below).below (below_drew W1)).below hb21
   refine xb 0 0 kl'11 ?_
   refine xb (.o [] 1) 0 kl'11 ?_
   refine xbs (.o [2, 5] 6) 1 [.int .i64 (↑i : Int), .string ⟨(leB (↑(q + i) : Int) 8 ++ leB (↑(freeN (L.getD i [])) : Int) 4 ++ leB (↑(firstN (L.getD i [])) : Int) 4).toArray⟩, .int .i64 0] 45 fun b22 W22 n22 => ?_
   have hup'11 := own_below (own_below (own_below hup n1.below) (below_drew W1)) hb21
   have r22_hup := own_ne hup'11 n22
   have hup'12 := own_below hup'11 n22.below
   have hB := Bl.nextB (Bl.nextB (Bl.nextB (Bl.nextB (Below.refl B w) hBw n1.below) hBw (below_drew W1)) hBw hb21) hBw n22.below
   refine ybi (.o [] 7) (.t B [25, 45]) fun _ _ _ _ zJ zQ zo zx zy zK => op_app (m := 1) (news := [.int .i64 (↑i : Int), .string ⟨(leB (↑(q + i) : Int) 8 ++ leB (↑(freeN (L.getD i [])) : Int) 4 ++ leB (↑(firstN (L.getD i [])) : Int) 4).toArray⟩, .int .i64 0]) (.agg #[.int .i64 0, .string ⟨#[]⟩, .int .i64 0]) 3 32 (i + 1) ((slotsE L q (i + 1)).flatMap entC) zo Tryz.underlying25 (by kernel_rfl) rfl (by decide) zx hup'12 zy (n22.blk.sl 1 1 (by decide) (by decide)) rfl (by simp [Value.oneCell']) (by unfold maxLen; omega) (by omega) (Nat.le_trans hBx hB.size) (by rfl) (slots_row L q i) fun px23 cx23 W23 o23 hg23 hb23 => ?_
   refine zK _ _ (sft_grown (hb23.mono hBm) hg23 hup'12 (by decide)) ?_
   have kl'12 := (kl'11.below n22.below).grown hg23 hup'12 (by decide)
   refine ys (.o [] 8) kl'12 [.slice px23 (i + 1) cx23] (.t B [25, 45]) fun W24 u24 k24 => ⟨(sft_upd u24 kl'12 hBl (by decide)), ?_⟩
   have hB'6 := u24.below (hB.trans (hb23.mono hBm)) hBl
   have hO := (((((show Only [25, 45] w _ from (Only.of_below n1.below)).trans (Only.of_below (below_drew W1))).trans (Only.of_below hb21)).trans (Only.of_below n22.below)).trans (Only.of_grown hg23 hup'12 (by decide))).trans (Only.of_upd u24 kl'12 (by decide))
   have o23'1 := u24.own2 o23 kl'12 (by decide)
   have hZ'6 := (((((hZ.below n1.below).below (below_drew W1)).below hb21).below n22.below).grown hg23 hup'12).upd u24 (by simp)
   exact xe 1 (.tuple #[]) ⟨_, _, _, rfl, hB'6, hO, k24, o23'1, hZ'6.fr⟩
 have kl'13 := ((kl.below n1.below).below (below_drew W1)).below hb21
 refine xb 0 0 kl'13 ?_
 refine xm2 (.b [2, 5]) 0 6 ?_ ?_
 · refine xb 0 0 kl'13 ?_
   refine xbs (.o [] 6) 1 [.int .i64 (↑i : Int), .string ⟨(leB (↑(q + i) : Int) 8 ++ leB (↑(freeN (L.getD i [])) : Int) 4 ++ leB (↑(firstN (L.getD i [])) : Int) 4).toArray⟩, .int .i64 0] 45 fun b25 W25 n25 => ?_
   have hup'13 := own_below (own_below (own_below hup n1.below) (below_drew W1)) hb21
   have r25_hup := own_ne hup'13 n25
   have hup'14 := own_below hup'13 n25.below
   have hB := Bl.nextB (Bl.nextB (Bl.nextB (Bl.nextB (Below.refl B w) hBw n1.below) hBw (below_drew W1)) hBw hb21) hBw n25.below
   refine ybi (.o [] 7) (.t B [25, 45]) fun _ _ _ _ zJ zQ zo zx zy zK => op_app (m := 1) (news := [.int .i64 (↑i : Int), .string ⟨(leB (↑(q + i) : Int) 8 ++ leB (↑(freeN (L.getD i [])) : Int) 4 ++ leB (↑(firstN (L.getD i [])) : Int) 4).toArray⟩, .int .i64 0]) (.agg #[.int .i64 0, .string ⟨#[]⟩, .int .i64 0]) 3 32 (i + 1) ((slotsE L q (i + 1)).flatMap entC) zo Tryz.underlying25 (by kernel_rfl) rfl (by decide) zx hup'14 zy (n25.blk.sl 1 1 (by decide) (by decide)) rfl (by simp [Value.oneCell']) (by unfold maxLen; omega) (by omega) (Nat.le_trans hBx hB.size) (by rfl) (slots_row L q i) fun px26 cx26 W26 o26 hg26 hb26 => ?_
   refine zK _ _ (sft_grown (hb26.mono hBm) hg26 hup'14 (by decide)) ?_
   have kl'14 := (kl'13.below n25.below).grown hg26 hup'14 (by decide)
   refine ys (.o [] 8) kl'14 [.slice px26 (i + 1) cx26] (.t B [25, 45]) fun W27 u27 k27 => ⟨(sft_upd u27 kl'14 hBl (by decide)), ?_⟩
   have hB'7 := u27.below (hB.trans (hb26.mono hBm)) hBl
   have hO := (((((show Only [25, 45] w _ from (Only.of_below n1.below)).trans (Only.of_below (below_drew W1))).trans (Only.of_below hb21)).trans (Only.of_below n25.below)).trans (Only.of_grown hg26 hup'14 (by decide))).trans (Only.of_upd u27 kl'14 (by decide))
   have o26'1 := u27.own2 o26 kl'14 (by decide)
   have hZ'7 := (((((hZ.below n1.below).below (below_drew W1)).below hb21).below n25.below).grown hg26 hup'14).upd u27 (by simp)
   exact xe 1 (.tuple #[]) ⟨_, _, _, rfl, hB'7, hO, k27, o26'1, hZ'7.fr⟩
 refine xbs 0 1 [.int .i64 (↑i : Int), .string ⟨(leB (↑(q + i) : Int) 8 ++ leB (↑(freeN (L.getD i [])) : Int) 4 ++ leB (↑(firstN (L.getD i [])) : Int) 4).toArray⟩, .int .i64 0] 45 fun b28 W28 n28 => ?_
 have hup'15 := own_below (own_below (own_below hup n1.below) (below_drew W1)) hb21
 have r28_hup := own_ne hup'15 n28
 have kl'15 := kl'13.below n28.below
 refine xb (.o [] 0) 0 kl'15 ?_
 have hup'16 := own_below hup'15 n28.below
 have hB := Bl.nextB (Bl.nextB (Bl.nextB (Bl.nextB (Below.refl B w) hBw n1.below) hBw (below_drew W1)) hBw hb21) hBw n28.below
 refine ybi (.o [] 7) (.t B [25, 45]) fun _ _ _ _ zJ zQ zo zx zy zK => op_app (m := 1) (news := [.int .i64 (↑i : Int), .string ⟨(leB (↑(q + i) : Int) 8 ++ leB (↑(freeN (L.getD i [])) : Int) 4 ++ leB (↑(firstN (L.getD i [])) : Int) 4).toArray⟩, .int .i64 0]) (.agg #[.int .i64 0, .string ⟨#[]⟩, .int .i64 0]) 3 32 (i + 1) ((slotsE L q (i + 1)).flatMap entC) zo Tryz.underlying25 (by kernel_rfl) rfl (by decide) zx hup'16 zy (n28.blk.sl 1 1 (by decide) (by decide)) rfl (by simp [Value.oneCell']) (by unfold maxLen; omega) (by omega) (Nat.le_trans hBx hB.size) (by rfl) (slots_row L q i) fun px29 cx29 W29 o29 hg29 hb29 => ?_
 refine zK _ _ (sft_grown (hb29.mono hBm) hg29 hup'16 (by decide)) ?_
 have kl'16 := kl'15.grown hg29 hup'16 (by decide)
 refine ys (.o [] 8) kl'16 [.slice px29 (i + 1) cx29] (.t B [25, 45]) fun W30 u30 k30 => ⟨(sft_upd u30 kl'16 hBl (by decide)), ?_⟩
 have hB'8 := u30.below (hB.trans (hb29.mono hBm)) hBl
 have hO := (((((show Only [25, 45] w _ from (Only.of_below n1.below)).trans (Only.of_below (below_drew W1))).trans (Only.of_below hb21)).trans (Only.of_below n28.below)).trans (Only.of_grown hg29 hup'16 (by decide))).trans (Only.of_upd u30 kl'16 (by decide))
 have o29'1 := u30.own2 o29 kl'16 (by decide)
 have hZ'8 := (((((hZ.below n1.below).below (below_drew W1)).below hb21).below n28.below).grown hg29 hup'16).upd u30 (by simp)
 exact xe 1 (.tuple #[]) ⟨_, _, _, rfl, hB'8, hO, k30, o29'1, hZ'8.fr⟩
end Go.Proofs.YthlakkdgcgkcdaaGreat
namespace Go.Proofs.YthlakkdgcgkcdaaGreat
open Go.RowKit Go.Extern.Stop Go.Stop Go.Extern
set_option linter.unusedVariables false
attribute [local irreducible] wpList wpAnyH Code.wp Oper.wp Go

def LayPost (B ba b g nn cc : Nat) (pa : Option Addr) (ca f N k0 : Nat) (bs : List UInt8) (bl : Nat) (L : List (List Int)) (w : World) (e : Ending) (w' : World) : Prop :=
  ∃ p c, e = .returned .nilIface ∧ Below B w w' ∧ Only [78, 5, 25, 45] w w' ∧ Fr [ba, g, bl] w w' ∧ Al B ba b g nn cc pa ca f N (k0 + L.length) (cntsB L (f + k0) bs L.length) w' ∧ Blk w' bl [.slice p L.length c] 25 ∧ w'.ownsRow w.heap.size 45 3 (.slice p L.length c) L.length ((slotsE L (f + k0) L.length).flatMap entC)
set_option maxRecDepth 100000 in
set_option maxHeartbeats 8000000 in
theorem plot_layD (B ba b g nn cc : Nat) (pa : Option Addr) (ca f N k0 : Nat) (bs : List UInt8) (bl B2 : Nat) (pl : Option Addr) (cl : Nat) (gs : List (Nat × Nat)) (L : List (List Int)) (w : World) (hC : AlC B ba nn cc ca f N) (hA : Al B ba b g nn cc pa ca f N k0 bs w) (hL : Lists w B2 (.slice pl L.length cl) gs L) (hS : ∀ i, i < L.length → Small (L.getD i []) ∧ (L.getD i []).length ≤ 960) (hf1 : 1 ≤ f) (hk : k0 + L.length ≤ N) (kl : Blk w bl [.slice none 0 0] 25) (hBl : B ≤ bl) (hBw : B ≤ w.heap.size) :
    Calls Tryz.prog 22 #[.pointer (some ⟨ba, 0, none⟩), .slice pl L.length cl, .func (.func 23) #[] #[.pointer (some ⟨bl, 0, none⟩)]] w (LayPost B ba b g nn cc pa ca f N k0 bs bl L w) := by
 have hcf := hC.hf
 have hcn := hC.hn
 refine zin 51 Tryz.func22 ?_
 have hB := Below.refl B w
 refine zl 14 51 (fun zm zkv V => ∃ (i : Nat) (p : Option Addr) (c : Nat), zkv = [(0, .pointer (some ⟨ba, 0, none⟩)), (2, .func (.func 23) #[] #[.pointer (some ⟨bl, 0, none⟩)]), (15, .slice pl L.length cl), (16, .int .i64 (↑L.length : Int)), (17, .int .i64 (↑i : Int))] ∧ zm = L.length - ((↑i : Int)).toNat ∧ Below B w V ∧ Fr [ba, g, bl] w V ∧ Only [78, 5, 25, 45] w V ∧ Blk V bl ([.slice p i c]) 25 ∧ Al B ba b g nn cc pa ca f N (k0 + i) (cntsB L (f + k0) bs i) V ∧ Lists V B2 (.slice pl L.length cl) gs L ∧ V.ownsRow w.heap.size 45 3 (.slice p i c) i ((slotsE L (f + k0) i).flatMap entC) ∧ i ≤ L.length) ⟨0, none, 0, rfl, rfl, hB, (Fr.refl _ _), (Only.refl _ _), kl, hA, hL, World.ownsRow_nil _ _ _ _, Nat.zero_le _⟩ ?_
 rintro _ _ W1 ⟨i, p, c, rfl, rfl, hB_1, hX_1, hO_1, k1_bl, hA, hL, hup, hi⟩ J1 hJ1 r1
 refine xid 6 ((↑i : Int) < (↑L.length : Int)) (fun hc2 => ?_) (fun hc2 => ?_)
 · refine xx 6 _ L.length i 1 (Lists.elem hL rfl (k := i) (by omega)).1 ?_
   refine xl 0 ((Lists.elem hL rfl (k := i) (by omega)).2) ?_
   refine xc 6 (args := #[.slice (some ⟨(gs.getD i (0, 0)).1, 0, none⟩) ((L.getD i []).length) ((gs.getD i (0, 0)).2)]) (bits_Put _ _ (L.getD i []) _ (hS i (by omega)).1 (hS i (by omega)).2 (own_sl (hL.each i (by omega)))) ?_
   rintro _ W3 ⟨_, rfl, hb3, g6, rfl, h6⟩
   have hA'1 := hA.below hb3
   have hO'1 := hO_1.trans (Only.of_below hb3)
   have h6'1 := own_mono h6 hB_1.size
   have hB'1 := Bl.nextB hB_1 hBw hb3
   refine xc 21 (args := #[.pointer (some ⟨ba, 0, none⟩), .int .i64 3, .slice (some ⟨g6, 0, none⟩) 244 244]) (alloc_LayQ B ba b g nn cc pa ca f N (k0 + i) (cntsB L (f + k0) bs i) 3 (some ⟨g6, 0, none⟩) 244 (bitsB (L.getD i [])) (f + k0 + i) 244 _ (Nat.add_assoc _ _ _).symm (bitsT_len _ _) hC hA'1 (by omega) (by decide) (by decide) (fun W _ hO'1 => bys_of (own_sl (own_only h6'1 hO'1 (by decide))) (bitsT_len _ _)) (by decide) (Nat.le_trans hBw hB'1.size)) ?_
   rintro _ W4 ⟨rfl, hb4, hO4, hX4, hA⟩
   have hL'1 := (hL.below hb3).only hO4 (by decide)
   refine xr 20 (args := #[.slice (some ⟨(gs.getD i (0, 0)).1, 0, none⟩) ((L.getD i []).length) ((gs.getD i (0, 0)).2)]) (bits_Free _ _ (L.getD i []) _ (hS i (by omega)).2 (own_sl (hL'1.each i (by omega)))) fun W5 hb5 => ?_
   have hf9 : freeN (L.getD i []) ≤ 960 := Nat.le_trans (freeK_le _ _) (hS i (by omega)).2
   have hg9 : firstN (L.getD i []) ≤ 960 := Nat.le_trans (firstN_le _) (hS i (by omega)).2
   have hB'2 := Bl.nextB (hB'1.trans hb4) hBw hb5
   have k1_bl'1 := ((k1_bl.below hb3).only hO4 (by decide)).below hb5
   have hup'1 := own_below (own_only (own_below hup hb3) hO4 (by decide)) hb5
   refine xc 13 (args := #[.agg #[.int .i64 (↑(f + k0 + i) : Int), .int .i64 (↑(freeN (L.getD i [])) : Int), .int .i64 (↑(firstN (L.getD i [])) : Int)], .pointer (some ⟨bl, 0, none⟩)]) (plot_data1 B w.heap.size bl p c L (f + k0) i _ hBw hB'2.size (Nat.le_trans hBw hB'2.size) hBl k1_bl'1 hup'1 (by omega) (by omega) (by omega) hf9 hg9) ?_
   rintro _ W6 ⟨_, p9, c9, rfl, hb6, hO6, kln, hup, hX6⟩
   refine xwm 4 ((↑i : Int) + 1) (↑(i + 1) : Int) ?_
   have hA'2 := (hA.below hb5).only hO6 (by decide)
   have hL'2 := (hL'1.below hb5).only hO6 (by decide)
   have hB'3 := hB'2.trans hb6
   have hX'1 := (Fr.trans_B (((hX_1.trans (Fr.of_below hb3)).trans (hX4.mono (by simp))).trans (Fr.of_below hb5)) hX6 (by simp))
   have hO'2 := ((hO'1.trans (hO4.wide)).trans (Only.of_below hb5)).trans (hO6.wide)
   exact ze 2 (hJ1 _ _ _ ⟨i + 1, _, _, rfl, rfl, hB'3, hX'1, hO'2, kln, hA'2, hL'2, hup, by omega⟩ (by omega))
 refine xe 11 .nilIface ?_
 obtain rfl : i = L.length := by omega
 exact ⟨_, _, rfl, hB_1, hO_1, hX_1, hA, k1_bl, hup⟩
end Go.Proofs.YthlakkdgcgkcdaaGreat
