/- The document's answer for layer 1, read: width, room, Get, Unpack, Zero. Strings compared, and the bytes of a number that was read. No program is named here. The document's example of chapter 5: scantlinglaw05.lives returns true. scantlinglaw05.Own and Told, scantlingref05.At and Same, as contracts. The document's answer for the layers 3 and 11: an image's blocks, Of, Write, Bytes; Write of a block. The document's answer for the layers 3, 4 and 11, read: Open, Image.Read, in. Package node at a node that is right: flag, key, Right, Put. node.Read, whatever the bytes. code.Pack of one field and of the six fields of a node; value.Root. value.ReadRoot, whatever the string. The document's answer for the layers 3 and 11, read: Image.Read, in. node.Put of a node that is right. The document's answer for layer 7: Width, Max, Right and Put at a node that is right. -/
import Derived.Laws.IdiomStrings
import Derived.Test.YtinegkldgjhnpaaGreatDoorMg2
namespace Go.Proofs.YtinegkldgjhnpaaGreatDoor
open Go.RowKit Go.Extern.Stop Go.Stop Go.Extern
set_option linter.unusedVariables false
attribute [local irreducible] wpList wpAnyH Code.wp Oper.wp Go

theorem rawN_hi (l : List UInt8) : ∀ (j k r : Nat), rawN l (k + j) r ≤ rawN l k (j + r)
  | 0, k, r => by simp
  | j + 1, k, r => by
    have ih := rawN_hi l j (k + 1) r
    rw [show j + 1 + r = (j + r) + 1 by omega, rawN, show k + (j + 1) = k + 1 + j by omega]
    omega
theorem raw8 (l : List UInt8) (k : Nat) : rawN l k 8 < 9223372036854775808 ↔ (l.getD (k + 7) 0).toNat < 128 := by
  have h : ∀ i, (l.getD i 0).toNat < 256 := fun i => (l.getD i 0).toNat_lt
  have h0 := h k
  have h1 := h (k + 1)
  have h2 := h (k + 2)
  have h3 := h (k + 3)
  have h4 := h (k + 4)
  have h5 := h (k + 5)
  have h6 := h (k + 6)
  have h7 := h (k + 7)
  simp only [rawN, Nat.add_assoc, Nat.reduceAdd]
  omega
theorem rawN_last {l : List UInt8} {k w j r : Nat} (h : rawN l k w < 9223372036854775808) (hj : 0 < j) (e : j + r = w) : (l.getD (k + (j - 1)) 0).toNat + 256 * rawN l (k + j) r < 9223372036854775808 ∧ rawN l (k + (j - 1)) (r + 1) = rawN l (k + j) r * 256 + (l.getD (k + (j - 1)) 0).toNat := by
  have h1 := rawN_hi l (j - 1) k (r + 1)
  rw [show j - 1 + (r + 1) = w by omega, rawN, show k + (j - 1) + 1 = k + j by omega] at h1
  refine ⟨by omega, ?_⟩
  rw [rawN, show k + (j - 1) + 1 = k + j by omega]; omega
set_option maxRecDepth 100000 in
set_option maxHeartbeats 1000000 in
theorem ref_width1 (w : World) :
    Calls Tryz.prog 167 #[.int .i64 1] w (Ret (.bool true) w) := by
 refine zin 17 Tryz.func167 ?_
 exact xe 25 (.bool true) ⟨rfl, (Below.refl w.heap.size _)⟩
set_option maxRecDepth 100000 in
set_option maxHeartbeats 1000000 in
theorem ref_width2 (w : World) :
    Calls Tryz.prog 167 #[.int .i64 2] w (Ret (.bool true) w) := by
 refine zin 17 Tryz.func167 ?_
 exact xe 25 (.bool true) ⟨rfl, (Below.refl w.heap.size _)⟩
set_option maxRecDepth 100000 in
set_option maxHeartbeats 1000000 in
theorem ref_width4 (w : World) :
    Calls Tryz.prog 167 #[.int .i64 4] w (Ret (.bool true) w) := by
 refine zin 17 Tryz.func167 ?_
 exact xe 25 (.bool true) ⟨rfl, (Below.refl w.heap.size _)⟩
set_option maxRecDepth 100000 in
set_option maxHeartbeats 1000000 in
theorem ref_width8 (w : World) :
    Calls Tryz.prog 167 #[.int .i64 8] w (Ret (.bool true) w) := by
 refine zin 17 Tryz.func167 ?_
 exact xe 25 (.bool true) ⟨rfl, (Below.refl w.heap.size _)⟩
theorem ref_width (k : Nat) (hw : k = 1 ∨ k = 2 ∨ k = 4 ∨ k = 8) (w : World) : Calls Tryz.prog 167 #[.int .i64 (↑k : Int)] w (Ret (.bool true) w) := by
  rcases hw with rfl | rfl | rfl | rfl
  · exact ref_width1 w
  · exact ref_width2 w
  · exact ref_width4 w
  · exact ref_width8 w
set_option maxRecDepth 100000 in
set_option maxHeartbeats 1000000 in
theorem ref_room (a : Option Addr) (m c k w : Nat) (W : World) (hw : w = 1 ∨ w = 2 ∨ w = 4 ∨ w = 8) (hk : k + w ≤ m) (hm : m ≤ 100000000) :
    Calls Tryz.prog 154 #[.slice a m c, .int .i64 (↑k : Int), .int .i64 (↑w : Int)] W (Ret (.int .i64 0) W) := by
 refine zin 26 Tryz.func154 ?_
 refine xr 9 (args := #[.int .i64 (↑w : Int)]) (ref_width w hw _) fun W1 hb1 => ?_
 refine xgk 12 [11, 12] (show (decide ((↑k : Int) < (0 : Int)) : Bool) = false from decide_eq_false (by omega)) ?_
 refine xgk 6 [16, 17, 18] (show (decide ((↑k : Int) > (↑m : Int)) : Bool) = false from decide_eq_false (by omega)) ?_
 refine xwm 3 ((↑m : Int) - (↑k : Int)) (↑(m - k) : Int) ?_
 refine xk 5 (show (decide ((↑(m - k) : Int) < (↑w : Int)) : Bool) = false from decide_eq_false (by omega)) ?_
 exact xe 8 (.int .i64 0) ⟨rfl, hb1⟩
set_option maxRecDepth 100000 in
set_option maxHeartbeats 1000000 in
theorem ref_Get_big (a : Option Addr) (c k w : Nat) (l : List UInt8) (W : World) (hw : w = 1 ∨ w = 2 ∨ w = 4 ∨ w = 8) (hk : k + w ≤ l.length) (hl : l.length ≤ 100000000) (h : Bys W (.slice a l.length c) l) (hq : ¬ rawN l k w < 9223372036854775808) :
    Calls Tryz.prog 120 #[.slice a l.length c, .int .i64 (↑k : Int), .int .i64 (↑w : Int)] W (Ret (.tuple #[.int .i64 0, .int .i64 2]) W) := by
 have hw8 : w = 8 := by
   rcases hw with h1 | h1 | h1 | h1
   · have := rawN_lt4 l k w (by omega); omega
   · have := rawN_lt4 l k w (by omega); omega
   · have := rawN_lt4 l k w (by omega); omega
   · exact h1
 have hb7 := (not_congr (raw8 l k)).1 (by rw [← hw8]; exact hq)
 refine zin 45 Tryz.func120 ?_
 refine xr 11 (args := #[.slice a l.length c, .int .i64 (↑k : Int), .int .i64 (↑w : Int)]) (ref_room a l.length c k w _ hw hk hl) fun W1 hb1 => ?_
 refine xgk 19 [19, 20] (show (((↑w : Int) == (8 : Int)) : Bool) = true from by rw [hw8]; rfl) ?_
 refine xwm 2 ((↑k : Int) + 7) (↑(k + 7) : Int) ?_
 refine xx 0 _ l.length (k + 7) 1 (Bys.elem h (k := (k + 7)) (by omega)).1 ?_
 refine xl 0 ((Bys.elem (h.below hb1) (k := (k + 7)) (by omega)).2) ?_
 refine xk 4 (show (decide ((↑(l.getD (k + 7) 0).toNat : Int) ≥ (128 : Int)) : Bool) = true from decide_eq_true (by omega)) ?_
 exact xe 8 (.tuple #[.int .i64 0, .int .i64 2]) ⟨rfl, hb1⟩
set_option maxRecDepth 100000 in
set_option maxHeartbeats 2000000 in
theorem ref_Get_ok (a : Option Addr) (c k w : Nat) (l : List UInt8) (W : World) (hw : w = 1 ∨ w = 2 ∨ w = 4 ∨ w = 8) (hk : k + w ≤ l.length) (hl : l.length ≤ 100000000) (h : Bys W (.slice a l.length c) l) (hq : rawN l k w < 9223372036854775808) :
    Calls Tryz.prog 120 #[.slice a l.length c, .int .i64 (↑k : Int), .int .i64 (↑w : Int)] W (Ret (.tuple #[.int .i64 (rawN l k w : Int), .int .i64 0]) W) := by
 refine zin 45 Tryz.func120 ?_
 refine xr 11 (args := #[.slice a l.length c, .int .i64 (↑k : Int), .int .i64 (↑w : Int)]) (ref_room a l.length c k w _ hw hk hl) fun W1 hb1 => ?_
 refine xg 19 [19, 20] ((↑w : Int) == (8 : Int)) (fun hc2 => ?_) (fun hc2 => ?_)
 · have hc2 := eq_of_beq hc2
   refine xwm 2 ((↑k : Int) + 7) (↑(k + 7) : Int) ?_
   refine xx 0 _ l.length (k + 7) 1 (Bys.elem h (k := (k + 7)) (by omega)).1 ?_
   refine xl 0 ((Bys.elem (h.below hb1) (k := (k + 7)) (by omega)).2) ?_
   refine xk 4 (show (decide ((↑(l.getD (k + 7) 0).toNat : Int) ≥ (128 : Int)) : Bool) = false from decide_eq_false (by have := (raw8 l k).1 (by rw [← show w = 8 by omega]; exact hq); omega)) ?_
   refine xwm 11 ((↑w : Int) - 1) (↑(w - 1) : Int) ?_
   refine xv1 4 10 (show (.int .i64 (↑(w - 1) : Int) : Value) = .int .i64 ((↑w : Int) - 1) from congrArg (Value.int .i64) (by omega)) ?_
   refine zl 0 45 (fun zm zkv V => ∃ (j r : Nat), zkv = [(0, .slice a l.length c), (1, .int .i64 (↑k : Int)), (6, .int .i64 0), (7, .int .i64 0), (9, .int .i64 (↑(rawN l (k + j) r) : Int)), (10, .int .i64 ((↑j : Int) - 1))] ∧ zm = (((↑j : Int) - 1) + 1).toNat ∧ Below W.heap.size W V ∧ j + r = w) ⟨w, 0, rfl, rfl, hb1, by omega⟩ ?_
   rintro _ _ W3 ⟨j, r, rfl, rfl, hB_3, hjr⟩ J3 hJ3 r3
   have hrl : 0 < j → _ := fun hj => rawN_last hq hj hjr
   refine xid 7 ((↑j : Int) - 1 ≥ (0 : Int)) (fun hc4 => ?_) (fun hc4 => ?_)
   · refine xwm 6 ((↑(rawN l (k + j) r) : Int) * 256) (↑((rawN l (k + j) r) * 256) : Int) ?_
     refine xq 3 (congrArg (Value.int .i64) (show IntKind.i64.wrap ((↑k : Int) + ((↑j : Int) - 1)) = (↑(k + (j - 1)) : Int) from (show IntKind.i64.wrap ((↑k : Int) + ((↑j : Int) - 1)) = ((↑k : Int) + ((↑j : Int) - 1)) from by first | exact IntWalk.i64_in _ (by omega) | (simp only [IntKind.wrap]; omega)).trans (by omega))) ?_
     refine xx 0 _ l.length (k + (j - 1)) 1 (Bys.elem h (k := (k + (j - 1))) (by omega)).1 ?_
     refine xl 0 ((Bys.elem (h.below hB_3) (k := (k + (j - 1))) (by omega)).2) ?_
     refine xq 0 (congrArg (Value.int .i64) (show (IntKind.i64.wrap (↑(l.getD (k + (j - 1)) 0).toNat : Int) : Int) = (↑(l.getD (k + (j - 1)) 0).toNat : Int) from i64_nat (by have := (l.getD (k + (j - 1)) 0).toNat_lt; omega))) ?_
     refine xw 0 ((↑((rawN l (k + j) r) * 256) : Int) + (↑(l.getD (k + (j - 1)) 0).toNat : Int)) ?_
     refine xq 6 (congrArg (Value.int .i64) (show IntKind.i64.wrap ((↑j : Int) - 1 - 1) = ((↑(j - 1 : Nat) : Int) - 1) from (show IntKind.i64.wrap ((↑j : Int) - 1 - 1) = ((↑j : Int) - 1 - 1) from by first | exact IntWalk.i64_in _ (by omega) | (simp only [IntKind.wrap]; omega)).trans (by omega))) ?_
     refine xv1 2 9 (show (.int .i64 ((↑((rawN l (k + j) r) * 256) : Int) + (↑(l.getD (k + (j - 1)) 0).toNat : Int)) : Value) = .int .i64 (↑(rawN l (k + (j - 1)) (r + 1)) : Int) from by rw [(hrl (by omega)).2]; rfl) ?_
     exact ze 0 (hJ3 _ _ _ ⟨j - 1, r + 1, rfl, rfl, hB_3, by omega⟩ (by omega))
   refine xe 13 (.tuple #[.int .i64 (↑(rawN l (k + j) r) : Int), .int .i64 0]) ?_
   rw [show rawN l (k + j) r = rawN l k w from by rw [show j = 0 by omega, show r = w by omega]; rfl]; exact ⟨rfl, hB_3⟩
 have hc2 := ne_of_beq_false hc2
 refine xwm 21 ((↑w : Int) - 1) (↑(w - 1) : Int) ?_
 refine xv1 4 10 (show (.int .i64 (↑(w - 1) : Int) : Value) = .int .i64 ((↑w : Int) - 1) from congrArg (Value.int .i64) (by omega)) ?_
 refine zl 0 45 (fun zm zkv V => ∃ (j r : Nat), zkv = [(0, .slice a l.length c), (1, .int .i64 (↑k : Int)), (6, .int .i64 0), (7, .int .i64 0), (9, .int .i64 (↑(rawN l (k + j) r) : Int)), (10, .int .i64 ((↑j : Int) - 1))] ∧ zm = (((↑j : Int) - 1) + 1).toNat ∧ Below W.heap.size W V ∧ j + r = w) ⟨w, 0, rfl, rfl, hb1, by omega⟩ ?_
 rintro _ _ W5 ⟨j, r, rfl, rfl, hB_5, hjr⟩ J5 hJ5 r5
 have hrl : 0 < j → _ := fun hj => rawN_last hq hj hjr
 refine xid 7 ((↑j : Int) - 1 ≥ (0 : Int)) (fun hc6 => ?_) (fun hc6 => ?_)
 · refine xwm 6 ((↑(rawN l (k + j) r) : Int) * 256) (↑((rawN l (k + j) r) * 256) : Int) ?_
   refine xq 3 (congrArg (Value.int .i64) (show IntKind.i64.wrap ((↑k : Int) + ((↑j : Int) - 1)) = (↑(k + (j - 1)) : Int) from (show IntKind.i64.wrap ((↑k : Int) + ((↑j : Int) - 1)) = ((↑k : Int) + ((↑j : Int) - 1)) from by first | exact IntWalk.i64_in _ (by omega) | (simp only [IntKind.wrap]; omega)).trans (by omega))) ?_
   refine xx 0 _ l.length (k + (j - 1)) 1 (Bys.elem h (k := (k + (j - 1))) (by omega)).1 ?_
   refine xl 0 ((Bys.elem (h.below hB_5) (k := (k + (j - 1))) (by omega)).2) ?_
   refine xq 0 (congrArg (Value.int .i64) (show (IntKind.i64.wrap (↑(l.getD (k + (j - 1)) 0).toNat : Int) : Int) = (↑(l.getD (k + (j - 1)) 0).toNat : Int) from i64_nat (by have := (l.getD (k + (j - 1)) 0).toNat_lt; omega))) ?_
   refine xw 0 ((↑((rawN l (k + j) r) * 256) : Int) + (↑(l.getD (k + (j - 1)) 0).toNat : Int)) ?_
   refine xq 6 (congrArg (Value.int .i64) (show IntKind.i64.wrap ((↑j : Int) - 1 - 1) = ((↑(j - 1 : Nat) : Int) - 1) from (show IntKind.i64.wrap ((↑j : Int) - 1 - 1) = ((↑j : Int) - 1 - 1) from by first | exact IntWalk.i64_in _ (by omega) | (simp only [IntKind.wrap]; omega)).trans (by omega))) ?_
   refine xv1 2 9 (show (.int .i64 ((↑((rawN l (k + j) r) * 256) : Int) + (↑(l.getD (k + (j - 1)) 0).toNat : Int)) : Value) = .int .i64 (↑(rawN l (k + (j - 1)) (r + 1)) : Int) from by rw [(hrl (by omega)).2]; rfl) ?_
   exact ze 0 (hJ5 _ _ _ ⟨j - 1, r + 1, rfl, rfl, hB_5, by omega⟩ (by omega))
 refine xe 13 (.tuple #[.int .i64 (↑(rawN l (k + j) r) : Int), .int .i64 0]) ?_
 rw [show rawN l (k + j) r = rawN l k w from by rw [show j = 0 by omega, show r = w by omega]; rfl]; exact ⟨rfl, hB_5⟩
theorem ref_Get (a : Option Addr) (c k w : Nat) (l : List UInt8) (W : World) (hw : w = 1 ∨ w = 2 ∨ w = 4 ∨ w = 8) (hk : k + w ≤ l.length) (hl : l.length ≤ 100000000) (h : Bys W (.slice a l.length c) l) :
    Calls Tryz.prog 120 #[.slice a l.length c, .int .i64 (↑k : Int), .int .i64 (↑w : Int)] W (Ret (.tuple #[.int .i64 (getV l k w), .int .i64 (getE l k w)]) W) := by
  by_cases hq : rawN l k w < 9223372036854775808
  · rw [getV_ok hq, getE_ok hq]; exact ref_Get_ok a c k w l W hw hk hl h hq
  · rw [getV, getE, if_neg hq, if_neg hq]; exact ref_Get_big a c k w l W hw hk hl h hq
theorem ref_GetN (a : Option Addr) (n c k w : Nat) (ki wi : Int) (l : List UInt8) (W : World) (hn : l.length = n) (hki : ki = (k : Int)) (hwi : wi = (w : Int)) (hw : w = 1 ∨ w = 2 ∨ w = 4) (hk : k + w ≤ n) (hl : n ≤ 100000000) (h : Bys W (.slice a n c) l) :
    Calls Tryz.prog 120 #[.slice a n c, .int .i64 ki, .int .i64 wi] W (Ret (.tuple #[.int .i64 (rawN l k w : Int), .int .i64 0]) W) := by
  subst hn hki hwi; exact ref_Get_ok a c k w l W (by omega) hk hl h (by have := rawN_lt4 l k w (by omega); omega)
theorem ref_GetG (a : Option Addr) (n c k w : Nat) (ki wi : Int) (l : List UInt8) (W : World) (hn : l.length = n) (hki : ki = (k : Int)) (hwi : wi = (w : Int)) (hw : w = 1 ∨ w = 2 ∨ w = 4 ∨ w = 8) (hk : k + w ≤ n) (hl : n ≤ 100000000) (h : Bys W (.slice a n c) l) :
    Calls Tryz.prog 120 #[.slice a n c, .int .i64 ki, .int .i64 wi] W (Ret (.tuple #[.int .i64 (getV l k w), .int .i64 (getE l k w)]) W) := by
  subst hn hki hwi; exact ref_Get a c k w l W hw hk hl h
set_option maxRecDepth 100000 in
set_option maxHeartbeats 2000000 in
theorem ref_Unpack_ok (a : Option Addr) (c : Nat) (l : List UInt8) (aw : Option Addr) (cw : Nat) (ws : List Nat) (W : World) (hk : ∀ i, i < ws.length → ws.getD i 0 = 1 ∨ ws.getD i 0 = 2 ∨ ws.getD i 0 = 4 ∨ ws.getD i 0 = 8) (hs : ws.sum ≤ l.length) (hl : l.length ≤ 100000000) (hw : ws.length ≤ 1000) (h : Bys W (.slice a l.length c) l) (hws : Sl W (.slice aw ws.length cw) ws.length (ws.map nv)) (hq : ∀ i, i < ws.length → (unpL l 0 ws).getD i 0 < 9223372036854775808) :
    Calls Tryz.prog 115 #[.slice a l.length c, .slice aw ws.length cw] W (RetS (fun w' r => ∃ p c, r = .tuple #[.slice p ws.length c, .int .i64 0] ∧ w'.ownsRow W.heap.size 3 1 (.slice p ws.length c) ws.length ((unpL l 0 ws).map nv)) W) := by
 refine zin 41 Tryz.func115 ?_
 have hB := Below.refl W.heap.size W
 refine zl 23 41 (fun zm zkv V => ∃ (i : Nat) (p : Option Addr) (c2 : Nat), zkv = [(0, .slice a l.length c), (1, .slice aw ws.length cw), (6, .slice p i c2), (7, .int .i64 (↑(ws.take i).sum : Int)), (8, .int .i64 (↑i : Int))] ∧ zm = ws.length - ((↑i : Int)).toNat ∧ Below W.heap.size W V ∧ V.ownsRow W.heap.size 3 1 (.slice p i c2) i ((unpL l 0 (ws.take i)).map nv) ∧ i ≤ ws.length) ⟨0, _, _, rfl, rfl, hB, World.ownsRow_nil _ _ _ _, Nat.zero_le _⟩ ?_
 rintro _ _ W1 ⟨i, p, c2, rfl, rfl, hB_1, ho, hi⟩ J1 hJ1 r1
 have hts : i < ws.length → (ws.take i).sum + ws.getD i 0 ≤ ws.sum := take_sum_le
 have hui : i < ws.length → (unpL l 0 ws).getD i 0 = rawN l (ws.take i).sum (ws.getD i 0) := fun h => by rw [unpL_get l ws 0 i h, Nat.zero_add]
 refine xid 9 ((↑i : Int) < (↑ws.length : Int)) (fun hc2 => ?_) (fun hc2 => ?_)
 · refine xx 10 _ ws.length i 1 (nv_elem hws rfl (k := i) (by omega)).1 ?_
   refine xl 0 ((nv_elem (hws.below hB_1) rfl (k := i) (by omega)).2) ?_
   refine xr 0 (args := #[.slice a l.length c, .int .i64 (↑(ws.take i).sum : Int), .int .i64 (↑(ws.getD i 0) : Int)]) (ref_Get a c (ws.take i).sum (ws.getD i 0) l _ (hk i (by omega)) (by omega) hl (h.below hB_1)) fun W3 hb3 => ?_
   refine xk 14 (show (((getE l (ws.take i).sum (ws.getD i 0)) != (0 : Int)) : Bool) = false from by rw [getE_ok (by rw [← hui (by omega)]; exact hq i (by omega))]; rfl) ?_
   refine xbs 6 1 [.int .i64 (getV l (ws.take i).sum (ws.getD i 0))] 3 fun b4 W4 n4 => ?_
   have hB'1 := Bl.next hB_1 hb3
   have g4 := n4.ge hB'1
   have ho'1 := own_below ho hb3
   have r4_ho := own_ne ho'1 n4
   have ho'2 := own_below ho'1 n4.below
   have hB'2 := Bl.next hB'1 n4.below
   refine xbi 0 fun _ _ _ _ zJ zQ zo zx zy zK => op_app (m := 1) (news := [.int .i64 (getV l (ws.take i).sum (ws.getD i 0))]) (.int .i64 0) 1 8 (i + 1) ((unpL l 0 (ws.take (i + 1))).map nv) zo Tryz.underlying26 (by kernel_rfl) rfl (by decide) zx ho'2 zy (n4.blk.sl 1 1 (by decide) (by decide)) rfl (by simp [Value.oneCell']) (by unfold maxLen; omega) (by omega) hB'2.size (by rfl) (by rw [take_snoc (by omega), unpL_snoc, Nat.zero_add, List.map_append]; simp only [List.map_cons, List.map_nil, nv]; rw [getV_ok (by rw [← hui (by omega)]; exact hq i (by omega))]) fun px5 cx5 W5 o5 hg5 hb5 => ?_
   refine zK _ _ ?_
   refine xx 7 _ ws.length i 1 (nv_elem hws rfl (k := i) (by omega)).1 ?_
   have hB'3 := hB'2.trans hb5
   refine xl 0 ((nv_elem (hws.below hB'3) rfl (k := i) (by omega)).2) ?_
   refine xwm 0 ((↑(ws.take i).sum : Int) + (↑(ws.getD i 0) : Int)) (↑((ws.take i).sum + (ws.getD i 0)) : Int) ?_
   refine xwm 6 ((↑i : Int) + 1) (↑(i + 1) : Int) ?_
   refine xv1 2 7 (show (.int .i64 (↑((ws.take i).sum + (ws.getD i 0)) : Int) : Value) = .int .i64 (↑(ws.take (i + 1)).sum : Int) from by rw [take_snoc (by omega), List.sum_append]; simp) ?_
   exact ze 0 (hJ1 _ _ _ ⟨i + 1, _, _, rfl, rfl, hB'3, o5, by omega⟩ (by omega))
 refine xe 13 (.tuple #[.slice p i c2, .int .i64 0]) ?_
 obtain rfl : i = ws.length := by omega
 rw [List.take_length] at ho
 exact ⟨_, rfl, hB_1, _, _, rfl, ho⟩
set_option maxRecDepth 100000 in
set_option maxHeartbeats 2000000 in
theorem ref_Unpack_bad (a : Option Addr) (c : Nat) (l : List UInt8) (aw : Option Addr) (cw : Nat) (ws : List Nat) (W : World) (hk : ∀ i, i < ws.length → ws.getD i 0 = 1 ∨ ws.getD i 0 = 2 ∨ ws.getD i 0 = 4 ∨ ws.getD i 0 = 8) (hs : ws.sum ≤ l.length) (hl : l.length ≤ 100000000) (hw : ws.length ≤ 1000) (h : Bys W (.slice a l.length c) l) (hws : Sl W (.slice aw ws.length cw) ws.length (ws.map nv)) (hq : ¬ ∀ i, i < ws.length → (unpL l 0 ws).getD i 0 < 9223372036854775808) :
    Calls Tryz.prog 115 #[.slice a l.length c, .slice aw ws.length cw] W (Ret (.tuple #[.slice none 0 0, .int .i64 2]) W) := by
 refine zin 41 Tryz.func115 ?_
 have hB := Below.refl W.heap.size W
 refine zl 23 41 (fun zm zkv V => ∃ (i : Nat) (p : Option Addr) (c2 : Nat), zkv = [(0, .slice a l.length c), (1, .slice aw ws.length cw), (6, .slice p i c2), (7, .int .i64 (↑(ws.take i).sum : Int)), (8, .int .i64 (↑i : Int))] ∧ zm = ws.length - ((↑i : Int)).toNat ∧ Below W.heap.size W V ∧ V.ownsRow W.heap.size 3 1 (.slice p i c2) i ((unpL l 0 (ws.take i)).map nv) ∧ i ≤ ws.length ∧ (∀ j, j < i → (unpL l 0 ws).getD j 0 < 9223372036854775808)) ⟨0, _, _, rfl, rfl, hB, World.ownsRow_nil _ _ _ _, Nat.zero_le _, ?_⟩ ?_
 · exact fun j hj => absurd hj (by omega)
 rintro _ _ W1 ⟨i, p, c2, rfl, rfl, hB_1, ho, hi, hall⟩ J1 hJ1 r1
 have hts : i < ws.length → (ws.take i).sum + ws.getD i 0 ≤ ws.sum := take_sum_le
 have hui : i < ws.length → (unpL l 0 ws).getD i 0 = rawN l (ws.take i).sum (ws.getD i 0) := fun h => by rw [unpL_get l ws 0 i h, Nat.zero_add]
 refine xid 9 ((↑i : Int) < (↑ws.length : Int)) (fun hc2 => ?_) (fun hc2 => ?_)
 · refine xx 10 _ ws.length i 1 (nv_elem hws rfl (k := i) (by omega)).1 ?_
   refine xl 0 ((nv_elem (hws.below hB_1) rfl (k := i) (by omega)).2) ?_
   refine xr 0 (args := #[.slice a l.length c, .int .i64 (↑(ws.take i).sum : Int), .int .i64 (↑(ws.getD i 0) : Int)]) (ref_Get a c (ws.take i).sum (ws.getD i 0) l _ (hk i (by omega)) (by omega) hl (h.below hB_1)) fun W3 hb3 => ?_
   refine xin 14 (getE l (ws.take i).sum (ws.getD i 0)) (0 : Int) (fun hc4 => ?_) (fun hc4 => ?_)
   · have hgr := getE_two hc4
     have hB'1 := Bl.next hB_1 hb3
     refine xe 14 (.tuple #[.slice none 0 0, .int .i64 (getE l (ws.take i).sum (ws.getD i 0))]) ?_
     rw [hgr.2]; exact ⟨rfl, hB'1⟩
   have hgr := getE_zero hc4
   refine xbs 6 1 [.int .i64 (getV l (ws.take i).sum (ws.getD i 0))] 3 fun b5 W5 n5 => ?_
   have hB'2 := Bl.next hB_1 hb3
   have g5 := n5.ge hB'2
   have ho'1 := own_below ho hb3
   have r5_ho := own_ne ho'1 n5
   have ho'2 := own_below ho'1 n5.below
   have hB'3 := Bl.next hB'2 n5.below
   refine xbi 0 fun _ _ _ _ zJ zQ zo zx zy zK => op_app (m := 1) (news := [.int .i64 (getV l (ws.take i).sum (ws.getD i 0))]) (.int .i64 0) 1 8 (i + 1) ((unpL l 0 (ws.take (i + 1))).map nv) zo Tryz.underlying26 (by kernel_rfl) rfl (by decide) zx ho'2 zy (n5.blk.sl 1 1 (by decide) (by decide)) rfl (by simp [Value.oneCell']) (by unfold maxLen; omega) (by omega) hB'3.size (by rfl) (by rw [take_snoc (by omega), unpL_snoc, Nat.zero_add, List.map_append]; simp only [List.map_cons, List.map_nil, nv]; rw [getV_ok hgr]) fun px6 cx6 W6 o6 hg6 hb6 => ?_
   refine zK _ _ ?_
   refine xx 7 _ ws.length i 1 (nv_elem hws rfl (k := i) (by omega)).1 ?_
   have hB'4 := hB'3.trans hb6
   refine xl 0 ((nv_elem (hws.below hB'4) rfl (k := i) (by omega)).2) ?_
   refine xwm 0 ((↑(ws.take i).sum : Int) + (↑(ws.getD i 0) : Int)) (↑((ws.take i).sum + (ws.getD i 0)) : Int) ?_
   refine xwm 6 ((↑i : Int) + 1) (↑(i + 1) : Int) ?_
   refine xv1 2 7 (show (.int .i64 (↑((ws.take i).sum + (ws.getD i 0)) : Int) : Value) = .int .i64 (↑(ws.take (i + 1)).sum : Int) from by rw [take_snoc (by omega), List.sum_append]; simp) ?_
   exact ze 0 (hJ1 _ _ _ ⟨i + 1, _, _, rfl, rfl, hB'4, o6, by omega, fun j hj => (Nat.lt_or_ge j i).elim (fun q => hall j q) (fun q => by obtain rfl : j = i := (by omega); rw [hui (by omega)]; exact hgr)⟩ (by omega))
 refine xe 13 (.tuple #[.slice p i c2, .int .i64 0]) ?_
 exact absurd (fun j hj => hall j (by omega)) hq
theorem ref_UnpackN (a : Option Addr) (n c : Nat) (l : List UInt8) (aw : Option Addr) (cw m : Nat) (ws : List Nat) (xs : List Nat) (W : World) (hn : l.length = n) (hm : ws.length = m) (hx : unpL l 0 ws = xs) (hk : ∀ i, i < ws.length → ws.getD i 0 = 1 ∨ ws.getD i 0 = 2 ∨ ws.getD i 0 = 4 ∨ ws.getD i 0 = 8) (hs : ws.sum ≤ n) (hl : n ≤ 100000000) (hw : ws.length ≤ 1000) (h : Bys W (.slice a n c) l) (hws : Sl W (.slice aw m cw) m (ws.map nv)) (hq : ∀ i, i < ws.length → (unpL l 0 ws).getD i 0 < 9223372036854775808) :
    Calls Tryz.prog 115 #[.slice a n c, .slice aw m cw] W (RetS (fun w' r => ∃ p c, r = .tuple #[.slice p m c, .int .i64 0] ∧ w'.ownsRow W.heap.size 3 1 (.slice p m c) m (xs.map nv)) W) := by
  subst hn hm hx; exact ref_Unpack_ok a c l aw cw ws W hk hs hl hw h hws hq
set_option maxRecDepth 100000 in
set_option maxHeartbeats 2000000 in
theorem ref_Zero (a : Option Addr) (c : Nat) (l : List UInt8) (w : World) (hl : l.length ≤ 100000000) (h : Bys w (.slice a l.length c) l) :
    Calls Tryz.prog 116 #[.slice a l.length c] w (Ret (.bool (zeroB l)) w) := by
 refine zin 15 Tryz.func116 ?_
 have hB := Below.refl w.heap.size w
 refine zl 12 15 (fun zm zkv V => ∃ (i : Nat), zkv = [(0, .slice a l.length c), (3, .int .i64 (↑i : Int))] ∧ zm = l.length - ((↑i : Int)).toNat ∧ Below w.heap.size w V ∧ i ≤ l.length ∧ (∀ j, j < i → l.getD j 0 = 0)) ⟨0, rfl, rfl, hB, Nat.zero_le _, ?_⟩ ?_
 · exact fun j hj => absurd hj (by omega)
 rintro _ _ W1 ⟨i, rfl, rfl, hB_1, hi, hz⟩ J1 hJ1 r1
 refine xid 9 ((↑i : Int) < (↑l.length : Int)) (fun hc2 => ?_) (fun hc2 => ?_)
 · refine xx 8 _ l.length i 1 (Bys.elem h (k := i) (by omega)).1 ?_
   refine xl 0 ((Bys.elem (h.below hB_1) (k := i) (by omega)).2) ?_
   refine xin 3 (↑(l.getD i 0).toNat : Int) (0 : Int) (fun hc3 => ?_) (fun hc3 => ?_)
   · refine xe 11 (.bool false) ?_
     rw [zeroB_false (j := i) (by omega) (by assumption)]; exact ⟨rfl, hB_1⟩
   refine xwm 5 ((↑i : Int) + 1) (↑(i + 1) : Int) ?_
   exact ze 2 (hJ1 _ _ _ ⟨i + 1, rfl, rfl, hB_1, by omega, fun j hj => (Nat.lt_or_ge j i).elim (hz j) (fun q => by obtain rfl : j = i := (by omega); exact byte_zero (by assumption))⟩ (by omega))
 refine xe 11 (.bool true) ?_
 rw [zeroB_true (fun j hj => hz j (by omega))]; exact ⟨rfl, hB_1⟩
theorem ref_ZeroN (a : Option Addr) (n c : Nat) (l : List UInt8) (w : World) (hn : l.length = n) (hl : n ≤ 100000000) (h : Bys w (.slice a n c) l) : Calls Tryz.prog 116 #[.slice a n c] w (Ret (.bool (zeroB l)) w) := by
  subst hn; exact ref_Zero a c l w hl h
end Go.Proofs.YtinegkldgjhnpaaGreatDoor
namespace Go.Proofs.YtinegkldgjhnpaaGreatDoor
open Go.RowKit
set_option linter.unusedVariables false
theorem loop_eq (bs : ByteArray) (i : Nat) (r : List UInt8) : ByteArray.toList.loop bs i r = r.reverse ++ bs.data.toList.drop i := by
  have hs : bs.data.toList.length = bs.size := by rw [Array.length_toList]; rfl
  rw [ByteArray.toList.loop]
  split
  · rename_i h
    have h' : i < bs.data.toList.length := by omega
    rw [loop_eq bs (i + 1) _, List.drop_eq_getElem_cons h']
    have e : bs.get! i = bs.data.toList[i] := by
      have h2 : i < bs.data.size := by rw [← Array.length_toList]; exact h'
      show bs.data[i]! = _
      rw [getElem!_pos bs.data i h2]; simp
    rw [e]; simp
  · rename_i h
    rw [List.drop_eq_nil_of_le (by omega)]; simp
termination_by bs.size - i
theorem str_list (a : List UInt8) : (⟨a.toArray⟩ : ByteArray).toList = a := by
  unfold ByteArray.toList; rw [loop_eq]; simp
theorem str_beq (a b : List UInt8) : ((⟨a.toArray⟩ : ByteArray).toList == (⟨b.toArray⟩ : ByteArray).toList) = (a == b) := by rw [str_list, str_list]
theorem byte_at_raw (l : List UInt8) : ∀ (w k i : Nat), i < w → rawN l k w / 256 ^ i % 256 = (l.getD (k + i) 0).toNat
  | 0, k, i, h => absurd h (by omega)
  | w + 1, k, 0, _ => by
    have := (l.getD k 0).toNat_lt
    rw [rawN]; simp only [Nat.pow_zero, Nat.div_one, Nat.add_zero]; omega
  | w + 1, k, i + 1, h => by
    have := (l.getD k 0).toNat_lt
    have ih := byte_at_raw l w (k + 1) i (by omega)
    rw [rawN, Nat.pow_succ, Nat.mul_comm (256 ^ i) 256, ← Nat.div_div_eq_div_mul, show ((l.getD k 0).toNat + 256 * rawN l (k + 1) w) / 256 = rawN l (k + 1) w by omega, ih, show k + 1 + i = k + (i + 1) by omega]
/-- the bytes of a number that was read are the bytes that were read -/
theorem leB_raw {l : List UInt8} {k w : Nat} (h : k + w ≤ l.length) : leB (rawN l k w : Int) w = (l.drop k).take w := by
  apply List.ext_getElem
  · simp [leB_len]; omega
  intro i h1 h2
  have hw : i < w := by simpa [leB_len] using h1
  have e := byte_at_raw l w k i hw
  apply UInt8.toNat_inj.1
  simp only [leB, List.getElem_map, List.getElem_range, byteAt, Int.toNat_natCast, UInt8.toNat_ofNat', List.getElem_take, List.getElem_drop]
  have e2 : l.getD (k + i) 0 = l[k + i]'(by omega) := by simp [List.getD, show k + i < l.length by omega]
  rw [e2] at e
  rw [← e]
theorem leB_inj {m n w : Nat} (hm : m < 256 ^ w) (hn : n < 256 ^ w) (h : leB (m : Int) w = leB (n : Int) w) : m = n := by
  have e : ∀ i, i < w → m / 256 ^ i % 256 = n / 256 ^ i % 256 := fun i hi => by
    have := congrArg (fun l => (l.getD i 0).toNat) h
    simpa [leB, byteAt, List.getD, List.getElem?_range hi, UInt8.toNat_ofNat'] using this
  clear h
  induction w generalizing m n with
  | zero => simp at hm hn; omega
  | succ w ih =>
    have h0 := e 0 (by omega)
    have h1 : m / 256 = n / 256 := ih (by rw [Nat.pow_succ] at hm; omega) (by rw [Nat.pow_succ] at hn; omega) fun i hi => by
      have := e (i + 1) (by omega)
      rw [Nat.pow_succ, Nat.mul_comm (256 ^ i) 256, ← Nat.div_div_eq_div_mul, ← Nat.div_div_eq_div_mul] at this
      exact this
    simp only [Nat.pow_zero, Nat.div_one] at h0
    omega
theorem str_bne (a b : List UInt8) : (!((⟨a.toArray⟩ : ByteArray).toList == (⟨b.toArray⟩ : ByteArray).toList)) = !(a == b) := by rw [str_beq]
end Go.Proofs.YtinegkldgjhnpaaGreatDoor
namespace Go.Proofs.YtinegkldgjhnpaaGreatDoor
open Go.RowKit Go.Extern.Stop Go.Stop Go.Extern
set_option linter.unusedVariables false

theorem numB_digit (n : Nat) (h : n < 10) : numB n = ⟨#[48 + n.toUInt8]⟩ := by
  have : n = 0 ∨ n = 1 ∨ n = 2 ∨ n = 3 ∨ n = 4 ∨ n = 5 ∨ n = 6 ∨ n = 7 ∨ n = 8 ∨ n = 9 := by omega
  rcases this with rfl | rfl | rfl | rfl | rfl | rfl | rfl | rfl | rfl | rfl <;> (simp [numB, Lib.itoa, Lib.decDigits]; try decide)
theorem text_lives : textB [some 3, some 7] (some 4) = ⟨#[98, 108, 111, 99, 107, 32, 51, 58, 32, 98, 108, 111, 99, 107, 32, 55, 58, 32, 101, 114, 114, 111, 114, 32, 52]⟩ := by
  simp only [textB]
  rw [show numB 3 = ⟨#[51]⟩ from numB_digit 3 (by omega), show numB 7 = ⟨#[55]⟩ from numB_digit 7 (by omega), show numB 4 = ⟨#[52]⟩ from numB_digit 4 (by omega)]
  rfl

end Go.Proofs.YtinegkldgjhnpaaGreatDoor
namespace Go.Proofs.YtinegkldgjhnpaaGreatDoor
open Go.RowKit Go.Extern.Stop Go.Stop Go.Extern
set_option linter.unusedVariables false

/-- an error as the document has it -/
def FltV (w : World) (v : Value) (l : List Int) (c : Int) : Prop := ∃ s, v = .agg #[s, .int .i64 c] ∧ Ints w s l
theorem FltV.below {w w' : World} {v : Value} {l : List Int} {c : Int} (h : FltV w v l c) (hb : Below w.heap.size w w') : FltV w' v l c := by
  obtain ⟨s, rfl, hs⟩ := h
  exact ⟨s, rfl, hs.below hb⟩
def ownL (l : List Int) (c : Int) : List (Option Int) := if c = 0 then [] else l.map some
def ownT (c : Int) : Option Int := if c = 0 then none else some c
theorem ownL_nz {l : List Int} {c : Int} (h : c ≠ 0) : ownL l c = l.map some := if_neg h
theorem ownT_nz {c : Int} (h : c ≠ 0) : ownT c = some c := if_neg h
theorem codeOf_own (l : List Int) (c : Int) : codeOf (ownL l c) (ownT c) = c := by
  by_cases h : c = 0
  · subst h; rfl
  · rw [ownL_nz h, ownT_nz h]; simp [codeOf, noErr]
theorem blocksOf_own (l : List Int) (c : Int) : blocksOf (ownL l c) = if c = 0 then [] else l := by
  by_cases h : c = 0
  · subst h; rfl
  · rw [ownL_nz h, if_neg h]; simp [blocksOf, List.filterMap_map]
theorem drop_some {l : List Int} {k : Nat} (h : k < l.length) : (l.drop k).map some = some l[k] :: (l.drop (k + 1)).map some := by
  rw [List.drop_eq_getElem_cons h]; rfl

theorem res_told {w : World} {B : Nat} {s : Value} {c : Int} {t : TypeId} (h : Blk w B [s, .int .i64 c] t) (hs : ∃ a n m, s = .slice a n m) {tmps : Array Value} (e : tmps.getD 2 undef = .pointer (some ⟨B, 0, none⟩)) :
    (results Tryz.f16 tmps).run Tryz.prog w = .ok (.agg #[s, .int .i64 c]) w := by
  obtain ⟨a, n, m, rfl⟩ := hs
  have c0 := h.cell (i := 0) rfl
  have c1 := h.cell (i := 1) rfl
  have e' : tmps[2]?.getD undef = .pointer (some ⟨B, 0, none⟩) := by simpa using e
  simp [results, Tryz.results16, go_sem, c0, c1, e']
set_option maxHeartbeats 1000000 in
theorem law05_Told (t : Option Int) (l : List (Option Int)) (v : Value) (w : World) (hlen : l.length ≤ 1000000) (hg : ErrT w) (hv : ErrV w l t v) :
    Calls Tryz.prog 16 #[v] w (RetS (fun w' r => FltV w' r (blocksOf l) (codeOf l t)) w) := by
  have hB := Bl.box w (.cells #[.slice none 0 0, .int .i64 0] 45)
  have k0 := Blk.new w [.slice none 0 0, .int .i64 0] 45
  rcases hv.nil_or with ⟨hz, rfl⟩ | ⟨hz, ty, x, rfl⟩
  · obtain ⟨rfl, rfl⟩ := noErr_true hz
    go_enter Tryz.func16, Tryz.ntmps16
    go_wp2_with fail
    exact bodyPost_ret (res_told k0 ⟨_, _, _, rfl⟩ rfl) rfl ⟨_, rfl, hB, _, rfl, .inl ⟨_, _, rfl, rfl, rfl⟩⟩
  · go_enter Tryz.func16, Tryz.ntmps16
    have hv1 := hv.below hB
    go_wp2_with fail
    refine (fault_Blocks t l _ _ hlen hv1).mono ?_
    rintro e w1 ⟨r, rfl, hb1, h1⟩
    have hB1 := Bl.next hB hb1
    go_wp2_with fail
    refine (fault_Code t l _ w1 (hg.below hB1) (hv.below hB1)).mono ?_
    rintro e w2 ⟨rfl, hb2⟩
    have k2 := (k0.below hb1).below hb2
    obtain ⟨a, m, rfl⟩ := (own_sl h1).slice
    have d0 := k2.cell (i := 0) rfl
    have d1 := k2.cell (i := 1) rfl
    have f0 := k2.frozen 0
    have f1 := k2.frozen 1
    have hB2 := Bl.next hB1 hb2
    have hB3 : Below w.heap.size w ((w2.setCell ⟨w.heap.size, 0, none⟩ (.slice a (blocksOf l).length m)).setCell ⟨w.heap.size, 1, none⟩ (.int .i64 (codeOf l t))) := (hB2.setCell (Nat.le_refl _) _).setCell (Nat.le_refl _) _
    have h3 := ownsRow_setCell_below (ownsRow_setCell_below (own_below h1 hb2) (a := ⟨w.heap.size, 0, none⟩) (by simp) (.slice a (blocksOf l).length m)) (a := ⟨w.heap.size, 1, none⟩) (by simp) (.int .i64 (codeOf l t))
    go_wp2_with fail
    exact bodyPost_ret (res_told ((k2.set 0 _).set 1 _) ⟨_, _, _, rfl⟩ rfl) rfl ⟨_, rfl, hB3, _, rfl, own_sl h3⟩
set_option maxRecDepth 100000 in
set_option maxHeartbeats 2000000 in
theorem ref05_Same (l : List Int) (c : Int) (v1 v2 : Value) (w : World) (h1 : FltV w v1 l c) (h2 : FltV w v2 l c) :
    Calls Tryz.prog 15 #[v1, v2] w (Ret (.bool true) w) := by
  obtain ⟨s1, rfl, k1⟩ := h1
  obtain ⟨s2, rfl, k2⟩ := h2
  obtain ⟨a1, p1, rfl⟩ := k1.slice
  obtain ⟨a2, p2, rfl⟩ := k2.slice
  have hmax := k1.len
  have hB : Below w.heap.size w ((w.alloc (.cells #[.slice a1 l.length p1, .int .i64 c] 45)).alloc (.cells #[.slice a2 l.length p2, .int .i64 c] 45)) := Bl.next (Bl.box _ _) (Bl.box _ _)
  have b1 : Blk ((w.alloc (.cells #[.slice a1 l.length p1, .int .i64 c] 45)).alloc (.cells #[.slice a2 l.length p2, .int .i64 c] 45)) w.heap.size [.slice a1 l.length p1, .int .i64 c] 45 := (Blk.new _ _ _).alloc _
  have b2 := Blk.new (w.alloc (.cells #[.slice a1 l.length p1, .int .i64 c] 45)) [.slice a2 l.length p2, .int .i64 c] 45
  simp only [World.size_alloc] at b2
  go_enter Tryz.func15, Tryz.ntmps15
  go_wp2_with fail
  obtain ⟨W, hW⟩ : ∃ W, (w.alloc (.cells #[.slice a1 l.length p1, .int .i64 c] 45)).alloc (.cells #[.slice a2 l.length p2, .int .i64 c] 45) = W := ⟨_, rfl⟩
  change Blk ((w.alloc (.cells #[.slice a1 l.length p1, .int .i64 c] 45)).alloc (.cells #[.slice a2 l.length p2, .int .i64 c] 45)) _ _ _ at b2
  rw [hW] at hB b1 b2 ⊢
  have k1 := k1.below hB
  have k2 := k2.below hB
  clear hW
  go_loopw [5] (fun i wr => ∃ k : Nat, k ≤ l.length ∧ i = .int .i64 k ∧ Below W.heap.size W wr) (fun i _ => l.length - (intOf i).toNat)
  case atStart => exact ⟨0, by omega, rfl, Below.refl _ _⟩
  case round =>
    obtain ⟨k, hk, rfl, hbr⟩ := hrel
    have q1 := b1.below hbr
    have q2 := b2.below hbr
    have c1 := q1.cell (i := 0) rfl
    have c2 := q2.cell (i := 0) rfl
    by_cases hlt : k < l.length
    · rcases Sl.at (k1.below hbr) with h0 | ⟨g1, o1, rfl, hc1⟩
      · rw [List.map_eq_nil_iff] at h0; subst h0; exact absurd hlt (by simp)
      rcases Sl.at (k2.below hbr) with h0 | ⟨g2, o2, rfl, hc2⟩
      · rw [List.map_eq_nil_iff] at h0; subst h0; exact absurd hlt (by simp)
      have e1 : ∀ z : Ext wr, z.val.cell? ⟨w.heap.size, 0, none⟩ = some (.slice (some ⟨g1, o1, none⟩) l.length p1) := fun z => z.get c1
      have e2 : ∀ z : Ext wr, z.val.cell? ⟨w.heap.size + 1, 0, none⟩ = some (.slice (some ⟨g2, o2, none⟩) l.length p2) := fun z => z.get c2
      have e3 : ∀ z : Ext wr, z.val.cell? ⟨g1, o1 + k, none⟩ = some (.int .i64 l[k]) := fun z => z.get (hc1 k _ (by simp [hlt]))
      have e4 : ∀ z : Ext wr, z.val.cell? ⟨g2, o2 + k, none⟩ = some (.int .i64 l[k]) := fun z => z.get (hc2 k _ (by simp [hlt]))
      have i1 : (0 : Int) ≤ (k : Int) := by omega
      have i2 : (k : Int) < (l.length : Int) := by omega
      clear hc1 hc2
      go_wp2_with fail
      refine wp_region_ext (by kernel_rfl) (by kernel_rfl) ?_
      repeat (go_big_quiet_step (fail))
      refine wpQuiet_nil ?_
      intro wx
      go_wp2_with fail
      exact ⟨⟨k + 1, by omega, by go_num, Bl.next hbr wx.below⟩, by simp [intOf]; omega⟩
    · go_wp2_with fail
      go_ret
      exact ⟨rfl, Bl.next hB hbr⟩

theorem res_at05 {w : World} {B : Nat} {s : Value} {c : Int} {t : TypeId} (h : Blk w B [s, .int .i64 c] t) (hs : ∃ a n m, s = .slice a n m) {tmps : Array Value} (e : tmps.getD 4 undef = .pointer (some ⟨B, 0, none⟩)) :
    (results Tryz.f84 tmps).run Tryz.prog w = .ok (.agg #[s, .int .i64 c]) w := by
  obtain ⟨a, n, m, rfl⟩ := hs
  have c0 := h.cell (i := 0) rfl
  have c1 := h.cell (i := 1) rfl
  have e' : tmps[4]?.getD undef = .pointer (some ⟨B, 0, none⟩) := by simpa using e
  simp [results, Tryz.results84, go_sem, c0, c1, e']
set_option maxRecDepth 100000 in
set_option maxHeartbeats 2000000 in
theorem ref05_At (b : Int) (l : List Int) (c : Int) (v : Value) (w : World) (hlen : l.length ≤ 1000000) (hv : FltV w v l c) :
    Calls Tryz.prog 84 #[.int .i64 b, v] w (RetS (fun w' r => FltV w' r (if c = 0 then [] else b :: l) c) w) := by
  obtain ⟨s, rfl, k⟩ := hv
  obtain ⟨i0, hi0, hz0, hz1, hz2⟩ := info_parts (P := Tryz.prog) (e := 3) (z := .int .i64 0) (size := 1) (bytes := 8) (by kernel_rfl)
  obtain ⟨a, p, rfl⟩ := k.slice
  have hB : Below w.heap.size w ((w.alloc (.cells #[.slice a l.length p, .int .i64 c] 45)).alloc (.cells #[.slice none 0 0, .int .i64 0] 45)) := Bl.next (Bl.box _ _) (Bl.box _ _)
  have b1 : Blk ((w.alloc (.cells #[.slice a l.length p, .int .i64 c] 45)).alloc (.cells #[.slice none 0 0, .int .i64 0] 45)) w.heap.size [.slice a l.length p, .int .i64 c] 45 := (Blk.new _ _ _).alloc _
  have b2 := Blk.new (w.alloc (.cells #[.slice a l.length p, .int .i64 c] 45)) [.slice none 0 0, .int .i64 0] 45
  simp only [World.size_alloc] at b2
  by_cases hc : c = 0
  · subst hc
    go_enter Tryz.func84, Tryz.ntmps84
    go_wp2_with fail
    exact bodyPost_ret (res_at05 b2 ⟨_, _, _, rfl⟩ rfl) rfl ⟨_, rfl, hB, _, rfl, .inl ⟨_, _, rfl, rfl, rfl⟩⟩
  have hc' : (c == 0) = false := by simpa using hc
  simp only [hc, if_false]
  clear hc
  go_enter Tryz.func84, Tryz.ntmps84
  go_wp2_with fail
  obtain ⟨W, hW⟩ : ∃ W, (w.alloc (.cells #[.slice a l.length p, .int .i64 c] 45)).alloc (.cells #[.slice none 0 0, .int .i64 0] 45) = W := ⟨_, rfl⟩
  have hsz : w.heap.size + 1 + 1 = W.heap.size := by rw [← hW]; simp
  change Blk ((w.alloc (.cells #[.slice a l.length p, .int .i64 c] 45)).alloc (.cells #[.slice none 0 0, .int .i64 0] 45)) _ _ _ at b2
  rw [hW] at hB b1 b2 ⊢
  have k1 := k.below hB
  clear hW k
  have c10 := b1.cell (i := 0) rfl
  have c11 := b1.cell (i := 1) rfl
  have c20 := b2.cell (i := 0) rfl
  have c21 := b2.cell (i := 1) rfl
  have f20 := b2.frozen 0
  have f21 := b2.frozen 1
  have hO : (W.alloc (.cells #[.int .i64 b] 3)).ownsRow W.heap.size 3 1 (.slice (some ⟨W.heap.size, 0, none⟩) 1 1) 1 [.int .i64 b] := World.ownsRow_lit W #[.int .i64 b] 1 (Nat.le_refl _) (by unfold maxLen; omega) rfl
  have kA := k1.below (Bl.box W (.cells #[.int .i64 b] 3))
  have hz : w.heap.size < W.heap.size := by omega
  have hz2' : w.heap.size + 1 < W.heap.size := by omega
  have hone : ∀ u ∈ l.map (Value.int .i64), u.oneCell' = true := by intro u hu; obtain ⟨x, _, rfl⟩ := List.mem_map.1 hu; rfl
  go_region_held3 (fun w' => w'.cell? ⟨w.heap.size, 0, none⟩ = some (.slice a l.length p) ∧ w'.cell? ⟨w.heap.size, 1, none⟩ = some (.int .i64 c))
    (first | go_keep | exact ⟨(hb2.cell (by exact hz)).trans (getA _ c10), (hb2.cell (by exact hz)).trans (getA _ c11)⟩)
    ((refine step_app_sl (by rfl) _ _ _ (by rfl) W.heap.size 3 i0 (.int .i64 0) 1 8 Tryz.underlying26 hi0 hz0 hz1 hz2 rfl (by omega) (.slice (some ⟨W.heap.size, 0, none⟩) 1 1) 1 [.int .i64 b] (by rfl) hO (.slice a l.length p) l.length (l.map (Value.int .i64)) (by rfl) kA (by simp) hone (by unfold maxLen; omega) (by omega) (by simp) ?_; intro v2 w2 hown2 hgrow2 hb2; obtain ⟨a2, p2, rfl⟩ := (own_sl hown2).slice; have q2 : Blk w2 (w.heap.size + 1) [.slice none 0 0, .int .i64 0] 45 := Blk.below' (by exact b2.alloc (.cells #[.int .i64 b] 3)) hb2 hz2'; have d0 := q2.cell (i := 0) rfl; have d1 := q2.cell (i := 1) rfl; have g0 := q2.frozen 0; have g1 := q2.frozen 1))
  rename_i hHeld
  clear hHeld
  have hB2 : Below w.heap.size w w2 := Bl.next hB (Below.trans (Bl.box W (.cells #[.int .i64 b] 3)).drew hb2)
  have hB3 : Below w.heap.size w ((w2.setCell ⟨w.heap.size + 1, 0, none⟩ (.slice a2 (1 + l.length) p2)).setCell ⟨w.heap.size + 1, 1, none⟩ (.int .i64 c)) := (hB2.setCell (by simp) _).setCell (by simp) _
  have h3 := own_sl (ownsRow_setCell_below (ownsRow_setCell_below hown2 (a := ⟨w.heap.size + 1, 0, none⟩) hz2' (.slice a2 (1 + l.length) p2)) (a := ⟨w.heap.size + 1, 1, none⟩) hz2' (.int .i64 c))
  go_wp2_with fail
  refine bodyPost_ret (res_at05 ((q2.set 0 _).set 1 _) ⟨_, _, _, rfl⟩ rfl) rfl ⟨_, rfl, hB3, _, rfl, ?_⟩
  simpa [Ints, Nat.add_comm] using h3
end Go.Proofs.YtinegkldgjhnpaaGreatDoor
namespace Go.Proofs.YtinegkldgjhnpaaGreatDoor
open Go.RowKit Go.Extern.Stop Go.Stop Go.Extern
set_option linter.unusedVariables false
attribute [local irreducible] wpList wpAnyH Code.wp Oper.wp Go

def blksL (l : List UInt8) (k : Nat) : List (List UInt8) := (List.range k).map (blkB l)
theorem blksL_len (l : List UInt8) (k : Nat) : (blksL l k).length = k := by simp [blksL]
theorem blksL_snoc (l : List UInt8) (k : Nat) : blksL l (k + 1) = blksL l k ++ [blkB l k] := by simp [blksL, List.range_succ]
theorem blksL_get (l : List UInt8) {k i : Nat} (h : i < k) : (blksL l k).getD i [] = blkB l i := by simp [blksL, List.getD, List.getElem?_range h]
theorem blkB_take {l : List UInt8} {i m : Nat} (h : i < m) : blkB (l.take (m * 256)) i = blkB l i := by
  unfold blkB
  rw [List.drop_take, List.take_take, Nat.min_eq_left (by omega)]
theorem blksL_take {l : List UInt8} {k : Nat} : blksL (l.take (k * 256)) k = blksL l k := List.map_congr_left fun i hi => blkB_take (List.mem_range.1 hi)
theorem blksL_set {l x : List UInt8} {k j : Nat} (hx : x.length = 256) (hl : k * 256 ≤ l.length) (hj : j < k) : (blksL l k).set j x = blksL (putB l (j * 256) x) k := by
  apply List.ext_getElem?
  intro i
  by_cases hi : i < k
  · rw [List.getElem?_set]
    have e1 : ∀ l : List UInt8, (blksL l k)[i]? = some (blkB l i) := fun l => by simp [blksL, List.getElem?_range hi]
    rw [e1, e1]
    by_cases h : j = i
    · subst h; rw [if_pos rfl, blksL_len, if_pos hi, blkB_put hx (by omega)]
    · rw [if_neg h, blkB_put_other hx (by omega) (by omega) (by omega)]
  · rw [List.getElem?_eq_none (by rw [List.length_set, blksL_len]; omega), List.getElem?_eq_none (by rw [blksL_len]; omega)]
theorem take_blk {l : List UInt8} {i : Nat} : l.take (i * 256) ++ blkB l i = l.take ((i + 1) * 256) := by
  unfold blkB
  rw [Nat.add_mul, Nat.one_mul, List.take_add]
/-- an image of the document's at block bm: k blocks, their bytes l -/
structure RefI (B bm : Nat) (p : Option Addr) (k c : Nat) (l : List UInt8) (w : World) : Prop where
  blk : Blk w bm [.slice p k c] 114
  row : w.ownsRow B 9 1 (.slice p k c) k ((blksL l k).map sv)
  hk : k ≤ 14400
  hl : l.length = k * 256
theorem RefI.below {B bm : Nat} {p : Option Addr} {k c : Nat} {l : List UInt8} {w W : World} (h : RefI B bm p k c l w) (hb : Below w.heap.size w W) : RefI B bm p k c l W := ⟨h.blk.below hb, own_below h.row hb, h.hk, h.hl⟩
theorem RefI.only {B bm : Nat} {p : Option Addr} {k c : Nat} {l : List UInt8} {w W : World} {T : List TypeId} (h : RefI B bm p k c l w) (hO : Only T w W) (hT : T.contains 114 = false ∧ T.contains 9 = false) : RefI B bm p k c l W := ⟨h.blk.only hO hT.1, own_only h.row hO hT.2, h.hk, h.hl⟩
theorem RefI.mono {B B' bm : Nat} {p : Option Addr} {k c : Nat} {l : List UInt8} {w : World} (h : RefI B bm p k c l w) (hB : B' ≤ B) : RefI B' bm p k c l w := ⟨h.blk, own_mono h.row hB, h.hk, h.hl⟩
theorem RefI.base {B bm : Nat} {p : Option Addr} {k c : Nat} {l : List UInt8} {w : World} (h : RefI B bm p k c l w) (hn : 0 < k) : ∃ g, p = some ⟨g, 0, none⟩ := by
  rcases h.row.2 with ⟨_, h0⟩ | ⟨g, cap, cur, hv, _, _, hc, _⟩
  · omega
  · simp only [Value.slice.injEq] at hv
    obtain ⟨rfl, _, rfl⟩ := hv
    exact ⟨g, rfl⟩
set_option maxRecDepth 100000 in
set_option maxHeartbeats 1000000 in
theorem ref_Of (a : Option Addr) (c : Nat) (l : List UInt8) (w : World) (h : Bys w (.slice a l.length c) l) (hl : l.length ≤ 100000000) :
    Calls Tryz.prog 12 #[.slice a l.length c] w (RetS (fun w' r => ∃ bm p c2, r = .pointer (some ⟨bm, 0, none⟩) ∧ w.heap.size ≤ bm ∧ RefI w.heap.size bm p (min (l.length / 256) 14400) c2 (l.take (min (l.length / 256) 14400 * 256)) w') w) := by
 refine zin 32 Tryz.func12 ?_
 refine xa 8 [.slice none 0 0] 114 fun b1 W1 n1 => ?_
 refine zl 5 32 (fun zm zkv V => ∃ (k : Nat) (p : Option Addr) (cp : Nat) (a2 : Option Addr) (c2 : Nat) (l2 : List UInt8), zkv = [(0, .slice a2 l2.length c2), (2, .pointer none), (3, .pointer (some ⟨b1, 0, none⟩))] ∧ zm = l2.length ∧ Below w.heap.size w V ∧ Blk V b1 ([.slice p k cp]) 114 ∧ V.ownsRow w.heap.size 9 1 (.slice p k cp) k ((blksL l k).map sv) ∧ Bys w (.slice a2 l2.length c2) l2 ∧ l2 = l.drop (k * 256) ∧ k * 256 ≤ l.length ∧ k ≤ 14400) ⟨0, none, 0, a, c, l, rfl, rfl, n1.below, n1.blk, World.ownsRow_nil _ _ _ _, h, by simp, by omega, by decide⟩ ?_
 rintro _ _ W2 ⟨k, p, cp, a2, c2, l2, rfl, rfl, hB_2, k2_b1, ho, hen, hl2, hk1, hk2⟩ J2 hJ2 r2
 have hcap := hen.cap rfl
 have hl2n : l2.length = l.length - k * 256 := by rw [hl2]; simp
 refine xg 7 [8, 9] (decide ((↑l2.length : Int) ≥ (256 : Int))) (fun hc3 => ?_) (fun hc3 => ?_)
 · have hc3 := of_decide_eq_true hc3
   refine xb 3 0 k2_b1 ?_
   refine xid 5 ((↑k : Int) < (14400 : Int)) (fun hc4 => ?_) (fun hc4 => ?_)
   · refine xd 4 (.t w.heap.size [9, 114]) ?_
     refine xsH (.e [0, 1, 2, 3, 5] 6) (fun _ _ _ _ zo zx zy V => run_sliceH (k := 256) (b := a2) (n := l2.length) (c := c2) (i := 256) (ki := .i64) zo zx zy rfl (by omega) Tryz.underlying22 (by kernel_rfl) V) ?_
     have hB'1 := Bl.next hB_2 (below_drew W2)
     refine xcvt (.e [] 7) (.t w.heap.size [9, 114]) (fun _ _ _ zo zx V hV => run_bstr zo zx ((Bys.take hen rfl 256 (by omega)).below (sft_keep hB'1 hV (Nat.le_refl _))) (by simp; omega) Tryz.underlying22 Tryz.underlying5 Tryz.underlying9) ?_
     refine xm2 0 4 8 ?_ ?_
     · have k2_b1'1 := k2_b1.below (below_drew W2)
       refine xb 0 0 k2_b1'1 ?_
       refine xbs (.o [] 8) 1 [.string ⟨(l2.take 256).toArray⟩] 9 fun b5 W5 n5 => ?_
       have g5 := n5.ge hB'1
       have ho'1 := own_below ho (below_drew W2)
       have r5_ho := own_ne ho'1 n5
       have ho'2 := own_below ho'1 n5.below
       have hB'2 := Bl.next hB'1 n5.below
       refine ybi (.o [] 9) (.t w.heap.size [9, 114]) fun _ _ _ _ zJ zQ zo zx zy zK => op_app (m := 1) (news := [.string ⟨(l2.take 256).toArray⟩]) (.string ⟨#[]⟩) 1 16 (k + 1) ((blksL l (k + 1)).map sv) zo Tryz.underlying50 (by kernel_rfl) rfl (by decide) zx ho'2 zy (n5.blk.sl 1 1 (by decide) (by decide)) rfl (by simp [Value.oneCell']) (by unfold maxLen; omega) (by omega) hB'2.size (by rfl) (by rw [blksL_snoc, List.map_append, show blkB l k = l2.take 256 from by rw [hl2]; rfl]; rfl) fun px6 cx6 W6 o6 hg6 hb6 => ?_
       refine zK _ _ (sft_grown hb6 hg6 ho'2 (by decide)) ?_
       have k2_b1'2 := (k2_b1'1.below n5.below).grown hg6 ho'2 (by decide)
       have g1 := n1.ge (Below.refl w.heap.size _)
       refine ys (.o [10, 11] 12) k2_b1'2 [.slice px6 (k + 1) cx6] (.t w.heap.size [9, 114]) fun W7 u7 k7 => ⟨(sft_upd u7 k2_b1'2 g1 (by decide)), ?_⟩
       refine xsL 4 (fun _ _ _ _ zo zx zy V => run_sliceLA (k := 256) (b := a2) (n := l2.length) (c := c2) (i := 256) (ki := .i64) 1 zo zx zy rfl (by omega) Tryz.underlying22 (by kernel_rfl) V) ?_
       refine xv1 3 0 (show (.slice (cutA a2 256 c2 1) (l2.length - 256) (c2 - 256) : Value) = .slice (cutA a2 256 c2 1) ((l2.drop 256).length) (c2 - 256) from by rw [List.length_drop]) ?_
       have hB'3 := u7.below (hB'2.trans hb6) g1
       have o6'1 := u7.own2 o6 k2_b1'2 (by decide)
       refine ze 0 (hJ2 _ _ _ ⟨k + 1, _, _, _, _, (l2.drop 256), rfl, rfl, hB'3, k7, o6'1, (by have := Bys.cut hen rfl 256 l2.length (by omega) (Nat.le_refl _); rw [List.take_of_length_le (by simp)] at this; rwa [show (l2.drop 256).length = l2.length - 256 by simp]), by rw [hl2, List.drop_drop, Nat.add_mul, Nat.one_mul], by omega, by omega⟩ ?_)
       show ((l2.drop 256).length) < l2.length
       rw [List.length_drop]; omega
     refine xbs 0 1 [.string ⟨(l2.take 256).toArray⟩] 9 fun b8 W8 n8 => ?_
     have g8 := n8.ge hB'1
     have ho'3 := own_below ho (below_drew W2)
     have r8_ho := own_ne ho'3 n8
     have k2_b1'3 := (k2_b1.below (below_drew W2)).below n8.below
     refine xb (.o [] 4) 0 k2_b1'3 ?_
     have ho'4 := own_below ho'3 n8.below
     have hB'4 := Bl.next hB'1 n8.below
     refine ybi (.o [] 9) (.t w.heap.size [9, 114]) fun _ _ _ _ zJ zQ zo zx zy zK => op_app (m := 1) (news := [.string ⟨(l2.take 256).toArray⟩]) (.string ⟨#[]⟩) 1 16 (k + 1) ((blksL l (k + 1)).map sv) zo Tryz.underlying50 (by kernel_rfl) rfl (by decide) zx ho'4 zy (n8.blk.sl 1 1 (by decide) (by decide)) rfl (by simp [Value.oneCell']) (by unfold maxLen; omega) (by omega) hB'4.size (by rfl) (by rw [blksL_snoc, List.map_append, show blkB l k = l2.take 256 from by rw [hl2]; rfl]; rfl) fun px9 cx9 W9 o9 hg9 hb9 => ?_
     refine zK _ _ (sft_grown hb9 hg9 ho'4 (by decide)) ?_
     have k2_b1'4 := k2_b1'3.grown hg9 ho'4 (by decide)
     have g1 := n1.ge (Below.refl w.heap.size _)
     refine ys (.o [10, 11] 12) k2_b1'4 [.slice px9 (k + 1) cx9] (.t w.heap.size [9, 114]) fun W10 u10 k10 => ⟨(sft_upd u10 k2_b1'4 g1 (by decide)), ?_⟩
     refine xsL 4 (fun _ _ _ _ zo zx zy V => run_sliceLA (k := 256) (b := a2) (n := l2.length) (c := c2) (i := 256) (ki := .i64) 1 zo zx zy rfl (by omega) Tryz.underlying22 (by kernel_rfl) V) ?_
     refine xv1 3 0 (show (.slice (cutA a2 256 c2 1) (l2.length - 256) (c2 - 256) : Value) = .slice (cutA a2 256 c2 1) ((l2.drop 256).length) (c2 - 256) from by rw [List.length_drop]) ?_
     have hB'5 := u10.below (hB'4.trans hb9) g1
     have o9'1 := u10.own2 o9 k2_b1'4 (by decide)
     refine ze 0 (hJ2 _ _ _ ⟨k + 1, _, _, _, _, (l2.drop 256), rfl, rfl, hB'5, k10, o9'1, (by have := Bys.cut hen rfl 256 l2.length (by omega) (Nat.le_refl _); rw [List.take_of_length_le (by simp)] at this; rwa [show (l2.drop 256).length = l2.length - 256 by simp]), by rw [hl2, List.drop_drop, Nat.add_mul, Nat.one_mul], by omega, by omega⟩ ?_)
     show ((l2.drop 256).length) < l2.length
     rw [List.length_drop]; omega
   have g1 := n1.ge (Below.refl w.heap.size _)
   refine xe 12 (.pointer (some ⟨b1, 0, none⟩)) ?_
   obtain rfl : k = min (l.length / 256) 14400 := by omega
   exact ⟨_, rfl, hB_2, _, _, _, rfl, g1, k2_b1, by rw [blksL_take]; exact ho, by omega, by simp; omega⟩
 have hc3 := of_decide_eq_false hc3
 have g1 := n1.ge (Below.refl w.heap.size _)
 refine xe 22 (.pointer (some ⟨b1, 0, none⟩)) ?_
 obtain rfl : k = min (l.length / 256) 14400 := by omega
 exact ⟨_, rfl, hB_2, _, _, _, rfl, g1, k2_b1, by rw [blksL_take]; exact ho, by omega, by simp; omega⟩
def WroteI (B bm : Nat) (p : Option Addr) (k c : Nat) (l : List UInt8) (v : Value) (w : World) (e : Ending) (w' : World) : Prop :=
  e = .returned v ∧ Below B w w' ∧ Only [9] w w' ∧ RefI B bm p k c l w'
/-- the document's fault of a number at a block -/
def fltL (no er : Int) : List Int := if er = 0 then [] else [no]
theorem fltL_nz {no er : Int} (h : er ≠ 0) : fltL no er = [no] := if_neg h
set_option maxRecDepth 100000 in
set_option maxHeartbeats 1000000 in
theorem ref05_At_z (no : Int) (w : World) :
    Calls Tryz.prog 84 #[.int .i64 no, .agg #[.slice none 0 0, .int .i64 0]] w (Ret (.agg #[.slice none 0 0, .int .i64 0]) w) := by
 refine zin 17 Tryz.func84 ?_
 refine xa 2 [.slice none 0 0, .int .i64 0] 45 fun b1 W1 n1 => ?_
 refine xa 0 [.slice none 0 0, .int .i64 0] 45 fun b2 W2 n2 => ?_
 have d2_b1 := n2.ne n1.blk
 have k1'1 := n1.blk.below n2.below
 refine xb 6 1 k1'1 ?_
 refine xsv 7 n2.blk [.slice none 0 0, .int .i64 0] fun W3 u3 k3 => ?_
 have g2 := n2.ge n1.below
 have hB := u3.below (Bl.next n1.below n2.below) g2
 exact xec 4 k3 (.agg #[.slice none 0 0, .int .i64 0]) ⟨rfl, hB⟩
set_option maxRecDepth 100000 in
set_option maxHeartbeats 1000000 in
theorem ref05_At_n (no er : Int) (w : World) (he : er ≠ 0) :
    Calls Tryz.prog 84 #[.int .i64 no, .agg #[.slice none 0 0, .int .i64 er]] w (RetS (fun w' r => ∃ a c, r = .agg #[.slice a 1 c, .int .i64 er] ∧ w'.ownsRow w.heap.size 3 1 (.slice a 1 c) 1 [.int .i64 no]) w) := by
 refine zin 17 Tryz.func84 ?_
 refine xa 2 [.slice none 0 0, .int .i64 er] 45 fun b1 W1 n1 => ?_
 refine xa 0 [.slice none 0 0, .int .i64 0] 45 fun b2 W2 n2 => ?_
 have d2_b1 := n2.ne n1.blk
 have k1'1 := n1.blk.below n2.below
 refine xb 6 1 k1'1 ?_
 refine xk 3 (show ((er == (0 : Int)) : Bool) = false from beq_false_of_ne he) ?_
 refine xd 3 (.t w.heap.size [3, 45]) ?_
 refine xm3 (.b [0, 2, 5]) 1 3 6 ?_ ?_ ?_
 · refine xbs 0 1 [.int .i64 no] 3 fun b3 W3 n3 => ?_
   refine xm2 0 3 6 ?_ ?_
   · have k1'2 := (k1'1.below (below_drew W2)).below n3.below
     refine xb 0 0 k1'2 ?_
     refine xm2 0 4 6 ?_ ?_
     · have g3 := n3.ge (Bl.next (Bl.next n1.below n2.below) (below_drew W2))
       have o4 := own_of_blk (size := 1) (n := 1) n3.blk g3 rfl (by decide)
       have hB := Bl.next (Bl.next (Bl.next n1.below n2.below) (below_drew W2)) n3.below
       refine ybi 0 (.t w.heap.size [3, 45]) fun _ _ _ _ zJ zQ zo zx zy zK => op_app (m := 0) (news := []) (.int .i64 0) 1 8 (1) ([.int .i64 no]) zo Tryz.underlying26 (by kernel_rfl) rfl (by decide) zx o4 zy (.inl ⟨none, 0, rfl, rfl, rfl⟩) rfl (by simp) (by unfold maxLen; omega) (by omega) hB.size (by rfl) (by rfl) fun px5 cx5 W5 o5 hg5 hb5 => ?_
       refine zK _ _ (sft_grown hb5 hg5 o4 (by decide)) ?_
       have k1'3 := k1'2.grown hg5 o4 (by decide)
       refine xb (.o [] 6) 1 k1'3 ?_
       have k2 := ((n2.blk.below (below_drew W2)).below n3.below).grown hg5 o4 (by decide)
       have g2 := n2.ge n1.below
       refine ysv (.o [7] 8) k2 [.slice px5 1 cx5, .int .i64 er] (.t w.heap.size [3, 45]) fun W6 u6 k6 => ⟨(sft_upd u6 k2 g2 (by decide)), ?_⟩
       have hB'1 := u6.below (hB.trans hb5) g2
       have o5'1 := u6.own2 o5 k2 (by decide)
       exact xec 3 k6 (.agg #[.slice px5 1 cx5, .int .i64 er]) ⟨_, rfl, hB'1, _, _, rfl, o5'1⟩
     refine xb 0 1 k1'2 ?_
     have g3 := n3.ge (Bl.next (Bl.next n1.below n2.below) (below_drew W2))
     have o7 := own_of_blk (size := 1) (n := 1) n3.blk g3 rfl (by decide)
     have hB := Bl.next (Bl.next (Bl.next n1.below n2.below) (below_drew W2)) n3.below
     refine ybi (.o [] 4) (.t w.heap.size [3, 45]) fun _ _ _ _ zJ zQ zo zx zy zK => op_app (m := 0) (news := []) (.int .i64 0) 1 8 (1) ([.int .i64 no]) zo Tryz.underlying26 (by kernel_rfl) rfl (by decide) zx o7 zy (.inl ⟨none, 0, rfl, rfl, rfl⟩) rfl (by simp) (by unfold maxLen; omega) (by omega) hB.size (by rfl) (by rfl) fun px8 cx8 W8 o8 hg8 hb8 => ?_
     refine zK _ _ (sft_grown hb8 hg8 o7 (by decide)) ?_
     have k2 := ((n2.blk.below (below_drew W2)).below n3.below).grown hg8 o7 (by decide)
     have g2 := n2.ge n1.below
     refine ysv (.o [7] 8) k2 [.slice px8 1 cx8, .int .i64 er] (.t w.heap.size [3, 45]) fun W9 u9 k9 => ⟨(sft_upd u9 k2 g2 (by decide)), ?_⟩
     have hB'2 := u9.below (hB.trans hb8) g2
     have o8'1 := u9.own2 o8 k2 (by decide)
     exact xec 3 k9 (.agg #[.slice px8 1 cx8, .int .i64 er]) ⟨_, rfl, hB'2, _, _, rfl, o8'1⟩
   have k1'4 := (k1'1.below (below_drew W2)).below n3.below
   refine xb 0 1 k1'4 ?_
   refine xb (.o [] 3) 0 k1'4 ?_
   have g3 := n3.ge (Bl.next (Bl.next n1.below n2.below) (below_drew W2))
   have o10 := own_of_blk (size := 1) (n := 1) n3.blk g3 rfl (by decide)
   have hB := Bl.next (Bl.next (Bl.next n1.below n2.below) (below_drew W2)) n3.below
   refine ybi (.o [] 4) (.t w.heap.size [3, 45]) fun _ _ _ _ zJ zQ zo zx zy zK => op_app (m := 0) (news := []) (.int .i64 0) 1 8 (1) ([.int .i64 no]) zo Tryz.underlying26 (by kernel_rfl) rfl (by decide) zx o10 zy (.inl ⟨none, 0, rfl, rfl, rfl⟩) rfl (by simp) (by unfold maxLen; omega) (by omega) hB.size (by rfl) (by rfl) fun px11 cx11 W11 o11 hg11 hb11 => ?_
   refine zK _ _ (sft_grown hb11 hg11 o10 (by decide)) ?_
   have k2 := ((n2.blk.below (below_drew W2)).below n3.below).grown hg11 o10 (by decide)
   have g2 := n2.ge n1.below
   refine ysv (.o [7] 8) k2 [.slice px11 1 cx11, .int .i64 er] (.t w.heap.size [3, 45]) fun W12 u12 k12 => ⟨(sft_upd u12 k2 g2 (by decide)), ?_⟩
   have hB'3 := u12.below (hB.trans hb11) g2
   have o11'1 := u12.own2 o11 k2 (by decide)
   exact xec 3 k12 (.agg #[.slice px11 1 cx11, .int .i64 er]) ⟨_, rfl, hB'3, _, _, rfl, o11'1⟩
 · have k1'5 := k1'1.below (below_drew W2)
   refine xb 0 0 k1'5 ?_
   refine xm2 0 1 6 ?_ ?_
   · refine xbs 0 1 [.int .i64 no] 3 fun b13 W13 n13 => ?_
     refine xm2 0 4 6 ?_ ?_
     · have g13 := n13.ge (Bl.next (Bl.next n1.below n2.below) (below_drew W2))
       have o14 := own_of_blk (size := 1) (n := 1) n13.blk g13 rfl (by decide)
       have hB := Bl.next (Bl.next (Bl.next n1.below n2.below) (below_drew W2)) n13.below
       refine ybi 0 (.t w.heap.size [3, 45]) fun _ _ _ _ zJ zQ zo zx zy zK => op_app (m := 0) (news := []) (.int .i64 0) 1 8 (1) ([.int .i64 no]) zo Tryz.underlying26 (by kernel_rfl) rfl (by decide) zx o14 zy (.inl ⟨none, 0, rfl, rfl, rfl⟩) rfl (by simp) (by unfold maxLen; omega) (by omega) hB.size (by rfl) (by rfl) fun px15 cx15 W15 o15 hg15 hb15 => ?_
       refine zK _ _ (sft_grown hb15 hg15 o14 (by decide)) ?_
       have k1'6 := (k1'5.below n13.below).grown hg15 o14 (by decide)
       refine xb (.o [] 6) 1 k1'6 ?_
       have k2 := ((n2.blk.below (below_drew W2)).below n13.below).grown hg15 o14 (by decide)
       have g2 := n2.ge n1.below
       refine ysv (.o [7] 8) k2 [.slice px15 1 cx15, .int .i64 er] (.t w.heap.size [3, 45]) fun W16 u16 k16 => ⟨(sft_upd u16 k2 g2 (by decide)), ?_⟩
       have hB'4 := u16.below (hB.trans hb15) g2
       have o15'1 := u16.own2 o15 k2 (by decide)
       exact xec 3 k16 (.agg #[.slice px15 1 cx15, .int .i64 er]) ⟨_, rfl, hB'4, _, _, rfl, o15'1⟩
     have k1'7 := k1'5.below n13.below
     refine xb 0 1 k1'7 ?_
     have g13 := n13.ge (Bl.next (Bl.next n1.below n2.below) (below_drew W2))
     have o17 := own_of_blk (size := 1) (n := 1) n13.blk g13 rfl (by decide)
     have hB := Bl.next (Bl.next (Bl.next n1.below n2.below) (below_drew W2)) n13.below
     refine ybi (.o [] 4) (.t w.heap.size [3, 45]) fun _ _ _ _ zJ zQ zo zx zy zK => op_app (m := 0) (news := []) (.int .i64 0) 1 8 (1) ([.int .i64 no]) zo Tryz.underlying26 (by kernel_rfl) rfl (by decide) zx o17 zy (.inl ⟨none, 0, rfl, rfl, rfl⟩) rfl (by simp) (by unfold maxLen; omega) (by omega) hB.size (by rfl) (by rfl) fun px18 cx18 W18 o18 hg18 hb18 => ?_
     refine zK _ _ (sft_grown hb18 hg18 o17 (by decide)) ?_
     have k2 := ((n2.blk.below (below_drew W2)).below n13.below).grown hg18 o17 (by decide)
     have g2 := n2.ge n1.below
     refine ysv (.o [7] 8) k2 [.slice px18 1 cx18, .int .i64 er] (.t w.heap.size [3, 45]) fun W19 u19 k19 => ⟨(sft_upd u19 k2 g2 (by decide)), ?_⟩
     have hB'5 := u19.below (hB.trans hb18) g2
     have o18'1 := u19.own2 o18 k2 (by decide)
     exact xec 3 k19 (.agg #[.slice px18 1 cx18, .int .i64 er]) ⟨_, rfl, hB'5, _, _, rfl, o18'1⟩
   refine xb 0 1 k1'5 ?_
   refine xbs (.o [] 1) 1 [.int .i64 no] 3 fun b20 W20 n20 => ?_
   have g20 := n20.ge (Bl.next (Bl.next n1.below n2.below) (below_drew W2))
   have o21 := own_of_blk (size := 1) (n := 1) n20.blk g20 rfl (by decide)
   have hB := Bl.next (Bl.next (Bl.next n1.below n2.below) (below_drew W2)) n20.below
   refine ybi (.o [] 4) (.t w.heap.size [3, 45]) fun _ _ _ _ zJ zQ zo zx zy zK => op_app (m := 0) (news := []) (.int .i64 0) 1 8 (1) ([.int .i64 no]) zo Tryz.underlying26 (by kernel_rfl) rfl (by decide) zx o21 zy (.inl ⟨none, 0, rfl, rfl, rfl⟩) rfl (by simp) (by unfold maxLen; omega) (by omega) hB.size (by rfl) (by rfl) fun px22 cx22 W22 o22 hg22 hb22 => ?_
   refine zK _ _ (sft_grown hb22 hg22 o21 (by decide)) ?_
   have k2 := ((n2.blk.below (below_drew W2)).below n20.below).grown hg22 o21 (by decide)
   have g2 := n2.ge n1.below
   refine ysv (.o [7] 8) k2 [.slice px22 1 cx22, .int .i64 er] (.t w.heap.size [3, 45]) fun W23 u23 k23 => ⟨(sft_upd u23 k2 g2 (by decide)), ?_⟩
   have hB'6 := u23.below (hB.trans hb22) g2
   have o22'1 := u23.own2 o22 k2 (by decide)
   exact xec 3 k23 (.agg #[.slice px22 1 cx22, .int .i64 er]) ⟨_, rfl, hB'6, _, _, rfl, o22'1⟩
 have k1'8 := k1'1.below (below_drew W2)
 refine xb 0 1 k1'8 ?_
 refine xm2 0 1 3 ?_ ?_
 · refine xbs 0 1 [.int .i64 no] 3 fun b24 W24 n24 => ?_
   have k1'9 := k1'8.below n24.below
   refine xb (.o [] 3) 0 k1'9 ?_
   have g24 := n24.ge (Bl.next (Bl.next n1.below n2.below) (below_drew W2))
   have o25 := own_of_blk (size := 1) (n := 1) n24.blk g24 rfl (by decide)
   have hB := Bl.next (Bl.next (Bl.next n1.below n2.below) (below_drew W2)) n24.below
   refine ybi (.o [] 4) (.t w.heap.size [3, 45]) fun _ _ _ _ zJ zQ zo zx zy zK => op_app (m := 0) (news := []) (.int .i64 0) 1 8 (1) ([.int .i64 no]) zo Tryz.underlying26 (by kernel_rfl) rfl (by decide) zx o25 zy (.inl ⟨none, 0, rfl, rfl, rfl⟩) rfl (by simp) (by unfold maxLen; omega) (by omega) hB.size (by rfl) (by rfl) fun px26 cx26 W26 o26 hg26 hb26 => ?_
   refine zK _ _ (sft_grown hb26 hg26 o25 (by decide)) ?_
   have k2 := ((n2.blk.below (below_drew W2)).below n24.below).grown hg26 o25 (by decide)
   have g2 := n2.ge n1.below
   refine ysv (.o [7] 8) k2 [.slice px26 1 cx26, .int .i64 er] (.t w.heap.size [3, 45]) fun W27 u27 k27 => ⟨(sft_upd u27 k2 g2 (by decide)), ?_⟩
   have hB'7 := u27.below (hB.trans hb26) g2
   have o26'1 := u27.own2 o26 k2 (by decide)
   exact xec 3 k27 (.agg #[.slice px26 1 cx26, .int .i64 er]) ⟨_, rfl, hB'7, _, _, rfl, o26'1⟩
 refine xb 0 0 k1'8 ?_
 refine xbs (.o [] 1) 1 [.int .i64 no] 3 fun b28 W28 n28 => ?_
 have g28 := n28.ge (Bl.next (Bl.next n1.below n2.below) (below_drew W2))
 have o29 := own_of_blk (size := 1) (n := 1) n28.blk g28 rfl (by decide)
 have hB := Bl.next (Bl.next (Bl.next n1.below n2.below) (below_drew W2)) n28.below
 refine ybi (.o [] 4) (.t w.heap.size [3, 45]) fun _ _ _ _ zJ zQ zo zx zy zK => op_app (m := 0) (news := []) (.int .i64 0) 1 8 (1) ([.int .i64 no]) zo Tryz.underlying26 (by kernel_rfl) rfl (by decide) zx o29 zy (.inl ⟨none, 0, rfl, rfl, rfl⟩) rfl (by simp) (by unfold maxLen; omega) (by omega) hB.size (by rfl) (by rfl) fun px30 cx30 W30 o30 hg30 hb30 => ?_
 refine zK _ _ (sft_grown hb30 hg30 o29 (by decide)) ?_
 have k2 := ((n2.blk.below (below_drew W2)).below n28.below).grown hg30 o29 (by decide)
 have g2 := n2.ge n1.below
 refine ysv (.o [7] 8) k2 [.slice px30 1 cx30, .int .i64 er] (.t w.heap.size [3, 45]) fun W31 u31 k31 => ⟨(sft_upd u31 k2 g2 (by decide)), ?_⟩
 have hB'8 := u31.below (hB.trans hb30) g2
 have o30'1 := u31.own2 o30 k2 (by decide)
 exact xec 3 k31 (.agg #[.slice px30 1 cx30, .int .i64 er]) ⟨_, rfl, hB'8, _, _, rfl, o30'1⟩
def FltO (no er : Int) (w : World) (e : Ending) (w' : World) : Prop := ∃ a c, e = .returned (.agg #[.slice a (fltL no er).length c, .int .i64 er]) ∧ Below w.heap.size w w' ∧ w'.ownsRow w.heap.size 3 1 (.slice a (fltL no er).length c) (fltL no er).length ((fltL no er).map (Value.int .i64))
theorem ref05_AtP (no er : Int) (w : World) : Calls Tryz.prog 84 #[.int .i64 no, .agg #[.slice none 0 0, .int .i64 er]] w (FltO no er w) := by
  by_cases he : er = 0
  · subst he
    refine (ref05_At_z no w).mono ?_
    rintro e W ⟨rfl, hb⟩
    exact ⟨none, 0, rfl, hb, World.ownsRow_nil _ _ _ _⟩
  · refine (ref05_At_n no er w he).mono ?_
    rintro e W ⟨_, rfl, hb, a, c, rfl, ho⟩
    rw [FltO, fltL_nz he]
    exact ⟨a, c, rfl, hb, ho⟩
set_option maxRecDepth 100000 in
set_option maxHeartbeats 1000000 in
theorem ref11_At (no er : Int) (w : World) :
    Calls Tryz.prog 41 #[.int .i64 no, .int .i64 er] w (FltO no er w) := by
 refine zin 9 Tryz.func41 ?_
 refine xa 2 [.slice none 0 0, .int .i64 0] 45 fun b1 W1 n1 => ?_
 refine xc 7 (args := #[.int .i64 no, .agg #[.slice none 0 0, .int .i64 er]]) (ref05_AtP no er _) ?_
 rintro _ W2 ⟨a5, c5, rfl, hb2, hs5⟩
 have k1 := n1.blk.below hb2
 refine xsv 0 k1 [.slice a5 ((fltL no er).length) c5, .int .i64 er] fun W3 u3 k3 => ?_
 have g1 := n1.ge (Below.refl w.heap.size _)
 have hB := u3.below (Bl.next n1.below hb2) g1
 have hs5'1 := u3.own2 (own_mono hs5 n1.below.size) k1 (by decide)
 exact xec 3 k3 (.agg #[.slice a5 ((fltL no er).length) c5, .int .i64 er]) ⟨_, _, rfl, hB, hs5'1⟩
/-- the number that a block's writing hands back -/
def wrE (kind no : Int) (k : Nat) (li : List UInt8) : Int := if sealE kind no li = 0 then (if 0 ≤ no ∧ no < (k : Int) then 0 else 3) else sealE kind no li
/-- the image behind it -/
def wrL (kind no : Int) (k : Nat) (li l : List UInt8) : List UInt8 := if wrE kind no k li = 0 then putB l (no.toNat * 256) (sealB kind no li) else l
theorem wrL_len {kind no : Int} {k : Nat} {li l : List UInt8} (hl : l.length = k * 256) (hs : li.length ≤ 244 ∨ wrE kind no k li ≠ 0) : (wrL kind no k li l).length = k * 256 := by
  unfold wrL
  split
  · rename_i h
    have h1 : sealE kind no li = 0 := by unfold wrE at h; split at h; assumption; rename_i h2; exact absurd h h2
    have h2 : 0 ≤ no ∧ no < (k : Int) := by unfold wrE at h; rw [if_pos h1] at h; split at h; assumption; cases h
    have h3 : li.length ≤ 244 := by
      rcases hs with hs | hs
      · exact hs
      · exact absurd h hs
    rw [putB_len (by rw [sealB_len h3]; omega), hl]
  · exact hl
def RefWr (B bm : Nat) (p : Option Addr) (k c : Nat) (l : List UInt8) (no er : Int) (w : World) (e : Ending) (w' : World) : Prop :=
  ∃ a c2, e = .returned (.agg #[.slice a (fltL no er).length c2, .int .i64 er]) ∧ Below B w w' ∧ Only [9] w w' ∧ RefI B bm p k c l w' ∧ w'.ownsRow w.heap.size 3 1 (.slice a (fltL no er).length c2) (fltL no er).length ((fltL no er).map (Value.int .i64))
end Go.Proofs.YtinegkldgjhnpaaGreatDoor
namespace Go.Proofs.YtinegkldgjhnpaaGreatDoor
open Go.RowKit Go.Extern.Stop Go.Stop Go.Extern
set_option linter.unusedVariables false
attribute [local irreducible] wpList wpAnyH Code.wp Oper.wp Go

theorem raw1 (l : List UInt8) (k : Nat) : rawN l k 1 = (l.getD k 0).toNat := by simp [rawN]
theorem raw2 (l : List UInt8) (k : Nat) : rawN l k 2 = (l.getD k 0).toNat + 256 * (l.getD (k + 1) 0).toNat := by simp [rawN]
theorem BysN.elem {w : World} {a : Option Addr} {n c : Nat} {l : List UInt8} (h : Bys w (.slice a n c) l) (hl : l.length = n) {k : Nat} (hk : k < n) : a.isSome = true ∧ w.cell? (elemAddr a (k * 1)) = some (.int .u8 (↑(l.getD k 0).toNat : Int)) := by
  subst hl; exact Bys.elem h hk
theorem slN_of {w : World} {v : Value} {n : Nat} {l : List UInt8} (h : Bys w v l) (hl : l.length = n) : Sl w v n (l.map bv) := by subst hl; exact h
theorem drop_take_len {l : List UInt8} {k m n : Nat} (h : l.length = n) (hk : k ≤ m) (hm : m ≤ n) : ((l.drop k).take (m - k)).length = m - k := by simp; omega
/-- the sum is asked by its bytes -/
theorem ask_sum {kind no : Int} {l : List UInt8} (hl : l.length = 256) : (!(((l.drop 252).take 4) == leB ((sumB l kind : Nat) : Int) 4)) = askB kind no l 2 := by
  have h1 := leB_raw (l := l) (k := 252) (w := 4) (by omega)
  have hs : sumB l kind < 256 ^ 4 := by
    have := Nat.xor_lt_two_pow (n := 32) (crcSum_lt (l.take 252)) (saltN_lt kind)
    unfold sumB; exact this
  have hr := rawN_lt l 4 252
  show _ = ((rawN l 252 4 : Int) != (sumB l kind : Int))
  rw [← h1]
  by_cases e : rawN l 252 4 = sumB l kind
  · rw [e]; simp
  · have e2 : leB (rawN l 252 4 : Int) 4 ≠ leB (sumB l kind : Int) 4 := fun h => e (leB_inj hr hs h)
    rw [beq_false_of_ne e2, bne_iff_ne.2 (by omega)]; rfl
set_option maxRecDepth 100000 in
set_option maxHeartbeats 1000000 in
theorem ref_Open_no (kind no : Int) (a : Option Addr) (c : Nat) (l : List UInt8) (w : World) (hl : l.length ≠ 256) (h : Bys w (.slice a l.length c) l) :
    Calls Tryz.prog 114 #[.slice a l.length c, .int .i64 kind, .int .i64 no] w (OpenP kind no l w) := by
 refine zin 61 Tryz.func114 ?_
 refine xr 11 (args := #[.int .i64 kind, .int .i64 no]) (ref_known kind no _) fun W1 hb1 => ?_
 refine xi 3 (!(knownB kind no)) (fun hc2 => ?_) (fun hc2 => ?_)
 · have hk1 : askB kind no l 0 = true := hc2
   refine xe 8 (.tuple #[.slice none 0 0, .int .i64 1]) ?_
   have he : openE kind no l = 1 := by simp [openE, hk1]
   exact .inl ⟨by rw [he]; decide, by rw [he], hb1⟩
 have hk1 : askB kind no l 0 = false := hc2
 have hkb : knownB kind no = true := by simpa using hc2
 refine xk 10 (show (((↑l.length : Int) != (256 : Int)) : Bool) = true from bne_iff_ne.2 (by omega)) ?_
 refine xe 8 (.tuple #[.slice none 0 0, .int .i64 7]) ?_
 have hk2 : askB kind no l 1 = true := bne_iff_ne.2 (by omega)
 have he : openE kind no l = 7 := by simp [openE, hk1, hk2]
 exact .inl ⟨by rw [he]; decide, by rw [he], hb1⟩
set_option maxRecDepth 100000 in
set_option maxHeartbeats 4000000 in
theorem ref_Open_256 (kind no : Int) (a : Option Addr) (c : Nat) (l : List UInt8) (w : World) (hl256 : l.length = 256) (h : Bys w (.slice a 256 c) l) :
    Calls Tryz.prog 114 #[.slice a 256 c, .int .i64 kind, .int .i64 no] w (OpenP kind no l w) := by
 have hcap := h.cap hl256
 have hk2 : askB kind no l 1 = false := bne_eq_false_iff_eq.2 (by rw [hl256]; rfl)
 refine zin 61 Tryz.func114 ?_
 refine xr 11 (args := #[.int .i64 kind, .int .i64 no]) (ref_known kind no _) fun W1 hb1 => ?_
 refine xi 3 (!(knownB kind no)) (fun hc2 => ?_) (fun hc2 => ?_)
 · have hk1 : askB kind no l 0 = true := hc2
   refine xe 8 (.tuple #[.slice none 0 0, .int .i64 1]) ?_
   have he : openE kind no l = 1 := by simp [openE, hk1]
   exact .inl ⟨by rw [he]; decide, by rw [he], hb1⟩
 have hk1 : askB kind no l 0 = false := hc2
 have hkb : knownB kind no = true := by simpa using hc2
 refine xd 15 .z ?_
 refine xsL (.e [0] 1) (fun _ _ _ _ zo zx zy V => run_sliceLA (k := 252) (b := a) (n := 256) (c := c) (i := 252) (ki := .i64) 1 zo zx zy rfl (by omega) Tryz.underlying22 (by kernel_rfl) V) ?_
 have hB := Bl.next hb1 (below_drew W1)
 refine xcv (.e [] 2) (fun _ _ _ zo zx V hV => run_bstr zo zx ((Bys.cut h hl256 252 256 (by decide) (Nat.le_refl _)).below (Bl.next hB hV)) (drop_take_len (m := 256) hl256 (by decide) (by decide)) Tryz.underlying22 Tryz.underlying5 Tryz.underlying9) ?_
 refine xsH (.e [3] 4) (fun _ _ _ _ zo zx zy V => run_sliceH (k := 252) (b := a) (n := 256) (c := c) (i := 252) (ki := .i64) zo zx zy rfl (by omega) Tryz.underlying22 (by kernel_rfl) V) ?_
 refine xr (.o [6] 5) (args := #[.slice a 252 c]) (ref_SumN a 252 c (l.take 252) _ (by simp; omega) (by decide) ((Bys.take h hl256 252 (by omega)).below hB)) fun W3 hb3 => ?_
 refine xr (.o [] 7) (args := #[.int .i64 kind]) (ref_Salt kind (knownB_all hkb).1 (knownB_all hkb).2.1 _) fun W4 hb4 => ?_
 refine xq (.e [] 8) (congrArg (Value.int .i64) (show (IntKind.i64.wrap (↑(BitVec.ofInt 64 (↑(crcSum (l.take 252)) : Int) ^^^ BitVec.ofInt 64 (↑(saltN kind) : Int)).toNat : Int) : Int) = (↑(sumB l kind) : Int) from i64_xor (crcSum_lt (l.take 252)) (saltN_lt kind))) ?_
 refine yc (.o [] 9) (args := #[.int .i64 (↑(sumB l kind) : Int), .int .i64 4]) .z (ref_BytesN (↑(sumB l kind) : Int) 4 4 _ (Int.natCast_nonneg _) (by have := Nat.xor_lt_two_pow (n := 32) (crcSum_lt (l.take 252)) (saltN_lt kind); unfold sumB; omega) rfl (by decide)) ?_
 rintro _ W5 ⟨_, rfl, hb5, p4, c4, rfl, h4⟩
 have hs5 := (Bl.next (Bl.next hB hb3) hb4).size
 refine ⟨hb5, ?_⟩
 have h4'1 := own_mono h4 hs5
 refine xcv (.e [] 10) (fun _ _ _ zo zx V hV => run_bstr zo zx (bys_of (own_sl (own_below h4'1 hV)) (leB_len _ _)) (leB_len _ _) Tryz.underlying22 Tryz.underlying5 Tryz.underlying9) ?_
 refine xi (.r [11] 2) (!((⟨((l.drop 252).take 4).toArray⟩ : ByteArray).toList == (⟨(leB (↑(sumB l kind) : Int) 4).toArray⟩ : ByteArray).toList)) (fun hc6 => ?_) (fun hc6 => ?_)
 · have hk3 : askB kind no l 2 = true := by rw [← ask_sum hl256, ← str_beq]; exact hc6
   have hB'1 := Bl.next (Bl.next (Bl.next hB hb3) hb4) hb5
   refine xe 8 (.tuple #[.slice none 0 0, .int .i64 4]) ?_
   have he : openE kind no l = 4 := by simp [openE, hk1, hk2, hk3]
   exact .inl ⟨by rw [he]; decide, by rw [he], hB'1⟩
 have hk3 : askB kind no l 2 = false := by rw [← ask_sum hl256, ← str_beq]; exact hc6
 have hB'2 := Bl.next (Bl.next (Bl.next hB hb3) hb4) hb5
 refine xr 5 (args := #[.slice a 256 c, .int .i64 0, .int .i64 4]) (ref_GetN a 256 c 0 4 0 4 l _ hl256 rfl rfl (by decide) (by decide) (by decide) (h.below hB'2)) fun W7 hb7 => ?_
 refine xin 15 (↑(rawN l 0 4) : Int) no (fun hc8 => ?_) (fun hc8 => ?_)
 · have hk4 : askB kind no l 3 = true := bne_iff_ne.2 hc8
   have hB'3 := Bl.next hB'2 hb7
   refine xe 8 (.tuple #[.slice none 0 0, .int .i64 5]) ?_
   have he : openE kind no l = 5 := by simp [openE, hk1, hk2, hk3, hk4]
   exact .inl ⟨by rw [he]; decide, by rw [he], hB'3⟩
 have hk4 : askB kind no l 3 = false := bne_eq_false_iff_eq.2 hc8
 have hB'4 := Bl.next hB'2 hb7
 refine xr 5 (args := #[.slice a 256 c, .int .i64 4, .int .i64 2]) (ref_GetN a 256 c 4 2 4 2 l _ hl256 rfl rfl (by decide) (by decide) (by decide) (h.below hB'4)) fun W9 hb9 => ?_
 refine xin 15 (↑(rawN l 4 2) : Int) kind (fun hc10 => ?_) (fun hc10 => ?_)
 · have hk5 : askB kind no l 4 = true := bne_iff_ne.2 hc10
   have hB'5 := Bl.next hB'4 hb9
   refine xe 8 (.tuple #[.slice none 0 0, .int .i64 6]) ?_
   have he : openE kind no l = 6 := by simp [openE, hk1, hk2, hk3, hk4, hk5]
   exact .inl ⟨by rw [he]; decide, by rw [he], hB'5⟩
 have hk5 : askB kind no l 4 = false := bne_eq_false_iff_eq.2 hc10
 refine xx 6 _ 256 6 1 (BysN.elem h hl256 (k := 6) (by omega)).1 ?_
 have hB'6 := Bl.next hB'4 hb9
 refine xl 0 ((BysN.elem (h.below hB'6) hl256 (k := 6) (by omega)).2) ?_
 refine xg 2 [50, 51] ((↑(l.getD 6 0).toNat : Int) != (0 : Int)) (fun hc11 => ?_) (fun hc11 => ?_)
 · have hc11 := ne_of_bne hc11
   refine xe 16 (.tuple #[.slice none 0 0, .int .i64 7]) ?_
   have hk6 : askB kind no l 5 = true := bne_iff_ne.2 (by have h26 : rawN l 6 2 = (l.getD 6 0).toNat + 256 * (l.getD 7 0).toNat := raw2 l 6; omega)
   have he : openE kind no l = 7 := by simp [openE, hk1, hk2, hk3, hk4, hk5, hk6]
   exact .inl ⟨by rw [he]; decide, by rw [he], hB'6⟩
 have hc11 := eq_of_bne_false hc11
 refine xx 1 _ 256 7 1 (BysN.elem h hl256 (k := 7) (by omega)).1 ?_
 refine xl 0 ((BysN.elem (h.below hB'6) hl256 (k := 7) (by omega)).2) ?_
 refine xin 4 (↑(l.getD 7 0).toNat : Int) (0 : Int) (fun hc12 => ?_) (fun hc12 => ?_)
 · refine xe 8 (.tuple #[.slice none 0 0, .int .i64 7]) ?_
   have hk6 : askB kind no l 5 = true := bne_iff_ne.2 (by have h26 : rawN l 6 2 = (l.getD 6 0).toNat + 256 * (l.getD 7 0).toNat := raw2 l 6; omega)
   have he : openE kind no l = 7 := by simp [openE, hk1, hk2, hk3, hk4, hk5, hk6]
   exact .inl ⟨by rw [he]; decide, by rw [he], hB'6⟩
 refine xb0 4 5 fun b13 W13 n13 => ?_
 have g13 := n13.ge hB'6
 have h4'2 := own_below (own_below h4'1 hb7) hb9
 have r13_h4 := own_ne h4'2 n13
 refine xsB 1 (fun _ _ _ _ _ zo zx zy zz V => run_sliceLHA (k := 8) (h := 252) (b := a) (n := 256) (c := c) (i := 8) (ki := .i64) (j := 252) (kj := .i64) 1 zo zx zy rfl zz rfl (by omega) (by omega) Tryz.underlying22 (by kernel_rfl) V) ?_
 have o13 := own_of_blk (size := 1) (n := 0) n13.blk g13 rfl (by decide)
 have hB'7 := Bl.next hB'6 n13.below
 refine xbi 0 fun _ _ _ _ zJ zQ zo zx zy zK => op_app (m := (252 - 8)) (news := (((l.drop 8).take (252 - 8)).map bv)) (.int .u8 0) 1 1 (244) ((((l.drop 8).take 244).map bv)) zo Tryz.underlying22 (by kernel_rfl) rfl (by decide) zx o13 zy (slN_of ((Bys.cut h hl256 8 252 (by decide) (by decide)).below hB'7) (by simp; omega)) (by simp; omega) (bv_one _) (by unfold maxLen; omega) (by omega) hB'7.size (by rfl) (by rfl) fun px14 cx14 W14 o14 hg14 hb14 => ?_
 refine zK _ _ ?_
 have hB'8 := hB'7.trans hb14
 refine xe 5 (.tuple #[.slice px14 244 cx14, .int .i64 0]) ?_
 have hk6 : askB kind no l 5 = false := by have h26 : rawN l 6 2 = (l.getD 6 0).toNat + 256 * (l.getD 7 0).toNat := raw2 l 6; exact bne_eq_false_iff_eq.2 (by omega)
 exact .inr ⟨by simp [openE, hk1, hk2, hk3, hk4, hk5, hk6], _, _, rfl, hB'8, o14⟩
theorem ref_Open (kind no : Int) (a : Option Addr) (n c : Nat) (l : List UInt8) (w : World) (hn : l.length = n) (h : Bys w (.slice a n c) l) : Calls Tryz.prog 114 #[.slice a n c, .int .i64 kind, .int .i64 no] w (OpenP kind no l w) := by
  by_cases hl : l.length = 256
  · obtain rfl : n = 256 := by omega
    exact ref_Open_256 kind no a c l w hl h
  · subst hn; exact ref_Open_no kind no a c l w hl h
end Go.Proofs.YtinegkldgjhnpaaGreatDoor
namespace Go.Proofs.YtinegkldgjhnpaaGreatDoor
open Go.RowKit Go.Extern.Stop Go.Stop Go.Extern
set_option linter.unusedVariables false
attribute [local irreducible] wpList wpAnyH Code.wp Oper.wp Go

theorem Sl.cap {w : World} {b : Option Addr} {n c : Nat} {xs : List Value} (h : Sl w (.slice b n c) n xs) : n ≤ c := by
  rcases h with ⟨a', c', h1, h2, _⟩ | ⟨b', off, cap, h1, h2, _, _⟩
  · omega
  · simp only [Value.slice.injEq] at h1; omega
def flagN (b : Bool) : Int := if b then 1 else 0
theorem flagN_bd (b : Bool) : 0 ≤ flagN b ∧ flagN b < 256 := by cases b <;> decide
/-- what a node that is right has -/
structure NodeOk (t : Int) (leaf : Bool) (n m v : Nat) (K : List Int) (Vs : List (List UInt8)) : Prop where
  ht1 : 1 ≤ t
  ht2 : t ≤ 5
  hm : maxN t leaf = m
  hv : widN t leaf = v
  hK : K.length = n
  hV : Vs.length = n
  hn : n ≤ m
  hl : leaf = false → 1 ≤ n
  hk0 : ∀ i, i < n → 0 ≤ K.getD i 0 ∧ K.getD i 0 ≤ 281474976710655
  hk1 : ∀ j, j + 1 < n → K.getD j 0 < K.getD (j + 1) 0
  hw : ∀ i, i < n → (Vs.getD i []).length = v
theorem widN_bd (t : Int) (leaf : Bool) : 4 ≤ widN t leaf ∧ widN t leaf ≤ 24 := by
  unfold widN
  repeat' split
  all_goals decide
theorem fitN (t : Int) (leaf : Bool) : 12 + maxN t leaf * 8 + maxN t leaf * widN t leaf ≤ 244 := by
  unfold widN maxN
  repeat' split
  all_goals decide
theorem take_getD {K : List Int} {i j : Nat} (h : j < i) : (K.take i).getD j 0 = K.getD j 0 := by simp [List.getD, List.getElem?_take_of_lt h]
theorem node_MaxN (t : Int) (leaf : Bool) (m : Nat) (hm : maxN t leaf = m) (h1 : 1 ≤ t) (h2 : t ≤ 5) (w : World) : Calls Tryz.prog 49 #[.int .i64 t, .bool leaf] w (Ret (.int .i64 (m : Int)) w) := by
  subst hm; exact node_Max t leaf h1 h2 w
theorem node_WidthN (t : Int) (leaf : Bool) (v : Nat) (hv : widN t leaf = v) (h1 : 1 ≤ t) (h2 : t ≤ 5) (w : World) : Calls Tryz.prog 48 #[.int .i64 t, .bool leaf] w (Ret (.int .i64 (v : Int)) w) := by
  subst hv; exact node_Width t leaf h1 h2 w
set_option maxRecDepth 100000 in
set_option maxHeartbeats 1000000 in
theorem node_flag (leaf : Bool) (w : World) :
    Calls Tryz.prog 51 #[.bool leaf] w (Ret (.int .i64 (flagN leaf)) w) := by
 refine zin 4 Tryz.func51 ?_
 refine xi 11 leaf (fun hc1 => ?_) (fun hc1 => ?_)
 · exact xe 7 (.int .i64 1) ⟨by simp_all [flagN], (Below.refl w.heap.size _)⟩
 exact xe 8 (.int .i64 0) ⟨by simp_all [flagN], (Below.refl w.heap.size _)⟩
set_option maxRecDepth 100000 in
set_option maxHeartbeats 1000000 in
theorem node_key (a : Option Addr) (i c : Nat) (L : List Int) (k : Int) (w : World) (hL : L.length = i) (h : Sl w (.slice a i c) i (L.map (Value.int .i64))) (h1 : 0 ≤ k) (h2 : k ≤ 281474976710655) (h3 : ∀ j, i = j + 1 → L.getD j 0 < k) (hi : i ≤ 1000) :
    Calls Tryz.prog 90 #[.slice a i c, .int .i64 k] w (Ret (.int .i64 0) w) := by
 refine zin 26 Tryz.func90 ?_
 refine xgk 12 [7, 8] (show (decide (k < (0 : Int)) : Bool) = false from decide_eq_false (by omega)) ?_
 refine xk 6 (show (decide (k > (281474976710655 : Int)) : Bool) = false from decide_eq_false (by omega)) ?_
 refine xg 6 [15, 16] (decide ((↑i : Int) > (0 : Int))) (fun hc2 => ?_) (fun hc2 => ?_)
 · have hc2 := of_decide_eq_true hc2
   refine xwm 3 ((↑i : Int) - 1) (↑(i - 1) : Int) ?_
   refine xx 0 _ i (i - 1) 1 (IntsN.elem h hL (k := (i - 1)) (by omega)).1 ?_
   refine xl 0 ((IntsN.elem h hL (k := (i - 1)) (by omega)).2) ?_
   refine xk 6 (show (decide ((L.getD (i - 1) 0) ≥ k) : Bool) = false from decide_eq_false (by have := h3 (i - 1) (by omega); omega)) ?_
   exact xe 9 (.int .i64 0) ⟨rfl, (Below.refl w.heap.size _)⟩
 have hc2 := of_decide_eq_false hc2
 exact xe 22 (.int .i64 0) ⟨rfl, (Below.refl w.heap.size _)⟩
set_option maxRecDepth 100000 in
set_option maxHeartbeats 4000000 in
theorem node_Right (t : Int) (leaf : Bool) (n m v : Nat) (K : List Int) (Vs : List (List UInt8)) (ak av : Option Addr) (ck cv : Nat) (w : World) (N : NodeOk t leaf n m v K Vs) (hKs : Sl w (.slice ak n ck) n (K.map (Value.int .i64))) (hVs : Sl w (.slice av n cv) n (Vs.map sv)) :
    Calls Tryz.prog 47 #[.agg #[.int .i64 t, .bool leaf, .slice ak n ck, .slice av n cv]] w (Ret (.bool true) w) := by
 have ht1 := N.ht1
 have ht2 := N.ht2
 have hnm := N.hn
 have hwb := widN_bd t leaf
 rw [N.hv] at hwb
 have hmb := maxN_pos t leaf
 rw [N.hm] at hmb
 have hfit := fitN t leaf
 rw [N.hm, N.hv] at hfit
 have hcap := Sl.cap hKs
 refine zin 70 Tryz.func47 ?_
 refine xa 2 [.int .i64 t, .bool leaf, .slice ak n ck, .slice av n cv] 52 fun b1 W1 n1 => ?_
 refine xb 6 0 n1.blk ?_
 refine xb 1 1 n1.blk ?_
 refine xr 0 (args := #[.int .i64 t, .bool leaf]) (node_WidthN t leaf v N.hv ht1 ht2 _) fun W2 hb2 => ?_
 refine xd 5 .z ?_
 refine xgk (.b [0, 1, 2]) [12, 13] (show (((↑v : Int) == (0 : Int)) : Bool) = false from by simp; omega) ?_
 have k1'1 := (n1.blk.below hb2).below (below_drew W2)
 refine xb (.e [3] 4) 2 k1'1 ?_
 refine xb (.e [5, 6] 7) 0 k1'1 ?_
 refine xb (.e [8] 9) 1 k1'1 ?_
 refine xr (.o [] 10) (args := #[.int .i64 t, .bool leaf]) (node_MaxN t leaf m N.hm ht1 ht2 _) fun W4 hb4 => ?_
 refine xgk (.b [11, 12, 13]) [22, 23, 24] (show (decide ((↑n : Int) > (↑m : Int)) : Bool) = false from decide_eq_false (by omega)) ?_
 have k1'2 := k1'1.below hb4
 refine xb (.e [14] 15) 3 k1'2 ?_
 refine xb (.e [16, 17] 18) 2 k1'2 ?_
 refine xgk (.b [19, 20, 21, 22]) [31, 32, 33] (show (((↑n : Int) != (↑n : Int)) : Bool) = false from by simp) ?_
 refine xb (.e [23] 24) 1 k1'2 ?_
 refine xg (.b [25, 26]) [36, 37] (!leaf) (fun hc7 => ?_) (fun hc7 => ?_)
 · refine xb (.e [27] 28) 2 k1'2 ?_
   refine xk (.r [29, 30, 31, 32] 2) (show (((↑n : Int) == (0 : Int)) : Bool) = false from by have := N.hl (by simp_all); simp; omega) ?_
   refine xb 6 2 k1'2 ?_
   have hB := Bl.next (Bl.next (Bl.next n1.below hb2) (below_drew W2)) hb4
   refine zl 5 70 (fun zm zkv V => ∃ (i : Nat), zkv = [(1, .pointer (some ⟨b1, 0, none⟩)), (3, .int .i64 (↑v : Int)), (45, .slice ak n ck), (46, .int .i64 (↑n : Int)), (47, .int .i64 (↑i : Int))] ∧ zm = n - ((↑i : Int)).toNat ∧ Below w.heap.size w V ∧ Blk V b1 ([.int .i64 t, .bool leaf, .slice ak n ck, .slice av n cv]) 52 ∧ i ≤ n) ⟨0, rfl, rfl, hB, k1'2, Nat.zero_le _⟩ ?_
   rintro _ _ W8 ⟨i, rfl, rfl, hB_8, k8_b1, hi⟩ J8 hJ8 r8
   refine xid 6 ((↑i : Int) < (↑n : Int)) (fun hc9 => ?_) (fun hc9 => ?_)
   · refine xx 7 _ n i 1 (IntsN.elem hKs N.hK (k := i) (by omega)).1 ?_
     refine xl 0 ((IntsN.elem (hKs.below hB_8) N.hK (k := i) (by omega)).2) ?_
     refine xb 7 2 k8_b1 ?_
     refine xsH 1 (fun _ _ _ _ zo zx zy V => run_sliceH (k := i) (b := ak) (n := n) (c := ck) (i := (↑i : Int)) (ki := .i64) zo zx zy rfl (by omega) Tryz.underlying26 (by kernel_rfl) V) ?_
     refine xr 1 (args := #[.slice ak i ck, .int .i64 (K.getD i 0)]) (node_key ak i ck (K.take i) (K.getD i 0) _ (by rw [List.length_take, N.hK]; omega) (by rw [List.map_take]; exact (hKs.below hB_8).head (by simpa using N.hK) i (by omega)) (N.hk0 i (by omega)).1 (N.hk0 i (by omega)).2 (fun j e => by subst e; rw [take_getD (by omega)]; exact N.hk1 j (by omega)) (by omega)) fun W10 hb10 => ?_
     have k8_b1'1 := k8_b1.below hb10
     refine xb 3 3 k8_b1'1 ?_
     refine xx 1 _ n i 1 (Strs.elem hVs N.hV (k := i) (by omega)).1 ?_
     have hB'1 := Bl.next hB_8 hb10
     refine xl 0 ((Strs.elem (hVs.below hB'1) N.hV (k := i) (by omega)).2) ?_
     refine xk 6 (show (((↑(Vs.getD i []).length : Int) != (↑v : Int)) : Bool) = false from by rw [N.hw i (by omega)]; simp) ?_
     refine xw 4 ((↑i : Int) + 1) ?_
     exact ze 2 (hJ8 _ _ _ ⟨i + 1, rfl, rfl, hB'1, k8_b1'1, by omega⟩ (by omega))
   exact xe 11 (.bool true) ⟨rfl, hB_8⟩
 refine xb (.r [27, 28, 29, 30, 31, 32] 9) 2 k1'2 ?_
 have hB := Bl.next (Bl.next (Bl.next n1.below hb2) (below_drew W2)) hb4
 refine zl 5 70 (fun zm zkv V => ∃ (i : Nat), zkv = [(1, .pointer (some ⟨b1, 0, none⟩)), (3, .int .i64 (↑v : Int)), (45, .slice ak n ck), (46, .int .i64 (↑n : Int)), (47, .int .i64 (↑i : Int))] ∧ zm = n - ((↑i : Int)).toNat ∧ Below w.heap.size w V ∧ Blk V b1 ([.int .i64 t, .bool leaf, .slice ak n ck, .slice av n cv]) 52 ∧ i ≤ n) ⟨0, rfl, rfl, hB, k1'2, Nat.zero_le _⟩ ?_
 rintro _ _ W11 ⟨i, rfl, rfl, hB_11, k11_b1, hi⟩ J11 hJ11 r11
 refine xid 6 ((↑i : Int) < (↑n : Int)) (fun hc12 => ?_) (fun hc12 => ?_)
 · refine xx 7 _ n i 1 (IntsN.elem hKs N.hK (k := i) (by omega)).1 ?_
   refine xl 0 ((IntsN.elem (hKs.below hB_11) N.hK (k := i) (by omega)).2) ?_
   refine xb 7 2 k11_b1 ?_
   refine xsH 1 (fun _ _ _ _ zo zx zy V => run_sliceH (k := i) (b := ak) (n := n) (c := ck) (i := (↑i : Int)) (ki := .i64) zo zx zy rfl (by omega) Tryz.underlying26 (by kernel_rfl) V) ?_
   refine xr 1 (args := #[.slice ak i ck, .int .i64 (K.getD i 0)]) (node_key ak i ck (K.take i) (K.getD i 0) _ (by rw [List.length_take, N.hK]; omega) (by rw [List.map_take]; exact (hKs.below hB_11).head (by simpa using N.hK) i (by omega)) (N.hk0 i (by omega)).1 (N.hk0 i (by omega)).2 (fun j e => by subst e; rw [take_getD (by omega)]; exact N.hk1 j (by omega)) (by omega)) fun W13 hb13 => ?_
   have k11_b1'1 := k11_b1.below hb13
   refine xb 3 3 k11_b1'1 ?_
   refine xx 1 _ n i 1 (Strs.elem hVs N.hV (k := i) (by omega)).1 ?_
   have hB'2 := Bl.next hB_11 hb13
   refine xl 0 ((Strs.elem (hVs.below hB'2) N.hV (k := i) (by omega)).2) ?_
   refine xk 6 (show (((↑(Vs.getD i []).length : Int) != (↑v : Int)) : Bool) = false from by rw [N.hw i (by omega)]; simp) ?_
   refine xw 4 ((↑i : Int) + 1) ?_
   exact ze 2 (hJ11 _ _ _ ⟨i + 1, rfl, rfl, hB'2, k11_b1'1, by omega⟩ (by omega))
 exact xe 11 (.bool true) ⟨rfl, hB_11⟩
end Go.Proofs.YtinegkldgjhnpaaGreatDoor
namespace Go.Proofs.YtinegkldgjhnpaaGreatDoor
open Go.RowKit Go.Extern.Stop Go.Stop Go.Extern
set_option linter.unusedVariables false
attribute [local irreducible] wpList wpAnyH Code.wp Oper.wp Go

def widG (t : Int) (leaf : Bool) : Nat := if 1 ≤ t ∧ t ≤ 5 then widN t leaf else 0
def maxG (t : Int) (leaf : Bool) : Nat := if 1 ≤ t ∧ t ≤ 5 then maxN t leaf else 0
theorem fitG (t : Int) (leaf : Bool) : 12 + maxG t leaf * 8 + maxG t leaf * widG t leaf ≤ 244 := by
  unfold maxG widG; split
  · exact fitN t leaf
  · decide
theorem maxG_le (t : Int) (leaf : Bool) : maxG t leaf ≤ 18 := by
  unfold maxG; split
  · exact (maxN_pos t leaf).2
  · decide
theorem widG_le (t : Int) (leaf : Bool) : widG t leaf ≤ 24 := by
  unfold widG; split
  · exact (widN_bd t leaf).2
  · decide
set_option maxRecDepth 100000 in
set_option maxHeartbeats 1000000 in
theorem node_Width_out (t : Int) (leaf : Bool) (w : World) (h : ¬ (1 ≤ t ∧ t ≤ 5)) :
    Calls Tryz.prog 48 #[.int .i64 t, .bool leaf] w (Ret (.int .i64 0) w) := by
 refine zin 31 Tryz.func48 ?_
 refine xg 17 [8, 9] (decide (t < (1 : Int))) (fun hc1 => ?_) (fun hc1 => ?_)
 · have hc1 := of_decide_eq_true hc1
   exact xe 15 (.int .i64 0) ⟨rfl, (Below.refl w.heap.size _)⟩
 have hc1 := of_decide_eq_false hc1
 refine xk 6 (show (decide (t > (5 : Int)) : Bool) = true from decide_eq_true (by omega)) ?_
 exact xe 8 (.int .i64 0) ⟨rfl, (Below.refl w.heap.size _)⟩
theorem node_WidthG (t : Int) (leaf : Bool) (w : World) : Calls Tryz.prog 48 #[.int .i64 t, .bool leaf] w (Ret (.int .i64 (widG t leaf : Int)) w) := by
  unfold widG
  by_cases h : 1 ≤ t ∧ t ≤ 5
  · rw [if_pos h]; exact node_Width t leaf h.1 h.2 w
  · rw [if_neg h]; exact node_Width_out t leaf w h
set_option maxRecDepth 100000 in
set_option maxHeartbeats 1000000 in
theorem node_Max_out (t : Int) (leaf : Bool) (w : World) (h : ¬ (1 ≤ t ∧ t ≤ 5)) :
    Calls Tryz.prog 49 #[.int .i64 t, .bool leaf] w (Ret (.int .i64 0) w) := by
 refine zin 16 Tryz.func49 ?_
 refine xr 9 (args := #[.int .i64 t, .bool leaf]) (node_Width_out t leaf _ h) fun W1 hb1 => ?_
 exact xe 18 (.int .i64 0) ⟨rfl, hb1⟩
theorem node_MaxG (t : Int) (leaf : Bool) (w : World) : Calls Tryz.prog 49 #[.int .i64 t, .bool leaf] w (Ret (.int .i64 (maxG t leaf : Int)) w) := by
  unfold maxG
  by_cases h : 1 ≤ t ∧ t ≤ 5
  · rw [if_pos h]; exact node_Max t leaf h.1 h.2 w
  · rw [if_neg h]; exact node_Max_out t leaf w h
/-- a key's number, by the last of the keys ahead -/
def keyR (L : List Int) (i : Nat) (k : Int) : Int := if k < 0 ∨ 281474976710655 < k then 2 else if 0 < i ∧ k ≤ L.getD (i - 1) 0 then 8 else 0
/-- the head of a node's bytes -/
def nodT (l : List UInt8) : Int := (rawN l 1 1 : Int)
def nodL (l : List UInt8) : Bool := (rawN l 0 1 : Int) == (1 : Int)
def nodC (l : List UInt8) : Nat := rawN l 2 2
def nodW (l : List UInt8) : Nat := widG (nodT l) (nodL l)
def nodM (l : List UInt8) : Nat := maxG (nodT l) (nodL l)
def shapeB (l : List UInt8) : Bool := decide (rawN l 0 1 ≤ 1 ∧ nodW l ≠ 0 ∧ rawN l 2 2 ≤ nodM l ∧ rawN l 4 2 = nodW l ∧ rawN l 6 2 = nodM l ∧ rawN l 8 4 = 0 ∧ (rawN l 0 1 = 1 ∨ 0 < rawN l 2 2))
def ShapeP (l : List UInt8) (w : World) (e : Ending) (w' : World) : Prop :=
  (shapeB l = false ∧ ∃ a b c, e = .returned (.tuple #[.agg #[.int .i64 a, .bool b, .slice none 0 0, .slice none 0 0], .int .i64 c, .bool false]) ∧ Below w.heap.size w w') ∨
  (shapeB l = true ∧ e = .returned (.tuple #[.agg #[.int .i64 (nodT l), .bool (nodL l), .slice none 0 0, .slice none 0 0], .int .i64 (nodC l : Int), .bool true]) ∧ Below w.heap.size w w')
theorem Unpack_okN (a : Option Addr) (n c : Nat) (l : List UInt8) (aw : Option Addr) (cw m : Nat) (ws : List Nat) (xs : List Nat) (W : World) (hn : l.length = n) (hm : ws.length = m) (hx : unpL l 0 ws = xs) (hk : ∀ i, i < ws.length → ws.getD i 0 = 1 ∨ ws.getD i 0 = 2 ∨ ws.getD i 0 = 4 ∨ ws.getD i 0 = 8) (hs : ws.sum ≤ n) (hl : n ≤ 100000000) (hw : ws.length ≤ 1000) (h : Bys W (.slice a n c) l) (hws : Sl W (.slice aw m cw) m (ws.map nv)) (hq : ∀ i, i < ws.length → (unpL l 0 ws).getD i 0 < 9223372036854775808) :
    Calls Tryz.prog 142 #[.slice a n c, .slice aw m cw] W (RetS (fun w' r => ∃ p c, r = .tuple #[.slice p m c, .int .i64 0] ∧ w'.ownsRow W.heap.size 3 1 (.slice p m c) m (xs.map nv)) W) := by
  subst hn hm hx; exact Unpack_ok a c l aw cw ws W hk hs hl hw h hws hq
def head6 (l : List UInt8) : List Nat := [rawN l 0 1, rawN l 1 1, rawN l 2 2, rawN l 4 2, rawN l 6 2, rawN l 8 4]
theorem head6_bd (l : List UInt8) (i : Nat) (hi : i < 6) : (unpL l 0 [1, 1, 2, 2, 2, 4]).getD i 0 < 9223372036854775808 := by
  have h1 := rawN_lt4 l 0 1 (by decide)
  have h2 := rawN_lt4 l 1 1 (by decide)
  have h3 := rawN_lt4 l 2 2 (by decide)
  have h4 := rawN_lt4 l 4 2 (by decide)
  have h5 := rawN_lt4 l 6 2 (by decide)
  have h6 := rawN_lt4 l 8 4 (by decide)
  obtain rfl | rfl | rfl | rfl | rfl | rfl : i = 0 ∨ i = 1 ∨ i = 2 ∨ i = 3 ∨ i = 4 ∨ i = 5 := by omega
  all_goals simp [unpL]
  all_goals omega
set_option maxRecDepth 100000 in
set_option maxHeartbeats 4000000 in
theorem node_shape (a : Option Addr) (c : Nat) (l : List UInt8) (w : World) (hl : l.length = 244) (h : Bys w (.slice a 244 c) l) :
    Calls Tryz.prog 101 #[.slice a 244 c] w (ShapeP l w) := by
 refine zin 92 Tryz.func101 ?_
 refine xa 2 [.int .i64 0, .bool false, .slice none 0 0, .slice none 0 0] 52 fun b1 W1 n1 => ?_
 refine xbs 18 6 [.int .i64 1, .int .i64 1, .int .i64 2, .int .i64 2, .int .i64 2, .int .i64 4] 3 fun b2 W2 n2 => ?_
 have hB := Bl.next n1.below n2.below
 refine xc 0 (args := #[.slice a 244 c, .slice (some ⟨b2, 0, none⟩) 6 6]) (Unpack_okN a 244 c l (some ⟨b2, 0, none⟩) 6 6 [1, 1, 2, 2, 2, 4] (head6 l) _ hl rfl rfl (by decide) (by decide) (by decide) (by decide) (h.below hB) (n2.blk.sl 6 6 (by decide) (by decide)) (head6_bd l)) ?_
 rintro _ W3 ⟨_, rfl, hb3, p5, c5, rfl, h5⟩
 have hs3 := (Bl.next n1.below n2.below).size
 refine xd 8 (.t w.heap.size [52]) ?_
 have h5'1 := own_below (own_mono h5 hs3) (below_drew W3)
 refine xx (.e [0] 1) _ 6 1 1 (nv_elem (l := head6 l) (own_sl h5'1) rfl (k := 1) (by decide)).1 ?_
 refine xlt (.e [] 2) (.t w.heap.size [52]) (fun V hV => (nv_elem (l := head6 l) (own_sl (own_only h5'1 hV.2 (by decide))) rfl (k := 1) (by decide)).2) ?_
 refine xx (.e [3] 4) _ 6 0 1 (nv_elem (l := head6 l) (own_sl h5'1) rfl (k := 0) (by decide)).1 ?_
 refine xlt (.e [] 5) (.t w.heap.size [52]) (fun V hV => (nv_elem (l := head6 l) (own_sl (own_only h5'1 hV.2 (by decide))) rfl (k := 0) (by decide)).2) ?_
 refine xa (.o [6, 7] 8) [.int .i64 0, .bool false, .slice none 0 0, .slice none 0 0] 52 fun b4 W4 n4 => ?_
 have k1 := ((n1.blk.below n2.below).below hb3).below (below_drew W3)
 have d4_b1 := n4.ne k1
 have g4 := n4.ge (Bl.next (Bl.next hB hb3) (below_drew W3))
 refine ysv (.o [] 9) n4.blk [.int .i64 (↑(rawN l 1 1) : Int), .bool ((↑(rawN l 0 1) : Int) == (1 : Int)), .slice none 0 0, .slice none 0 0] (.t w.heap.size [52]) fun W5 u5 k5 => ⟨(sft_upd u5 n4.blk g4 (by decide)), ?_⟩
 have h5'2 := u5.own2 (own_below h5'1 n4.below) n4.blk (by decide)
 refine xx 6 _ 6 0 1 (nv_elem (l := head6 l) (own_sl h5'2) rfl (k := 0) (by decide)).1 ?_
 refine xl 0 ((nv_elem (l := head6 l) (own_sl h5'2) rfl (k := 0) (by decide)).2) ?_
 refine xg 2 [32, 33] (decide ((↑(rawN l 0 1) : Int) > (1 : Int))) (fun hc6 => ?_) (fun hc6 => ?_)
 · have hc6 := of_decide_eq_true hc6
   have k1'1 := u5.blk (k1.below n4.below) (Ne.symm (Ne.symm d4_b1))
   refine xsv 13 k1'1 [.int .i64 0, .bool false, .slice none 0 0, .slice none 0 0] fun W7 u7 k7 => ?_
   have g1 := n1.ge (Below.refl w.heap.size _)
   have hB'1 := u7.below (u5.below (Bl.next (Bl.next (Bl.next hB hb3) (below_drew W3)) n4.below) g4) g1
   exact xec 6 k7 (.tuple #[.agg #[.int .i64 0, .bool false, .slice none 0 0, .slice none 0 0], .int .i64 0, .bool false]) (.inl ⟨decide_eq_false (by omega), _, _, _, rfl, hB'1⟩)
 have hc6 := of_decide_eq_false hc6
 refine xb 1 0 k5 ?_
 refine xb 1 1 k5 ?_
 refine xr 0 (args := #[.int .i64 (↑(rawN l 1 1) : Int), .bool ((↑(rawN l 0 1) : Int) == (1 : Int))]) (node_WidthG (nodT l) (nodL l) _) fun W8 hb8 => ?_
 refine xie 4 (↑(nodW l) : Int) (0 : Int) (fun hc9 => ?_) (fun hc9 => ?_)
 · have k1'2 := (u5.blk (k1.below n4.below) (Ne.symm (Ne.symm d4_b1))).below hb8
   refine xsv 3 k1'2 [.int .i64 0, .bool false, .slice none 0 0, .slice none 0 0] fun W10 u10 k10 => ?_
   have g1 := n1.ge (Below.refl w.heap.size _)
   have hB'2 := u10.below (Bl.next (u5.below (Bl.next (Bl.next (Bl.next hB hb3) (below_drew W3)) n4.below) g4) hb8) g1
   exact xec 6 k10 (.tuple #[.agg #[.int .i64 0, .bool false, .slice none 0 0, .slice none 0 0], .int .i64 0, .bool false]) (.inl ⟨decide_eq_false (by omega), _, _, _, rfl, hB'2⟩)
 refine xd 3 .z ?_
 have k5'1 := (k5.below hb8).below (below_drew W8)
 refine xb (.e [0] 1) 0 k5'1 ?_
 refine xb (.e [2] 3) 1 k5'1 ?_
 refine xb (.e [5] 6) 0 k5'1 ?_
 refine xb (.e [7] 8) 1 k5'1 ?_
 refine xr (.o [] 4) (args := #[.int .i64 (↑(rawN l 1 1) : Int), .bool ((↑(rawN l 0 1) : Int) == (1 : Int))]) (node_WidthG (nodT l) (nodL l) _) fun W11 hb11 => ?_
 refine xr (.o [] 9) (args := #[.int .i64 (↑(rawN l 1 1) : Int), .bool ((↑(rawN l 0 1) : Int) == (1 : Int))]) (node_MaxG (nodT l) (nodL l) _) fun W12 hb12 => ?_
 have h5'3 := own_below (own_below (own_below (own_below h5'2 hb8) (below_drew W8)) hb11) hb12
 refine xx (.r [10, 11] 5) _ 6 2 1 (nv_elem (l := head6 l) (own_sl h5'3) rfl (k := 2) (by decide)).1 ?_
 refine xl 0 ((nv_elem (l := head6 l) (own_sl h5'3) rfl (k := 2) (by decide)).2) ?_
 refine xg 3 [56, 57] (decide ((↑(rawN l 2 2) : Int) ≤ (↑(nodM l) : Int))) (fun hc13 => ?_) (fun hc13 => ?_)
 · have hc13 := of_decide_eq_true hc13
   refine xx 1 _ 6 3 1 (nv_elem (l := head6 l) (own_sl h5'3) rfl (k := 3) (by decide)).1 ?_
   refine xl 0 ((nv_elem (l := head6 l) (own_sl h5'3) rfl (k := 3) (by decide)).2) ?_
   refine xg 4 [62, 63, 64] ((↑(rawN l 4 2) : Int) == (↑(nodW l) : Int)) (fun hc14 => ?_) (fun hc14 => ?_)
   · have hc14 := eq_of_beq hc14
     refine xx 1 _ 6 4 1 (nv_elem (l := head6 l) (own_sl h5'3) rfl (k := 4) (by decide)).1 ?_
     refine xl 0 ((nv_elem (l := head6 l) (own_sl h5'3) rfl (k := 4) (by decide)).2) ?_
     refine xg 4 [69, 70, 71] ((↑(rawN l 6 2) : Int) == (↑(nodM l) : Int)) (fun hc15 => ?_) (fun hc15 => ?_)
     · have hc15 := eq_of_beq hc15
       refine xx 1 _ 6 5 1 (nv_elem (l := head6 l) (own_sl h5'3) rfl (k := 5) (by decide)).1 ?_
       refine xl 0 ((nv_elem (l := head6 l) (own_sl h5'3) rfl (k := 5) (by decide)).2) ?_
       refine xg 3 [75, 76, 77] ((↑(rawN l 8 4) : Int) == (0 : Int)) (fun hc16 => ?_) (fun hc16 => ?_)
       · have hc16 := eq_of_beq hc16
         have k5'2 := (k5'1.below hb11).below hb12
         refine xb 1 1 k5'2 ?_
         refine xg 1 [27, 37, 45, 50, 79, 80] ((↑(rawN l 0 1) : Int) == (1 : Int)) (fun hc17 => ?_) (fun hc17 => ?_)
         · have hc17 := eq_of_beq hc17
           refine xd 10 (.t w.heap.size [52]) ?_
           have h5'4 := own_below h5'3 (below_drew W12)
           refine xx (.e [1] 2) _ 6 2 1 (nv_elem (l := head6 l) (own_sl h5'4) rfl (k := 2) (by decide)).1 ?_
           refine xlt (.e [] 3) (.t w.heap.size [52]) (fun V hV => (nv_elem (l := head6 l) (own_sl (own_only h5'4 hV.2 (by decide))) rfl (k := 2) (by decide)).2) ?_
           have k5'3 := k5'2.below (below_drew W12)
           refine xlv (.o [4] 0) k5'3.rp ?_
           have k1'3 := (((((u5.blk (k1.below n4.below) (Ne.symm (Ne.symm d4_b1))).below hb8).below (below_drew W8)).below hb11).below hb12).below (below_drew W12)
           have g1 := n1.ge (Below.refl w.heap.size _)
           refine ysv (.o [] 5) k1'3 [.int .i64 (↑(rawN l 1 1) : Int), .bool ((↑(rawN l 0 1) : Int) == (1 : Int)), .slice none 0 0, .slice none 0 0] (.t w.heap.size [52]) fun W18 u18 k18 => ⟨(sft_upd u18 k1'3 g1 (by decide)), ?_⟩
           have hB'3 := u18.below (Bl.next (Bl.next (Bl.next (Bl.next (Bl.next (u5.below (Bl.next (Bl.next (Bl.next hB hb3) (below_drew W3)) n4.below) g4) hb8) (below_drew W8)) hb11) hb12) (below_drew W12)) g1
           exact xec (.r [6, 7] 3) k18 (.tuple #[.agg #[.int .i64 (↑(rawN l 1 1) : Int), .bool ((↑(rawN l 0 1) : Int) == (1 : Int)), .slice none 0 0, .slice none 0 0], .int .i64 (↑(rawN l 2 2) : Int), .bool true]) (.inr ⟨decide_eq_true (by omega), rfl, hB'3⟩)
         have hc17 := ne_of_beq_false hc17
         refine xx 1 _ 6 2 1 (nv_elem (l := head6 l) (own_sl h5'3) rfl (k := 2) (by decide)).1 ?_
         refine xl 0 ((nv_elem (l := head6 l) (own_sl h5'3) rfl (k := 2) (by decide)).2) ?_
         refine xd 7 (.t w.heap.size [52]) ?_
         have h5'5 := own_below h5'3 (below_drew W12)
         refine xx (.e [1] 2) _ 6 2 1 (nv_elem (l := head6 l) (own_sl h5'5) rfl (k := 2) (by decide)).1 ?_
         refine xlt (.e [] 3) (.t w.heap.size [52]) (fun V hV => (nv_elem (l := head6 l) (own_sl (own_only h5'5 hV.2 (by decide))) rfl (k := 2) (by decide)).2) ?_
         have k5'4 := k5'2.below (below_drew W12)
         refine xlv (.o [4] 0) k5'4.rp ?_
         have k1'4 := (((((u5.blk (k1.below n4.below) (Ne.symm (Ne.symm d4_b1))).below hb8).below (below_drew W8)).below hb11).below hb12).below (below_drew W12)
         have g1 := n1.ge (Below.refl w.heap.size _)
         refine ysv (.o [] 5) k1'4 [.int .i64 (↑(rawN l 1 1) : Int), .bool ((↑(rawN l 0 1) : Int) == (1 : Int)), .slice none 0 0, .slice none 0 0] (.t w.heap.size [52]) fun W19 u19 k19 => ⟨(sft_upd u19 k1'4 g1 (by decide)), ?_⟩
         have hB'4 := u19.below (Bl.next (Bl.next (Bl.next (Bl.next (Bl.next (u5.below (Bl.next (Bl.next (Bl.next hB hb3) (below_drew W3)) n4.below) g4) hb8) (below_drew W8)) hb11) hb12) (below_drew W12)) g1
         refine xec (.r [6, 7] 3) k19 (.tuple #[.agg #[.int .i64 (↑(rawN l 1 1) : Int), .bool ((↑(rawN l 0 1) : Int) == (1 : Int)), .slice none 0 0, .slice none 0 0], .int .i64 (↑(rawN l 2 2) : Int), .bool (decide ((↑(rawN l 2 2) : Int) > (0 : Int)))]) ?_
         rcases Bool.eq_false_or_eq_true (decide ((↑(rawN l 2 2) : Int) > (0 : Int))) with hq | hq
         · have hq2 := of_decide_eq_true hq
           rw [hq]; exact .inr ⟨decide_eq_true (by omega), rfl, hB'4⟩
         · have hq2 := of_decide_eq_false hq
           rw [hq]; exact .inl ⟨decide_eq_false (by omega), _, _, _, rfl, hB'4⟩
       have hc16 := ne_of_beq_false hc16
       refine xd 13 (.t w.heap.size [52]) ?_
       have h5'6 := own_below h5'3 (below_drew W12)
       refine xx (.e [1] 2) _ 6 2 1 (nv_elem (l := head6 l) (own_sl h5'6) rfl (k := 2) (by decide)).1 ?_
       refine xlt (.e [] 3) (.t w.heap.size [52]) (fun V hV => (nv_elem (l := head6 l) (own_sl (own_only h5'6 hV.2 (by decide))) rfl (k := 2) (by decide)).2) ?_
       have k5'5 := ((k5'1.below hb11).below hb12).below (below_drew W12)
       refine xlv (.o [4] 0) k5'5.rp ?_
       have k1'5 := (((((u5.blk (k1.below n4.below) (Ne.symm (Ne.symm d4_b1))).below hb8).below (below_drew W8)).below hb11).below hb12).below (below_drew W12)
       have g1 := n1.ge (Below.refl w.heap.size _)
       refine ysv (.o [] 5) k1'5 [.int .i64 (↑(rawN l 1 1) : Int), .bool ((↑(rawN l 0 1) : Int) == (1 : Int)), .slice none 0 0, .slice none 0 0] (.t w.heap.size [52]) fun W20 u20 k20 => ⟨(sft_upd u20 k1'5 g1 (by decide)), ?_⟩
       have hB'5 := u20.below (Bl.next (Bl.next (Bl.next (Bl.next (Bl.next (u5.below (Bl.next (Bl.next (Bl.next hB hb3) (below_drew W3)) n4.below) g4) hb8) (below_drew W8)) hb11) hb12) (below_drew W12)) g1
       exact xec (.r [6, 7] 3) k20 (.tuple #[.agg #[.int .i64 (↑(rawN l 1 1) : Int), .bool ((↑(rawN l 0 1) : Int) == (1 : Int)), .slice none 0 0, .slice none 0 0], .int .i64 (↑(rawN l 2 2) : Int), .bool false]) (.inl ⟨decide_eq_false (by omega), _, _, _, rfl, hB'5⟩)
     have hc15 := ne_of_beq_false hc15
     refine xd 19 (.t w.heap.size [52]) ?_
     have h5'7 := own_below h5'3 (below_drew W12)
     refine xx (.e [1] 2) _ 6 2 1 (nv_elem (l := head6 l) (own_sl h5'7) rfl (k := 2) (by decide)).1 ?_
     refine xlt (.e [] 3) (.t w.heap.size [52]) (fun V hV => (nv_elem (l := head6 l) (own_sl (own_only h5'7 hV.2 (by decide))) rfl (k := 2) (by decide)).2) ?_
     have k5'6 := ((k5'1.below hb11).below hb12).below (below_drew W12)
     refine xlv (.o [4] 0) k5'6.rp ?_
     have k1'6 := (((((u5.blk (k1.below n4.below) (Ne.symm (Ne.symm d4_b1))).below hb8).below (below_drew W8)).below hb11).below hb12).below (below_drew W12)
     have g1 := n1.ge (Below.refl w.heap.size _)
     refine ysv (.o [] 5) k1'6 [.int .i64 (↑(rawN l 1 1) : Int), .bool ((↑(rawN l 0 1) : Int) == (1 : Int)), .slice none 0 0, .slice none 0 0] (.t w.heap.size [52]) fun W21 u21 k21 => ⟨(sft_upd u21 k1'6 g1 (by decide)), ?_⟩
     have hB'6 := u21.below (Bl.next (Bl.next (Bl.next (Bl.next (Bl.next (u5.below (Bl.next (Bl.next (Bl.next hB hb3) (below_drew W3)) n4.below) g4) hb8) (below_drew W8)) hb11) hb12) (below_drew W12)) g1
     exact xec (.r [6, 7] 3) k21 (.tuple #[.agg #[.int .i64 (↑(rawN l 1 1) : Int), .bool ((↑(rawN l 0 1) : Int) == (1 : Int)), .slice none 0 0, .slice none 0 0], .int .i64 (↑(rawN l 2 2) : Int), .bool false]) (.inl ⟨decide_eq_false (by omega), _, _, _, rfl, hB'6⟩)
   have hc14 := ne_of_beq_false hc14
   refine xd 26 (.t w.heap.size [52]) ?_
   have h5'8 := own_below h5'3 (below_drew W12)
   refine xx (.e [1] 2) _ 6 2 1 (nv_elem (l := head6 l) (own_sl h5'8) rfl (k := 2) (by decide)).1 ?_
   refine xlt (.e [] 3) (.t w.heap.size [52]) (fun V hV => (nv_elem (l := head6 l) (own_sl (own_only h5'8 hV.2 (by decide))) rfl (k := 2) (by decide)).2) ?_
   have k5'7 := ((k5'1.below hb11).below hb12).below (below_drew W12)
   refine xlv (.o [4] 0) k5'7.rp ?_
   have k1'7 := (((((u5.blk (k1.below n4.below) (Ne.symm (Ne.symm d4_b1))).below hb8).below (below_drew W8)).below hb11).below hb12).below (below_drew W12)
   have g1 := n1.ge (Below.refl w.heap.size _)
   refine ysv (.o [] 5) k1'7 [.int .i64 (↑(rawN l 1 1) : Int), .bool ((↑(rawN l 0 1) : Int) == (1 : Int)), .slice none 0 0, .slice none 0 0] (.t w.heap.size [52]) fun W22 u22 k22 => ⟨(sft_upd u22 k1'7 g1 (by decide)), ?_⟩
   have hB'7 := u22.below (Bl.next (Bl.next (Bl.next (Bl.next (Bl.next (u5.below (Bl.next (Bl.next (Bl.next hB hb3) (below_drew W3)) n4.below) g4) hb8) (below_drew W8)) hb11) hb12) (below_drew W12)) g1
   exact xec (.r [6, 7] 3) k22 (.tuple #[.agg #[.int .i64 (↑(rawN l 1 1) : Int), .bool ((↑(rawN l 0 1) : Int) == (1 : Int)), .slice none 0 0, .slice none 0 0], .int .i64 (↑(rawN l 2 2) : Int), .bool false]) (.inl ⟨decide_eq_false (by omega), _, _, _, rfl, hB'7⟩)
 have hc13 := of_decide_eq_false hc13
 refine xd 33 (.t w.heap.size [52]) ?_
 have h5'9 := own_below h5'3 (below_drew W12)
 refine xx (.e [1] 2) _ 6 2 1 (nv_elem (l := head6 l) (own_sl h5'9) rfl (k := 2) (by decide)).1 ?_
 refine xlt (.e [] 3) (.t w.heap.size [52]) (fun V hV => (nv_elem (l := head6 l) (own_sl (own_only h5'9 hV.2 (by decide))) rfl (k := 2) (by decide)).2) ?_
 have k5'8 := ((k5'1.below hb11).below hb12).below (below_drew W12)
 refine xlv (.o [4] 0) k5'8.rp ?_
 have k1'8 := (((((u5.blk (k1.below n4.below) (Ne.symm (Ne.symm d4_b1))).below hb8).below (below_drew W8)).below hb11).below hb12).below (below_drew W12)
 have g1 := n1.ge (Below.refl w.heap.size _)
 refine ysv (.o [] 5) k1'8 [.int .i64 (↑(rawN l 1 1) : Int), .bool ((↑(rawN l 0 1) : Int) == (1 : Int)), .slice none 0 0, .slice none 0 0] (.t w.heap.size [52]) fun W23 u23 k23 => ⟨(sft_upd u23 k1'8 g1 (by decide)), ?_⟩
 have hB'8 := u23.below (Bl.next (Bl.next (Bl.next (Bl.next (Bl.next (u5.below (Bl.next (Bl.next (Bl.next hB hb3) (below_drew W3)) n4.below) g4) hb8) (below_drew W8)) hb11) hb12) (below_drew W12)) g1
 exact xec (.r [6, 7] 3) k23 (.tuple #[.agg #[.int .i64 (↑(rawN l 1 1) : Int), .bool ((↑(rawN l 0 1) : Int) == (1 : Int)), .slice none 0 0, .slice none 0 0], .int .i64 (↑(rawN l 2 2) : Int), .bool false]) (.inl ⟨decide_eq_false (by omega), _, _, _, rfl, hB'8⟩)
set_option maxRecDepth 100000 in
set_option maxHeartbeats 1000000 in
theorem node_keyG (a : Option Addr) (i c : Nat) (L : List Int) (k : Int) (w : World) (hL : L.length = i) (h : Sl w (.slice a i c) i (L.map (Value.int .i64))) (hi : i ≤ 1000) :
    Calls Tryz.prog 90 #[.slice a i c, .int .i64 k] w (Ret (.int .i64 (keyR L i k)) w) := by
 refine zin 26 Tryz.func90 ?_
 refine xg 12 [7, 8] (decide (k < (0 : Int))) (fun hc1 => ?_) (fun hc1 => ?_)
 · have hc1 := of_decide_eq_true hc1
   exact xe 15 (.int .i64 2) ⟨by rw [show keyR L i k = 2 from by unfold keyR; rw [if_pos (by omega)]], (Below.refl w.heap.size _)⟩
 have hc1 := of_decide_eq_false hc1
 refine xid 6 (k > (281474976710655 : Int)) (fun hc2 => ?_) (fun hc2 => ?_)
 · exact xe 8 (.int .i64 2) ⟨by rw [show keyR L i k = 2 from by unfold keyR; rw [if_pos (by omega)]], (Below.refl w.heap.size _)⟩
 refine xg 6 [15, 16] (decide ((↑i : Int) > (0 : Int))) (fun hc3 => ?_) (fun hc3 => ?_)
 · have hc3 := of_decide_eq_true hc3
   refine xwm 3 ((↑i : Int) - 1) (↑(i - 1) : Int) ?_
   refine xx 0 _ i (i - 1) 1 (IntsN.elem h hL (k := (i - 1)) (by omega)).1 ?_
   refine xl 0 ((IntsN.elem h hL (k := (i - 1)) (by omega)).2) ?_
   refine xid 6 ((L.getD (i - 1) 0) ≥ k) (fun hc4 => ?_) (fun hc4 => ?_)
   · exact xe 8 (.int .i64 8) ⟨by rw [show keyR L i k = 8 from by unfold keyR; rw [if_neg (by omega), if_pos (by omega)]], (Below.refl w.heap.size _)⟩
   exact xe 9 (.int .i64 0) ⟨by rw [show keyR L i k = 0 from by unfold keyR; rw [if_neg (by omega), if_neg (by omega)]], (Below.refl w.heap.size _)⟩
 have hc3 := of_decide_eq_false hc3
 exact xe 22 (.int .i64 0) ⟨by rw [show keyR L i k = 0 from by unfold keyR; rw [if_neg (by omega), if_neg (by omega)]], (Below.refl w.heap.size _)⟩
def keyN (l : List UInt8) (i : Nat) : Nat := rawN l (12 + i * 8) 8
def keysI (l : List UInt8) (n : Nat) : List Int := (List.range n).map fun i => (keyN l i : Int)
theorem keysI_len (l : List UInt8) (n : Nat) : (keysI l n).length = n := by simp [keysI]
theorem keysI_snoc (l : List UInt8) (n : Nat) : keysI l (n + 1) = keysI l n ++ [(keyN l n : Int)] := by simp [keysI, List.range_succ]
theorem keysI_get (l : List UInt8) {n i : Nat} (h : i < n) : (keysI l n).getD i 0 = (keyN l i : Int) := by simp [keysI, List.getD, List.getElem?_range h]
def valN (l : List UInt8) (i : Nat) : List UInt8 := (l.drop (12 + nodM l * 8 + i * nodW l)).take (nodW l)
def valsL (l : List UInt8) (n : Nat) : List (List UInt8) := (List.range n).map (valN l)
theorem valsL_len (l : List UInt8) (n : Nat) : (valsL l n).length = n := by simp [valsL]
theorem valsL_snoc (l : List UInt8) (n : Nat) : valsL l (n + 1) = valsL l n ++ [valN l n] := by simp [valsL, List.range_succ]
theorem valsL_get (l : List UInt8) {n i : Nat} (h : i < n) : (valsL l n).getD i [] = valN l i := by simp [valsL, List.getD, List.getElem?_range h]
def keyE (l : List UInt8) (i : Nat) : Int := if 281474976710655 < keyN l i then 2 else if 0 < i ∧ keyN l i ≤ keyN l (i - 1) then 8 else 0
def keysErr (l : List UInt8) : Nat → Int
  | 0 => 0
  | i + 1 => if keysErr l i ≠ 0 then keysErr l i else keyE l i
theorem keysErr_stop {l : List UInt8} {i : Nat} (h : keysErr l i ≠ 0) : ∀ n, i ≤ n → keysErr l n = keysErr l i
  | 0, h2 => by obtain rfl : i = 0 := by omega
                rfl
  | n + 1, h2 => by
    by_cases e : i = n + 1
    · rw [e]
    · have ih := keysErr_stop h n (by omega)
      rw [keysErr, if_pos (by rw [ih]; exact h), ih]
theorem keysErr_at {l : List UInt8} {i n : Nat} (h : keysErr l i = 0) (he : keyE l i ≠ 0) (hi : i < n) : keysErr l n = keyE l i := by
  have e : keysErr l (i + 1) = keyE l i := by rw [keysErr, if_neg (by rw [h]; decide)]
  rw [keysErr_stop (by rw [e]; exact he) n hi, e]
theorem keysErr_next {l : List UInt8} {i : Nat} (h : keysErr l i = 0) (he : keyE l i = 0) : keysErr l (i + 1) = 0 := by rw [keysErr, if_neg (by rw [h]; decide), he]
theorem keyE_R {l : List UInt8} {i : Nat} : keyR (keysI l i) i (keyN l i : Int) = keyE l i := by
  unfold keyR keyE
  by_cases h : 281474976710655 < keyN l i
  · rw [if_pos (by omega), if_pos h]
  · rw [if_neg (by omega), if_neg h]
    by_cases h2 : 0 < i
    · rw [keysI_get l (show i - 1 < i by omega)]
      by_cases h3 : keyN l i ≤ keyN l (i - 1)
      · rw [if_pos (by omega), if_pos (by omega)]
      · rw [if_neg (by omega), if_neg (by omega)]
    · rw [if_neg (by omega), if_neg (by omega)]
def node0 (l : List UInt8) : Nat := 12 + nodC l * 8
def node1 (l : List UInt8) : Nat := 12 + nodM l * 8
def node2 (l : List UInt8) : Nat := node1 l + nodC l * nodW l
def nodeZ (l : List UInt8) : Bool := zeroB ((l.drop (node0 l)).take (node1 l - node0 l)) && zeroB ((l.drop (node2 l)).take (244 - node2 l))
def nodeE (l : List UInt8) : Int := if shapeB l then (if nodeZ l then keysErr l (nodC l) else 7) else 7
def NodeP (l : List UInt8) (w : World) (e : Ending) (w' : World) : Prop :=
  (nodeE l ≠ 0 ∧ e = .returned (.tuple #[.agg #[.int .i64 0, .bool false, .slice none 0 0, .slice none 0 0], .int .i64 (nodeE l)]) ∧ Below w.heap.size w w') ∨
  (nodeE l = 0 ∧ ∃ kp kc vp vc, e = .returned (.tuple #[.agg #[.int .i64 (nodT l), .bool (nodL l), .slice kp (nodC l) kc, .slice vp (nodC l) vc], .int .i64 0]) ∧ Below w.heap.size w w' ∧
    w'.ownsRow w.heap.size 3 1 (.slice kp (nodC l) kc) (nodC l) ((keysI l (nodC l)).map (Value.int .i64)) ∧ w'.ownsRow w.heap.size 9 1 (.slice vp (nodC l) vc) (nodC l) ((valsL l (nodC l)).map sv))
theorem node_shapeP {l : List UInt8} (h : shapeB l = true) : nodC l ≤ nodM l := (of_decide_eq_true h).2.2.1
theorem code_ZeroN (a : Option Addr) (n c : Nat) (l : List UInt8) (w : World) (hn : l.length = n) (hl : n ≤ 100000000) (h : Bys w (.slice a n c) l) : Calls Tryz.prog 102 #[.slice a n c] w (Ret (.bool (zeroB l)) w) := by
  subst hn; exact code_Zero a c l w hl h
theorem valN_bys {a : Option Addr} {c i : Nat} {l : List UInt8} {w : World} (h : Bys w (.slice a 244 c) l) (hl : l.length = 244) (hb : 12 + nodM l * 8 + (i + 1) * nodW l ≤ 244) (hi : (i + 1) * nodW l = i * nodW l + nodW l) :
    Bys w (.slice (cutA a (12 + nodM l * 8 + i * nodW l) c 1) (12 + nodM l * 8 + (i + 1) * nodW l - (12 + nodM l * 8 + i * nodW l)) (c - (12 + nodM l * 8 + i * nodW l))) (valN l i) := by
  have := Bys.cut h hl (12 + nodM l * 8 + i * nodW l) (12 + nodM l * 8 + (i + 1) * nodW l) (by omega) hb
  rw [show 12 + nodM l * 8 + (i + 1) * nodW l - (12 + nodM l * 8 + i * nodW l) = nodW l by omega] at this ⊢
  exact this
theorem valN_lenN {i : Nat} {l : List UInt8} (hl : l.length = 244) (hb : 12 + nodM l * 8 + (i + 1) * nodW l ≤ 244) (hi : (i + 1) * nodW l = i * nodW l + nodW l) : (valN l i).length = 12 + nodM l * 8 + (i + 1) * nodW l - (12 + nodM l * 8 + i * nodW l) := by
  unfold valN; simp only [List.length_take, List.length_drop]; omega
def GetP (l : List UInt8) (k w : Nat) (W : World) (e : Ending) (w' : World) : Prop :=
  (rawN l k w < 9223372036854775808 ∧ e = .returned (.tuple #[.int .i64 (rawN l k w : Int), .int .i64 0]) ∧ Below W.heap.size W w') ∨ (¬ rawN l k w < 9223372036854775808 ∧ e = .returned (.tuple #[.int .i64 0, .int .i64 2]) ∧ Below W.heap.size W w')
theorem Get_P (a : Option Addr) (n c k w : Nat) (l : List UInt8) (W : World) (hn : l.length = n) (hw : w = 1 ∨ w = 2 ∨ w = 4 ∨ w = 8) (hk : k + w ≤ n) (hl : n ≤ 100000000) (h : Bys W (.slice a n c) l) (wi : Int) (hwi : wi = (w : Int)) :
    Calls Tryz.prog 103 #[.slice a n c, .int .i64 (↑k : Int), .int .i64 wi] W (GetP l k w W) := by
  subst hn hwi
  by_cases hq : rawN l k w < 9223372036854775808
  · refine (Get_ok a c k w l W hw hk hl h hq).mono ?_
    rintro e V ⟨rfl, hb⟩; exact .inl ⟨hq, rfl, hb⟩
  · refine (Get_big a c k w l W hw hk hl h hq).mono ?_
    rintro e V ⟨rfl, hb⟩; exact .inr ⟨hq, rfl, hb⟩
theorem node_keyP (l : List UInt8) (a : Option Addr) (i c : Nat) (w : World) (h : Sl w (.slice a i c) i ((keysI l i).map (Value.int .i64))) (hi : i ≤ 1000) :
    Calls Tryz.prog 90 #[.slice a i c, .int .i64 (↑(keyN l i) : Int)] w (fun e w' => (keyE l i = 0 ∧ e = .returned (.int .i64 0) ∧ Below w.heap.size w w') ∨ (keyE l i ≠ 0 ∧ e = .returned (.int .i64 (keyE l i)) ∧ Below w.heap.size w w')) := by
  refine (node_keyG a i c (keysI l i) (keyN l i) w (keysI_len l i) h hi).mono ?_
  rintro e W ⟨rfl, hb⟩
  rw [keyE_R]
  by_cases hz : keyE l i = 0
  · exact .inl ⟨hz, by rw [hz], hb⟩
  · exact .inr ⟨hz, rfl, hb⟩
set_option maxRecDepth 100000 in
set_option maxHeartbeats 4000000 in
theorem node_Read (a : Option Addr) (c : Nat) (l : List UInt8) (w : World) (hl : l.length = 244) (h : Bys w (.slice a 244 c) l) :
    Calls Tryz.prog 58 #[.slice a 244 c] w (NodeP l w) := by
 have hcap := Bys.cap h hl
 refine zin 104 Tryz.func58 ?_
 refine xa 2 [.int .i64 0, .bool false, .slice none 0 0, .slice none 0 0] 52 fun b1 W1 n1 => ?_
 refine xc 6 (args := #[.slice a 244 c]) (node_shape a c l _ hl (h.below n1.below)) ?_
 rintro e W2 hq2
 rcases hq2 with ⟨hs, t0, l0, c0, rfl, hb2⟩ | ⟨hs, rfl, hb2⟩
 · refine xa 4 [.int .i64 0, .bool false, .slice none 0 0, .slice none 0 0] 52 fun b3 W3 n3 => ?_
   have k1 := n1.blk.below hb2
   have d3_b1 := n3.ne k1
   refine xsv 0 n3.blk [.int .i64 t0, .bool l0, .slice none 0 0, .slice none 0 0] fun W4 u4 k4 => ?_
   have g3 := n3.ge (Bl.next n1.below hb2)
   have k1'1 := u4.blk (k1.below n3.below) (Ne.symm (Ne.symm d3_b1))
   refine xsv 15 k1'1 [.int .i64 0, .bool false, .slice none 0 0, .slice none 0 0] fun W5 u5 k5 => ?_
   have g1 := n1.ge (Below.refl w.heap.size _)
   have hB'1 := u5.below (u4.below (Bl.next (Bl.next n1.below hb2) n3.below) g3) g1
   refine xec 5 k5 (.tuple #[.agg #[.int .i64 0, .bool false, .slice none 0 0, .slice none 0 0], .int .i64 7]) ?_
   have he : nodeE l = 7 := by unfold nodeE; simp [hs]
   exact .inl ⟨by rw [he]; decide, by rw [he], hB'1⟩
 have hcm := node_shapeP hs
 have hfit := fitG (nodT l) (nodL l)
 have hmle := maxG_le (nodT l) (nodL l)
 have hwle := widG_le (nodT l) (nodL l)
 change 12 + nodM l * 8 + nodM l * nodW l ≤ 244 at hfit
 change nodM l ≤ 18 at hmle
 change nodW l ≤ 24 at hwle
 have hcw : nodC l * nodW l ≤ nodM l * nodW l := Nat.mul_le_mul_right _ hcm
 refine xa 4 [.int .i64 0, .bool false, .slice none 0 0, .slice none 0 0] 52 fun b6 W6 n6 => ?_
 have k1 := n1.blk.below hb2
 have d6_b1 := n6.ne k1
 refine xsv 0 n6.blk [.int .i64 (nodT l), .bool (nodL l), .slice none 0 0, .slice none 0 0] fun W7 u7 k7 => ?_
 have g6 := n6.ge (Bl.next n1.below hb2)
 refine xd 15 .z ?_
 have k7'1 := k7.below (below_drew W7)
 refine xb (.e [0] 1) 0 k7'1 ?_
 refine xb (.e [2] 3) 1 k7'1 ?_
 refine xb (.e [5] 6) 0 k7'1 ?_
 refine xb (.e [7] 8) 1 k7'1 ?_
 refine xr (.o [] 4) (args := #[.int .i64 (nodT l), .bool (nodL l)]) (node_WidthG (nodT l) (nodL l) _) fun W8 hb8 => ?_
 refine xr (.o [] 9) (args := #[.int .i64 (nodT l), .bool (nodL l)]) (node_MaxG (nodT l) (nodL l) _) fun W9 hb9 => ?_
 refine xwm (.r [10, 11] 5) ((↑(nodM l) : Int) * 8) (↑((nodM l) * 8) : Int) ?_
 refine xwm 0 (12 + (↑((nodM l) * 8) : Int)) (↑(12 + ((nodM l) * 8)) : Int) ?_
 refine xwm 8 ((↑(nodC l) : Int) * 8) (↑((nodC l) * 8) : Int) ?_
 refine xwm 0 (12 + (↑((nodC l) * 8) : Int)) (↑(12 + ((nodC l) * 8)) : Int) ?_
 refine xsB 1 (fun _ _ _ _ _ zo zx zy zz V => run_sliceLHA (k := (12 + ((nodC l) * 8))) (h := (12 + ((nodM l) * 8))) (b := a) (n := 244) (c := c) (i := (↑(12 + ((nodC l) * 8)) : Int)) (ki := .i64) (j := (↑(12 + ((nodM l) * 8)) : Int)) (kj := .i64) 1 zo zx zy rfl zz rfl (by omega) (by omega) Tryz.underlying22 (by kernel_rfl) V) ?_
 have hB'2 := Bl.next (Bl.next (Bl.next (u7.below (Bl.next (Bl.next n1.below hb2) n6.below) g6) (below_drew W7)) hb8) hb9
 refine xr 0 (args := #[.slice (cutA a (12 + ((nodC l) * 8)) c 1) ((12 + ((nodM l) * 8)) - (12 + ((nodC l) * 8))) (c - (12 + ((nodC l) * 8)))]) (code_ZeroN (cutA a (12 + ((nodC l) * 8)) c 1) ((12 + ((nodM l) * 8)) - (12 + ((nodC l) * 8))) (c - (12 + ((nodC l) * 8))) _ _ (by simp; omega) (by omega) ((Bys.cut h hl (12 + ((nodC l) * 8)) (12 + ((nodM l) * 8)) (by omega) (by omega)).below hB'2)) fun W10 hb10 => ?_
 refine xg 2 [42, 43] (!(zeroB ((l.drop (node0 l)).take (node1 l - node0 l)))) (fun hc11 => ?_) (fun hc11 => ?_)
 · have hz1 : zeroB ((l.drop (node0 l)).take (node1 l - node0 l)) = false := by simpa using hc11
   have k1'2 := ((((u7.blk (k1.below n6.below) (Ne.symm (Ne.symm d6_b1))).below (below_drew W7)).below hb8).below hb9).below hb10
   refine xsv 16 k1'2 [.int .i64 0, .bool false, .slice none 0 0, .slice none 0 0] fun W12 u12 k12 => ?_
   have g1 := n1.ge (Below.refl w.heap.size _)
   have hB'3 := u12.below (Bl.next hB'2 hb10) g1
   refine xec 5 k12 (.tuple #[.agg #[.int .i64 0, .bool false, .slice none 0 0, .slice none 0 0], .int .i64 7]) ?_
   have he : nodeE l = 7 := by unfold nodeE; simp [hs, nodeZ, hz1]
   exact .inl ⟨by rw [he]; decide, by rw [he], hB'3⟩
 have hz1 : zeroB ((l.drop (node0 l)).take (node1 l - node0 l)) = true := by simpa using hc11
 refine xwm 4 ((↑(nodC l) : Int) * (↑(nodW l) : Int)) (↑((nodC l) * (nodW l)) : Int) ?_
 refine xwm 0 ((↑(12 + ((nodM l) * 8)) : Int) + (↑((nodC l) * (nodW l)) : Int)) (↑((12 + ((nodM l) * 8)) + ((nodC l) * (nodW l))) : Int) ?_
 refine xsL 0 (fun _ _ _ _ zo zx zy V => run_sliceLA (k := ((12 + ((nodM l) * 8)) + ((nodC l) * (nodW l)))) (b := a) (n := 244) (c := c) (i := (↑((12 + ((nodM l) * 8)) + ((nodC l) * (nodW l))) : Int)) (ki := .i64) 1 zo zx zy rfl (by omega) Tryz.underlying22 (by kernel_rfl) V) ?_
 have hB'4 := Bl.next hB'2 hb10
 refine xr 0 (args := #[.slice (cutA a ((12 + ((nodM l) * 8)) + ((nodC l) * (nodW l))) c 1) (244 - ((12 + ((nodM l) * 8)) + ((nodC l) * (nodW l)))) (c - ((12 + ((nodM l) * 8)) + ((nodC l) * (nodW l))))]) (code_ZeroN (cutA a ((12 + ((nodM l) * 8)) + ((nodC l) * (nodW l))) c 1) (244 - ((12 + ((nodM l) * 8)) + ((nodC l) * (nodW l)))) (c - ((12 + ((nodM l) * 8)) + ((nodC l) * (nodW l)))) _ _ (by simp; omega) (by omega) ((Bys.cut h hl (12 + ((nodM l) * 8) + ((nodC l) * (nodW l))) 244 (by omega) (by omega)).below hB'4)) fun W13 hb13 => ?_
 refine xi 4 (!(zeroB ((l.drop (node2 l)).take (244 - node2 l)))) (fun hc14 => ?_) (fun hc14 => ?_)
 · have hz2 : zeroB ((l.drop (node2 l)).take (244 - node2 l)) = false := by simpa using hc14
   have k1'3 := (((((u7.blk (k1.below n6.below) (Ne.symm (Ne.symm d6_b1))).below (below_drew W7)).below hb8).below hb9).below hb10).below hb13
   refine xsv 3 k1'3 [.int .i64 0, .bool false, .slice none 0 0, .slice none 0 0] fun W15 u15 k15 => ?_
   have g1 := n1.ge (Below.refl w.heap.size _)
   have hB'5 := u15.below (Bl.next hB'4 hb13) g1
   refine xec 5 k15 (.tuple #[.agg #[.int .i64 0, .bool false, .slice none 0 0, .slice none 0 0], .int .i64 7]) ?_
   have he : nodeE l = 7 := by unfold nodeE; simp [hs, nodeZ, hz1, hz2]
   exact .inl ⟨by rw [he]; decide, by rw [he], hB'5⟩
 have hz2 : zeroB ((l.drop (node2 l)).take (244 - node2 l)) = true := by simpa using hc14
 have hnz : nodeZ l = true := by unfold nodeZ; rw [hz1, hz2]; rfl
 have hB'6 := Bl.next hB'4 hb13
 have k1'4 := (((((u7.blk (k1.below n6.below) (Ne.symm (Ne.symm d6_b1))).below (below_drew W7)).below hb8).below hb9).below hb10).below hb13
 have k7'2 := (((k7'1.below hb8).below hb9).below hb10).below hb13
 refine zl 10 104 (fun zm zkv V => ∃ (i : Nat) (kp : Option Addr) (kc : Nat) (vp : Option Addr) (vc : Nat), zkv = [(0, .slice a 244 c), (2, .pointer (some ⟨b1, 0, none⟩)), (4, .pointer (some ⟨b6, 0, none⟩)), (7, .int .i64 (↑(nodW l) : Int)), (9, .int .i64 (↑(12 + ((nodM l) * 8)) : Int)), (55, .int .i64 (↑(nodC l) : Int)), (56, .int .i64 (↑i : Int))] ∧ zm = nodC l - ((↑i : Int)).toNat ∧ Below w.heap.size w V ∧ Blk V b1 ([.int .i64 0, .bool false, .slice none 0 0, .slice none 0 0]) 52 ∧ Blk V b6 ([.int .i64 (nodT l), .bool (nodL l), .slice kp i kc, .slice vp i vc]) 52 ∧ V.ownsRow w.heap.size 3 1 (.slice kp i kc) i ((keysI l i).map (Value.int .i64)) ∧ V.ownsRow w.heap.size 9 1 (.slice vp i vc) i ((valsL l i).map sv) ∧ i ≤ nodC l ∧ keysErr l i = 0) ⟨0, none, 0, none, 0, rfl, rfl, hB'6, k1'4, k7'2, World.ownsRow_nil _ _ _ _, World.ownsRow_nil _ _ _ _, Nat.zero_le _, rfl⟩ ?_
 rintro _ _ W16 ⟨i, kp, kc, vp, vc, rfl, rfl, hB_16, k16_b1, k16_b6, hK, hV, hi, hz⟩ J16 hJ16 r16
 have hiw : (i + 1) * nodW l = i * nodW l + nodW l := Nat.succ_mul i (nodW l)
 have hiw2 : i < nodC l → (i + 1) * nodW l ≤ nodM l * nodW l := fun hh => Nat.mul_le_mul_right _ (by omega)
 refine xid 6 ((↑i : Int) < (↑(nodC l) : Int)) (fun hc17 => ?_) (fun hc17 => ?_)
 · refine xwm 14 ((↑i : Int) * 8) (↑(i * 8) : Int) ?_
   refine xwm 0 (12 + (↑(i * 8) : Int)) (↑(12 + (i * 8)) : Int) ?_
   refine xc 0 (args := #[.slice a 244 c, .int .i64 (↑(12 + (i * 8)) : Int), .int .i64 8]) (Get_P a 244 c (12 + (i * 8)) 8 l _ hl (by decide) (by omega) (by decide) (h.below hB_16) 8 rfl) ?_
   rintro e W18 hq18
   rcases hq18 with ⟨hgk, rfl, hb18⟩ | ⟨hgk, rfl, hb18⟩
   · have k16_b6'1 := k16_b6.below hb18
     refine xb 17 2 k16_b6'1 ?_
     have hK'1 := own_below hK hb18
     refine xc 1 (args := #[.slice kp i kc, .int .i64 (↑(keyN l i) : Int)]) (node_keyP l kp i kc _ (own_sl hK'1) (by omega)) ?_
     rintro e W19 hq19
     rcases hq19 with ⟨hz0, rfl, hb19⟩ | ⟨hz0, rfl, hb19⟩
     · have k16_b6'2 := k16_b6'1.below hb19
       refine xb 16 2 k16_b6'2 ?_
       refine xbs 1 1 [.int .i64 (↑(keyN l i) : Int)] 3 fun b20 W20 n20 => ?_
       have hK'2 := own_below hK'1 hb19
       have r20_hK := own_ne hK'2 n20
       have hK'3 := own_below hK'2 n20.below
       have hB'7 := Bl.next (Bl.next (Bl.next hB_16 hb18) hb19) n20.below
       refine xbi 0 fun _ _ _ _ zJ zQ zo zx zy zK => op_app (m := 1) (news := [.int .i64 (↑(keyN l i) : Int)]) (.int .i64 0) 1 8 (i + 1) ((keysI l (i + 1)).map (Value.int .i64)) zo Tryz.underlying26 (by kernel_rfl) rfl (by decide) zx hK'3 zy (n20.blk.sl 1 1 (by decide) (by decide)) rfl (by simp [Value.oneCell']) (by unfold maxLen; omega) (by omega) hB'7.size (by rfl) (by rw [keysI_snoc, List.map_append]; rfl) fun p21 c21 W21 o21 hg21 hb21 => ?_
       refine zK _ _ ?_
       have k16_b6'3 := (k16_b6'2.below n20.below).grown hg21 hK'3 (by decide)
       refine xs 1 k16_b6'3 [.int .i64 (nodT l), .bool (nodL l), .slice p21 (i + 1) c21, .slice vp i vc] fun W22 u22 k22 => ?_
       refine xd 2 (.t w.heap.size [9, 52]) ?_
       refine xwm (.e [0, 2, 3, 4, 5] 6) ((↑i : Int) * (↑(nodW l) : Int)) (↑(i * (nodW l)) : Int) ?_
       refine xwm (.e [] 7) ((↑(12 + ((nodM l) * 8)) : Int) + (↑(i * (nodW l)) : Int)) (↑((12 + ((nodM l) * 8)) + (i * (nodW l))) : Int) ?_
       refine xwm (.e [8, 9] 10) ((↑i : Int) + 1) (↑(i + 1) : Int) ?_
       refine xwm (.e [11] 12) ((↑(i + 1) : Int) * (↑(nodW l) : Int)) (↑((i + 1) * (nodW l)) : Int) ?_
       refine xwm (.e [] 13) ((↑(12 + ((nodM l) * 8)) : Int) + (↑((i + 1) * (nodW l)) : Int)) (↑((12 + ((nodM l) * 8)) + ((i + 1) * (nodW l))) : Int) ?_
       refine xsB (.e [] 14) (fun _ _ _ _ _ zo zx zy zz V => run_sliceLHA (k := ((12 + ((nodM l) * 8)) + (i * (nodW l)))) (h := ((12 + ((nodM l) * 8)) + ((i + 1) * (nodW l)))) (b := a) (n := 244) (c := c) (i := (↑((12 + ((nodM l) * 8)) + (i * (nodW l))) : Int)) (ki := .i64) (j := (↑((12 + ((nodM l) * 8)) + ((i + 1) * (nodW l))) : Int)) (kj := .i64) 1 zo zx zy rfl zz rfl (by omega) (by omega) Tryz.underlying22 (by kernel_rfl) V) ?_
       have hV'1 := own_below (u22.own2 (own_grown (own_below (own_below (own_below hV hb18) hb19) n20.below) hg21 hK'3 (by decide)) k16_b6'3 (by decide)) (below_drew W22)
       have hB'8 := Bl.next (u22.below (hB'7.trans hb21) g6) (below_drew W22)
       refine xcvt (.e [] 15) (.t w.heap.size [9, 52]) (fun _ _ _ zo zx V hV'1 => run_bstr zo zx ((valN_bys h hl (by omega) hiw).below (sft_keep hB'8 hV'1 (Nat.le_refl _))) (valN_lenN hl (by omega) hiw) Tryz.underlying22 Tryz.underlying5 Tryz.underlying9) ?_
       refine xm2 0 1 16 ?_ ?_
       · have k22'1 := k22.below (below_drew W22)
         refine xb 0 3 k22'1 ?_
         refine xbs (.o [] 16) 1 [.string ⟨(valN l i).toArray⟩] 9 fun b23 W23 n23 => ?_
         have r23_hV := own_ne hV'1 n23
         have hV'2 := own_below hV'1 n23.below
         have hB'9 := Bl.next hB'8 n23.below
         refine ybi (.o [] 17) (.t w.heap.size [9, 52]) fun _ _ _ _ zJ zQ zo zx zy zK => op_app (m := 1) (news := [.string ⟨(valN l i).toArray⟩]) (.string ⟨#[]⟩) 1 16 (i + 1) ((valsL l (i + 1)).map sv) zo Tryz.underlying50 (by kernel_rfl) rfl (by decide) zx hV'2 zy (n23.blk.sl 1 1 (by decide) (by decide)) rfl (by simp [Value.oneCell']) (by unfold maxLen; omega) (by omega) hB'9.size (by rfl) (by rw [valsL_snoc, List.map_append]; rfl) fun p24 c24 W24 o24 hg24 hb24 => ?_
         refine zK _ _ (sft_grown hb24 hg24 hV'2 (by decide)) ?_
         have k22'2 := (k22'1.below n23.below).grown hg24 hV'2 (by decide)
         refine ys (.o [18] 19) k22'2 [.int .i64 (nodT l), .bool (nodL l), .slice p21 (i + 1) c21, .slice p24 (i + 1) c24] (.t w.heap.size [9, 52]) fun W25 u25 k25 => ⟨(sft_upd u25 k22'2 g6 (by decide)), ?_⟩
         refine xwm 4 ((↑i : Int) + 1) (↑(i + 1) : Int) ?_
         have hB'10 := u25.below (hB'9.trans hb24) g6
         have k16_b1'1 := u25.blk ((((u22.blk ((((k16_b1.below hb18).below hb19).below n20.below).grown hg21 hK'3 (by decide)) (Ne.symm (Ne.symm d6_b1))).below (below_drew W22)).below n23.below).grown hg24 hV'2 (by decide)) (Ne.symm (Ne.symm d6_b1))
         have o21'1 := u25.own2 (own_grown (own_below (own_below (u22.own2 o21 k16_b6'3 (by decide)) (below_drew W22)) n23.below) hg24 hV'2 (by decide)) k22'2 (by decide)
         have o24'1 := u25.own2 o24 k22'2 (by decide)
         exact ze 2 (hJ16 _ _ _ ⟨i + 1, _, _, _, _, rfl, rfl, hB'10, k16_b1'1, k25, o21'1, o24'1, by omega, keysErr_next hz hz0⟩ (by omega))
       refine xbs 0 1 [.string ⟨(valN l i).toArray⟩] 9 fun b26 W26 n26 => ?_
       have r26_hV := own_ne hV'1 n26
       have k22'3 := (k22.below (below_drew W22)).below n26.below
       refine xb (.o [] 1) 3 k22'3 ?_
       have hV'3 := own_below hV'1 n26.below
       have hB'11 := Bl.next hB'8 n26.below
       refine ybi (.o [] 17) (.t w.heap.size [9, 52]) fun _ _ _ _ zJ zQ zo zx zy zK => op_app (m := 1) (news := [.string ⟨(valN l i).toArray⟩]) (.string ⟨#[]⟩) 1 16 (i + 1) ((valsL l (i + 1)).map sv) zo Tryz.underlying50 (by kernel_rfl) rfl (by decide) zx hV'3 zy (n26.blk.sl 1 1 (by decide) (by decide)) rfl (by simp [Value.oneCell']) (by unfold maxLen; omega) (by omega) hB'11.size (by rfl) (by rw [valsL_snoc, List.map_append]; rfl) fun p27 c27 W27 o27 hg27 hb27 => ?_
       refine zK _ _ (sft_grown hb27 hg27 hV'3 (by decide)) ?_
       have k22'4 := k22'3.grown hg27 hV'3 (by decide)
       refine ys (.o [18] 19) k22'4 [.int .i64 (nodT l), .bool (nodL l), .slice p21 (i + 1) c21, .slice p27 (i + 1) c27] (.t w.heap.size [9, 52]) fun W28 u28 k28 => ⟨(sft_upd u28 k22'4 g6 (by decide)), ?_⟩
       refine xwm 4 ((↑i : Int) + 1) (↑(i + 1) : Int) ?_
       have hB'12 := u28.below (hB'11.trans hb27) g6
       have k16_b1'2 := u28.blk ((((u22.blk ((((k16_b1.below hb18).below hb19).below n20.below).grown hg21 hK'3 (by decide)) (Ne.symm (Ne.symm d6_b1))).below (below_drew W22)).below n26.below).grown hg27 hV'3 (by decide)) (Ne.symm (Ne.symm d6_b1))
       have o21'2 := u28.own2 (own_grown (own_below (own_below (u22.own2 o21 k16_b6'3 (by decide)) (below_drew W22)) n26.below) hg27 hV'3 (by decide)) k22'4 (by decide)
       have o27'1 := u28.own2 o27 k22'4 (by decide)
       exact ze 2 (hJ16 _ _ _ ⟨i + 1, _, _, _, _, rfl, rfl, hB'12, k16_b1'2, k28, o21'2, o27'1, by omega, keysErr_next hz hz0⟩ (by omega))
     refine xk 10 (show (((keyE l i) != (0 : Int)) : Bool) = true from bne_iff_ne.2 hz0) ?_
     have k16_b1'3 := (k16_b1.below hb18).below hb19
     refine xsv 4 k16_b1'3 [.int .i64 0, .bool false, .slice none 0 0, .slice none 0 0] fun W29 u29 k29 => ?_
     have g1 := n1.ge (Below.refl w.heap.size _)
     have hB'13 := u29.below (Bl.next (Bl.next hB_16 hb18) hb19) g1
     refine xec 10 k29 (.tuple #[.agg #[.int .i64 0, .bool false, .slice none 0 0, .slice none 0 0], .int .i64 (keyE l i)]) ?_
     have he : nodeE l = keyE l i := by unfold nodeE; rw [if_pos hs, if_pos hnz, keysErr_at hz hz0 (by omega)]
     exact .inl ⟨by rw [he]; exact hz0, by rw [he], hB'13⟩
   have k16_b1'4 := k16_b1.below hb18
   refine xsv 29 k16_b1'4 [.int .i64 0, .bool false, .slice none 0 0, .slice none 0 0] fun W30 u30 k30 => ?_
   have g1 := n1.ge (Below.refl w.heap.size _)
   have hB'14 := u30.below (Bl.next hB_16 hb18) g1
   refine xec 10 k30 (.tuple #[.agg #[.int .i64 0, .bool false, .slice none 0 0, .slice none 0 0], .int .i64 2]) ?_
   have hke : keyE l i = 2 := by unfold keyE; rw [if_pos (by unfold keyN; omega)]
   have he : nodeE l = 2 := by unfold nodeE; rw [if_pos hs, if_pos hnz, keysErr_at hz (by rw [hke]; decide) (by omega), hke]
   exact .inl ⟨by rw [he]; decide, by rw [he], hB'14⟩
 refine xlv 7 k16_b6.rp ?_
 refine xsv 0 k16_b1 [.int .i64 (nodT l), .bool (nodL l), .slice kp i kc, .slice vp i vc] fun W31 u31 k31 => ?_
 have g1 := n1.ge (Below.refl w.heap.size _)
 have hB'15 := u31.below hB_16 g1
 have hK'4 := u31.own2 hK k16_b1 (by decide)
 have hV'4 := u31.own2 hV k16_b1 (by decide)
 refine xec 4 k31 (.tuple #[.agg #[.int .i64 (nodT l), .bool (nodL l), .slice kp i kc, .slice vp i vc], .int .i64 0]) ?_
 obtain rfl : i = nodC l := by omega
 exact .inr ⟨by unfold nodeE; rw [if_pos hs, if_pos hnz, hz], _, _, _, _, rfl, hB'15, hK'4, hV'4⟩
end Go.Proofs.YtinegkldgjhnpaaGreatDoor
namespace Go.Proofs.YtinegkldgjhnpaaGreatDoor
open Go.RowKit Go.Extern.Stop Go.Stop Go.Extern
set_option linter.unusedVariables false
attribute [local irreducible] wpList wpAnyH Code.wp Oper.wp Go

set_option maxRecDepth 100000 in
set_option maxHeartbeats 1000000 in
theorem Pack_4 (g : Nat) (n : Int) (h0 : 0 ≤ n) (hb : n < 4294967296) (w : World) (hk : Blk w g [.int .i64 4, .int .i64 n] 122) :
    Calls Tryz.prog 50 #[.slice (some ⟨g, 0, none⟩) 1 1] w (RetS (fun w' r => ∃ p c, r = .tuple #[.slice p 4 c, .int .i64 0] ∧ w'.ownsRow w.heap.size 5 1 (.slice p 4 c) 4 ((leB n 4).map bv)) w) := by
 refine zin 32 Tryz.func50 ?_
 refine xu 20 2 ?_
 refine xlv 14 hk.rp ?_
 refine xa 0 [.int .i64 0, .int .i64 0] 122 fun b1 W1 n1 => ?_
 have d1_g := n1.ne hk
 refine xsv 0 n1.blk [.int .i64 4, .int .i64 n] fun W2 u2 k2 => ?_
 have g1 := n1.ge (Below.refl w.heap.size _)
 refine xb 6 0 k2 ?_
 refine xr 0 (args := #[.int .i64 4]) (known_4 _) fun W3 hb3 => ?_
 have k2'1 := k2.below hb3
 refine xb 10 1 k2'1 ?_
 refine xb 1 0 k2'1 ?_
 refine xr 0 (args := #[.int .i64 n, .int .i64 4]) (fits_4 (n) (h0) (hb) _) fun W4 hb4 => ?_
 have k2'2 := k2'1.below hb4
 refine xb 9 1 k2'2 ?_
 refine xb 1 0 k2'2 ?_
 refine xc 0 (args := #[.int .i64 n, .int .i64 4]) (bytes_4 (n) (h0) _) ?_
 rintro _ W5 ⟨_, rfl, hb5, h2_0⟩
 have hs5 := (Bl.next (Bl.next (u2.below n1.below g1) hb3) hb4).size
 have h2_0'1 := own_mono h2_0 hs5
 unfold OwnB at h2_0'1
 rw [leB_len] at h2_0'1
 obtain ⟨p2_0, c2_0, rfl⟩ := (own_sl h2_0'1).slice
 have o6 := World.ownsRow_nil W5 w.heap.size 5 1
 have hB := Bl.next (Bl.next (Bl.next (u2.below n1.below g1) hb3) hb4) hb5
 refine xbi 0 fun _ _ _ _ zJ zQ zo zx zy zK => op_app (m := 4) (news := (leB (n) 4).map bv) (.int .u8 0) 1 1 (4) ((leB (n) 4).map bv) zo Tryz.underlying22 (by kernel_rfl) rfl (by decide) zx o6 zy (own_sl h2_0'1) (by simp [leB_len]) (bv_one _) (by unfold maxLen; omega) (by omega) hB.size (by rfl) (by simp) fun p7 c7 W7 o7 hg7 hb7 => ?_
 refine zK _ _ ?_
 have hB'1 := hB.trans hb7
 exact xe 29 (.tuple #[.slice p7 4 c7, .int .i64 0]) ⟨_, rfl, hB'1, _, _, rfl, o7⟩
set_option maxRecDepth 100000 in
set_option maxHeartbeats 1000000 in
theorem Pack_8 (g : Nat) (n : Int) (h0 : 0 ≤ n) (w : World) (hk : Blk w g [.int .i64 8, .int .i64 n] 122) :
    Calls Tryz.prog 50 #[.slice (some ⟨g, 0, none⟩) 1 1] w (RetS (fun w' r => ∃ p c, r = .tuple #[.slice p 8 c, .int .i64 0] ∧ w'.ownsRow w.heap.size 5 1 (.slice p 8 c) 8 ((leB n 8).map bv)) w) := by
 refine zin 32 Tryz.func50 ?_
 refine xu 20 2 ?_
 refine xlv 14 hk.rp ?_
 refine xa 0 [.int .i64 0, .int .i64 0] 122 fun b1 W1 n1 => ?_
 have d1_g := n1.ne hk
 refine xsv 0 n1.blk [.int .i64 8, .int .i64 n] fun W2 u2 k2 => ?_
 have g1 := n1.ge (Below.refl w.heap.size _)
 refine xb 6 0 k2 ?_
 refine xr 0 (args := #[.int .i64 8]) (known_8 _) fun W3 hb3 => ?_
 have k2'1 := k2.below hb3
 refine xb 10 1 k2'1 ?_
 refine xb 1 0 k2'1 ?_
 refine xr 0 (args := #[.int .i64 n, .int .i64 8]) (fits_8 (n) (h0) _) fun W4 hb4 => ?_
 have k2'2 := k2'1.below hb4
 refine xb 9 1 k2'2 ?_
 refine xb 1 0 k2'2 ?_
 refine xc 0 (args := #[.int .i64 n, .int .i64 8]) (bytes_8 (n) (h0) _) ?_
 rintro _ W5 ⟨_, rfl, hb5, h2_0⟩
 have hs5 := (Bl.next (Bl.next (u2.below n1.below g1) hb3) hb4).size
 have h2_0'1 := own_mono h2_0 hs5
 unfold OwnB at h2_0'1
 rw [leB_len] at h2_0'1
 obtain ⟨p2_0, c2_0, rfl⟩ := (own_sl h2_0'1).slice
 have o6 := World.ownsRow_nil W5 w.heap.size 5 1
 have hB := Bl.next (Bl.next (Bl.next (u2.below n1.below g1) hb3) hb4) hb5
 refine xbi 0 fun _ _ _ _ zJ zQ zo zx zy zK => op_app (m := 8) (news := (leB (n) 8).map bv) (.int .u8 0) 1 1 (8) ((leB (n) 8).map bv) zo Tryz.underlying22 (by kernel_rfl) rfl (by decide) zx o6 zy (own_sl h2_0'1) (by simp [leB_len]) (bv_one _) (by unfold maxLen; omega) (by omega) hB.size (by rfl) (by simp) fun p7 c7 W7 o7 hg7 hb7 => ?_
 refine zK _ _ ?_
 have hB'1 := hB.trans hb7
 exact xe 29 (.tuple #[.slice p7 8 c7, .int .i64 0]) ⟨_, rfl, hB'1, _, _, rfl, o7⟩
set_option maxRecDepth 100000 in
set_option maxHeartbeats 1000000 in
theorem Pack_node (g : Nat) (f t k v m : Int) (hf : 0 ≤ f) (hf2 : f < 256) (ht : 0 ≤ t) (ht2 : t < 256) (hk1 : 0 ≤ k) (hk2 : k < 65536) (hv : 0 ≤ v) (hv2 : v < 65536) (hm : 0 ≤ m) (hm2 : m < 65536) (w : World) (hk : Blk w g [.int .i64 1, .int .i64 f, .int .i64 1, .int .i64 t, .int .i64 2, .int .i64 k, .int .i64 2, .int .i64 v, .int .i64 2, .int .i64 m, .int .i64 4, .int .i64 0] 122) :
    Calls Tryz.prog 50 #[.slice (some ⟨g, 0, none⟩) 6 6] w (RetS (fun w' r => ∃ p c, r = .tuple #[.slice p 12 c, .int .i64 0] ∧ w'.ownsRow w.heap.size 5 1 (.slice p 12 c) 12 ((leB f 1 ++ leB t 1 ++ leB k 2 ++ leB v 2 ++ leB m 2 ++ leB 0 4).map bv)) w) := by
 refine zin 32 Tryz.func50 ?_
 refine xu 20 7 ?_
 refine xlv 14 (hk.rpp 0 2) ?_
 refine xa 0 [.int .i64 0, .int .i64 0] 122 fun b1 W1 n1 => ?_
 have d1_g := n1.ne hk
 refine xsv 0 n1.blk [.int .i64 1, .int .i64 f] fun W2 u2 k2 => ?_
 have g1 := n1.ge (Below.refl w.heap.size _)
 refine xb 6 0 k2 ?_
 refine xr 0 (args := #[.int .i64 1]) (known_1 _) fun W3 hb3 => ?_
 have k2'1 := k2.below hb3
 refine xb 10 1 k2'1 ?_
 refine xb 1 0 k2'1 ?_
 refine xr 0 (args := #[.int .i64 f, .int .i64 1]) (fits_1 (f) (hf) (hf2) _) fun W4 hb4 => ?_
 have k2'2 := k2'1.below hb4
 refine xb 9 1 k2'2 ?_
 refine xb 1 0 k2'2 ?_
 refine xc 0 (args := #[.int .i64 f, .int .i64 1]) (bytes_1 (f) (hf) _) ?_
 rintro _ W5 ⟨_, rfl, hb5, h2_0⟩
 have hs5 := (Bl.next (Bl.next (u2.below n1.below g1) hb3) hb4).size
 have h2_0'1 := own_mono h2_0 hs5
 unfold OwnB at h2_0'1
 rw [leB_len] at h2_0'1
 obtain ⟨p2_0, c2_0, rfl⟩ := (own_sl h2_0'1).slice
 have o6 := World.ownsRow_nil W5 w.heap.size 5 1
 have hB := Bl.next (Bl.next (Bl.next (u2.below n1.below g1) hb3) hb4) hb5
 refine xbi 0 fun _ _ _ _ zJ zQ zo zx zy zK => op_app (m := 1) (news := (leB (f) 1).map bv) (.int .u8 0) 1 1 (1) ((leB (f) 1).map bv) zo Tryz.underlying22 (by kernel_rfl) rfl (by decide) zx o6 zy (own_sl h2_0'1) (by simp [leB_len]) (bv_one _) (by unfold maxLen; omega) (by omega) hB.size (by rfl) (by simp) fun p7 c7 W7 o7 hg7 hb7 => ?_
 refine zK _ _ ?_
 have hk'1 := ((((u2.blk (hk.below n1.below) (Ne.symm (Ne.symm d1_g))).below hb3).below hb4).below hb5).grown hg7 o6 (by decide)
 refine xlv 23 (hk'1.rpp 2 2) ?_
 refine xa 0 [.int .i64 0, .int .i64 0] 122 fun b8 W8 n8 => ?_
 have d8_g := n8.ne hk'1
 have k2'3 := (k2'2.below hb5).grown hg7 o6 (by decide)
 have d8_b1 := n8.ne k2'3
 refine xsv 0 n8.blk [.int .i64 1, .int .i64 t] fun W9 u9 k9 => ?_
 have g8 := n8.ge (hB.trans hb7)
 refine xb 6 0 k9 ?_
 refine xr 0 (args := #[.int .i64 1]) (known_1 _) fun W10 hb10 => ?_
 have k9'1 := k9.below hb10
 refine xb 10 1 k9'1 ?_
 refine xb 1 0 k9'1 ?_
 refine xr 0 (args := #[.int .i64 t, .int .i64 1]) (fits_1 (t) (ht) (ht2) _) fun W11 hb11 => ?_
 have k9'2 := k9'1.below hb11
 refine xb 9 1 k9'2 ?_
 refine xb 1 0 k9'2 ?_
 refine xc 0 (args := #[.int .i64 t, .int .i64 1]) (bytes_1 (t) (ht) _) ?_
 rintro _ W12 ⟨_, rfl, hb12, h2_1⟩
 have hs12 := (Bl.next (Bl.next (u9.below (Bl.next (hB.trans hb7) n8.below) g8) hb10) hb11).size
 have h2_1'1 := own_mono h2_1 hs12
 unfold OwnB at h2_1'1
 rw [leB_len] at h2_1'1
 obtain ⟨p2_1, c2_1, rfl⟩ := (own_sl h2_1'1).slice
 have o7'1 := own_below (own_below (own_below (u9.own2 (own_below o7 n8.below) n8.blk (by decide)) hb10) hb11) hb12
 have hB'1 := Bl.next (Bl.next (Bl.next (u9.below (Bl.next (hB.trans hb7) n8.below) g8) hb10) hb11) hb12
 refine xbi 0 fun _ _ _ _ zJ zQ zo zx zy zK => op_app (m := 1) (news := (leB (t) 1).map bv) (.int .u8 0) 1 1 (2) ((leB (f) 1 ++ leB (t) 1).map bv) zo Tryz.underlying22 (by kernel_rfl) rfl (by decide) zx o7'1 zy (own_sl h2_1'1) (by simp [leB_len]) (bv_one _) (by unfold maxLen; omega) (by omega) hB'1.size (by rfl) (by simp) fun p13 c13 W13 o13 hg13 hb13 => ?_
 refine zK _ _ ?_
 have hk'2 := ((((u9.blk (hk'1.below n8.below) (Ne.symm (Ne.symm d8_g))).below hb10).below hb11).below hb12).grown hg13 o7'1 (by decide)
 refine xlv 23 (hk'2.rpp 4 2) ?_
 refine xa 0 [.int .i64 0, .int .i64 0] 122 fun b14 W14 n14 => ?_
 have d14_g := n14.ne hk'2
 have k2'4 := ((((u9.blk (k2'3.below n8.below) (Ne.symm (Ne.symm d8_b1))).below hb10).below hb11).below hb12).grown hg13 o7'1 (by decide)
 have d14_b1 := n14.ne k2'4
 have k9'3 := (k9'2.below hb12).grown hg13 o7'1 (by decide)
 have d14_b8 := n14.ne k9'3
 refine xsv 0 n14.blk [.int .i64 2, .int .i64 k] fun W15 u15 k15 => ?_
 have g14 := n14.ge (hB'1.trans hb13)
 refine xb 6 0 k15 ?_
 refine xr 0 (args := #[.int .i64 2]) (known_2 _) fun W16 hb16 => ?_
 have k15'1 := k15.below hb16
 refine xb 10 1 k15'1 ?_
 refine xb 1 0 k15'1 ?_
 refine xr 0 (args := #[.int .i64 k, .int .i64 2]) (fits_2 (k) (hk1) (hk2) _) fun W17 hb17 => ?_
 have k15'2 := k15'1.below hb17
 refine xb 9 1 k15'2 ?_
 refine xb 1 0 k15'2 ?_
 refine xc 0 (args := #[.int .i64 k, .int .i64 2]) (bytes_2 (k) (hk1) _) ?_
 rintro _ W18 ⟨_, rfl, hb18, h2_2⟩
 have hs18 := (Bl.next (Bl.next (u15.below (Bl.next (hB'1.trans hb13) n14.below) g14) hb16) hb17).size
 have h2_2'1 := own_mono h2_2 hs18
 unfold OwnB at h2_2'1
 rw [leB_len] at h2_2'1
 obtain ⟨p2_2, c2_2, rfl⟩ := (own_sl h2_2'1).slice
 have o13'1 := own_below (own_below (own_below (u15.own2 (own_below o13 n14.below) n14.blk (by decide)) hb16) hb17) hb18
 have hB'2 := Bl.next (Bl.next (Bl.next (u15.below (Bl.next (hB'1.trans hb13) n14.below) g14) hb16) hb17) hb18
 refine xbi 0 fun _ _ _ _ zJ zQ zo zx zy zK => op_app (m := 2) (news := (leB (k) 2).map bv) (.int .u8 0) 1 1 (4) ((leB (f) 1 ++ leB (t) 1 ++ leB (k) 2).map bv) zo Tryz.underlying22 (by kernel_rfl) rfl (by decide) zx o13'1 zy (own_sl h2_2'1) (by simp [leB_len]) (bv_one _) (by unfold maxLen; omega) (by omega) hB'2.size (by rfl) (by simp) fun p19 c19 W19 o19 hg19 hb19 => ?_
 refine zK _ _ ?_
 have hk'3 := ((((u15.blk (hk'2.below n14.below) (Ne.symm (Ne.symm d14_g))).below hb16).below hb17).below hb18).grown hg19 o13'1 (by decide)
 refine xlv 23 (hk'3.rpp 6 2) ?_
 refine xa 0 [.int .i64 0, .int .i64 0] 122 fun b20 W20 n20 => ?_
 have d20_g := n20.ne hk'3
 have k2'5 := ((((u15.blk (k2'4.below n14.below) (Ne.symm (Ne.symm d14_b1))).below hb16).below hb17).below hb18).grown hg19 o13'1 (by decide)
 have d20_b1 := n20.ne k2'5
 have k9'4 := ((((u15.blk (k9'3.below n14.below) (Ne.symm (Ne.symm d14_b8))).below hb16).below hb17).below hb18).grown hg19 o13'1 (by decide)
 have d20_b8 := n20.ne k9'4
 have k15'3 := (k15'2.below hb18).grown hg19 o13'1 (by decide)
 have d20_b14 := n20.ne k15'3
 refine xsv 0 n20.blk [.int .i64 2, .int .i64 v] fun W21 u21 k21 => ?_
 have g20 := n20.ge (hB'2.trans hb19)
 refine xb 6 0 k21 ?_
 refine xr 0 (args := #[.int .i64 2]) (known_2 _) fun W22 hb22 => ?_
 have k21'1 := k21.below hb22
 refine xb 10 1 k21'1 ?_
 refine xb 1 0 k21'1 ?_
 refine xr 0 (args := #[.int .i64 v, .int .i64 2]) (fits_2 (v) (hv) (hv2) _) fun W23 hb23 => ?_
 have k21'2 := k21'1.below hb23
 refine xb 9 1 k21'2 ?_
 refine xb 1 0 k21'2 ?_
 refine xc 0 (args := #[.int .i64 v, .int .i64 2]) (bytes_2 (v) (hv) _) ?_
 rintro _ W24 ⟨_, rfl, hb24, h2_3⟩
 have hs24 := (Bl.next (Bl.next (u21.below (Bl.next (hB'2.trans hb19) n20.below) g20) hb22) hb23).size
 have h2_3'1 := own_mono h2_3 hs24
 unfold OwnB at h2_3'1
 rw [leB_len] at h2_3'1
 obtain ⟨p2_3, c2_3, rfl⟩ := (own_sl h2_3'1).slice
 have o19'1 := own_below (own_below (own_below (u21.own2 (own_below o19 n20.below) n20.blk (by decide)) hb22) hb23) hb24
 have hB'3 := Bl.next (Bl.next (Bl.next (u21.below (Bl.next (hB'2.trans hb19) n20.below) g20) hb22) hb23) hb24
 refine xbi 0 fun _ _ _ _ zJ zQ zo zx zy zK => op_app (m := 2) (news := (leB (v) 2).map bv) (.int .u8 0) 1 1 (6) ((leB (f) 1 ++ leB (t) 1 ++ leB (k) 2 ++ leB (v) 2).map bv) zo Tryz.underlying22 (by kernel_rfl) rfl (by decide) zx o19'1 zy (own_sl h2_3'1) (by simp [leB_len]) (bv_one _) (by unfold maxLen; omega) (by omega) hB'3.size (by rfl) (by simp) fun p25 c25 W25 o25 hg25 hb25 => ?_
 refine zK _ _ ?_
 have hk'4 := ((((u21.blk (hk'3.below n20.below) (Ne.symm (Ne.symm d20_g))).below hb22).below hb23).below hb24).grown hg25 o19'1 (by decide)
 refine xlv 23 (hk'4.rpp 8 2) ?_
 refine xa 0 [.int .i64 0, .int .i64 0] 122 fun b26 W26 n26 => ?_
 have d26_g := n26.ne hk'4
 have k2'6 := ((((u21.blk (k2'5.below n20.below) (Ne.symm (Ne.symm d20_b1))).below hb22).below hb23).below hb24).grown hg25 o19'1 (by decide)
 have d26_b1 := n26.ne k2'6
 have k9'5 := ((((u21.blk (k9'4.below n20.below) (Ne.symm (Ne.symm d20_b8))).below hb22).below hb23).below hb24).grown hg25 o19'1 (by decide)
 have d26_b8 := n26.ne k9'5
 have k15'4 := ((((u21.blk (k15'3.below n20.below) (Ne.symm (Ne.symm d20_b14))).below hb22).below hb23).below hb24).grown hg25 o19'1 (by decide)
 have d26_b14 := n26.ne k15'4
 have k21'3 := (k21'2.below hb24).grown hg25 o19'1 (by decide)
 have d26_b20 := n26.ne k21'3
 refine xsv 0 n26.blk [.int .i64 2, .int .i64 m] fun W27 u27 k27 => ?_
 have g26 := n26.ge (hB'3.trans hb25)
 refine xb 6 0 k27 ?_
 refine xr 0 (args := #[.int .i64 2]) (known_2 _) fun W28 hb28 => ?_
 have k27'1 := k27.below hb28
 refine xb 10 1 k27'1 ?_
 refine xb 1 0 k27'1 ?_
 refine xr 0 (args := #[.int .i64 m, .int .i64 2]) (fits_2 (m) (hm) (hm2) _) fun W29 hb29 => ?_
 have k27'2 := k27'1.below hb29
 refine xb 9 1 k27'2 ?_
 refine xb 1 0 k27'2 ?_
 refine xc 0 (args := #[.int .i64 m, .int .i64 2]) (bytes_2 (m) (hm) _) ?_
 rintro _ W30 ⟨_, rfl, hb30, h2_4⟩
 have hs30 := (Bl.next (Bl.next (u27.below (Bl.next (hB'3.trans hb25) n26.below) g26) hb28) hb29).size
 have h2_4'1 := own_mono h2_4 hs30
 unfold OwnB at h2_4'1
 rw [leB_len] at h2_4'1
 obtain ⟨p2_4, c2_4, rfl⟩ := (own_sl h2_4'1).slice
 have o25'1 := own_below (own_below (own_below (u27.own2 (own_below o25 n26.below) n26.blk (by decide)) hb28) hb29) hb30
 have hB'4 := Bl.next (Bl.next (Bl.next (u27.below (Bl.next (hB'3.trans hb25) n26.below) g26) hb28) hb29) hb30
 refine xbi 0 fun _ _ _ _ zJ zQ zo zx zy zK => op_app (m := 2) (news := (leB (m) 2).map bv) (.int .u8 0) 1 1 (8) ((leB (f) 1 ++ leB (t) 1 ++ leB (k) 2 ++ leB (v) 2 ++ leB (m) 2).map bv) zo Tryz.underlying22 (by kernel_rfl) rfl (by decide) zx o25'1 zy (own_sl h2_4'1) (by simp [leB_len]) (bv_one _) (by unfold maxLen; omega) (by omega) hB'4.size (by rfl) (by simp) fun p31 c31 W31 o31 hg31 hb31 => ?_
 refine zK _ _ ?_
 have hk'5 := ((((u27.blk (hk'4.below n26.below) (Ne.symm (Ne.symm d26_g))).below hb28).below hb29).below hb30).grown hg31 o25'1 (by decide)
 refine xlv 23 (hk'5.rpp 10 2) ?_
 refine xa 0 [.int .i64 0, .int .i64 0] 122 fun b32 W32 n32 => ?_
 have d32_g := n32.ne hk'5
 have k2'7 := ((((u27.blk (k2'6.below n26.below) (Ne.symm (Ne.symm d26_b1))).below hb28).below hb29).below hb30).grown hg31 o25'1 (by decide)
 have d32_b1 := n32.ne k2'7
 have k9'6 := ((((u27.blk (k9'5.below n26.below) (Ne.symm (Ne.symm d26_b8))).below hb28).below hb29).below hb30).grown hg31 o25'1 (by decide)
 have d32_b8 := n32.ne k9'6
 have k15'5 := ((((u27.blk (k15'4.below n26.below) (Ne.symm (Ne.symm d26_b14))).below hb28).below hb29).below hb30).grown hg31 o25'1 (by decide)
 have d32_b14 := n32.ne k15'5
 have k21'4 := ((((u27.blk (k21'3.below n26.below) (Ne.symm (Ne.symm d26_b20))).below hb28).below hb29).below hb30).grown hg31 o25'1 (by decide)
 have d32_b20 := n32.ne k21'4
 have k27'3 := (k27'2.below hb30).grown hg31 o25'1 (by decide)
 have d32_b26 := n32.ne k27'3
 refine xsv 0 n32.blk [.int .i64 4, .int .i64 0] fun W33 u33 k33 => ?_
 have g32 := n32.ge (hB'4.trans hb31)
 refine xb 6 0 k33 ?_
 refine xr 0 (args := #[.int .i64 4]) (known_4 _) fun W34 hb34 => ?_
 have k33'1 := k33.below hb34
 refine xb 10 1 k33'1 ?_
 refine xb 1 0 k33'1 ?_
 refine xr 0 (args := #[.int .i64 0, .int .i64 4]) (fits_4 (0) (by decide) (by decide) _) fun W35 hb35 => ?_
 have k33'2 := k33'1.below hb35
 refine xb 9 1 k33'2 ?_
 refine xb 1 0 k33'2 ?_
 refine xc 0 (args := #[.int .i64 0, .int .i64 4]) (bytes_4 (0) (by decide) _) ?_
 rintro _ W36 ⟨_, rfl, hb36, h2_5⟩
 have hs36 := (Bl.next (Bl.next (u33.below (Bl.next (hB'4.trans hb31) n32.below) g32) hb34) hb35).size
 have h2_5'1 := own_mono h2_5 hs36
 unfold OwnB at h2_5'1
 rw [leB_len] at h2_5'1
 obtain ⟨p2_5, c2_5, rfl⟩ := (own_sl h2_5'1).slice
 have o31'1 := own_below (own_below (own_below (u33.own2 (own_below o31 n32.below) n32.blk (by decide)) hb34) hb35) hb36
 have hB'5 := Bl.next (Bl.next (Bl.next (u33.below (Bl.next (hB'4.trans hb31) n32.below) g32) hb34) hb35) hb36
 refine xbi 0 fun _ _ _ _ zJ zQ zo zx zy zK => op_app (m := 4) (news := (leB (0) 4).map bv) (.int .u8 0) 1 1 (12) ((leB (f) 1 ++ leB (t) 1 ++ leB (k) 2 ++ leB (v) 2 ++ leB (m) 2 ++ leB (0) 4).map bv) zo Tryz.underlying22 (by kernel_rfl) rfl (by decide) zx o31'1 zy (own_sl h2_5'1) (by simp [leB_len]) (bv_one _) (by unfold maxLen; omega) (by omega) hB'5.size (by rfl) (by simp) fun p37 c37 W37 o37 hg37 hb37 => ?_
 refine zK _ _ ?_
 have hB'6 := hB'5.trans hb37
 exact xe 29 (.tuple #[.slice p37 12 c37, .int .i64 0]) ⟨_, rfl, hB'6, _, _, rfl, o37⟩
end Go.Proofs.YtinegkldgjhnpaaGreatDoor
namespace Go.Proofs.YtinegkldgjhnpaaGreatDoor
open Go.RowKit Go.Extern.Stop Go.Stop Go.Extern
set_option linter.unusedVariables false
attribute [local irreducible] wpList wpAnyH Code.wp Oper.wp Go

theorem op_strBytes {P : Program} {a : Act} {w : World} {K : Act → World → Prop} {Q : Exit → Act → World → Prop} {o : Oper} {src dst e : TypeId} {x : Operand} (l : List UInt8) (ho : o.op = .convert src dst x) (hx : a.eval x = .string ⟨l.toArray⟩)
    (hs : P.underlying src = some .string) (hd : P.underlying dst = some (.slice e)) (he : P.underlying e = some (.int .u8)) (hl : l.length ≤ 1000000)
    (k : ∀ b c W, Below w.heap.size w W → Bys W (.slice (some ⟨b, 0, none⟩) l.length c) l → K (a.put o.dst (.slice (some ⟨b, 0, none⟩) l.length c)) W) : o.wp P a w K Q := by
  have hr := run_bytes_of_string (P := P) w src dst e ⟨l.toArray⟩ hs hd he
  have hsz : (⟨l.toArray⟩ : ByteArray).size = l.length := by simp [ByteArray.size]
  rw [hsz] at hr
  obtain ⟨W1, hW1⟩ : ∃ W1, W1 = w.drew.alloc (.cells (bytesRow ⟨l.toArray⟩ (grownCap w l.length 0 e)) e ((bytesRow ⟨l.toArray⟩ (grownCap w l.length 0 e)).size, (bytesRow ⟨l.toArray⟩ (grownCap w l.length 0 e)).size + 1)) := ⟨_, rfl⟩
  rw [← hW1] at hr
  have h2 : (execOp a.eval o).run P w = .ok (.value (.slice (some ⟨w.heap.size, 0, none⟩) l.length (grownCap w l.length 0 e))) W1 := by
    simp only [execOp, ho, hx, Sem.run_bind, hr]; rfl
  refine op_val h2 (k _ _ _ (by rw [hW1]; exact (below_drew w).trans (show Below w.drew.heap.size w.drew _ from Bl.box w.drew _)) (.inr ⟨w.heap.size, 0, _, rfl, grownCap_ge w l.length 0 e, grownCap_le_maxLen w l.length 0 e (by unfold maxLen; omega), fun j y hj => ?_⟩))
  have hjl : j < l.length := by have := (List.getElem?_eq_some_iff.1 hj).1; simpa using this
  have hb := bytesRow_at ⟨l.toArray⟩ (grownCap w l.length 0 e) j (by simpa using hjl)
  have hy : y = .int .u8 ((l.toArray[j]'(by simpa using hjl)).toNat : Int) := by
    rw [List.getElem?_map, List.getElem?_eq_getElem hjl] at hj
    simp only [Option.map_some, Option.some.injEq] at hj
    rw [← hj]; rfl
  have hh : W1.heap[w.heap.size]? = some (.cells (bytesRow ⟨l.toArray⟩ (grownCap w l.length 0 e)) e ((bytesRow ⟨l.toArray⟩ (grownCap w l.length 0 e)).size, (bytesRow ⟨l.toArray⟩ (grownCap w l.length 0 e)).size + 1)) := by rw [hW1]; exact heap_alloc_new w.drew _
  rw [hy]
  simp [World.cell?, hh, hb]
/-- a root's number, by the four bytes of a value -/
def rootE (s : List UInt8) : Int := if s.length = 4 then (if 1 ≤ rawN s 0 4 ∧ rawN s 0 4 ≤ 14399 then 0 else 2) else 7
def rootN (s : List UInt8) : Nat := if rootE s = 0 then rawN s 0 4 else 0
theorem loop_len (bs : ByteArray) (i : Nat) (r : List UInt8) (h : i ≤ bs.size) : (ByteArray.toList.loop bs i r).length = r.length + (bs.size - i) := by
  rw [ByteArray.toList.loop]
  split
  · rename_i h2
    rw [loop_len bs (i + 1) _ (by omega)]
    simp; omega
  · simp; omega
termination_by bs.size - i
theorem toList_len (bs : ByteArray) : bs.toList.length = bs.size := by
  unfold ByteArray.toList; rw [loop_len _ _ _ (Nat.zero_le _)]; simp
theorem four_ne (n : Int) : ((⟨(leB n 4).toArray⟩ : ByteArray).toList == (⟨#[]⟩ : ByteArray).toList) = false := by
  cases hq : ((⟨(leB n 4).toArray⟩ : ByteArray).toList == (⟨#[]⟩ : ByteArray).toList) with
  | false => rfl
  | true =>
    have e := congrArg List.length (eq_of_beq hq)
    rw [toList_len, toList_len] at e
    simp [ByteArray.size, leB_len] at e
set_option maxRecDepth 100000 in
set_option maxHeartbeats 1000000 in
theorem value_rootR (w : World) :
    Calls Tryz.prog 161 #[] w (RetS (fun w' r => ∃ b, r = .slice (some ⟨b, 0, none⟩) 1 1 ∧ w.heap.size ≤ b ∧ Blk w' b [.int .i64 4, .int .i64 1, .int .i64 14399] 266) w) := by
 refine zin 3 Tryz.func161 ?_
 refine xbs 8 1 [.int .i64 4, .int .i64 1, .int .i64 14399] 266 fun b1 W1 n1 => ?_
 have g1 := n1.ge (Below.refl w.heap.size _)
 exact xe 4 (.slice (some ⟨b1, 0, none⟩) 1 1) ⟨_, rfl, n1.below, _, rfl, g1, n1.blk⟩
set_option maxRecDepth 100000 in
set_option maxHeartbeats 1000000 in
theorem value_putR (gl : Nat) (an : Option Addr) (cn : Nat) (n : Int) (w : World) (hl : Blk w gl [.int .i64 4, .int .i64 1, .int .i64 14399] 266) (hn : Sl w (.slice an 1 cn) 1 [.int .i64 n]) (h1 : 1 ≤ n) (h2 : n ≤ 14399) :
    Calls Tryz.prog 164 #[.slice (some ⟨gl, 0, none⟩) 1 1, .slice an 1 cn] w (Ret (.string ⟨(leB n 4).toArray⟩) w) := by
 have hlo := h1
 have hhi := h2
 clear h2
 refine zin 51 Tryz.func164 ?_
 refine xu 19 2 ?_
 refine xlv 15 hl.rp ?_
 refine xa 0 [.int .i64 0, .int .i64 0, .int .i64 0] 266 fun b1 W1 n1 => ?_
 have d1_gl := n1.ne hl
 refine xsv 1 n1.blk [.int .i64 4, .int .i64 1, .int .i64 14399] fun W2 u2 k2 => ?_
 have g1 := n1.ge (Below.refl w.heap.size _)
 refine xd 4 .z ?_
 refine xx (.e [0, 1] 2) _ 1 0 1 (Ints.elem (l := [n]) hn (k := 0) (by simp)).1 ?_
 have hB := Bl.next (u2.below n1.below g1) (below_drew W2)
 refine xl (.e [] 3) ((Ints.elem (l := [n]) (hn.below hB) (k := 0) (by simp)).2) ?_
 have k2'1 := k2.below (below_drew W2)
 refine xb (.e [4] 5) 1 k2'1 ?_
 refine xgk (.b [6, 7]) [23, 24] (show (decide (n < (1 : Int)) : Bool) = false from decide_eq_false (by omega)) ?_
 refine xx (.e [8, 9] 10) _ 1 0 1 (Ints.elem (l := [n]) hn (k := 0) (by simp)).1 ?_
 refine xl (.e [] 11) ((Ints.elem (l := [n]) (hn.below hB) (k := 0) (by simp)).2) ?_
 refine xb (.e [12] 13) 2 k2'1 ?_
 refine xk (.r [14, 15] 2) (show (decide (n > (14399 : Int)) : Bool) = false from decide_eq_false (by omega)) ?_
 refine xd 3 .z ?_
 have k2'2 := k2'1.below (below_drew W2.drew)
 refine xb (.e [0] 1) 0 k2'2 ?_
 refine xx (.e [2, 3] 4) _ 1 0 1 (Ints.elem (l := [n]) hn (k := 0) (by simp)).1 ?_
 have hB'1 := Bl.next hB (below_drew W2.drew)
 refine xl (.e [] 5) ((Ints.elem (l := [n]) (hn.below hB'1) (k := 0) (by simp)).2) ?_
 refine xbs (.o [6] 7) 1 [.int .i64 4, .int .i64 n] 122 fun b4 W4 n4 => ?_
 have g4 := n4.ge hB'1
 refine yc (.o [] 8) (args := #[.slice (some ⟨b4, 0, none⟩) 1 1]) .z (Pack_4 b4 n (by omega) (by omega) _ n4.blk) ?_
 rintro _ W5 ⟨_, rfl, hb5, p2, c2, rfl, h2⟩
 have hs5 := (Bl.next hB'1 n4.below).size
 refine ⟨hb5, ?_⟩
 have o6 := World.ownsRow_nil W5 w.heap.size 5 1
 have h2'1 := own_mono h2 hs5
 have hB'2 := Bl.next (Bl.next hB'1 n4.below) hb5
 refine xbi (.r [9, 10, 11, 12, 13] 5) fun _ _ _ _ zJ zQ zo zx zy zK => op_app (m := 4) (news := (leB n 4).map bv) (.int .u8 0) 1 1 (4) ((leB n 4).map bv) zo Tryz.underlying22 (by kernel_rfl) rfl (by decide) zx o6 zy (own_sl h2'1) (by simp [leB_len]) (bv_one _) (by unfold maxLen; omega) (by omega) hB'2.size (by rfl) (by simp) fun p7 c7 W7 o7 hg7 hb7 => ?_
 refine zK _ _ ?_
 refine xcv0 24 (fun _ _ _ zo zx => run_bstr zo zx (bys_of (own_sl o7) (leB_len _ _)) (leB_len _ _) Tryz.underlying22 Tryz.underlying5 Tryz.underlying9) ?_
 have hB'3 := hB'2.trans hb7
 exact xe 4 (.string ⟨(leB n 4).toArray⟩) ⟨rfl, hB'3⟩
set_option maxRecDepth 100000 in
set_option maxHeartbeats 1000000 in
theorem value_putX (gl : Nat) (an : Option Addr) (cn : Nat) (n : Int) (w : World) (hl : Blk w gl [.int .i64 4, .int .i64 1, .int .i64 14399] 266) (hn : Sl w (.slice an 1 cn) 1 [.int .i64 n]) (h : ¬ (1 ≤ n ∧ n ≤ 14399)) :
    Calls Tryz.prog 164 #[.slice (some ⟨gl, 0, none⟩) 1 1, .slice an 1 cn] w (Ret (.string ⟨#[]⟩) w) := by
 refine zin 51 Tryz.func164 ?_
 refine xu 19 2 ?_
 refine xlv 15 hl.rp ?_
 refine xa 0 [.int .i64 0, .int .i64 0, .int .i64 0] 266 fun b1 W1 n1 => ?_
 have d1_gl := n1.ne hl
 refine xsv 1 n1.blk [.int .i64 4, .int .i64 1, .int .i64 14399] fun W2 u2 k2 => ?_
 have g1 := n1.ge (Below.refl w.heap.size _)
 refine xd 4 .z ?_
 refine xx (.e [0, 1] 2) _ 1 0 1 (Ints.elem (l := [n]) hn (k := 0) (by simp)).1 ?_
 have hB := Bl.next (u2.below n1.below g1) (below_drew W2)
 refine xl (.e [] 3) ((Ints.elem (l := [n]) (hn.below hB) (k := 0) (by simp)).2) ?_
 have k2'1 := k2.below (below_drew W2)
 refine xb (.e [4] 5) 1 k2'1 ?_
 refine xg (.b [6, 7]) [23, 24] (decide (n < (1 : Int))) (fun hc3 => ?_) (fun hc3 => ?_)
 · have hc3 := of_decide_eq_true hc3
   exact xe (.r [8, 9, 10, 11, 12, 13, 14, 15] 15) (.string ⟨#[]⟩) ⟨rfl, hB⟩
 have hc3 := of_decide_eq_false hc3
 refine xx (.e [8, 9] 10) _ 1 0 1 (Ints.elem (l := [n]) hn (k := 0) (by simp)).1 ?_
 refine xl (.e [] 11) ((Ints.elem (l := [n]) (hn.below hB) (k := 0) (by simp)).2) ?_
 refine xb (.e [12] 13) 2 k2'1 ?_
 refine xk (.r [14, 15] 2) (show (decide (n > (14399 : Int)) : Bool) = true from decide_eq_true (by omega)) ?_
 exact xe 12 (.string ⟨#[]⟩) ⟨rfl, hB⟩
set_option maxRecDepth 100000 in
set_option maxHeartbeats 1000000 in
theorem value_read_len (gl : Nat) (s : List UInt8) (w : World) (hl : Blk w gl [.int .i64 4, .int .i64 1, .int .i64 14399] 266) (hs : s.length ≤ 1000) (h4 : s.length ≠ 4) :
    Calls Tryz.prog 145 #[.slice (some ⟨gl, 0, none⟩) 1 1, .string ⟨s.toArray⟩] w (RetS (fun w' r => ∃ p c, r = .tuple #[.slice p 1 c, .int .i64 7] ∧ w'.ownsRow w.heap.size 3 1 (.slice p 1 c) 1 [.int .i64 0]) w) := by
 refine zin 54 Tryz.func145 ?_
 refine xu 25 2 ?_
 refine xlv 14 hl.rp ?_
 refine xa 0 [.int .i64 0, .int .i64 0, .int .i64 0] 266 fun b1 W1 n1 => ?_
 have d1_gl := n1.ne hl
 refine xsv 0 n1.blk [.int .i64 4, .int .i64 1, .int .i64 14399] fun W2 u2 k2 => ?_
 have g1 := n1.ge (Below.refl w.heap.size _)
 refine xb 6 0 k2 ?_
 refine xbs 0 1 [.int .i64 4] 3 fun b3 W3 n3 => ?_
 have o4 := World.ownsRow_nil W3 w.heap.size 3 1
 have hB := Bl.next (u2.below n1.below g1) n3.below
 refine xbi 0 fun _ _ _ _ zJ zQ zo zx zy zK => op_app (m := 1) (news := [.int .i64 4]) (.int .i64 0) 1 8 (1) ([Value.int .i64 4]) zo Tryz.underlying26 (by kernel_rfl) rfl (by decide) zx o4 zy (n3.blk.sl 1 1 (by decide) (by decide)) rfl (by simp [Value.oneCell']) (by unfold maxLen; omega) (by omega) hB.size (by rfl) (by rfl) fun p5 c5 W5 o5 hg5 hb5 => ?_
 refine zK _ _ ?_
 have k2'1 := (k2.below n3.below).grown hg5 o4 (by decide)
 refine xb 6 0 k2'1 ?_
 refine xk 31 (show (((↑s.length : Int) != (4 : Int)) : Bool) = true from bne_iff_ne.2 (by omega)) ?_
 refine xmk 4 fun _ _ _ _ zJ zQ zo zx zy zK => op_make 1 (.int .i64 0) 1 8 [Value.int .i64 0] zo zx zy Tryz.underlying26 (by kernel_rfl) rfl (by omega) (by omega) (rfl) fun b6 W6 n6 => ?_
 have hB'1 := hB.trans hb5
 have g6 := n6.ge hB'1
 have r6_o5 := own_ne o5 n6
 refine zK _ _ ?_
 have hB'2 := Bl.next hB'1 n6.below
 have o6 := own_of_blk (size := 1) (n := 1) n6.blk g6 (rfl) (by unfold maxLen; omega)
 exact xe 6 (.tuple #[.slice (some ⟨b6, 0, none⟩) 1 1, .int .i64 7]) ⟨_, rfl, hB'2, _, _, rfl, o6⟩
set_option maxRecDepth 100000 in
set_option maxHeartbeats 1000000 in
theorem value_read_ok (gl : Nat) (s : List UInt8) (w : World) (hl : Blk w gl [.int .i64 4, .int .i64 1, .int .i64 14399] 266) (hs : s.length ≤ 1000) (h4 : s.length = 4) (h1 : 1 ≤ rawN s 0 4) (h2 : rawN s 0 4 ≤ 14399) :
    Calls Tryz.prog 145 #[.slice (some ⟨gl, 0, none⟩) 1 1, .string ⟨s.toArray⟩] w (RetS (fun w' r => ∃ p c, r = .tuple #[.slice p 1 c, .int .i64 0] ∧ w'.ownsRow w.heap.size 3 1 (.slice p 1 c) 1 [.int .i64 (↑(rawN s 0 4) : Int)]) w) := by
 refine zin 54 Tryz.func145 ?_
 refine xu 25 2 ?_
 refine xlv 14 hl.rp ?_
 refine xa 0 [.int .i64 0, .int .i64 0, .int .i64 0] 266 fun b1 W1 n1 => ?_
 have d1_gl := n1.ne hl
 refine xsv 0 n1.blk [.int .i64 4, .int .i64 1, .int .i64 14399] fun W2 u2 k2 => ?_
 have g1 := n1.ge (Below.refl w.heap.size _)
 refine xb 6 0 k2 ?_
 refine xbs 0 1 [.int .i64 4] 3 fun b3 W3 n3 => ?_
 have o4 := World.ownsRow_nil W3 w.heap.size 3 1
 have hB := Bl.next (u2.below n1.below g1) n3.below
 refine xbi 0 fun _ _ _ _ zJ zQ zo zx zy zK => op_app (m := 1) (news := [.int .i64 4]) (.int .i64 0) 1 8 (1) ([Value.int .i64 4]) zo Tryz.underlying26 (by kernel_rfl) rfl (by decide) zx o4 zy (n3.blk.sl 1 1 (by decide) (by decide)) rfl (by simp [Value.oneCell']) (by unfold maxLen; omega) (by omega) hB.size (by rfl) (by rfl) fun p5 c5 W5 o5 hg5 hb5 => ?_
 refine zK _ _ ?_
 have k2'1 := (k2.below n3.below).grown hg5 o4 (by decide)
 refine xb 6 0 k2'1 ?_
 refine xk 31 (show (((↑s.length : Int) != (4 : Int)) : Bool) = false from by rw [h4]; rfl) ?_
 refine xcf 5 fun _ _ _ zJ zQ zo zx zK => op_strBytes s zo zx Tryz.underlying9 Tryz.underlying22 Tryz.underlying5 (by omega) ?_
 intro bz cz W6 hb6 hbz
 refine zK _ _ ?_
 have o5'1 := own_below o5 hb6
 refine xc 1 (args := #[.slice (some ⟨bz, 0, none⟩) s.length cz, .slice p5 1 c5]) (Unpack_okN (some ⟨bz, 0, none⟩) s.length cz s p5 c5 1 [4] [rawN s 0 4] _ rfl rfl rfl (by decide) (by simp; omega) (by omega) (by decide) hbz (own_sl o5'1) (fun i hi => by obtain rfl : i = 0 := (by simpa using hi); have := rawN_lt4 s 0 4 (by decide); simp [unpL]; omega)) ?_
 rintro _ W7 ⟨_, rfl, hb7, p5, c5, rfl, h5⟩
 have hs7 := (Bl.next (hB.trans hb5) hb6).size
 have hl'1 := ((((u2.blk (hl.below n1.below) (Ne.symm (Ne.symm d1_gl))).below n3.below).grown hg5 o4 (by decide)).below hb6).below hb7
 have h5'1 := own_mono h5 hs7
 refine xr 15 (args := #[.slice (some ⟨gl, 0, none⟩) 1 1, .slice p5 1 c5]) (value_putR gl p5 c5 (↑(rawN s 0 4) : Int) _ hl'1 (own_sl h5'1) (by omega) (by omega)) fun W8 hb8 => ?_
 refine xk 4 (show (((⟨(leB (↑(rawN s 0 4) : Int) 4).toArray⟩ : ByteArray).toList == (⟨#[]⟩ : ByteArray).toList) : Bool) = false from four_ne _) ?_
 have hB'1 := Bl.next (Bl.next (Bl.next (hB.trans hb5) hb6) hb7) hb8
 have h5'2 := own_below h5'1 hb8
 exact xe 10 (.tuple #[.slice p5 1 c5, .int .i64 0]) ⟨_, rfl, hB'1, _, _, rfl, h5'2⟩
set_option maxRecDepth 100000 in
set_option maxHeartbeats 1000000 in
theorem value_read_bad (gl : Nat) (s : List UInt8) (w : World) (hl : Blk w gl [.int .i64 4, .int .i64 1, .int .i64 14399] 266) (hs : s.length ≤ 1000) (h4 : s.length = 4) (h1 : ¬ (1 ≤ (rawN s 0 4 : Int) ∧ (rawN s 0 4 : Int) ≤ 14399)) :
    Calls Tryz.prog 145 #[.slice (some ⟨gl, 0, none⟩) 1 1, .string ⟨s.toArray⟩] w (RetS (fun w' r => ∃ p c, r = .tuple #[.slice p 1 c, .int .i64 2] ∧ w'.ownsRow w.heap.size 3 1 (.slice p 1 c) 1 [.int .i64 0]) w) := by
 refine zin 54 Tryz.func145 ?_
 refine xu 25 2 ?_
 refine xlv 14 hl.rp ?_
 refine xa 0 [.int .i64 0, .int .i64 0, .int .i64 0] 266 fun b1 W1 n1 => ?_
 have d1_gl := n1.ne hl
 refine xsv 0 n1.blk [.int .i64 4, .int .i64 1, .int .i64 14399] fun W2 u2 k2 => ?_
 have g1 := n1.ge (Below.refl w.heap.size _)
 refine xb 6 0 k2 ?_
 refine xbs 0 1 [.int .i64 4] 3 fun b3 W3 n3 => ?_
 have o4 := World.ownsRow_nil W3 w.heap.size 3 1
 have hB := Bl.next (u2.below n1.below g1) n3.below
 refine xbi 0 fun _ _ _ _ zJ zQ zo zx zy zK => op_app (m := 1) (news := [.int .i64 4]) (.int .i64 0) 1 8 (1) ([Value.int .i64 4]) zo Tryz.underlying26 (by kernel_rfl) rfl (by decide) zx o4 zy (n3.blk.sl 1 1 (by decide) (by decide)) rfl (by simp [Value.oneCell']) (by unfold maxLen; omega) (by omega) hB.size (by rfl) (by rfl) fun p5 c5 W5 o5 hg5 hb5 => ?_
 refine zK _ _ ?_
 have k2'1 := (k2.below n3.below).grown hg5 o4 (by decide)
 refine xb 6 0 k2'1 ?_
 refine xk 31 (show (((↑s.length : Int) != (4 : Int)) : Bool) = false from by rw [h4]; rfl) ?_
 refine xcf 5 fun _ _ _ zJ zQ zo zx zK => op_strBytes s zo zx Tryz.underlying9 Tryz.underlying22 Tryz.underlying5 (by omega) ?_
 intro bz cz W6 hb6 hbz
 refine zK _ _ ?_
 have o5'1 := own_below o5 hb6
 refine xc 1 (args := #[.slice (some ⟨bz, 0, none⟩) s.length cz, .slice p5 1 c5]) (Unpack_okN (some ⟨bz, 0, none⟩) s.length cz s p5 c5 1 [4] [rawN s 0 4] _ rfl rfl rfl (by decide) (by simp; omega) (by omega) (by decide) hbz (own_sl o5'1) (fun i hi => by obtain rfl : i = 0 := (by simpa using hi); have := rawN_lt4 s 0 4 (by decide); simp [unpL]; omega)) ?_
 rintro _ W7 ⟨_, rfl, hb7, p5, c5, rfl, h5⟩
 have hs7 := (Bl.next (hB.trans hb5) hb6).size
 have hl'1 := ((((u2.blk (hl.below n1.below) (Ne.symm (Ne.symm d1_gl))).below n3.below).grown hg5 o4 (by decide)).below hb6).below hb7
 have h5'1 := own_mono h5 hs7
 refine xr 15 (args := #[.slice (some ⟨gl, 0, none⟩) 1 1, .slice p5 1 c5]) (value_putX gl p5 c5 (↑(rawN s 0 4) : Int) _ hl'1 (own_sl h5'1) (by omega)) fun W8 hb8 => ?_
 refine xmk 9 fun _ _ _ _ zJ zQ zo zx zy zK => op_make 1 (.int .i64 0) 1 8 [Value.int .i64 0] zo zx zy Tryz.underlying26 (by kernel_rfl) rfl (by omega) (by omega) (rfl) fun b9 W9 n9 => ?_
 have hB'1 := Bl.next (Bl.next (Bl.next (hB.trans hb5) hb6) hb7) hb8
 have g9 := n9.ge hB'1
 have o5'2 := own_below (own_below o5'1 hb7) hb8
 have r9_o5 := own_ne o5'2 n9
 have h5'2 := own_below h5'1 hb8
 have r9_h5 := own_ne h5'2 n9
 refine zK _ _ ?_
 have hB'2 := Bl.next hB'1 n9.below
 have o9 := own_of_blk (size := 1) (n := 1) n9.blk g9 (rfl) (by unfold maxLen; omega)
 exact xe 6 (.tuple #[.slice (some ⟨b9, 0, none⟩) 1 1, .int .i64 2]) ⟨_, rfl, hB'2, _, _, rfl, o9⟩
theorem value_readR (gl : Nat) (s : List UInt8) (w : World) (hl : Blk w gl [.int .i64 4, .int .i64 1, .int .i64 14399] 266) (hs : s.length ≤ 1000) : Calls Tryz.prog 145 #[.slice (some ⟨gl, 0, none⟩) 1 1, .string ⟨s.toArray⟩] w (RetS (fun w' r => ∃ p c, r = .tuple #[.slice p 1 c, .int .i64 (rootE s)] ∧ w'.ownsRow w.heap.size 3 1 (.slice p 1 c) 1 [.int .i64 (rootN s : Int)]) w) := by
  by_cases h4 : s.length = 4
  · by_cases h1 : 1 ≤ rawN s 0 4 ∧ rawN s 0 4 ≤ 14399
    · have he : rootE s = 0 := by unfold rootE; rw [if_pos h4, if_pos h1]
      rw [he, rootN, if_pos he]
      exact value_read_ok gl s w hl hs h4 h1.1 h1.2
    · have he : rootE s = 2 := by unfold rootE; rw [if_pos h4, if_neg h1]
      rw [he, rootN, if_neg (by rw [he]; decide)]
      exact value_read_bad gl s w hl hs h4 (by omega)
  · have he : rootE s = 7 := by unfold rootE; rw [if_neg h4]
    rw [he, rootN, if_neg (by rw [he]; decide)]
    exact value_read_len gl s w hl hs h4
set_option maxRecDepth 100000 in
set_option maxHeartbeats 1000000 in
theorem value_ReadRoot (s : List UInt8) (w : World) (hs : s.length ≤ 1000) :
    Calls Tryz.prog 128 #[.string ⟨s.toArray⟩] w (Ret (.tuple #[.int .i64 (rootN s : Int), .int .i64 (rootE s)]) w) := by
 refine zin 16 Tryz.func128 ?_
 refine xc 8 (args := #[]) (value_rootR _) ?_
 rintro _ W1 ⟨_, rfl, hb1, gl, rfl, gg, kl⟩
 refine xc 1 (args := #[.slice (some ⟨gl, 0, none⟩) 1 1, .string ⟨s.toArray⟩]) (value_readR gl s _ kl hs) ?_
 rintro _ W2 ⟨_, rfl, hb2, p5, c5, rfl, h5⟩
 have h5'1 := own_mono h5 hb1.size
 refine xx 10 _ 1 0 1 (Ints.elem (l := [(rootN s : Int)]) (own_sl h5'1) (k := 0) (by simp)).1 ?_
 refine xl 0 ((Ints.elem (l := [(rootN s : Int)]) (own_sl h5'1) (k := 0) (by simp)).2) ?_
 have hB := Bl.next hb1 hb2
 exact xe 6 (.tuple #[.int .i64 (↑(rootN s) : Int), .int .i64 (rootE s)]) ⟨rfl, hB⟩
end Go.Proofs.YtinegkldgjhnpaaGreatDoor
namespace Go.Proofs.YtinegkldgjhnpaaGreatDoor
open Go.RowKit Go.Extern.Stop Go.Stop Go.Extern
set_option linter.unusedVariables false
attribute [local irreducible] wpList wpAnyH Code.wp Oper.wp Go

set_option maxRecDepth 100000 in
set_option maxHeartbeats 1000000 in
theorem ref_ImgRead_out (B bm : Nat) (p : Option Addr) (k c : Nat) (l : List UInt8) (w : World) (hI : RefI B bm p k c l w) (no : Int) (ho : ¬ (0 ≤ no ∧ no < (k : Int))) :
    Calls Tryz.prog 113 #[.pointer (some ⟨bm, 0, none⟩), .int .i64 no] w (Ret (.tuple #[.slice none 0 0, .int .i64 3]) w) := by
 have hk := hI.blk
 have hkl := hI.hk
 have hll := hI.hl
 refine zin 25 Tryz.func113 ?_
 refine xg 12 [7, 8] (decide (no < (0 : Int))) (fun hc1 => ?_) (fun hc1 => ?_)
 · have hc1 := of_decide_eq_true hc1
   exact xe 19 (.tuple #[.slice none 0 0, .int .i64 3]) ⟨rfl, (Below.refl w.heap.size _)⟩
 have hc1 := of_decide_eq_false hc1
 refine xb 4 0 hk ?_
 refine xk 5 (show (decide (no ≥ (↑k : Int)) : Bool) = true from decide_eq_true (by omega)) ?_
 exact xe 8 (.tuple #[.slice none 0 0, .int .i64 3]) ⟨rfl, (Below.refl w.heap.size _)⟩
set_option maxRecDepth 100000 in
set_option maxHeartbeats 1000000 in
theorem ref_ImgRead_in (B bm : Nat) (p : Option Addr) (k c : Nat) (l : List UInt8) (w : World) (hI : RefI B bm p k c l w) (j : Nat) (hj : j < k) :
    Calls Tryz.prog 113 #[.pointer (some ⟨bm, 0, none⟩), .int .i64 (↑j : Int)] w (RetS (fun w' r => ∃ b c2, r = .tuple #[.slice (some ⟨b, 0, none⟩) 256 c2, .int .i64 0] ∧ Bys w' (.slice (some ⟨b, 0, none⟩) 256 c2) (blkB l j)) w) := by
 have hk := hI.blk
 have hkl := hI.hk
 have hll := hI.hl
 have hr := own_sl hI.row
 have hgj : (blksL l k).getD j [] = blkB l j := blksL_get l hj
 have hgl : ((blksL l k).getD j []).length = 256 := by rw [hgj]; exact blkB_len (by omega)
 refine zin 25 Tryz.func113 ?_
 refine xgk 12 [7, 8] (show (decide ((↑j : Int) < (0 : Int)) : Bool) = false from decide_eq_false (by omega)) ?_
 refine xb 4 0 hk ?_
 refine xk 5 (show (decide ((↑j : Int) ≥ (↑k : Int)) : Bool) = false from decide_eq_false (by omega)) ?_
 refine xb 7 0 hk ?_
 refine xx 1 _ k j 1 (Strs.elem hr (blksL_len l k) (k := j) (by omega)).1 ?_
 refine xl 0 ((Strs.elem hr (blksL_len l k) (k := j) (by omega)).2) ?_
 refine xcf 0 fun _ _ _ zJ zQ zo zx zK => op_strBytes ((blksL l k).getD j []) zo zx Tryz.underlying9 Tryz.underlying22 Tryz.underlying5 (by omega) ?_
 intro bz cz W2 hb2 hbz
 refine zK _ _ ?_
 refine xe 5 (.tuple #[.slice (some ⟨bz, 0, none⟩) (((blksL l k).getD j []).length) cz, .int .i64 0]) ?_
 rw [hgl]
 rw [hgl, hgj] at hbz
 exact ⟨_, rfl, hb2, _, _, rfl, hbz⟩
def RReadP (k : Nat) (l : List UInt8) (no : Int) (w : World) (e : Ending) (w' : World) : Prop :=
  (¬ (0 ≤ no ∧ no < (k : Int)) ∧ e = .returned (.tuple #[.slice none 0 0, .int .i64 3]) ∧ Below w.heap.size w w') ∨
  (∃ j : Nat, no = (j : Int) ∧ j < k ∧ ∃ b c, e = .returned (.tuple #[.slice (some ⟨b, 0, none⟩) 256 c, .int .i64 0]) ∧ Below w.heap.size w w' ∧ Bys w' (.slice (some ⟨b, 0, none⟩) 256 c) (blkB l j))
theorem ref_ImgRead (B bm : Nat) (p : Option Addr) (k c : Nat) (l : List UInt8) (w : World) (hI : RefI B bm p k c l w) (no : Int) :
    Calls Tryz.prog 113 #[.pointer (some ⟨bm, 0, none⟩), .int .i64 no] w (RReadP k l no w) := by
  by_cases h : 0 ≤ no ∧ no < (k : Int)
  · obtain ⟨j, rfl⟩ : ∃ j : Nat, no = j := ⟨no.toNat, by omega⟩
    refine (ref_ImgRead_in B bm p k c l w hI j (by omega)).mono ?_
    rintro e W ⟨_, rfl, hb, b, c2, rfl, ho⟩
    exact .inr ⟨j, rfl, by omega, _, _, rfl, hb, ho⟩
  · refine (ref_ImgRead_out B bm p k c l w hI no h).mono ?_
    rintro e W ⟨rfl, hb⟩
    exact .inl ⟨h, rfl, hb⟩
def RInP (l : List UInt8) (kind no : Int) (w : World) (e : Ending) (w' : World) : Prop :=
  (inE l kind no ≠ 0 ∧ e = .returned (.tuple #[.slice none 0 0, .int .i64 (inE l kind no)]) ∧ Below w.heap.size w w') ∨
  (inE l kind no = 0 ∧ (inB l no).length = 244 ∧ ∃ p c, e = .returned (.tuple #[.slice p 244 c, .int .i64 0]) ∧ Below w.heap.size w w' ∧ w'.ownsRow w.heap.size 5 1 (.slice p 244 c) 244 ((inB l no).map bv))
set_option maxRecDepth 100000 in
set_option maxHeartbeats 1000000 in
theorem ref11_in (B bm : Nat) (p : Option Addr) (k c : Nat) (l : List UInt8) (w : World) (hI : RefI B bm p k c l w) (no : Int) (kind : Int) :
    Calls Tryz.prog 73 #[.pointer (some ⟨bm, 0, none⟩), .int .i64 no, .int .i64 kind] w (RInP l kind no w) := by
 have hll := hI.hl
 refine zin 25 Tryz.func73 ?_
 refine xc 10 (args := #[.pointer (some ⟨bm, 0, none⟩), .int .i64 no]) (ref_ImgRead B bm p k c l _ (hI.below (Below.refl w.heap.size _)) no) ?_
 rintro e W1 hq1
 rcases hq1 with ⟨ho, rfl, hb1⟩ | ⟨j, hnj, hj, b3, c3, rfl, hb1, hbz⟩
 · refine xe 24 (.tuple #[.slice none 0 0, .int .i64 3]) ?_
   have he : inE l kind no = 3 := inE_out (n := k * 256) hI.hl (by omega)
   exact .inl ⟨by rw [he]; decide, by rw [he], hb1⟩
 have hin : inE l kind no = openE kind no (blkB l j) := inE_in (n := k * 256) hI.hl hnj (by omega)
 have hib : inB l no = ((blkB l j).drop 8).take 244 := inB_in hnj
 refine xc 22 (args := #[.slice (some ⟨b3, 0, none⟩) 256 c3, .int .i64 kind, .int .i64 no]) (ref_Open kind no _ 256 c3 (blkB l j) _ (blkB_len (by omega)) hbz) ?_
 rintro e W2 hq2
 rcases hq2 with ⟨hs, rfl, hb2⟩ | ⟨hs, p2, c2, rfl, hb2, h2⟩
 · have hB := Bl.next hb1 hb2
   exact xe 7 (.tuple #[.slice none 0 0, .int .i64 (openE kind no (blkB l j))]) (.inl ⟨by rw [hin]; exact hs, by rw [hin], hB⟩)
 have hB := Bl.next hb1 hb2
 have h2'1 := own_mono h2 hb1.size
 exact xe 7 (.tuple #[.slice p2 244 c2, .int .i64 0]) (.inr ⟨by rw [hin, hs], by rw [hib]; simp [blkB_len (show j < l.length / 256 by omega)], _, _, rfl, hB, by rw [hib]; exact h2'1⟩)
end Go.Proofs.YtinegkldgjhnpaaGreatDoor
namespace Go.Proofs.YtinegkldgjhnpaaGreatDoor
open Go.RowKit Go.Extern.Stop Go.Stop Go.Extern
set_option linter.unusedVariables false
attribute [local irreducible] wpList wpAnyH Code.wp Oper.wp Go

/-- the head of a node -/
def headB (t : Int) (leaf : Bool) (n m v : Nat) : List UInt8 := leB (flagN leaf) 1 ++ leB t 1 ++ leB (n : Int) 2 ++ leB (v : Int) 2 ++ leB (m : Int) 2 ++ leB 0 4
theorem headB_len (t : Int) (leaf : Bool) (n m v : Nat) : (headB t leaf n m v).length = 12 := by simp [headB, leB_len]
/-- the bytes of a node, when i of its entries stand -/
def nodeP (m v : Nat) (H : List UInt8) (K : List Int) (Vs : List (List UInt8)) : Nat → List UInt8
  | 0 => putB (List.replicate 244 0) 0 H
  | i + 1 => putB (putB (nodeP m v H K Vs i) (12 + i * 8) (leB (K.getD i 0) 8)) (12 + m * 8 + i * v) (Vs.getD i [])
set_option maxRecDepth 100000 in
theorem nodeP_len {m v : Nat} {H : List UInt8} {K : List Int} {Vs : List (List UInt8)} (hH : H.length = 12) (hf : 12 + m * 8 + m * v ≤ 244) : ∀ {i : Nat}, i ≤ m → (∀ j, j < i → (Vs.getD j []).length = v) → (nodeP m v H K Vs i).length = 244
  | 0, _, _ => by rw [nodeP, putB_len (by rw [List.length_replicate]; omega), List.length_replicate]
  | i + 1, hi, hV => by
    have ih := nodeP_len (K := K) hH hf (i := i) (by omega) (fun j hj => hV j (by omega))
    have h1 := hV i (by omega)
    have h2 : (i + 1) * v ≤ m * v := Nat.mul_le_mul_right v hi
    rw [Nat.add_mul, Nat.one_mul] at h2
    have h3 : (putB (nodeP m v H K Vs i) (12 + i * 8) (leB (K.getD i 0) 8)).length = 244 := by rw [putB_len (by rw [leB_len, ih]; omega), ih]
    rw [nodeP, putB_len (by rw [h1, h3]; omega), h3]
set_option maxRecDepth 100000 in
set_option maxHeartbeats 8000000 in
theorem node_Put (t : Int) (leaf : Bool) (n m v : Nat) (K : List Int) (Vs : List (List UInt8)) (ak av : Option Addr) (ck cv : Nat) (w : World) (N : NodeOk t leaf n m v K Vs) (hKs : Sl w (.slice ak n ck) n (K.map (Value.int .i64))) (hVs : Sl w (.slice av n cv) n (Vs.map sv)) :
    Calls Tryz.prog 17 #[.agg #[.int .i64 t, .bool leaf, .slice ak n ck, .slice av n cv]] w (RetS (fun w' r => ∃ p c, r = .tuple #[.slice p 244 c, .int .i64 0] ∧ w'.ownsRow w.heap.size 5 1 (.slice p 244 c) 244 ((nodeP m v (headB t leaf n m v) K Vs n).map bv)) w) := by
 have ht1 := N.ht1
 have ht2 := N.ht2
 have hnm := N.hn
 have hwb := widN_bd t leaf
 rw [N.hv] at hwb
 have hmb := maxN_pos t leaf
 rw [N.hm] at hmb
 have hfit := fitN t leaf
 rw [N.hm, N.hv] at hfit
 have hcap := Sl.cap hKs
 refine zin 90 Tryz.func17 ?_
 refine xa 2 [.int .i64 t, .bool leaf, .slice ak n ck, .slice av n cv] 52 fun b1 W1 n1 => ?_
 refine xlv 7 n1.blk.rp ?_
 refine xr 0 (args := #[.agg #[.int .i64 t, .bool leaf, .slice ak n ck, .slice av n cv]]) (node_Right t leaf n m v K Vs ak av ck cv _ N (hKs.below n1.below) (hVs.below n1.below)) fun W2 hb2 => ?_
 refine xd 7 .z ?_
 have k1'1 := (n1.blk.below hb2).below (below_drew W2)
 refine xb (.e [0] 1) 0 k1'1 ?_
 refine xb (.e [2] 3) 1 k1'1 ?_
 refine xb (.e [5] 6) 0 k1'1 ?_
 refine xb (.e [7] 8) 1 k1'1 ?_
 refine xr (.o [] 4) (args := #[.int .i64 t, .bool leaf]) (node_WidthN t leaf v N.hv ht1 ht2 _) fun W3 hb3 => ?_
 refine xr (.o [] 9) (args := #[.int .i64 t, .bool leaf]) (node_MaxN t leaf m N.hm ht1 ht2 _) fun W4 hb4 => ?_
 refine xd (.r [10, 11] 3) .z ?_
 have k1'2 := ((k1'1.below hb3).below hb4).below (below_drew W4)
 refine xb (.e [0] 1) 1 k1'2 ?_
 refine xb (.e [4] 5) 0 k1'2 ?_
 refine xb (.e [6, 7] 8) 2 k1'2 ?_
 refine xr (.o [9, 10, 11, 12, 13, 14, 15] 2) (args := #[.bool leaf]) (node_flag leaf _) fun W5 hb5 => ?_
 refine xbs (.o [3] 16) 6 [.int .i64 1, .int .i64 (flagN leaf), .int .i64 1, .int .i64 t, .int .i64 2, .int .i64 (↑n : Int), .int .i64 2, .int .i64 (↑v : Int), .int .i64 2, .int .i64 (↑m : Int), .int .i64 4, .int .i64 0] 122 fun b6 W6 n6 => ?_
 have hB'1 := Bl.next (Bl.next (Bl.next (Bl.next (Bl.next (Bl.next n1.below hb2) (below_drew W2)) hb3) hb4) (below_drew W4)) hb5
 refine yc (.o [] 17) (args := #[.slice (some ⟨b6, 0, none⟩) 6 6]) .z (Pack_node b6 (flagN leaf) t (n : Int) (v : Int) (m : Int) (flagN_bd leaf).1 (flagN_bd leaf).2 (by omega) (by omega) (by omega) (by omega) (by omega) (by omega) (by omega) (by omega) _ n6.blk) ?_
 rintro _ W7 ⟨_, rfl, hb7, p2, c2, rfl, h2⟩
 have hs7 := (Bl.next hB'1 n6.below).size
 refine ⟨hb7, ?_⟩
 refine xmk (.r [18, 19, 20, 21, 22] 4) fun _ _ _ _ zJ zQ zo zx zy zK => op_make 244 (.int .u8 0) 1 1 ((List.replicate 244 (0 : UInt8)).map bv) zo zx zy Tryz.underlying22 (by kernel_rfl) rfl (by omega) (by omega) (zerosB 244) fun b8 W8 n8 => ?_
 have h2'1 := own_mono h2 hs7
 have r8_h2 := own_ne h2'1 n8
 refine zK _ _ ?_
 have o8 := own_of_blk (size := 1) (n := 244) n8.blk (n8.ge (Bl.next (Bl.next hB'1 n6.below) hb7)) (by rw [List.length_map, List.length_replicate]) (by unfold maxLen; omega)
 have h2'2 := own_below h2'1 n8.below
 have hB'2 := Bl.next (Bl.next (Bl.next hB'1 n6.below) hb7) n8.below
 refine xbi 7 (t2 := 22) fun _ _ _ _ zJ zQ zo zx zy zK => op_copy (dLen := 244) (dCap := 244) (off := 0) 12 ((headB t leaf n m v).map bv) ((nodeP m v (headB t leaf n m v) K Vs 0).map bv) zo Tryz.underlying22 (by kernel_rfl) zx zy (own_sl h2'2) o8 (by simp [headB_len]) (by omega) (by omega) (bv_one _) hB'2.size (by simp [nodeP, putB, headB_len]) fun W9 o9 hg9 hb9 => ?_
 refine zK _ _ ?_
 have k1'3 := ((((k1'2.below hb5).below n6.below).below hb7).below n8.below).grown hg9 o8 (by decide)
 refine xb 6 2 k1'3 ?_
 have hB'3 := hB'2.trans hb9
 have k6'1 := ((n6.blk.below hb7).below n8.below).grown hg9 o8 (by decide)
 refine zl 5 90 (fun zm zkv V => ∃ (i : Nat), zkv = [(1, .pointer (some ⟨b1, 0, none⟩)), (2, .slice none 0 0), (3, .int .i64 0), (4, .int .i64 (↑v : Int)), (5, .int .i64 (↑m : Int)), (8, .slice (some ⟨b8, 0, none⟩) 244 244), (52, .slice ak n ck), (53, .int .i64 (↑n : Int)), (54, .int .i64 (↑i : Int))] ∧ zm = n - ((↑i : Int)).toNat ∧ Below w.heap.size w V ∧ Blk V b1 ([.int .i64 t, .bool leaf, .slice ak n ck, .slice av n cv]) 52 ∧ Blk V b6 ([.int .i64 1, .int .i64 (flagN leaf), .int .i64 1, .int .i64 t, .int .i64 2, .int .i64 (↑n : Int), .int .i64 2, .int .i64 (↑v : Int), .int .i64 2, .int .i64 (↑m : Int), .int .i64 4, .int .i64 0]) 122 ∧ V.ownsRow w.heap.size 5 1 (.slice (some ⟨b8, 0, none⟩) 244 244) 244 ((nodeP m v (headB t leaf n m v) K Vs i).map bv) ∧ i ≤ n) ⟨0, rfl, rfl, hB'3, k1'3, k6'1, o9, Nat.zero_le _⟩ ?_
 rintro _ _ W10 ⟨i, rfl, rfl, hB_10, k10_b1, k10_b6, ho, hi⟩ J10 hJ10 r10
 have hb9 : i < n → i * v + v ≤ m * v := fun h => by have h9 : (i + 1) * v ≤ m * v := Nat.mul_le_mul_right v (by omega); rw [Nat.add_mul, Nat.one_mul] at h9; exact h9
 refine xid 6 ((↑i : Int) < (↑n : Int)) (fun hc11 => ?_) (fun hc11 => ?_)
 · refine xx 7 _ n i 1 (IntsN.elem hKs N.hK (k := i) (by omega)).1 ?_
   refine xl 0 ((IntsN.elem (hKs.below hB_10) N.hK (k := i) (by omega)).2) ?_
   refine xbs 8 1 [.int .i64 8, .int .i64 (K.getD i 0)] 122 fun b12 W12 n12 => ?_
   have d12_b6 := n12.ne k10_b6
   refine xc 0 (args := #[.slice (some ⟨b12, 0, none⟩) 1 1]) (Pack_8 b12 (K.getD i 0) (N.hk0 i (by omega)).1 _ n12.blk) ?_
   rintro _ W13 ⟨_, rfl, hb13, p3, c3, rfl, h3⟩
   have hs13 := (Bl.next hB_10 n12.below).size
   refine xwm 11 ((↑i : Int) * 8) (↑(i * 8) : Int) ?_
   refine xwm 0 (12 + (↑(i * 8) : Int)) (↑(12 + (i * 8)) : Int) ?_
   refine xsL 0 (fun _ _ _ _ zo zx zy V => run_sliceL (k := (12 + (i * 8))) (b := b8) (off := 0) (n := 244) (c := 244) (i := (↑(12 + (i * 8)) : Int)) (ki := .i64) 1 zo zx zy rfl (by omega) (by omega) Tryz.underlying22 (by kernel_rfl) V) ?_
   have ho'1 := own_below (own_below ho n12.below) hb13
   have h3'1 := own_mono h3 hs13
   have hB'4 := Bl.next (Bl.next hB_10 n12.below) hb13
   refine xbi 1 (t2 := 22) fun _ _ _ _ zJ zQ zo zx zy zK => op_copy (dLen := (244 - (12 + (i * 8)))) (dCap := (244 - (12 + (i * 8)))) (off := (0 + (12 + (i * 8)) * 1)) 8 ((leB (K.getD i 0) 8).map bv) ((putB (nodeP m v (headB t leaf n m v) K Vs i) (12 + i * 8) (leB (K.getD i 0) 8)).map bv) zo Tryz.underlying22 (by kernel_rfl) zx zy (own_sl h3'1) ho'1 (by simp [leB_len]) (by omega) (by omega) (bv_one _) hB'4.size (by simp [putB, leB_len, List.map_take, List.map_drop]) fun W14 o14 hg14 hb14 => ?_
   refine zK _ _ ?_
   refine xd 2 (.t w.heap.size [5]) ?_
   refine xwm (.e [0, 1] 2) ((↑m : Int) * 8) (↑(m * 8) : Int) ?_
   refine xwm (.e [] 3) (12 + (↑(m * 8) : Int)) (↑(12 + (m * 8)) : Int) ?_
   refine xwm (.e [4, 5] 6) ((↑i : Int) * (↑v : Int)) (↑(i * v) : Int) ?_
   refine xwm (.e [] 7) ((↑(12 + (m * 8)) : Int) + (↑(i * v) : Int)) (↑((12 + (m * 8)) + (i * v)) : Int) ?_
   refine xsL (.e [] 8) (fun _ _ _ _ zo zx zy V => run_sliceL (k := ((12 + (m * 8)) + (i * v))) (b := b8) (off := 0) (n := 244) (c := 244) (i := (↑((12 + (m * 8)) + (i * v)) : Int)) (ki := .i64) 1 zo zx zy rfl (by omega) (by omega) Tryz.underlying22 (by kernel_rfl) V) ?_
   have k10_b1'1 := (((k10_b1.below n12.below).below hb13).grown hg14 ho'1 (by decide)).below (below_drew W14)
   refine xbt (.e [9] 10) 3 w.heap.size [5] k10_b1'1 ?_
   refine xx (.e [11] 12) _ n i 1 (Strs.elem hVs N.hV (k := i) (by omega)).1 ?_
   have hB'5 := Bl.next (hB'4.trans hb14) (below_drew W14)
   refine xlt (.e [] 13) (.t w.heap.size [5]) (fun V hV => (Strs.elem (hVs.below (sft_keep hB'5 hV (Nat.le_refl _))) N.hV (k := i) (by omega)).2) ?_
   have o14'1 := own_below o14 (below_drew W14)
   refine ybi (.o [] 14) (t2 := 9) (.t w.heap.size [5]) fun _ _ _ _ zJ zQ zo zx zy zK => op_copyS (dLen := (244 - ((12 + (m * 8)) + (i * v)))) (dCap := (244 - ((12 + (m * 8)) + (i * v)))) (off := (0 + ((12 + (m * 8)) + (i * v)) * 1)) (Vs.getD i []) ((nodeP m v (headB t leaf n m v) K Vs (i + 1)).map bv) zo Tryz.underlying22 (by kernel_rfl) zx zy o14'1 (by rw [N.hw i (by omega)]; omega) (by rw [N.hw i (by omega)]; omega) hB'5.size (by simp [nodeP, putB, List.map_take, List.map_drop]) fun W15 o15 hg15 hb15 => ?_
   refine zK _ _ (sft_grown hb15 hg15 o14'1 (by decide)) ?_
   refine xwm 4 ((↑i : Int) + 1) (↑(i + 1) : Int) ?_
   have hB'6 := hB'5.trans hb15
   have k10_b1'2 := k10_b1'1.grown hg15 o14'1 (by decide)
   have k10_b6'1 := ((((k10_b6.below n12.below).below hb13).grown hg14 ho'1 (by decide)).below (below_drew W14)).grown hg15 o14'1 (by decide)
   exact ze 2 (hJ10 _ _ _ ⟨i + 1, rfl, rfl, hB'6, k10_b1'2, k10_b6'1, o15, by omega⟩ (by omega))
 refine xe 13 (.tuple #[.slice (some ⟨b8, 0, none⟩) 244 244, .int .i64 0]) ?_
 have e : i = n := by omega
 subst e
 exact ⟨_, rfl, hB_10, _, _, rfl, ho⟩
end Go.Proofs.YtinegkldgjhnpaaGreatDoor
namespace Go.Proofs.YtinegkldgjhnpaaGreatDoor
open Go.RowKit Go.Extern.Stop Go.Stop Go.Extern
set_option linter.unusedVariables false
attribute [local irreducible] wpList wpAnyH Code.wp Oper.wp Go

set_option maxRecDepth 100000 in
set_option maxHeartbeats 1000000 in
theorem ref07_Width1 (w : World) :
    Calls Tryz.prog 119 #[.int .i64 1, .bool true] w (Ret (.int .i64 4) w) := by
 refine zin 19 Tryz.func119 ?_
 refine xbs 7 6 [.int .i64 0, .int .i64 4, .int .i64 8, .int .i64 24, .int .i64 16, .int .i64 4] 3 fun b1 W1 n1 => ?_
 refine xb 32 1 n1.blk ?_
 exact xe 4 (.int .i64 4) ⟨rfl, n1.below⟩
set_option maxRecDepth 100000 in
set_option maxHeartbeats 1000000 in
theorem ref07_Max1 (w : World) :
    Calls Tryz.prog 121 #[.int .i64 1, .bool true] w (Ret (.int .i64 18) w) := by
 refine zin 16 Tryz.func121 ?_
 refine xr 10 (args := #[.int .i64 1, .bool true]) (ref07_Width1 _) fun W1 hb1 => ?_
 exact xe 18 (.int .i64 18) ⟨rfl, hb1⟩
set_option maxRecDepth 100000 in
set_option maxHeartbeats 1000000 in
theorem ref07_Width2 (w : World) :
    Calls Tryz.prog 119 #[.int .i64 2, .bool true] w (Ret (.int .i64 8) w) := by
 refine zin 19 Tryz.func119 ?_
 refine xbs 7 6 [.int .i64 0, .int .i64 4, .int .i64 8, .int .i64 24, .int .i64 16, .int .i64 4] 3 fun b1 W1 n1 => ?_
 refine xb 32 2 n1.blk ?_
 exact xe 4 (.int .i64 8) ⟨rfl, n1.below⟩
set_option maxRecDepth 100000 in
set_option maxHeartbeats 1000000 in
theorem ref07_Max2 (w : World) :
    Calls Tryz.prog 121 #[.int .i64 2, .bool true] w (Ret (.int .i64 12) w) := by
 refine zin 16 Tryz.func121 ?_
 refine xr 10 (args := #[.int .i64 2, .bool true]) (ref07_Width2 _) fun W1 hb1 => ?_
 exact xe 25 (.int .i64 12) ⟨rfl, hb1⟩
set_option maxRecDepth 100000 in
set_option maxHeartbeats 1000000 in
theorem ref07_Width3 (w : World) :
    Calls Tryz.prog 119 #[.int .i64 3, .bool true] w (Ret (.int .i64 24) w) := by
 refine zin 19 Tryz.func119 ?_
 refine xbs 7 6 [.int .i64 0, .int .i64 4, .int .i64 8, .int .i64 24, .int .i64 16, .int .i64 4] 3 fun b1 W1 n1 => ?_
 refine xb 32 3 n1.blk ?_
 exact xe 4 (.int .i64 24) ⟨rfl, n1.below⟩
set_option maxRecDepth 100000 in
set_option maxHeartbeats 1000000 in
theorem ref07_Max3 (w : World) :
    Calls Tryz.prog 121 #[.int .i64 3, .bool true] w (Ret (.int .i64 6) w) := by
 refine zin 16 Tryz.func121 ?_
 refine xr 10 (args := #[.int .i64 3, .bool true]) (ref07_Width3 _) fun W1 hb1 => ?_
 exact xe 39 (.int .i64 6) ⟨rfl, hb1⟩
set_option maxRecDepth 100000 in
set_option maxHeartbeats 1000000 in
theorem ref07_Width4 (w : World) :
    Calls Tryz.prog 119 #[.int .i64 4, .bool true] w (Ret (.int .i64 16) w) := by
 refine zin 19 Tryz.func119 ?_
 refine xbs 7 6 [.int .i64 0, .int .i64 4, .int .i64 8, .int .i64 24, .int .i64 16, .int .i64 4] 3 fun b1 W1 n1 => ?_
 refine xb 32 4 n1.blk ?_
 exact xe 4 (.int .i64 16) ⟨rfl, n1.below⟩
set_option maxRecDepth 100000 in
set_option maxHeartbeats 1000000 in
theorem ref07_Max4 (w : World) :
    Calls Tryz.prog 121 #[.int .i64 4, .bool true] w (Ret (.int .i64 9) w) := by
 refine zin 16 Tryz.func121 ?_
 refine xr 10 (args := #[.int .i64 4, .bool true]) (ref07_Width4 _) fun W1 hb1 => ?_
 exact xe 32 (.int .i64 9) ⟨rfl, hb1⟩
set_option maxRecDepth 100000 in
set_option maxHeartbeats 1000000 in
theorem ref07_Width5 (w : World) :
    Calls Tryz.prog 119 #[.int .i64 5, .bool true] w (Ret (.int .i64 4) w) := by
 refine zin 19 Tryz.func119 ?_
 refine xbs 7 6 [.int .i64 0, .int .i64 4, .int .i64 8, .int .i64 24, .int .i64 16, .int .i64 4] 3 fun b1 W1 n1 => ?_
 refine xb 32 5 n1.blk ?_
 exact xe 4 (.int .i64 4) ⟨rfl, n1.below⟩
set_option maxRecDepth 100000 in
set_option maxHeartbeats 1000000 in
theorem ref07_Max5 (w : World) :
    Calls Tryz.prog 121 #[.int .i64 5, .bool true] w (Ret (.int .i64 18) w) := by
 refine zin 16 Tryz.func121 ?_
 refine xr 10 (args := #[.int .i64 5, .bool true]) (ref07_Width5 _) fun W1 hb1 => ?_
 exact xe 18 (.int .i64 18) ⟨rfl, hb1⟩
set_option maxRecDepth 100000 in
set_option maxHeartbeats 1000000 in
theorem ref07_Width_i (t : Int) (w : World) (h1 : 1 ≤ t) (h2 : t ≤ 5) :
    Calls Tryz.prog 119 #[.int .i64 t, .bool false] w (Ret (.int .i64 4) w) := by
 refine zin 19 Tryz.func119 ?_
 refine xbs 7 6 [.int .i64 0, .int .i64 4, .int .i64 8, .int .i64 24, .int .i64 16, .int .i64 4] 3 fun b1 W1 n1 => ?_
 refine xgk 9 [8, 9] (show (decide (t < (1 : Int)) : Bool) = false from decide_eq_false (by omega)) ?_
 refine xk 5 (show (decide (t > (5 : Int)) : Bool) = false from decide_eq_false (by omega)) ?_
 exact xe 17 (.int .i64 4) ⟨rfl, n1.below⟩
set_option maxRecDepth 100000 in
set_option maxHeartbeats 1000000 in
theorem ref07_Max_i (t : Int) (w : World) (h1 : 1 ≤ t) (h2 : t ≤ 5) :
    Calls Tryz.prog 121 #[.int .i64 t, .bool false] w (Ret (.int .i64 18) w) := by
 refine zin 16 Tryz.func121 ?_
 refine xr 10 (args := #[.int .i64 t, .bool false]) (ref07_Width_i t _ h1 h2) fun W1 hb1 => ?_
 exact xe 18 (.int .i64 18) ⟨rfl, hb1⟩
set_option maxRecDepth 100000 in
set_option maxHeartbeats 1000000 in
theorem ref07_Width_o (t : Int) (leaf : Bool) (w : World) (h : ¬ (1 ≤ t ∧ t ≤ 5)) :
    Calls Tryz.prog 119 #[.int .i64 t, .bool leaf] w (Ret (.int .i64 0) w) := by
 refine zin 19 Tryz.func119 ?_
 refine xbs 7 6 [.int .i64 0, .int .i64 4, .int .i64 8, .int .i64 24, .int .i64 16, .int .i64 4] 3 fun b1 W1 n1 => ?_
 refine xg 9 [8, 9] (decide (t < (1 : Int))) (fun hc2 => ?_) (fun hc2 => ?_)
 · have hc2 := of_decide_eq_true hc2
   exact xe 13 (.int .i64 0) ⟨rfl, n1.below⟩
 have hc2 := of_decide_eq_false hc2
 refine xk 5 (show (decide (t > (5 : Int)) : Bool) = true from decide_eq_true (by omega)) ?_
 exact xe 7 (.int .i64 0) ⟨rfl, n1.below⟩
set_option maxRecDepth 100000 in
set_option maxHeartbeats 1000000 in
theorem ref07_Max_o (t : Int) (leaf : Bool) (w : World) (h : ¬ (1 ≤ t ∧ t ≤ 5)) :
    Calls Tryz.prog 121 #[.int .i64 t, .bool leaf] w (Ret (.int .i64 0) w) := by
 refine zin 16 Tryz.func121 ?_
 refine xr 10 (args := #[.int .i64 t, .bool leaf]) (ref07_Width_o t leaf _ h) fun W1 hb1 => ?_
 exact xe 40 (.int .i64 0) ⟨rfl, hb1⟩
theorem ref07_Width (t : Int) (leaf : Bool) (v : Nat) (hv : widN t leaf = v) (h1 : 1 ≤ t) (h2 : t ≤ 5) (w : World) : Calls Tryz.prog 119 #[.int .i64 t, .bool leaf] w (Ret (.int .i64 (v : Int)) w) := by
  subst hv
  cases leaf
  · exact ref07_Width_i t w h1 h2
  obtain rfl | rfl | rfl | rfl | rfl : t = 1 ∨ t = 2 ∨ t = 3 ∨ t = 4 ∨ t = 5 := by omega
  · exact ref07_Width1 w
  · exact ref07_Width2 w
  · exact ref07_Width3 w
  · exact ref07_Width4 w
  · exact ref07_Width5 w
theorem ref07_Max (t : Int) (leaf : Bool) (m : Nat) (hm : maxN t leaf = m) (h1 : 1 ≤ t) (h2 : t ≤ 5) (w : World) : Calls Tryz.prog 121 #[.int .i64 t, .bool leaf] w (Ret (.int .i64 (m : Int)) w) := by
  subst hm
  cases leaf
  · exact ref07_Max_i t w h1 h2
  obtain rfl | rfl | rfl | rfl | rfl : t = 1 ∨ t = 2 ∨ t = 3 ∨ t = 4 ∨ t = 5 := by omega
  · exact ref07_Max1 w
  · exact ref07_Max2 w
  · exact ref07_Max3 w
  · exact ref07_Max4 w
  · exact ref07_Max5 w
/-- the keys of a node, i places of them, when n keys are there -/
def keyPad (K : List Int) (n : Nat) (i : Nat) : List UInt8 := (List.range i).flatMap fun j => if j < n then leB (K.getD j 0) 8 else List.replicate 8 0
theorem keyPad_succ (K : List Int) (n i : Nat) : keyPad K n (i + 1) = keyPad K n i ++ (if i < n then leB (K.getD i 0) 8 else List.replicate 8 0) := by
  unfold keyPad; rw [List.range_succ, List.flatMap_append]; simp
theorem keyPad_len (K : List Int) (n i : Nat) : (keyPad K n i).length = i * 8 := by
  induction i with
  | zero => rfl
  | succ i ih => rw [keyPad_succ, List.length_append, ih]; split <;> simp [leB_len] <;> omega
/-- the values of a node, i of them -/
def valPad (Vs : List (List UInt8)) (i : Nat) : List UInt8 := (List.range i).flatMap fun j => Vs.getD j []
theorem valPad_succ (Vs : List (List UInt8)) (i : Nat) : valPad Vs (i + 1) = valPad Vs i ++ Vs.getD i [] := by
  unfold valPad; rw [List.range_succ, List.flatMap_append]; simp
theorem valPad_len {Vs : List (List UInt8)} {v : Nat} : ∀ {i : Nat}, (∀ j, j < i → (Vs.getD j []).length = v) → (valPad Vs i).length = i * v
  | 0, _ => by simp [valPad]
  | i + 1, h => by rw [valPad_succ, List.length_append, valPad_len fun j hj => h j (by omega), h i (by omega), Nat.add_mul, Nat.one_mul]
theorem putB_mid {P z Q x : List UInt8} {k : Nat} (hk : P.length = k) (hz : z.length = x.length) : putB (P ++ z ++ Q) k x = P ++ x ++ Q := by
  unfold putB
  subst hk
  rw [List.append_assoc P z Q, List.take_left' rfl, ← hz]
  have e : P ++ (z ++ Q) = (P ++ z) ++ Q := (List.append_assoc _ _ _).symm
  rw [e, List.drop_left' (by simp)]
theorem keyPad_zero (K : List Int) (i : Nat) : ∀ d, keyPad K i (i + d) = keyPad K i i ++ List.replicate (d * 8) 0
  | 0 => by simp
  | d + 1 => by
    rw [← Nat.add_assoc, keyPad_succ, keyPad_zero K i d, if_neg (by omega), List.append_assoc, List.replicate_append_replicate, Nat.add_mul, Nat.one_mul]
theorem keyPad_own (K : List Int) (n : Nat) : ∀ i, i ≤ n → keyPad K n i = keyPad K i i
  | 0, _ => rfl
  | i + 1, h => by
    rw [keyPad_succ, keyPad_succ, if_pos (by omega), if_pos (by omega), keyPad_own K n i (by omega), keyPad_own K (i + 1) i (by omega)]
theorem rep_add (a b : Nat) : List.replicate (a + b) (0 : UInt8) = List.replicate a 0 ++ List.replicate b 0 := List.replicate_append_replicate.symm
/-- a node's bytes, part by part -/
theorem nodeP_form {m v : Nat} {H : List UInt8} {K : List Int} {Vs : List (List UInt8)} (hH : H.length = 12) (hf : 12 + m * 8 + m * v ≤ 244) : ∀ {i : Nat}, i ≤ m → (∀ j, j < i → (Vs.getD j []).length = v) →
    nodeP m v H K Vs i = H ++ keyPad K i m ++ valPad Vs i ++ List.replicate (232 - m * 8 - i * v) 0
  | 0, _, _ => by
    have e1 := keyPad_zero K 0 m
    rw [Nat.zero_add] at e1
    rw [nodeP, e1]
    have h1 : (232 - m * 8 - 0 * v) = 232 - m * 8 := by omega
    rw [h1, show (244 : Nat) = 12 + (m * 8 + (232 - m * 8)) by omega, rep_add, rep_add]
    have := putB_mid (P := []) (z := List.replicate 12 (0 : UInt8)) (Q := List.replicate (m * 8) 0 ++ List.replicate (232 - m * 8) 0) (x := H) (k := 0) rfl (by simp [hH])
    rw [List.nil_append, List.nil_append] at this
    rw [this]
    simp [keyPad, valPad]
  | i + 1, hi, hV => by
    have ih := nodeP_form (K := K) hH hf (i := i) (by omega) (fun j hj => hV j (by omega))
    have hvi := hV i (by omega)
    have h2 : (i + 1) * v ≤ m * v := Nat.mul_le_mul_right v hi
    rw [Nat.add_mul, Nat.one_mul] at h2
    obtain ⟨d, hd⟩ : ∃ d, m = i + (d + 1) := ⟨m - i - 1, by omega⟩
    have ek : keyPad K i m = keyPad K i i ++ List.replicate 8 0 ++ List.replicate (d * 8) 0 := by
      rw [hd, keyPad_zero, show (d + 1) * 8 = 8 + d * 8 by omega, rep_add, List.append_assoc]
    have ek2 : keyPad K (i + 1) m = keyPad K i i ++ leB (K.getD i 0) 8 ++ List.replicate (d * 8) 0 := by
      rw [show m = (i + 1) + d by omega, keyPad_zero, keyPad_succ, if_pos (by omega), keyPad_own K (i + 1) i (by omega)]
    have er : List.replicate (232 - m * 8 - i * v) (0 : UInt8) = List.replicate v 0 ++ List.replicate (232 - m * 8 - (i * v + v)) 0 := by
      rw [← rep_add]; congr 1; omega
    have hvp : (valPad Vs i).length = i * v := valPad_len fun j hj => hV j (by omega)
    rw [nodeP, ih, ek, er]
    have s1 := putB_mid (P := H ++ keyPad K i i) (z := List.replicate 8 (0 : UInt8)) (Q := List.replicate (d * 8) 0 ++ (valPad Vs i ++ (List.replicate v 0 ++ List.replicate (232 - m * 8 - (i * v + v)) 0))) (x := leB (K.getD i 0) 8) (k := 12 + i * 8) (by rw [List.length_append, hH, keyPad_len]) (by simp [leB_len])
    have a1 : H ++ (keyPad K i i ++ List.replicate 8 0 ++ List.replicate (d * 8) 0) ++ valPad Vs i ++ (List.replicate v 0 ++ List.replicate (232 - m * 8 - (i * v + v)) 0) = H ++ keyPad K i i ++ List.replicate 8 0 ++ (List.replicate (d * 8) 0 ++ (valPad Vs i ++ (List.replicate v 0 ++ List.replicate (232 - m * 8 - (i * v + v)) 0))) := by simp only [List.append_assoc]
    rw [a1, s1]
    have s2 := putB_mid (P := H ++ keyPad K (i + 1) m ++ valPad Vs i) (z := List.replicate v (0 : UInt8)) (Q := List.replicate (232 - m * 8 - (i * v + v)) 0) (x := Vs.getD i []) (k := 12 + m * 8 + i * v) (by rw [List.length_append, List.length_append, hH, keyPad_len, hvp]) (by rw [List.length_replicate, hvi])
    have a2 : H ++ keyPad K i i ++ leB (K.getD i 0) 8 ++ (List.replicate (d * 8) 0 ++ (valPad Vs i ++ (List.replicate v 0 ++ List.replicate (232 - m * 8 - (i * v + v)) 0))) = H ++ keyPad K (i + 1) m ++ valPad Vs i ++ List.replicate v 0 ++ List.replicate (232 - m * 8 - (i * v + v)) 0 := by rw [ek2]; simp only [List.append_assoc]
    rw [a2, s2, valPad_succ, Nat.add_mul, Nat.one_mul]
    simp only [List.append_assoc]
theorem leB_1 (n : Int) : leB n 1 = [byteAt n 0] := rfl
theorem leB_2 (n : Int) : leB n 2 = [byteAt n 0, byteAt n 1] := rfl
theorem byte1_zero {n : Int} (h : n < 256) : byteAt n 1 = 0 := by
  unfold byteAt
  rw [show n.toNat / 256 ^ 1 = 0 from Nat.div_eq_of_lt (by omega)]; rfl
theorem headB_cells {t : Int} {leaf : Bool} {n m v : Nat} (h1 : 0 ≤ t) (hn : n ≤ 18) (hm : m ≤ 18) (hv : v ≤ 24) : (headB t leaf n m v).map bv =
    [.int .u8 (flagN leaf), .int .u8 (byteAt t 0).toNat, .int .u8 (byteAt (n : Int) 0).toNat, .int .u8 0, .int .u8 (byteAt (v : Int) 0).toNat, .int .u8 0, .int .u8 (byteAt (m : Int) 0).toNat, .int .u8 0, .int .u8 0, .int .u8 0, .int .u8 0, .int .u8 0] := by
  unfold headB
  rw [leB_1, leB_1, leB_2, leB_2, leB_2, byte1_zero (n := (n : Int)) (by omega), byte1_zero (n := (v : Int)) (by omega), byte1_zero (n := (m : Int)) (by omega)]
  cases leaf <;> rfl
end Go.Proofs.YtinegkldgjhnpaaGreatDoor
