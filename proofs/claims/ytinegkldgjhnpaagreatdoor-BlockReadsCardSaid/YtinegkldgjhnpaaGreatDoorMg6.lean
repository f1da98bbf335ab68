/- Package super: each, Right, Put, Read, whatever the bytes. code.Pack of numbers of four bytes, slices.Equal of bytes, super.Put, super.Read. super.Read and block.Super, whatever the bytes. The document's answer for the layers 6 and 11: Right, Read, Super. Two strings, one behind the other. No program is named here. The document's answer for the layers 8, 10 and 11: text, Slot, ReadSlot, Read of an index, Bits, Index. The document's Same of layer 1. image.Of and block.Write at an image in a row of its own. block.Write of anything, and the statement BlockWrites, walked. The document's answer for the layers 10 and 11: Read of an index, Same, Bits, Index. The document's answer for the layers 11 and 14, read: Node, has, look. The lives of law 11, and its statement BlockNobody. -/
import Derived.Laws.StructEq
import Derived.Test.YtinegkldgjhnpaaGreatDoorMg5
namespace Go.Proofs.YtinegkldgjhnpaaGreatDoor
open Go.RowKit Go.Extern.Stop Go.Stop Go.Extern
set_option linter.unusedVariables false
attribute [local irreducible] wpList wpAnyH Code.wp Oper.wp Go

/-- what a superblock tells -/
structure Sup where
  tx : Int
  time : Int
  unit : Int
  data : Int
  blocks : Int
  top : Int
  details : Int
  dslots : Int
  dover : Int
  mindex : Int
  mover : Int
def supC (s : Sup) : List Value := [.int .i64 s.tx, .int .i64 s.time, .int .i64 s.unit, .int .i64 s.data, .int .i64 s.blocks, .int .i64 s.top, .int .i64 s.details, .int .i64 s.dslots, .int .i64 s.dover, .int .i64 s.mindex, .int .i64 s.mover]
def supN (s : Sup) : List Int := [s.tx, s.time, s.unit, s.data, s.blocks, s.top, s.details, s.dslots, s.dover, s.mindex, s.mover]
/-- whether it may be -/
def rightS (s : Sup) : Bool := (((((((((((true && decide ((0 : Int) ≤ s.tx ∧ s.tx ≤ 2147483647)) && decide ((0 : Int) ≤ s.time ∧ s.time ≤ 16777215)) && decide ((1 : Int) ≤ s.unit ∧ s.unit ≤ 65536)) && decide ((0 : Int) ≤ s.data ∧ s.data ≤ 65536)) && decide ((2 : Int) ≤ s.blocks ∧ s.blocks ≤ 14400)) && decide ((1 : Int) ≤ s.top ∧ s.top ≤ (s.blocks - 1))) && decide ((1 : Int) ≤ s.details ∧ s.details ≤ (s.blocks - 1))) && decide ((1 : Int) ≤ s.dslots ∧ s.dslots ≤ (s.blocks - 1))) && decide ((1 : Int) ≤ s.dover ∧ s.dover ≤ (s.blocks - 1))) && decide ((1 : Int) ≤ s.mindex ∧ s.mindex ≤ (s.blocks - 1))) && decide ((1 : Int) ≤ s.mover ∧ s.mover ≤ (s.blocks - 1)))
def readS (l : List UInt8) : Sup := ⟨(rawN l 12 4 : Int), (rawN l 16 4 : Int), (rawN l 20 4 : Int), (rawN l 24 4 : Int), (rawN l 28 4 : Int), (rawN l 32 4 : Int), (rawN l 36 4 : Int), (rawN l 40 4 : Int), (rawN l 44 4 : Int), (rawN l 48 4 : Int), (rawN l 52 4 : Int)⟩
def magicB : List UInt8 := [83, 67, 65, 78, 84, 76, 73, 78]
def numsB (N : List Int) : List UInt8 := N.flatMap fun n => leB n 4
theorem numsB_len (N : List Int) : (numsB N).length = N.length * 4 := by
  unfold numsB
  induction N with
  | nil => rfl
  | cons n N ih => rw [List.flatMap_cons, List.length_append, leB_len, ih, List.length_cons]; omega
/-- its bytes -/
def supB (s : Sup) : List UInt8 := magicB ++ numsB (1 :: supN s) ++ List.replicate 188 0
theorem supB_len (s : Sup) : (supB s).length = 244 := by
  unfold supB; rw [List.length_append, List.length_append, numsB_len, List.length_replicate]; rfl
/-- whether bytes are a superblock's -/
def supOk (l : List UInt8) : Bool := (l.take 8 == magicB) && decide (rawN l 8 4 = 1) && zeroB (l.drop 56) && rightS (readS l)
def fldC (n : Int) : List Value := [.int .i64 4, .int .i64 n]
theorem fldC_len (n : Int) : (fldC n).length = 2 := rfl
theorem take4 {l : List UInt8} {k : Nat} (h : k + 4 ≤ l.length) : l.drop k = leB (rawN l k 4 : Int) 4 ++ l.drop (k + 4) := by
  rw [leB_raw h, ← List.drop_drop, List.take_append_drop]
theorem drop8 {l : List UInt8} (hl : l.length = 244) : l.drop 8 = numsB ((rawN l 8 4 : Int) :: supN (readS l)) ++ l.drop 56 := by
  rw [take4 (k := 8) (by omega), take4 (k := 12) (by omega), take4 (k := 16) (by omega), take4 (k := 20) (by omega), take4 (k := 24) (by omega), take4 (k := 28) (by omega), take4 (k := 32) (by omega), take4 (k := 36) (by omega), take4 (k := 40) (by omega), take4 (k := 44) (by omega), take4 (k := 48) (by omega), take4 (k := 52) (by omega)]
  simp [numsB, supN, readS]
theorem zeroB_iff (l : List UInt8) : zeroB l = true ↔ l = List.replicate l.length 0 := by
  unfold zeroB
  rw [List.all_eq_true]
  constructor
  · intro h; exact List.eq_replicate_iff.2 ⟨rfl, fun x hx => by simpa using h x hx⟩
  · intro h x hx; rw [h] at hx; rw [(List.mem_replicate.1 hx).2]; rfl
/-- bytes are those of what they tell just when they are a superblock's, but for the numbers -/
theorem supB_eq {l : List UInt8} (hl : l.length = 244) : (supB (readS l) == l) = ((l.take 8 == magicB) && decide (rawN l 8 4 = 1) && zeroB (l.drop 56)) := by
  have e1 : l = l.take 8 ++ (numsB ((rawN l 8 4 : Int) :: supN (readS l)) ++ l.drop 56) := by rw [← drop8 hl, List.take_append_drop]
  have h8 : (l.take 8).length = magicB.length := by simp [magicB]; omega
  have hn : ∀ x : Int, (numsB (x :: supN (readS l))).length = 48 := fun x => by rw [numsB_len]; rfl
  have hr := rawN_lt4 l 8 4 (by decide)
  have h56 : (l.drop 56).length = 188 := by simp; omega
  rw [Bool.eq_iff_iff, beq_iff_eq, Bool.and_eq_true, Bool.and_eq_true, beq_iff_eq, decide_eq_true_iff, zeroB_iff, h56]
  constructor
  · intro h
    have e2 := h.trans e1
    rw [supB, List.append_assoc] at e2
    obtain ⟨a1, a2⟩ := List.append_inj e2 h8.symm
    obtain ⟨a3, a4⟩ := List.append_inj a2 (by rw [hn, hn])
    have a5 : leB (1 : Int) 4 = leB (rawN l 8 4 : Int) 4 := by
      unfold numsB at a3
      rw [List.flatMap_cons, List.flatMap_cons] at a3
      exact (List.append_inj a3 (by rw [leB_len, leB_len])).1
    have a6 := leB_inj (m := 1) (n := rawN l 8 4) (w := 4) (by decide) (by omega) a5
    exact ⟨⟨a1.symm, a6.symm⟩, a4.symm⟩
  · rintro ⟨⟨a1, a2⟩, a3⟩
    conv => rhs; rw [e1]
    rw [a1, a2, a3, supB, List.append_assoc]; rfl
set_option maxRecDepth 100000 in
set_option maxHeartbeats 1000000 in
theorem sup_read1 (B bs bl bat off k : Nat) (cs : List Value) (a : Option Addr) (c : Nat) (l : List UInt8) (lo hi : Value) (w : World) (hBw : B ≤ w.heap.size) (hBs : B ≤ bs) (hBa : B ≤ bat) (ks : Blk w bs cs 75) (ho : off < cs.length) (kl : Blk w bl [.slice a 244 c] 22) (ka : Blk w bat [.int .i64 (↑k : Int)] 3) (hl : l.length = 244) (h : Bys w (.slice a 244 c) l) (hk : k + 4 ≤ 244) :
    Calls Tryz.prog 110 #[.pointer (some ⟨bs, off, none⟩), lo, hi, .pointer (some ⟨bl, 0, none⟩), .pointer (some ⟨bat, 0, none⟩)] w ((fun e w' => ∃ u, e = .returned u ∧ Below B w w' ∧ Only [75, 3] w w' ∧ Blk w' bs (cs.set off (.int .i64 (rawN l k 4 : Int))) 75 ∧ Blk w' bat [.int .i64 (↑(k + 4) : Int)] 3)) := by
 refine zin 18 Tryz.func110 ?_
 refine xb 3 0 kl ?_
 refine xb 0 0 ka ?_
 refine xr 0 (args := #[.slice a 244 c, .int .i64 (↑k : Int), .int .i64 4]) (Get_okN a 244 c k 4 (↑k : Int) 4 l _ hl rfl rfl (by decide) hk (by decide) h) fun W1 hb1 => ?_
 have ks'1 := ks.below hb1
 refine xsg 4 ks'1 off (.int .i64 (↑(rawN l k 4) : Int)) (ho) fun W2 u2 k2 => ?_
 replace k2 : Blk W2 bs (cs.set off (.int .i64 (rawN l k 4 : Int))) 75 := by rw [← (Eq.refl (cs.set off (.int .i64 (rawN l k 4 : Int))))]; exact k2
 have ka'1 := u2.blkT (ka.below hb1) ks'1 (by decide)
 refine xb 3 0 ka'1 ?_
 refine xwm 0 ((↑k : Int) + 4) (↑(k + 4) : Int) ?_
 refine xs 0 ka'1 [.int .i64 (↑(k + 4) : Int)] fun W3 u3 k3 => ?_
 have hB := u3.below (u2.below (Bl.nextB (Below.refl B w) hBw hb1) hBs) hBa
 have hO := ((show Only [75, 3] w _ from (Only.of_below hb1)).trans (Only.of_upd u2 ks'1 (by decide))).trans (Only.of_upd u3 ka'1 (by decide))
 have k2'1 := u3.blkT k2 ka'1 (by decide)
 exact xe 1 (.tuple #[]) ⟨_, rfl, hB, hO, k2'1, k3⟩
set_option maxRecDepth 100000 in
set_option maxHeartbeats 1000000 in
theorem sup_right1 (B bs bo off : Nat) (cs : List Value) (n lo hi : Int) (b : Bool) (w : World) (hBw : B ≤ w.heap.size) (hBo : B ≤ bo) (ks : Blk w bs cs 75) (hn : cs[off]? = some (.int .i64 n)) (ko : Blk w bo [.bool b] 4) :
    Calls Tryz.prog 165 #[.pointer (some ⟨bs, off, none⟩), .int .i64 lo, .int .i64 hi, .pointer (some ⟨bo, 0, none⟩)] w ((fun e w' => ∃ u, e = .returned u ∧ Below B w w' ∧ Only [4] w w' ∧ Blk w' bo [.bool (b && decide ((lo : Int) ≤ n ∧ n ≤ hi))] 4)) := by
 refine zin 22 Tryz.func165 ?_
 refine xb 1 0 ko ?_
 refine xg 1 [7, 8] b (fun hc1 => ?_) (fun hc1 => ?_)
 · refine xl 2 (ks.cell (i := off) hn) ?_
   refine xg 4 [13, 14, 15] (decide (n ≥ lo)) (fun hc2 => ?_) (fun hc2 => ?_)
   · have hc2 := of_decide_eq_true hc2
     refine xl 2 (ks.cell (i := off) hn) ?_
     refine xs 3 ko [.bool (decide (n ≤ hi))] fun W3 u3 k3 => ?_
     have hB := u3.below (Below.refl B w) hBo
     have hO := (show Only [4] w _ from (Only.of_upd u3 ko (by decide)))
     exact xe 1 (.tuple #[]) ⟨_, rfl, hB, hO, by rw [show (b && decide ((lo : Int) ≤ n ∧ n ≤ hi)) = decide (n ≤ hi) from by first | (rw [show decide ((lo : Int) ≤ n ∧ n ≤ hi) = false from decide_eq_false (by omega), Bool.and_false]; done) | (simp_all; done) | (simp_all; omega)]; exact k3⟩
   have hc2 := of_decide_eq_false hc2
   refine xs 6 ko [.bool false] fun W4 u4 k4 => ?_
   have hB := u4.below (Below.refl B w) hBo
   have hO := (show Only [4] w _ from (Only.of_upd u4 ko (by decide)))
   exact xe 1 (.tuple #[]) ⟨_, rfl, hB, hO, by rw [show (b && decide ((lo : Int) ≤ n ∧ n ≤ hi)) = false from by first | (rw [show decide ((lo : Int) ≤ n ∧ n ≤ hi) = false from decide_eq_false (by omega), Bool.and_false]; done) | (simp_all; done) | (simp_all; omega)]; exact k4⟩
 refine xs 13 ko [.bool false] fun W5 u5 k5 => ?_
 have hB := u5.below (Below.refl B w) hBo
 have hO := (show Only [4] w _ from (Only.of_upd u5 ko (by decide)))
 exact xe 1 (.tuple #[]) ⟨_, rfl, hB, hO, by rw [show (b && decide ((lo : Int) ≤ n ∧ n ≤ hi)) = false from by first | (rw [show decide ((lo : Int) ≤ n ∧ n ≤ hi) = false from decide_eq_false (by omega), Bool.and_false]; done) | (simp_all; done) | (simp_all; omega)]; exact k5⟩
set_option maxRecDepth 100000 in
set_option maxHeartbeats 4000000 in
theorem sup_each_read (B bs bl bat : Nat) (a : Option Addr) (c : Nat) (l : List UInt8) (w : World) (hBw : B ≤ w.heap.size) (hBs : B ≤ bs) (hBa : B ≤ bat) (ks : Blk w bs [.int .i64 0, .int .i64 0, .int .i64 0, .int .i64 0, .int .i64 0, .int .i64 0, .int .i64 0, .int .i64 0, .int .i64 0, .int .i64 0, .int .i64 0] 75) (kl : Blk w bl [.slice a 244 c] 22) (ka : Blk w bat [.int .i64 (↑(12 : Nat) : Int)] 3) (hl : l.length = 244) (hin : ∀ W, Below B w W → Bys W (.slice a 244 c) l) :
    Calls Tryz.prog 109 #[.pointer (some ⟨bs, 0, none⟩), .func (.func 110) #[] #[.pointer (some ⟨bl, 0, none⟩), .pointer (some ⟨bat, 0, none⟩)]] w ((fun e w' => ∃ u, e = .returned u ∧ Below B w w' ∧ Only [75, 3] w w' ∧ Blk w' bs (supC (readS l)) 75)) := by
 have hb4 := rawN_lt4 l 28 4 (by decide)
 refine zin 64 Tryz.func109 ?_
 refine xc 6 (args := #[.pointer (some ⟨bs, 0, none⟩), .int .i64 0, .int .i64 2147483647, .pointer (some ⟨bl, 0, none⟩), .pointer (some ⟨bat, 0, none⟩)]) (sup_read1 B bs bl bat 0 12 _ a c l _ _ _ (Nat.le_trans hBw (Below.refl B _).size) hBs hBa ks (by simp) kl ka hl (hin _ (Below.refl B _)) (by decide)) ?_
 rintro _ W1 ⟨u1, rfl, hb1, hO1, kS1, kA1⟩
 change Blk _ _ [.int .i64 (↑(rawN l 12 4) : Int), .int .i64 0, .int .i64 0, .int .i64 0, .int .i64 0, .int .i64 0, .int .i64 0, .int .i64 0, .int .i64 0, .int .i64 0, .int .i64 0] _ at kS1
 change Blk _ _ [.int .i64 (↑(16 : Nat) : Int)] _ at kA1
 have kl'1 := kl.only hO1 (by decide)
 refine xc 8 (args := #[.pointer (some ⟨bs, 1, none⟩), .int .i64 0, .int .i64 16777215, .pointer (some ⟨bl, 0, none⟩), .pointer (some ⟨bat, 0, none⟩)]) (sup_read1 B bs bl bat 1 16 _ a c l _ _ _ (Nat.le_trans hBw hb1.size) hBs hBa kS1 (by simp) kl'1 kA1 hl (hin _ hb1) (by decide)) ?_
 rintro _ W2 ⟨u2, rfl, hb2, hO2, kS2, kA2⟩
 change Blk _ _ [.int .i64 (↑(rawN l 12 4) : Int), .int .i64 (↑(rawN l 16 4) : Int), .int .i64 0, .int .i64 0, .int .i64 0, .int .i64 0, .int .i64 0, .int .i64 0, .int .i64 0, .int .i64 0, .int .i64 0] _ at kS2
 change Blk _ _ [.int .i64 (↑(20 : Nat) : Int)] _ at kA2
 have hB'1 := hb1.trans hb2
 have kl'2 := kl'1.only hO2 (by decide)
 refine xc 8 (args := #[.pointer (some ⟨bs, 2, none⟩), .int .i64 1, .int .i64 65536, .pointer (some ⟨bl, 0, none⟩), .pointer (some ⟨bat, 0, none⟩)]) (sup_read1 B bs bl bat 2 20 _ a c l _ _ _ (Nat.le_trans hBw hB'1.size) hBs hBa kS2 (by simp) kl'2 kA2 hl (hin _ hB'1) (by decide)) ?_
 rintro _ W3 ⟨u3, rfl, hb3, hO3, kS3, kA3⟩
 change Blk _ _ [.int .i64 (↑(rawN l 12 4) : Int), .int .i64 (↑(rawN l 16 4) : Int), .int .i64 (↑(rawN l 20 4) : Int), .int .i64 0, .int .i64 0, .int .i64 0, .int .i64 0, .int .i64 0, .int .i64 0, .int .i64 0, .int .i64 0] _ at kS3
 change Blk _ _ [.int .i64 (↑(24 : Nat) : Int)] _ at kA3
 have hB'2 := hB'1.trans hb3
 have kl'3 := kl'2.only hO3 (by decide)
 refine xc 8 (args := #[.pointer (some ⟨bs, 3, none⟩), .int .i64 0, .int .i64 65536, .pointer (some ⟨bl, 0, none⟩), .pointer (some ⟨bat, 0, none⟩)]) (sup_read1 B bs bl bat 3 24 _ a c l _ _ _ (Nat.le_trans hBw hB'2.size) hBs hBa kS3 (by simp) kl'3 kA3 hl (hin _ hB'2) (by decide)) ?_
 rintro _ W4 ⟨u4, rfl, hb4, hO4, kS4, kA4⟩
 change Blk _ _ [.int .i64 (↑(rawN l 12 4) : Int), .int .i64 (↑(rawN l 16 4) : Int), .int .i64 (↑(rawN l 20 4) : Int), .int .i64 (↑(rawN l 24 4) : Int), .int .i64 0, .int .i64 0, .int .i64 0, .int .i64 0, .int .i64 0, .int .i64 0, .int .i64 0] _ at kS4
 change Blk _ _ [.int .i64 (↑(28 : Nat) : Int)] _ at kA4
 have hB'3 := hB'2.trans hb4
 have kl'4 := kl'3.only hO4 (by decide)
 refine xc 8 (args := #[.pointer (some ⟨bs, 4, none⟩), .int .i64 2, .int .i64 14400, .pointer (some ⟨bl, 0, none⟩), .pointer (some ⟨bat, 0, none⟩)]) (sup_read1 B bs bl bat 4 28 _ a c l _ _ _ (Nat.le_trans hBw hB'3.size) hBs hBa kS4 (by simp) kl'4 kA4 hl (hin _ hB'3) (by decide)) ?_
 rintro _ W5 ⟨u5, rfl, hb5, hO5, kS5, kA5⟩
 change Blk _ _ [.int .i64 (↑(rawN l 12 4) : Int), .int .i64 (↑(rawN l 16 4) : Int), .int .i64 (↑(rawN l 20 4) : Int), .int .i64 (↑(rawN l 24 4) : Int), .int .i64 (↑(rawN l 28 4) : Int), .int .i64 0, .int .i64 0, .int .i64 0, .int .i64 0, .int .i64 0, .int .i64 0] _ at kS5
 change Blk _ _ [.int .i64 (↑(32 : Nat) : Int)] _ at kA5
 refine xd 3 .z ?_
 refine xbs (.o [0, 1, 2, 3, 4, 5, 6, 7, 8, 9, 10, 11, 12, 13, 14, 15, 16, 17, 20] 18) 6 [.pointer (some ⟨bs, 5, none⟩), .pointer (some ⟨bs, 6, none⟩), .pointer (some ⟨bs, 7, none⟩), .pointer (some ⟨bs, 8, none⟩), .pointer (some ⟨bs, 9, none⟩), .pointer (some ⟨bs, 10, none⟩)] 214 fun b6 W6 n6 => ?_
 have hB'4 := Bl.nextB (hB'3.trans hb5) hBw (below_drew W5)
 have g6 := n6.ge0 hB'4
 refine xu (.r [19] 3) 7 ?_
 refine xb 14 0 n6.blk ?_
 have kS5'1 := (kS5.below (below_drew W5)).below n6.below
 refine xb 9 4 kS5'1 ?_
 refine xw 0 ((↑(rawN l 28 4) : Int) - 1) ?_
 have hB'5 := Bl.nextB hB'4 hBw n6.below
 have kl'5 := ((kl'4.only hO5 (by decide)).below (below_drew W5)).below n6.below
 have kA5'1 := (kA5.below (below_drew W5)).below n6.below
 refine xc 0 (args := #[.pointer (some ⟨bs, 5, none⟩), .int .i64 1, .int .i64 ((↑(rawN l 28 4) : Int) - 1), .pointer (some ⟨bl, 0, none⟩), .pointer (some ⟨bat, 0, none⟩)]) (sup_read1 B bs bl bat 5 32 _ a c l _ _ _ (Nat.le_trans hBw hB'5.size) hBs hBa kS5'1 (by simp) kl'5 kA5'1 hl (hin _ hB'5) (by decide)) ?_
 rintro _ W7 ⟨u7, rfl, hb7, hO7, kS7, kA7⟩
 change Blk _ _ [.int .i64 (↑(rawN l 12 4) : Int), .int .i64 (↑(rawN l 16 4) : Int), .int .i64 (↑(rawN l 20 4) : Int), .int .i64 (↑(rawN l 24 4) : Int), .int .i64 (↑(rawN l 28 4) : Int), .int .i64 (↑(rawN l 32 4) : Int), .int .i64 0, .int .i64 0, .int .i64 0, .int .i64 0, .int .i64 0] _ at kS7
 change Blk _ _ [.int .i64 (↑(36 : Nat) : Int)] _ at kA7
 have k6'1 := n6.blk.only hO7 (by decide)
 refine xb 22 1 k6'1 ?_
 refine xb 9 4 kS7 ?_
 refine xw 0 ((↑(rawN l 28 4) : Int) - 1) ?_
 have hB'6 := hB'5.trans hb7
 have kl'6 := kl'5.only hO7 (by decide)
 refine xc 0 (args := #[.pointer (some ⟨bs, 6, none⟩), .int .i64 1, .int .i64 ((↑(rawN l 28 4) : Int) - 1), .pointer (some ⟨bl, 0, none⟩), .pointer (some ⟨bat, 0, none⟩)]) (sup_read1 B bs bl bat 6 36 _ a c l _ _ _ (Nat.le_trans hBw hB'6.size) hBs hBa kS7 (by simp) kl'6 kA7 hl (hin _ hB'6) (by decide)) ?_
 rintro _ W8 ⟨u8, rfl, hb8, hO8, kS8, kA8⟩
 change Blk _ _ [.int .i64 (↑(rawN l 12 4) : Int), .int .i64 (↑(rawN l 16 4) : Int), .int .i64 (↑(rawN l 20 4) : Int), .int .i64 (↑(rawN l 24 4) : Int), .int .i64 (↑(rawN l 28 4) : Int), .int .i64 (↑(rawN l 32 4) : Int), .int .i64 (↑(rawN l 36 4) : Int), .int .i64 0, .int .i64 0, .int .i64 0, .int .i64 0] _ at kS8
 change Blk _ _ [.int .i64 (↑(40 : Nat) : Int)] _ at kA8
 have k6'2 := k6'1.only hO8 (by decide)
 refine xb 22 2 k6'2 ?_
 refine xb 9 4 kS8 ?_
 refine xw 0 ((↑(rawN l 28 4) : Int) - 1) ?_
 have hB'7 := hB'6.trans hb8
 have kl'7 := kl'6.only hO8 (by decide)
 refine xc 0 (args := #[.pointer (some ⟨bs, 7, none⟩), .int .i64 1, .int .i64 ((↑(rawN l 28 4) : Int) - 1), .pointer (some ⟨bl, 0, none⟩), .pointer (some ⟨bat, 0, none⟩)]) (sup_read1 B bs bl bat 7 40 _ a c l _ _ _ (Nat.le_trans hBw hB'7.size) hBs hBa kS8 (by simp) kl'7 kA8 hl (hin _ hB'7) (by decide)) ?_
 rintro _ W9 ⟨u9, rfl, hb9, hO9, kS9, kA9⟩
 change Blk _ _ [.int .i64 (↑(rawN l 12 4) : Int), .int .i64 (↑(rawN l 16 4) : Int), .int .i64 (↑(rawN l 20 4) : Int), .int .i64 (↑(rawN l 24 4) : Int), .int .i64 (↑(rawN l 28 4) : Int), .int .i64 (↑(rawN l 32 4) : Int), .int .i64 (↑(rawN l 36 4) : Int), .int .i64 (↑(rawN l 40 4) : Int), .int .i64 0, .int .i64 0, .int .i64 0] _ at kS9
 change Blk _ _ [.int .i64 (↑(44 : Nat) : Int)] _ at kA9
 have k6'3 := k6'2.only hO9 (by decide)
 refine xb 22 3 k6'3 ?_
 refine xb 9 4 kS9 ?_
 refine xw 0 ((↑(rawN l 28 4) : Int) - 1) ?_
 have hB'8 := hB'7.trans hb9
 have kl'8 := kl'7.only hO9 (by decide)
 refine xc 0 (args := #[.pointer (some ⟨bs, 8, none⟩), .int .i64 1, .int .i64 ((↑(rawN l 28 4) : Int) - 1), .pointer (some ⟨bl, 0, none⟩), .pointer (some ⟨bat, 0, none⟩)]) (sup_read1 B bs bl bat 8 44 _ a c l _ _ _ (Nat.le_trans hBw hB'8.size) hBs hBa kS9 (by simp) kl'8 kA9 hl (hin _ hB'8) (by decide)) ?_
 rintro _ W10 ⟨u10, rfl, hb10, hO10, kS10, kA10⟩
 change Blk _ _ [.int .i64 (↑(rawN l 12 4) : Int), .int .i64 (↑(rawN l 16 4) : Int), .int .i64 (↑(rawN l 20 4) : Int), .int .i64 (↑(rawN l 24 4) : Int), .int .i64 (↑(rawN l 28 4) : Int), .int .i64 (↑(rawN l 32 4) : Int), .int .i64 (↑(rawN l 36 4) : Int), .int .i64 (↑(rawN l 40 4) : Int), .int .i64 (↑(rawN l 44 4) : Int), .int .i64 0, .int .i64 0] _ at kS10
 change Blk _ _ [.int .i64 (↑(48 : Nat) : Int)] _ at kA10
 have k6'4 := k6'3.only hO10 (by decide)
 refine xb 22 4 k6'4 ?_
 refine xb 9 4 kS10 ?_
 refine xw 0 ((↑(rawN l 28 4) : Int) - 1) ?_
 have hB'9 := hB'8.trans hb10
 have kl'9 := kl'8.only hO10 (by decide)
 refine xc 0 (args := #[.pointer (some ⟨bs, 9, none⟩), .int .i64 1, .int .i64 ((↑(rawN l 28 4) : Int) - 1), .pointer (some ⟨bl, 0, none⟩), .pointer (some ⟨bat, 0, none⟩)]) (sup_read1 B bs bl bat 9 48 _ a c l _ _ _ (Nat.le_trans hBw hB'9.size) hBs hBa kS10 (by simp) kl'9 kA10 hl (hin _ hB'9) (by decide)) ?_
 rintro _ W11 ⟨u11, rfl, hb11, hO11, kS11, kA11⟩
 change Blk _ _ [.int .i64 (↑(rawN l 12 4) : Int), .int .i64 (↑(rawN l 16 4) : Int), .int .i64 (↑(rawN l 20 4) : Int), .int .i64 (↑(rawN l 24 4) : Int), .int .i64 (↑(rawN l 28 4) : Int), .int .i64 (↑(rawN l 32 4) : Int), .int .i64 (↑(rawN l 36 4) : Int), .int .i64 (↑(rawN l 40 4) : Int), .int .i64 (↑(rawN l 44 4) : Int), .int .i64 (↑(rawN l 48 4) : Int), .int .i64 0] _ at kS11
 change Blk _ _ [.int .i64 (↑(52 : Nat) : Int)] _ at kA11
 have k6'5 := k6'4.only hO11 (by decide)
 refine xb 22 5 k6'5 ?_
 refine xb 9 4 kS11 ?_
 refine xw 0 ((↑(rawN l 28 4) : Int) - 1) ?_
 have hB'10 := hB'9.trans hb11
 have kl'10 := kl'9.only hO11 (by decide)
 refine xc 0 (args := #[.pointer (some ⟨bs, 10, none⟩), .int .i64 1, .int .i64 ((↑(rawN l 28 4) : Int) - 1), .pointer (some ⟨bl, 0, none⟩), .pointer (some ⟨bat, 0, none⟩)]) (sup_read1 B bs bl bat 10 52 _ a c l _ _ _ (Nat.le_trans hBw hB'10.size) hBs hBa kS11 (by simp) kl'10 kA11 hl (hin _ hB'10) (by decide)) ?_
 rintro _ W12 ⟨u12, rfl, hb12, hO12, kS12, kA12⟩
 change Blk _ _ [.int .i64 (↑(rawN l 12 4) : Int), .int .i64 (↑(rawN l 16 4) : Int), .int .i64 (↑(rawN l 20 4) : Int), .int .i64 (↑(rawN l 24 4) : Int), .int .i64 (↑(rawN l 28 4) : Int), .int .i64 (↑(rawN l 32 4) : Int), .int .i64 (↑(rawN l 36 4) : Int), .int .i64 (↑(rawN l 40 4) : Int), .int .i64 (↑(rawN l 44 4) : Int), .int .i64 (↑(rawN l 48 4) : Int), .int .i64 (↑(rawN l 52 4) : Int)] _ at kS12
 change Blk _ _ [.int .i64 (↑(56 : Nat) : Int)] _ at kA12
 have hB'11 := hB'10.trans hb12
 have hO := ((((((((((((show Only [75, 3] w _ from hO1).trans hO2).trans hO3).trans hO4).trans hO5).trans (Only.of_below (below_drew W5))).trans (Only.of_below n6.below)).trans hO7).trans hO8).trans hO9).trans hO10).trans hO11).trans hO12
 exact xe 19 (.tuple #[]) ⟨_, rfl, hB'11, hO, kS12⟩
set_option maxRecDepth 100000 in
set_option maxHeartbeats 4000000 in
theorem sup_each_right (B bs bo : Nat) (s : Sup) (w : World) (hBw : B ≤ w.heap.size) (hBo : B ≤ bo) (hb0 : 0 ≤ s.blocks) (hb1 : s.blocks < 9223372036854775808) (ks : Blk w bs [.int .i64 s.tx, .int .i64 s.time, .int .i64 s.unit, .int .i64 s.data, .int .i64 s.blocks, .int .i64 s.top, .int .i64 s.details, .int .i64 s.dslots, .int .i64 s.dover, .int .i64 s.mindex, .int .i64 s.mover] 75) (ko : Blk w bo [.bool true] 4) :
    Calls Tryz.prog 109 #[.pointer (some ⟨bs, 0, none⟩), .func (.func 165) #[] #[.pointer (some ⟨bo, 0, none⟩)]] w ((fun e w' => ∃ u, e = .returned u ∧ Below B w w' ∧ Only [4] w w' ∧ Blk w' bo [.bool (rightS s)] 4)) := by
 refine zin 64 Tryz.func109 ?_
 refine xc 6 (args := #[.pointer (some ⟨bs, 0, none⟩), .int .i64 0, .int .i64 2147483647, .pointer (some ⟨bo, 0, none⟩)]) (sup_right1 B bs bo 0 _ s.tx 0 2147483647 true _ (Nat.le_trans hBw (Below.refl B _).size) hBo ks rfl ko) ?_
 rintro _ W1 ⟨u1, rfl, hb1, hO1, kO1⟩
 have ks'1 := ks.only hO1 (by decide)
 refine xc 8 (args := #[.pointer (some ⟨bs, 1, none⟩), .int .i64 0, .int .i64 16777215, .pointer (some ⟨bo, 0, none⟩)]) (sup_right1 B bs bo 1 _ s.time 0 16777215 (true && decide ((0 : Int) ≤ s.tx ∧ s.tx ≤ 2147483647)) _ (Nat.le_trans hBw hb1.size) hBo ks'1 rfl kO1) ?_
 rintro _ W2 ⟨u2, rfl, hb2, hO2, kO2⟩
 have hB'1 := hb1.trans hb2
 have ks'2 := ks'1.only hO2 (by decide)
 refine xc 8 (args := #[.pointer (some ⟨bs, 2, none⟩), .int .i64 1, .int .i64 65536, .pointer (some ⟨bo, 0, none⟩)]) (sup_right1 B bs bo 2 _ s.unit 1 65536 ((true && decide ((0 : Int) ≤ s.tx ∧ s.tx ≤ 2147483647)) && decide ((0 : Int) ≤ s.time ∧ s.time ≤ 16777215)) _ (Nat.le_trans hBw hB'1.size) hBo ks'2 rfl kO2) ?_
 rintro _ W3 ⟨u3, rfl, hb3, hO3, kO3⟩
 have hB'2 := hB'1.trans hb3
 have ks'3 := ks'2.only hO3 (by decide)
 refine xc 8 (args := #[.pointer (some ⟨bs, 3, none⟩), .int .i64 0, .int .i64 65536, .pointer (some ⟨bo, 0, none⟩)]) (sup_right1 B bs bo 3 _ s.data 0 65536 (((true && decide ((0 : Int) ≤ s.tx ∧ s.tx ≤ 2147483647)) && decide ((0 : Int) ≤ s.time ∧ s.time ≤ 16777215)) && decide ((1 : Int) ≤ s.unit ∧ s.unit ≤ 65536)) _ (Nat.le_trans hBw hB'2.size) hBo ks'3 rfl kO3) ?_
 rintro _ W4 ⟨u4, rfl, hb4, hO4, kO4⟩
 have hB'3 := hB'2.trans hb4
 have ks'4 := ks'3.only hO4 (by decide)
 refine xc 8 (args := #[.pointer (some ⟨bs, 4, none⟩), .int .i64 2, .int .i64 14400, .pointer (some ⟨bo, 0, none⟩)]) (sup_right1 B bs bo 4 _ s.blocks 2 14400 ((((true && decide ((0 : Int) ≤ s.tx ∧ s.tx ≤ 2147483647)) && decide ((0 : Int) ≤ s.time ∧ s.time ≤ 16777215)) && decide ((1 : Int) ≤ s.unit ∧ s.unit ≤ 65536)) && decide ((0 : Int) ≤ s.data ∧ s.data ≤ 65536)) _ (Nat.le_trans hBw hB'3.size) hBo ks'4 rfl kO4) ?_
 rintro _ W5 ⟨u5, rfl, hb5, hO5, kO5⟩
 refine xd 3 .z ?_
 refine xbs (.o [0, 1, 2, 3, 4, 5, 6, 7, 8, 9, 10, 11, 12, 13, 14, 15, 16, 17, 20] 18) 6 [.pointer (some ⟨bs, 5, none⟩), .pointer (some ⟨bs, 6, none⟩), .pointer (some ⟨bs, 7, none⟩), .pointer (some ⟨bs, 8, none⟩), .pointer (some ⟨bs, 9, none⟩), .pointer (some ⟨bs, 10, none⟩)] 214 fun b6 W6 n6 => ?_
 have hB'4 := Bl.nextB (hB'3.trans hb5) hBw (below_drew W5)
 have g6 := n6.ge0 hB'4
 refine xu (.r [19] 3) 7 ?_
 refine xb 14 0 n6.blk ?_
 have ks'5 := ((ks'4.only hO5 (by decide)).below (below_drew W5)).below n6.below
 refine xb 9 4 ks'5 ?_
 refine xw 0 (s.blocks - 1) ?_
 have hB'5 := Bl.nextB hB'4 hBw n6.below
 have kO5'1 := (kO5.below (below_drew W5)).below n6.below
 refine xc 0 (args := #[.pointer (some ⟨bs, 5, none⟩), .int .i64 1, .int .i64 (s.blocks - 1), .pointer (some ⟨bo, 0, none⟩)]) (sup_right1 B bs bo 5 _ s.top 1 (s.blocks - 1) (((((true && decide ((0 : Int) ≤ s.tx ∧ s.tx ≤ 2147483647)) && decide ((0 : Int) ≤ s.time ∧ s.time ≤ 16777215)) && decide ((1 : Int) ≤ s.unit ∧ s.unit ≤ 65536)) && decide ((0 : Int) ≤ s.data ∧ s.data ≤ 65536)) && decide ((2 : Int) ≤ s.blocks ∧ s.blocks ≤ 14400)) _ (Nat.le_trans hBw hB'5.size) hBo ks'5 rfl kO5'1) ?_
 rintro _ W7 ⟨u7, rfl, hb7, hO7, kO7⟩
 have k6'1 := n6.blk.only hO7 (by decide)
 refine xb 22 1 k6'1 ?_
 have ks'6 := ks'5.only hO7 (by decide)
 refine xb 9 4 ks'6 ?_
 refine xw 0 (s.blocks - 1) ?_
 have hB'6 := hB'5.trans hb7
 refine xc 0 (args := #[.pointer (some ⟨bs, 6, none⟩), .int .i64 1, .int .i64 (s.blocks - 1), .pointer (some ⟨bo, 0, none⟩)]) (sup_right1 B bs bo 6 _ s.details 1 (s.blocks - 1) ((((((true && decide ((0 : Int) ≤ s.tx ∧ s.tx ≤ 2147483647)) && decide ((0 : Int) ≤ s.time ∧ s.time ≤ 16777215)) && decide ((1 : Int) ≤ s.unit ∧ s.unit ≤ 65536)) && decide ((0 : Int) ≤ s.data ∧ s.data ≤ 65536)) && decide ((2 : Int) ≤ s.blocks ∧ s.blocks ≤ 14400)) && decide ((1 : Int) ≤ s.top ∧ s.top ≤ (s.blocks - 1))) _ (Nat.le_trans hBw hB'6.size) hBo ks'6 rfl kO7) ?_
 rintro _ W8 ⟨u8, rfl, hb8, hO8, kO8⟩
 have k6'2 := k6'1.only hO8 (by decide)
 refine xb 22 2 k6'2 ?_
 have ks'7 := ks'6.only hO8 (by decide)
 refine xb 9 4 ks'7 ?_
 refine xw 0 (s.blocks - 1) ?_
 have hB'7 := hB'6.trans hb8
 refine xc 0 (args := #[.pointer (some ⟨bs, 7, none⟩), .int .i64 1, .int .i64 (s.blocks - 1), .pointer (some ⟨bo, 0, none⟩)]) (sup_right1 B bs bo 7 _ s.dslots 1 (s.blocks - 1) (((((((true && decide ((0 : Int) ≤ s.tx ∧ s.tx ≤ 2147483647)) && decide ((0 : Int) ≤ s.time ∧ s.time ≤ 16777215)) && decide ((1 : Int) ≤ s.unit ∧ s.unit ≤ 65536)) && decide ((0 : Int) ≤ s.data ∧ s.data ≤ 65536)) && decide ((2 : Int) ≤ s.blocks ∧ s.blocks ≤ 14400)) && decide ((1 : Int) ≤ s.top ∧ s.top ≤ (s.blocks - 1))) && decide ((1 : Int) ≤ s.details ∧ s.details ≤ (s.blocks - 1))) _ (Nat.le_trans hBw hB'7.size) hBo ks'7 rfl kO8) ?_
 rintro _ W9 ⟨u9, rfl, hb9, hO9, kO9⟩
 have k6'3 := k6'2.only hO9 (by decide)
 refine xb 22 3 k6'3 ?_
 have ks'8 := ks'7.only hO9 (by decide)
 refine xb 9 4 ks'8 ?_
 refine xw 0 (s.blocks - 1) ?_
 have hB'8 := hB'7.trans hb9
 refine xc 0 (args := #[.pointer (some ⟨bs, 8, none⟩), .int .i64 1, .int .i64 (s.blocks - 1), .pointer (some ⟨bo, 0, none⟩)]) (sup_right1 B bs bo 8 _ s.dover 1 (s.blocks - 1) ((((((((true && decide ((0 : Int) ≤ s.tx ∧ s.tx ≤ 2147483647)) && decide ((0 : Int) ≤ s.time ∧ s.time ≤ 16777215)) && decide ((1 : Int) ≤ s.unit ∧ s.unit ≤ 65536)) && decide ((0 : Int) ≤ s.data ∧ s.data ≤ 65536)) && decide ((2 : Int) ≤ s.blocks ∧ s.blocks ≤ 14400)) && decide ((1 : Int) ≤ s.top ∧ s.top ≤ (s.blocks - 1))) && decide ((1 : Int) ≤ s.details ∧ s.details ≤ (s.blocks - 1))) && decide ((1 : Int) ≤ s.dslots ∧ s.dslots ≤ (s.blocks - 1))) _ (Nat.le_trans hBw hB'8.size) hBo ks'8 rfl kO9) ?_
 rintro _ W10 ⟨u10, rfl, hb10, hO10, kO10⟩
 have k6'4 := k6'3.only hO10 (by decide)
 refine xb 22 4 k6'4 ?_
 have ks'9 := ks'8.only hO10 (by decide)
 refine xb 9 4 ks'9 ?_
 refine xw 0 (s.blocks - 1) ?_
 have hB'9 := hB'8.trans hb10
 refine xc 0 (args := #[.pointer (some ⟨bs, 9, none⟩), .int .i64 1, .int .i64 (s.blocks - 1), .pointer (some ⟨bo, 0, none⟩)]) (sup_right1 B bs bo 9 _ s.mindex 1 (s.blocks - 1) (((((((((true && decide ((0 : Int) ≤ s.tx ∧ s.tx ≤ 2147483647)) && decide ((0 : Int) ≤ s.time ∧ s.time ≤ 16777215)) && decide ((1 : Int) ≤ s.unit ∧ s.unit ≤ 65536)) && decide ((0 : Int) ≤ s.data ∧ s.data ≤ 65536)) && decide ((2 : Int) ≤ s.blocks ∧ s.blocks ≤ 14400)) && decide ((1 : Int) ≤ s.top ∧ s.top ≤ (s.blocks - 1))) && decide ((1 : Int) ≤ s.details ∧ s.details ≤ (s.blocks - 1))) && decide ((1 : Int) ≤ s.dslots ∧ s.dslots ≤ (s.blocks - 1))) && decide ((1 : Int) ≤ s.dover ∧ s.dover ≤ (s.blocks - 1))) _ (Nat.le_trans hBw hB'9.size) hBo ks'9 rfl kO10) ?_
 rintro _ W11 ⟨u11, rfl, hb11, hO11, kO11⟩
 have k6'5 := k6'4.only hO11 (by decide)
 refine xb 22 5 k6'5 ?_
 have ks'10 := ks'9.only hO11 (by decide)
 refine xb 9 4 ks'10 ?_
 refine xw 0 (s.blocks - 1) ?_
 have hB'10 := hB'9.trans hb11
 refine xc 0 (args := #[.pointer (some ⟨bs, 10, none⟩), .int .i64 1, .int .i64 (s.blocks - 1), .pointer (some ⟨bo, 0, none⟩)]) (sup_right1 B bs bo 10 _ s.mover 1 (s.blocks - 1) ((((((((((true && decide ((0 : Int) ≤ s.tx ∧ s.tx ≤ 2147483647)) && decide ((0 : Int) ≤ s.time ∧ s.time ≤ 16777215)) && decide ((1 : Int) ≤ s.unit ∧ s.unit ≤ 65536)) && decide ((0 : Int) ≤ s.data ∧ s.data ≤ 65536)) && decide ((2 : Int) ≤ s.blocks ∧ s.blocks ≤ 14400)) && decide ((1 : Int) ≤ s.top ∧ s.top ≤ (s.blocks - 1))) && decide ((1 : Int) ≤ s.details ∧ s.details ≤ (s.blocks - 1))) && decide ((1 : Int) ≤ s.dslots ∧ s.dslots ≤ (s.blocks - 1))) && decide ((1 : Int) ≤ s.dover ∧ s.dover ≤ (s.blocks - 1))) && decide ((1 : Int) ≤ s.mindex ∧ s.mindex ≤ (s.blocks - 1))) _ (Nat.le_trans hBw hB'10.size) hBo ks'10 rfl kO11) ?_
 rintro _ W12 ⟨u12, rfl, hb12, hO12, kO12⟩
 have hB'11 := hB'10.trans hb12
 have hO := ((((((((((((show Only [4] w _ from hO1).trans hO2).trans hO3).trans hO4).trans hO5).trans (Only.of_below (below_drew W5))).trans (Only.of_below n6.below)).trans hO7).trans hO8).trans hO9).trans hO10).trans hO11).trans hO12
 exact xe 19 (.tuple #[]) ⟨_, rfl, hB'11, hO, kO12⟩
set_option maxRecDepth 100000 in
set_option maxHeartbeats 1000000 in
theorem sup_Right (s : Sup) (w : World) (hb0 : 0 ≤ s.blocks) (hb1 : s.blocks < 9223372036854775808) :
    Calls Tryz.prog 147 #[.agg #[.int .i64 s.tx, .int .i64 s.time, .int .i64 s.unit, .int .i64 s.data, .int .i64 s.blocks, .int .i64 s.top, .int .i64 s.details, .int .i64 s.dslots, .int .i64 s.dover, .int .i64 s.mindex, .int .i64 s.mover]] w (Ret (.bool (rightS s)) w) := by
 refine zin 7 Tryz.func147 ?_
 refine xa 2 [.int .i64 s.tx, .int .i64 s.time, .int .i64 s.unit, .int .i64 s.data, .int .i64 s.blocks, .int .i64 s.top, .int .i64 s.details, .int .i64 s.dslots, .int .i64 s.dover, .int .i64 s.mindex, .int .i64 s.mover] 75 fun b1 W1 n1 => ?_
 refine xa 5 [.bool false] 4 fun b2 W2 n2 => ?_
 refine xs 0 n2.blk [.bool true] fun W3 u3 k3 => ?_
 have g2 := n2.ge n1.below
 have hB := u3.below (Bl.next n1.below n2.below) g2
 have k1 := u3.blkT (n1.blk.below n2.below) n2.blk (by decide)
 refine xc 5 (args := #[.pointer (some ⟨b1, 0, none⟩), .func (.func 165) #[] #[.pointer (some ⟨b2, 0, none⟩)]]) (sup_each_right w.heap.size b1 b2 s _ hB.size g2 hb0 hb1 k1 k3) ?_
 rintro _ W4 ⟨u4, rfl, hb4, hO4, kO4⟩
 refine xb 4 0 kO4 ?_
 have hB'1 := hB.trans hb4
 exact xe 4 (.bool (rightS s)) ⟨rfl, hB'1⟩
set_option maxRecDepth 100000 in
set_option maxHeartbeats 1000000 in
theorem sup_put1 (B Bx bs bl off n : Nat) (cs : List Value) (x : Int) (lo hi : Value) (p : Option Addr) (c : Nat) (N : List Int) (w : World) (hBm : B ≤ Bx) (hBx : Bx ≤ w.heap.size) (hBw : B ≤ w.heap.size) (hBl : B ≤ bl) (ks : Blk w bs cs 75) (hn : cs[off]? = some (.int .i64 x)) (kl : Blk w bl [.slice p n c] 178) (hup : w.ownsRow Bx 122 2 (.slice p n c) n (N.flatMap fldC)) (hnn : n ≤ 1000) :
    Calls Tryz.prog 148 #[.pointer (some ⟨bs, off, none⟩), lo, hi, .pointer (some ⟨bl, 0, none⟩)] w ((fun e w' => ∃ u p' c', e = .returned u ∧ Below B w w' ∧ Only [178, 122] w w' ∧ Blk w' bl [.slice p' (n + 1) c'] 178 ∧ w'.ownsRow Bx 122 2 (.slice p' (n + 1) c') (n + 1) ((N ++ [x]).flatMap fldC))) := by
 refine zin 14 Tryz.func148 ?_
 refine xd 0 (.t B [178, 122]) ?_
 have ks'1 := ks.below (below_drew w)
 refine xlt (.e [1, 2] 3) (.t B [178, 122]) (fun V hV => (ks'1.only hV.2 (by decide)).cell (i := off) hn) ?_
 refine xm2 (.b [4]) 0 5 ?_ ?_
 · have kl'1 := kl.below (below_drew w)
   refine xb 0 0 kl'1 ?_
   refine xbs (.o [] 5) 1 [.int .i64 4, .int .i64 x] 122 fun b1 W1 n1 => ?_
   have hup'1 := own_below hup (below_drew w)
   have r1_hup := own_ne hup'1 n1
   have hup'2 := own_below hup'1 n1.below
   have hB := Bl.nextB (Bl.nextB (Below.refl B w) hBw (below_drew w)) hBw n1.below
   refine ybi (.o [] 6) (.t B [178, 122]) fun _ _ _ _ zJ zQ zo zx zy zK => op_app (m := 1) (news := [.int .i64 4, .int .i64 x]) (.agg #[.int .i64 0, .int .i64 0]) 2 16 (n + 1) (((N ++ [x]).flatMap fldC)) zo Tryz.underlying178 (by kernel_rfl) rfl (by decide) zx hup'2 zy (n1.blk.sl 1 1 (by decide) (by decide)) rfl (by simp [Value.oneCell']) (by unfold maxLen; omega) (by omega) (Nat.le_trans hBx hB.size) (by rfl) (by rw [List.flatMap_append]; rfl) fun px2 cx2 W2 o2 hg2 hb2 => ?_
   refine zK _ _ (sft_grown (hb2.mono hBm) hg2 hup'2 (by decide)) ?_
   have kl'2 := (kl'1.below n1.below).grown hg2 hup'2 (by decide)
   refine ys (.o [] 7) kl'2 [.slice px2 (n + 1) cx2] (.t B [178, 122]) fun W3 u3 k3 => ⟨(sft_upd u3 kl'2 hBl (by decide)), ?_⟩
   have hB'1 := u3.below (hB.trans (hb2.mono hBm)) hBl
   have hO := (((show Only [178, 122] w _ from (Only.of_below (below_drew w))).trans (Only.of_below n1.below)).trans (Only.of_grown hg2 hup'2 (by decide))).trans (Only.of_upd u3 kl'2 (by decide))
   have o2'1 := u3.own2 o2 kl'2 (by decide)
   exact xe 1 (.tuple #[]) ⟨_, _, _, rfl, hB'1, hO, k3, o2'1⟩
 refine xbs 0 1 [.int .i64 4, .int .i64 x] 122 fun b4 W4 n4 => ?_
 have hup'3 := own_below hup (below_drew w)
 have r4_hup := own_ne hup'3 n4
 have kl'3 := (kl.below (below_drew w)).below n4.below
 refine xb (.o [] 0) 0 kl'3 ?_
 have hup'4 := own_below hup'3 n4.below
 have hB := Bl.nextB (Bl.nextB (Below.refl B w) hBw (below_drew w)) hBw n4.below
 refine ybi (.o [] 6) (.t B [178, 122]) fun _ _ _ _ zJ zQ zo zx zy zK => op_app (m := 1) (news := [.int .i64 4, .int .i64 x]) (.agg #[.int .i64 0, .int .i64 0]) 2 16 (n + 1) (((N ++ [x]).flatMap fldC)) zo Tryz.underlying178 (by kernel_rfl) rfl (by decide) zx hup'4 zy (n4.blk.sl 1 1 (by decide) (by decide)) rfl (by simp [Value.oneCell']) (by unfold maxLen; omega) (by omega) (Nat.le_trans hBx hB.size) (by rfl) (by rw [List.flatMap_append]; rfl) fun px5 cx5 W5 o5 hg5 hb5 => ?_
 refine zK _ _ (sft_grown (hb5.mono hBm) hg5 hup'4 (by decide)) ?_
 have kl'4 := kl'3.grown hg5 hup'4 (by decide)
 refine ys (.o [] 7) kl'4 [.slice px5 (n + 1) cx5] (.t B [178, 122]) fun W6 u6 k6 => ⟨(sft_upd u6 kl'4 hBl (by decide)), ?_⟩
 have hB'2 := u6.below (hB.trans (hb5.mono hBm)) hBl
 have hO := (((show Only [178, 122] w _ from (Only.of_below (below_drew w))).trans (Only.of_below n4.below)).trans (Only.of_grown hg5 hup'4 (by decide))).trans (Only.of_upd u6 kl'4 (by decide))
 have o5'1 := u6.own2 o5 kl'4 (by decide)
 exact xe 1 (.tuple #[]) ⟨_, _, _, rfl, hB'2, hO, k6, o5'1⟩
set_option maxRecDepth 100000 in
set_option maxHeartbeats 4000000 in
theorem sup_each_put (B Bx bs bl : Nat) (s : Sup) (p0 : Option Addr) (c0 : Nat) (w : World) (hBm : B ≤ Bx) (hBx : Bx ≤ w.heap.size) (hBw : B ≤ w.heap.size) (hBl : B ≤ bl) (hb0 : 0 ≤ s.blocks) (hb1 : s.blocks < 9223372036854775808) (ks : Blk w bs [.int .i64 s.tx, .int .i64 s.time, .int .i64 s.unit, .int .i64 s.data, .int .i64 s.blocks, .int .i64 s.top, .int .i64 s.details, .int .i64 s.dslots, .int .i64 s.dover, .int .i64 s.mindex, .int .i64 s.mover] 75) (kl : Blk w bl [.slice p0 1 c0] 178) (hr0 : w.ownsRow Bx 122 2 (.slice p0 1 c0) 1 ([1].flatMap fldC)) :
    Calls Tryz.prog 109 #[.pointer (some ⟨bs, 0, none⟩), .func (.func 148) #[] #[.pointer (some ⟨bl, 0, none⟩)]] w ((fun e w' => ∃ u p c, e = .returned u ∧ Below B w w' ∧ Only [178, 122] w w' ∧ Blk w' bl [.slice p 12 c] 178 ∧ w'.ownsRow Bx 122 2 (.slice p 12 c) 12 ((1 :: supN s).flatMap fldC))) := by
 refine zin 64 Tryz.func109 ?_
 refine xc 6 (args := #[.pointer (some ⟨bs, 0, none⟩), .int .i64 0, .int .i64 2147483647, .pointer (some ⟨bl, 0, none⟩)]) (sup_put1 B Bx bs bl 0 1 _ s.tx _ _ p0 c0 [1] _ hBm (Nat.le_trans hBx (Below.refl B _).size) (Nat.le_trans hBw (Below.refl B _).size) hBl ks rfl kl hr0 (by decide)) ?_
 rintro _ W1 ⟨u1, p1, c1, rfl, hb1, hO1, kL1, hr1⟩
 have hr1_ : World.ownsRow _ _ _ _ (.slice p1 2 c1) 2 ([1, s.tx].flatMap fldC) := hr1
 replace kL1 : Blk _ _ [.slice p1 2 c1] _ := kL1
 have ks'1 := ks.only hO1 (by decide)
 refine xc 8 (args := #[.pointer (some ⟨bs, 1, none⟩), .int .i64 0, .int .i64 16777215, .pointer (some ⟨bl, 0, none⟩)]) (sup_put1 B Bx bs bl 1 2 _ s.time _ _ p1 c1 [1, s.tx] _ hBm (Nat.le_trans hBx hb1.size) (Nat.le_trans hBw hb1.size) hBl ks'1 rfl kL1 hr1_ (by decide)) ?_
 rintro _ W2 ⟨u2, p2, c2, rfl, hb2, hO2, kL2, hr2⟩
 have hr2_ : World.ownsRow _ _ _ _ (.slice p2 3 c2) 3 ([1, s.tx, s.time].flatMap fldC) := hr2
 replace kL2 : Blk _ _ [.slice p2 3 c2] _ := kL2
 have hB'1 := hb1.trans hb2
 have ks'2 := ks'1.only hO2 (by decide)
 refine xc 8 (args := #[.pointer (some ⟨bs, 2, none⟩), .int .i64 1, .int .i64 65536, .pointer (some ⟨bl, 0, none⟩)]) (sup_put1 B Bx bs bl 2 3 _ s.unit _ _ p2 c2 [1, s.tx, s.time] _ hBm (Nat.le_trans hBx hB'1.size) (Nat.le_trans hBw hB'1.size) hBl ks'2 rfl kL2 hr2_ (by decide)) ?_
 rintro _ W3 ⟨u3, p3, c3, rfl, hb3, hO3, kL3, hr3⟩
 have hr3_ : World.ownsRow _ _ _ _ (.slice p3 4 c3) 4 ([1, s.tx, s.time, s.unit].flatMap fldC) := hr3
 replace kL3 : Blk _ _ [.slice p3 4 c3] _ := kL3
 have hB'2 := hB'1.trans hb3
 have ks'3 := ks'2.only hO3 (by decide)
 refine xc 8 (args := #[.pointer (some ⟨bs, 3, none⟩), .int .i64 0, .int .i64 65536, .pointer (some ⟨bl, 0, none⟩)]) (sup_put1 B Bx bs bl 3 4 _ s.data _ _ p3 c3 [1, s.tx, s.time, s.unit] _ hBm (Nat.le_trans hBx hB'2.size) (Nat.le_trans hBw hB'2.size) hBl ks'3 rfl kL3 hr3_ (by decide)) ?_
 rintro _ W4 ⟨u4, p4, c4, rfl, hb4, hO4, kL4, hr4⟩
 have hr4_ : World.ownsRow _ _ _ _ (.slice p4 5 c4) 5 ([1, s.tx, s.time, s.unit, s.data].flatMap fldC) := hr4
 replace kL4 : Blk _ _ [.slice p4 5 c4] _ := kL4
 have hB'3 := hB'2.trans hb4
 have ks'4 := ks'3.only hO4 (by decide)
 refine xc 8 (args := #[.pointer (some ⟨bs, 4, none⟩), .int .i64 2, .int .i64 14400, .pointer (some ⟨bl, 0, none⟩)]) (sup_put1 B Bx bs bl 4 5 _ s.blocks _ _ p4 c4 [1, s.tx, s.time, s.unit, s.data] _ hBm (Nat.le_trans hBx hB'3.size) (Nat.le_trans hBw hB'3.size) hBl ks'4 rfl kL4 hr4_ (by decide)) ?_
 rintro _ W5 ⟨u5, p5, c5, rfl, hb5, hO5, kL5, hr5⟩
 have hr5_ : World.ownsRow _ _ _ _ (.slice p5 6 c5) 6 ([1, s.tx, s.time, s.unit, s.data, s.blocks].flatMap fldC) := hr5
 replace kL5 : Blk _ _ [.slice p5 6 c5] _ := kL5
 refine xd 3 .z ?_
 refine xbs (.o [0, 1, 2, 3, 4, 5, 6, 7, 8, 9, 10, 11, 12, 13, 14, 15, 16, 17, 20] 18) 6 [.pointer (some ⟨bs, 5, none⟩), .pointer (some ⟨bs, 6, none⟩), .pointer (some ⟨bs, 7, none⟩), .pointer (some ⟨bs, 8, none⟩), .pointer (some ⟨bs, 9, none⟩), .pointer (some ⟨bs, 10, none⟩)] 214 fun b6 W6 n6 => ?_
 have hB'4 := Bl.nextB (hB'3.trans hb5) hBw (below_drew W5)
 have g6 := n6.ge0 hB'4
 refine xu (.r [19] 3) 7 ?_
 refine xb 14 0 n6.blk ?_
 have ks'5 := ((ks'4.only hO5 (by decide)).below (below_drew W5)).below n6.below
 refine xb 9 4 ks'5 ?_
 refine xw 0 (s.blocks - 1) ?_
 have hB'5 := Bl.nextB hB'4 hBw n6.below
 have kL5'1 := (kL5.below (below_drew W5)).below n6.below
 have hr5_'1 := own_below (own_below hr5_ (below_drew W5)) n6.below
 refine xc 0 (args := #[.pointer (some ⟨bs, 5, none⟩), .int .i64 1, .int .i64 (s.blocks - 1), .pointer (some ⟨bl, 0, none⟩)]) (sup_put1 B Bx bs bl 5 6 _ s.top _ _ p5 c5 [1, s.tx, s.time, s.unit, s.data, s.blocks] _ hBm (Nat.le_trans hBx hB'5.size) (Nat.le_trans hBw hB'5.size) hBl ks'5 rfl kL5'1 hr5_'1 (by decide)) ?_
 rintro _ W7 ⟨u7, p6, c6, rfl, hb7, hO7, kL7, hr6⟩
 have hr6_ : World.ownsRow _ _ _ _ (.slice p6 7 c6) 7 ([1, s.tx, s.time, s.unit, s.data, s.blocks, s.top].flatMap fldC) := hr6
 replace kL7 : Blk _ _ [.slice p6 7 c6] _ := kL7
 have k6'1 := n6.blk.only hO7 (by decide)
 refine xb 22 1 k6'1 ?_
 have ks'6 := ks'5.only hO7 (by decide)
 refine xb 9 4 ks'6 ?_
 refine xw 0 (s.blocks - 1) ?_
 have hB'6 := hB'5.trans hb7
 refine xc 0 (args := #[.pointer (some ⟨bs, 6, none⟩), .int .i64 1, .int .i64 (s.blocks - 1), .pointer (some ⟨bl, 0, none⟩)]) (sup_put1 B Bx bs bl 6 7 _ s.details _ _ p6 c6 [1, s.tx, s.time, s.unit, s.data, s.blocks, s.top] _ hBm (Nat.le_trans hBx hB'6.size) (Nat.le_trans hBw hB'6.size) hBl ks'6 rfl kL7 hr6_ (by decide)) ?_
 rintro _ W8 ⟨u8, p7, c7, rfl, hb8, hO8, kL8, hr7⟩
 have hr7_ : World.ownsRow _ _ _ _ (.slice p7 8 c7) 8 ([1, s.tx, s.time, s.unit, s.data, s.blocks, s.top, s.details].flatMap fldC) := hr7
 replace kL8 : Blk _ _ [.slice p7 8 c7] _ := kL8
 have k6'2 := k6'1.only hO8 (by decide)
 refine xb 22 2 k6'2 ?_
 have ks'7 := ks'6.only hO8 (by decide)
 refine xb 9 4 ks'7 ?_
 refine xw 0 (s.blocks - 1) ?_
 have hB'7 := hB'6.trans hb8
 refine xc 0 (args := #[.pointer (some ⟨bs, 7, none⟩), .int .i64 1, .int .i64 (s.blocks - 1), .pointer (some ⟨bl, 0, none⟩)]) (sup_put1 B Bx bs bl 7 8 _ s.dslots _ _ p7 c7 [1, s.tx, s.time, s.unit, s.data, s.blocks, s.top, s.details] _ hBm (Nat.le_trans hBx hB'7.size) (Nat.le_trans hBw hB'7.size) hBl ks'7 rfl kL8 hr7_ (by decide)) ?_
 rintro _ W9 ⟨u9, p8, c8, rfl, hb9, hO9, kL9, hr8⟩
 have hr8_ : World.ownsRow _ _ _ _ (.slice p8 9 c8) 9 ([1, s.tx, s.time, s.unit, s.data, s.blocks, s.top, s.details, s.dslots].flatMap fldC) := hr8
 replace kL9 : Blk _ _ [.slice p8 9 c8] _ := kL9
 have k6'3 := k6'2.only hO9 (by decide)
 refine xb 22 3 k6'3 ?_
 have ks'8 := ks'7.only hO9 (by decide)
 refine xb 9 4 ks'8 ?_
 refine xw 0 (s.blocks - 1) ?_
 have hB'8 := hB'7.trans hb9
 refine xc 0 (args := #[.pointer (some ⟨bs, 8, none⟩), .int .i64 1, .int .i64 (s.blocks - 1), .pointer (some ⟨bl, 0, none⟩)]) (sup_put1 B Bx bs bl 8 9 _ s.dover _ _ p8 c8 [1, s.tx, s.time, s.unit, s.data, s.blocks, s.top, s.details, s.dslots] _ hBm (Nat.le_trans hBx hB'8.size) (Nat.le_trans hBw hB'8.size) hBl ks'8 rfl kL9 hr8_ (by decide)) ?_
 rintro _ W10 ⟨u10, p9, c9, rfl, hb10, hO10, kL10, hr9⟩
 have hr9_ : World.ownsRow _ _ _ _ (.slice p9 10 c9) 10 ([1, s.tx, s.time, s.unit, s.data, s.blocks, s.top, s.details, s.dslots, s.dover].flatMap fldC) := hr9
 replace kL10 : Blk _ _ [.slice p9 10 c9] _ := kL10
 have k6'4 := k6'3.only hO10 (by decide)
 refine xb 22 4 k6'4 ?_
 have ks'9 := ks'8.only hO10 (by decide)
 refine xb 9 4 ks'9 ?_
 refine xw 0 (s.blocks - 1) ?_
 have hB'9 := hB'8.trans hb10
 refine xc 0 (args := #[.pointer (some ⟨bs, 9, none⟩), .int .i64 1, .int .i64 (s.blocks - 1), .pointer (some ⟨bl, 0, none⟩)]) (sup_put1 B Bx bs bl 9 10 _ s.mindex _ _ p9 c9 [1, s.tx, s.time, s.unit, s.data, s.blocks, s.top, s.details, s.dslots, s.dover] _ hBm (Nat.le_trans hBx hB'9.size) (Nat.le_trans hBw hB'9.size) hBl ks'9 rfl kL10 hr9_ (by decide)) ?_
 rintro _ W11 ⟨u11, p10, c10, rfl, hb11, hO11, kL11, hr10⟩
 have hr10_ : World.ownsRow _ _ _ _ (.slice p10 11 c10) 11 ([1, s.tx, s.time, s.unit, s.data, s.blocks, s.top, s.details, s.dslots, s.dover, s.mindex].flatMap fldC) := hr10
 replace kL11 : Blk _ _ [.slice p10 11 c10] _ := kL11
 have k6'5 := k6'4.only hO11 (by decide)
 refine xb 22 5 k6'5 ?_
 have ks'10 := ks'9.only hO11 (by decide)
 refine xb 9 4 ks'10 ?_
 refine xw 0 (s.blocks - 1) ?_
 have hB'10 := hB'9.trans hb11
 refine xc 0 (args := #[.pointer (some ⟨bs, 10, none⟩), .int .i64 1, .int .i64 (s.blocks - 1), .pointer (some ⟨bl, 0, none⟩)]) (sup_put1 B Bx bs bl 10 11 _ s.mover _ _ p10 c10 [1, s.tx, s.time, s.unit, s.data, s.blocks, s.top, s.details, s.dslots, s.dover, s.mindex] _ hBm (Nat.le_trans hBx hB'10.size) (Nat.le_trans hBw hB'10.size) hBl ks'10 rfl kL11 hr10_ (by decide)) ?_
 rintro _ W12 ⟨u12, p11, c11, rfl, hb12, hO12, kL12, hr11⟩
 have hr11_ : World.ownsRow _ _ _ _ (.slice p11 12 c11) 12 ([1, s.tx, s.time, s.unit, s.data, s.blocks, s.top, s.details, s.dslots, s.dover, s.mindex, s.mover].flatMap fldC) := hr11
 replace kL12 : Blk _ _ [.slice p11 12 c11] _ := kL12
 have hB'11 := hB'10.trans hb12
 have hO := ((((((((((((show Only [178, 122] w _ from hO1).trans hO2).trans hO3).trans hO4).trans hO5).trans (Only.of_below (below_drew W5))).trans (Only.of_below n6.below)).trans hO7).trans hO8).trans hO9).trans hO10).trans hO11).trans hO12
 exact xe 19 (.tuple #[]) ⟨_, _, _, rfl, hB'11, hO, kL12, hr11_⟩
end Go.Proofs.YtinegkldgjhnpaaGreatDoor
namespace Go.Proofs.YtinegkldgjhnpaaGreatDoor
open Go.RowKit Go.Extern.Stop Go.Stop Go.Extern
set_option linter.unusedVariables false
attribute [local irreducible] wpList wpAnyH Code.wp Oper.wp Go

theorem numsB_take {N : List Int} {i : Nat} (h : i < N.length) : numsB (N.take (i + 1)) = numsB (N.take i) ++ leB (N.getD i 0) 4 := by
  unfold numsB
  rw [List.take_succ_eq_append_getElem h, List.flatMap_append]
  simp [List.getD, h]
theorem byte_inj {x y : UInt8} (h : (x.toNat : Int) = (y.toNat : Int)) : x = y := UInt8.toNat_inj.1 (by omega)
theorem bytes_ne {a b : List UInt8} {i : Nat} (hi : i < a.length) (hl : a.length = b.length) (h : ((a.getD i 0).toNat : Int) ≠ ((b.getD i 0).toNat : Int)) : (a == b) = false := by
  apply beq_false_of_ne
  rintro rfl
  exact h rfl
theorem bytes_eq {a b : List UInt8} (hl : a.length = b.length) (h : ∀ j, j < a.length → a.getD j 0 = b.getD j 0) : (a == b) = true := by
  rw [beq_iff_eq]
  apply List.ext_getElem hl
  intro j h1 h2
  have := h j h1
  simpa [List.getD, h1, h2] using this
set_option maxRecDepth 100000 in
set_option maxHeartbeats 2000000 in
theorem slices_EqualB (p q : Option Addr) (c d : Nat) (a b : List UInt8) (w : World) (hl : a.length ≤ 100000000) (h : Bys w (.slice p a.length c) a) (h2 : Bys w (.slice q b.length d) b) :
    Calls Tryz.prog 112 #[.slice p a.length c, .slice q b.length d] w (Ret (.bool (a == b)) w) := by
 refine zin 26 Tryz.func112 ?_
 refine xin 15 (↑a.length : Int) (↑b.length : Int) (fun hc1 => ?_) (fun hc1 => ?_)
 · refine xe 7 (.bool false) ?_
   rw [show (a == b) = false from beq_false_of_ne (fun q => by subst q; simp at *)]; exact ⟨rfl, (Below.refl w.heap.size _)⟩
 have hB := Below.refl w.heap.size w
 refine zl 11 26 (fun zm zkv V => ∃ (i : Nat), zkv = [(0, .slice p a.length c), (1, .slice q b.length d), (12, .int .i64 (↑a.length : Int)), (13, .int .i64 (↑i : Int))] ∧ zm = a.length - ((↑i : Int)).toNat ∧ Below w.heap.size w V ∧ i ≤ a.length ∧ (∀ j, j < i → a.getD j 0 = b.getD j 0)) ⟨0, rfl, rfl, hB, Nat.zero_le _, ?_⟩ ?_
 · exact fun j hj => absurd hj (by omega)
 rintro _ _ W2 ⟨i, rfl, rfl, hB_2, hi, hz⟩ J2 hJ2 r2
 refine xid 6 ((↑i : Int) < (↑a.length : Int)) (fun hc3 => ?_) (fun hc3 => ?_)
 · refine xd 11 .z ?_
   refine xx (.e [0, 1] 2) _ a.length i 1 (Bys.elem h (k := i) (by omega)).1 ?_
   have hB'1 := Bl.next hB_2 (below_drew W2)
   refine xl (.e [] 3) ((Bys.elem (h.below hB'1) (k := i) (by omega)).2) ?_
   refine xx (.e [4, 5] 6) _ b.length i 1 (Bys.elem h2 (k := i) (by omega)).1 ?_
   refine xl (.e [] 7) ((Bys.elem (h2.below hB'1) (k := i) (by omega)).2) ?_
   refine xin (.r [8] 2) (↑(a.getD i 0).toNat : Int) (↑(b.getD i 0).toNat : Int) (fun hc4 => ?_) (fun hc4 => ?_)
   · refine xe 11 (.bool false) ?_
     rw [bytes_ne (i := i) (by omega) (by omega) (by assumption)]; exact ⟨rfl, hB'1⟩
   refine xwm 4 ((↑i : Int) + 1) (↑(i + 1) : Int) ?_
   exact ze 2 (hJ2 _ _ _ ⟨i + 1, rfl, rfl, hB'1, by omega, fun j hj => (Nat.lt_or_ge j i).elim (hz j) (fun q => by obtain rfl : j = i := (by omega); exact byte_inj (by assumption))⟩ (by omega))
 refine xe 11 (.bool true) ?_
 rw [bytes_eq (by omega) (fun j hj => hz j (by omega))]; exact ⟨rfl, hB_2⟩
theorem slices_EqualBN (p q : Option Addr) (c d m n : Nat) (a b : List UInt8) (w : World) (hm : a.length = m) (hn : b.length = n) (hl : m ≤ 100000000) (h : Bys w (.slice p m c) a) (h2 : Bys w (.slice q n d) b) : Calls Tryz.prog 112 #[.slice p m c, .slice q n d] w (Ret (.bool (a == b)) w) := by
  subst hm hn; exact slices_EqualB p q c d a b w hl h h2
set_option maxRecDepth 100000 in
set_option maxHeartbeats 2000000 in
theorem Pack_4s (p : Option Addr) (c : Nat) (N : List Int) (w : World) (hn2 : N.length ≤ 1000) (hN : ∀ i, i < N.length → 0 ≤ N.getD i 0 ∧ N.getD i 0 < 4294967296) (hF : Sts fldC w (.slice p N.length c) N) :
    Calls Tryz.prog 50 #[.slice p N.length c] w (RetS (fun w' r => ∃ q d, r = .tuple #[.slice q (N.length * 4) d, .int .i64 0] ∧ w'.ownsRow w.heap.size 5 1 (.slice q (N.length * 4) d) (N.length * 4) ((numsB N).map bv)) w) := by
 refine zin 32 Tryz.func50 ?_
 have hB := Below.refl w.heap.size w
 refine zl 20 32 (fun zm zkv V => ∃ (i m : Nat) (q : Option Addr) (d : Nat), zkv = [(4, .slice q m d), (7, .slice p N.length c), (8, .int .i64 (↑N.length : Int)), (9, .int .i64 (↑i : Int))] ∧ zm = N.length - ((↑i : Int)).toNat ∧ Below w.heap.size w V ∧ V.ownsRow w.heap.size 5 1 (.slice q m d) m ((numsB (N.take i)).map bv) ∧ i ≤ N.length ∧ m = i * 4) ⟨0, 0, _, _, rfl, rfl, hB, World.ownsRow_nil _ _ _ _, Nat.zero_le _, rfl⟩ ?_
 rintro _ _ W1 ⟨i, m, q, d, rfl, rfl, hB_1, ho, hi, hm⟩ J1 hJ1 r1
 refine xid 6 ((↑i : Int) < (↑N.length : Int)) (fun hc2 => ?_) (fun hc2 => ?_)
 · refine xx 6 _ N.length i 2 (Sts.cell hF fldC_len 0 (k := i) (i := 0) (by omega) rfl).1 ?_
   refine xlv 0 (Sts.rp (k := i) (hF.below hB_1) fldC_len 0 (by omega) (by decide)) ?_
   refine xa 0 [.int .i64 0, .int .i64 0] 122 fun b3 W3 n3 => ?_
   have g3 := n3.ge hB_1
   refine xsv 0 n3.blk [.int .i64 4, .int .i64 (N.getD i 0)] fun W4 u4 k4 => ?_
   refine xb 6 0 k4 ?_
   refine xr 0 (args := #[.int .i64 4]) (known_4 _) fun W5 hb5 => ?_
   have k4'1 := k4.below hb5
   refine xb 10 1 k4'1 ?_
   refine xb 1 0 k4'1 ?_
   refine xr 0 (args := #[.int .i64 (N.getD i 0), .int .i64 4]) (fits_4 (N.getD i 0) (hN i (by omega)).1 (hN i (by omega)).2 _) fun W6 hb6 => ?_
   have k4'2 := k4'1.below hb6
   refine xb 9 1 k4'2 ?_
   refine xb 1 0 k4'2 ?_
   refine xc 0 (args := #[.int .i64 (N.getD i 0), .int .i64 4]) (bytes_4 (N.getD i 0) (hN i (by omega)).1 _) ?_
   rintro _ W7 ⟨_, rfl, hb7, h2⟩
   have hs7 := (Bl.next (Bl.next (u4.below (Bl.next hB_1 n3.below) g3) hb5) hb6).size
   have h2'1 := own_mono h2 hs7
   unfold OwnB at h2'1
   rw [leB_len] at h2'1
   obtain ⟨p2, c2, rfl⟩ := (own_sl h2'1).slice
   have ho'1 := own_below (own_below (own_below (u4.own2 (own_below ho n3.below) n3.blk (by decide)) hb5) hb6) hb7
   have hB'1 := Bl.next (Bl.next (Bl.next (u4.below (Bl.next hB_1 n3.below) g3) hb5) hb6) hb7
   refine xbi 0 fun _ _ _ _ zJ zQ zo zx zy zK => op_app (m := 4) (news := (leB (N.getD i 0) 4).map bv) (.int .u8 0) 1 1 (m + 4) (((numsB (N.take (i + 1))).map bv)) zo Tryz.underlying22 (by kernel_rfl) rfl (by decide) zx ho'1 zy (own_sl h2'1) (by simp [leB_len]) (bv_one _) (by unfold maxLen; omega) (by omega) hB'1.size (by rfl) (by rw [numsB_take (by omega), List.map_append]) fun px8 cx8 W8 o8 hg8 hb8 => ?_
   refine zK _ _ ?_
   refine xwm 5 ((↑i : Int) + 1) (↑(i + 1) : Int) ?_
   have hB'2 := hB'1.trans hb8
   exact ze 2 (hJ1 _ _ _ ⟨i + 1, _, _, _, rfl, rfl, hB'2, o8, by omega, by omega⟩ (by omega))
 refine xe 13 (.tuple #[.slice q m d, .int .i64 0]) ?_
 obtain rfl : i = N.length := by omega
 rw [List.take_length] at ho
 subst hm
 exact ⟨_, rfl, hB_1, _, _, rfl, ho⟩
theorem sup_put3 (s : Sup) : ((magicB ++ List.replicate 236 (0 : UInt8)).map bv).take 8 ++ (numsB (1 :: supN s)).map bv ++ ((magicB ++ List.replicate 236 (0 : UInt8)).map bv).drop (8 + 48) = (supB s).map bv := by
  unfold supB
  rw [List.map_append (l₁ := magicB ++ numsB (1 :: supN s)), List.map_append (l₁ := magicB) (l₂ := numsB (1 :: supN s))]
  congr 1
theorem supN_bd {s : Sup} (h : rightS s = true) : ∀ i, i < (1 :: supN s).length → 0 ≤ (1 :: supN s).getD i 0 ∧ (1 :: supN s).getD i 0 < 4294967296 := by
  unfold rightS at h
  simp only [Bool.and_eq_true, decide_eq_true_iff, Bool.true_and] at h
  intro i hi
  have hi' : i < 12 := hi
  obtain rfl | rfl | rfl | rfl | rfl | rfl | rfl | rfl | rfl | rfl | rfl | rfl : i = 0 ∨ i = 1 ∨ i = 2 ∨ i = 3 ∨ i = 4 ∨ i = 5 ∨ i = 6 ∨ i = 7 ∨ i = 8 ∨ i = 9 ∨ i = 10 ∨ i = 11 := by omega
  all_goals simp [supN, List.getD]
  all_goals omega
set_option maxRecDepth 100000 in
set_option maxHeartbeats 1000000 in
theorem sup_Put_bad (s : Sup) (w : World) (hb0 : 0 ≤ s.blocks) (hb1 : s.blocks < 9223372036854775808) (hr : rightS s = false) :
    Calls Tryz.prog 111 #[.agg #[.int .i64 s.tx, .int .i64 s.time, .int .i64 s.unit, .int .i64 s.data, .int .i64 s.blocks, .int .i64 s.top, .int .i64 s.details, .int .i64 s.dslots, .int .i64 s.dover, .int .i64 s.mindex, .int .i64 s.mover]] w (Ret (.tuple #[.slice none 0 0, .int .i64 1]) w) := by
 refine zin 28 Tryz.func111 ?_
 refine xa 2 [.int .i64 s.tx, .int .i64 s.time, .int .i64 s.unit, .int .i64 s.data, .int .i64 s.blocks, .int .i64 s.top, .int .i64 s.details, .int .i64 s.dslots, .int .i64 s.dover, .int .i64 s.mindex, .int .i64 s.mover] 75 fun b1 W1 n1 => ?_
 refine xlv 7 n1.blk.rp ?_
 refine xr 0 (args := #[.agg #[.int .i64 s.tx, .int .i64 s.time, .int .i64 s.unit, .int .i64 s.data, .int .i64 s.blocks, .int .i64 s.top, .int .i64 s.details, .int .i64 s.dslots, .int .i64 s.dover, .int .i64 s.mindex, .int .i64 s.mover]]) (sup_Right s _ hb0 hb1) fun W2 hb2 => ?_
 refine xk 3 (show (!(rightS s) : Bool) = true from by rw [hr]; rfl) ?_
 have hB := Bl.next n1.below hb2
 exact xe 8 (.tuple #[.slice none 0 0, .int .i64 1]) ⟨rfl, hB⟩
set_option maxRecDepth 100000 in
set_option maxHeartbeats 4000000 in
theorem sup_Put_ok (s : Sup) (w : World) (hb0 : 0 ≤ s.blocks) (hb1 : s.blocks < 9223372036854775808) (hr : rightS s = true) :
    Calls Tryz.prog 111 #[.agg #[.int .i64 s.tx, .int .i64 s.time, .int .i64 s.unit, .int .i64 s.data, .int .i64 s.blocks, .int .i64 s.top, .int .i64 s.details, .int .i64 s.dslots, .int .i64 s.dover, .int .i64 s.mindex, .int .i64 s.mover]] w (RetS (fun w' r => ∃ p c, r = .tuple #[.slice p 244 c, .int .i64 0] ∧ w'.ownsRow w.heap.size 5 1 (.slice p 244 c) 244 ((supB s).map bv)) w) := by
 have hN := supN_bd hr
 refine zin 28 Tryz.func111 ?_
 refine xa 2 [.int .i64 s.tx, .int .i64 s.time, .int .i64 s.unit, .int .i64 s.data, .int .i64 s.blocks, .int .i64 s.top, .int .i64 s.details, .int .i64 s.dslots, .int .i64 s.dover, .int .i64 s.mindex, .int .i64 s.mover] 75 fun b1 W1 n1 => ?_
 refine xlv 7 n1.blk.rp ?_
 refine xr 0 (args := #[.agg #[.int .i64 s.tx, .int .i64 s.time, .int .i64 s.unit, .int .i64 s.data, .int .i64 s.blocks, .int .i64 s.top, .int .i64 s.details, .int .i64 s.dslots, .int .i64 s.dover, .int .i64 s.mindex, .int .i64 s.mover]]) (sup_Right s _ hb0 hb1) fun W2 hb2 => ?_
 refine xk 3 (show (!(rightS s) : Bool) = false from by rw [hr]; rfl) ?_
 refine xbs 5 1 [.int .i64 4, .int .i64 1] 122 fun b3 W3 n3 => ?_
 refine xa 0 [.slice none 0 0] 178 fun b4 W4 n4 => ?_
 refine xs 0 n4.blk [.slice (some ⟨b3, 0, none⟩) 1 1] fun W5 u5 k5 => ?_
 have g4 := n4.ge (Bl.next (Bl.next n1.below hb2) n3.below)
 have k3 := u5.blkT (n3.blk.below n4.below) n4.blk (by decide)
 have g3 := n3.ge (Bl.next n1.below hb2)
 have hr0_ : World.ownsRow W5 w.heap.size 122 2 (.slice (some ⟨b3, 0, none⟩) 1 1) 1 (([1] : List Int).flatMap fldC) := own_of_blk (size := 2) (n := 1) k3 g3 rfl (by decide)
 have hB := u5.below (Bl.next (Bl.next (Bl.next n1.below hb2) n3.below) n4.below) g4
 have k1'1 := u5.blkT (((n1.blk.below hb2).below n3.below).below n4.below) n4.blk (by decide)
 refine xc 5 (args := #[.pointer (some ⟨b1, 0, none⟩), .func (.func 148) #[] #[.pointer (some ⟨b4, 0, none⟩)]]) (sup_each_put w.heap.size w.heap.size b1 b4 s _ 1 _ (Nat.le_refl _) hB.size hB.size g4 hb0 hb1 k1'1 k5 hr0_) ?_
 rintro _ W6 ⟨u6, p12, c12, rfl, hb6, hO6, kL6, hr12⟩
 refine xb 4 0 kL6 ?_
 refine xc 0 (args := #[.slice p12 12 c12]) (Pack_4s p12 c12 (1 :: supN s) _ (show 12 ≤ 1000 by decide) hN (own_sl hr12)) ?_
 rintro _ W7 ⟨_, rfl, hb7, q2, d2, rfl, h2⟩
 have hs7 := (hB.trans hb6).size
 have h2'1 := own_mono h2 hs7
 replace h2 : World.ownsRow _ _ _ _ (.slice q2 48 d2) 48 ((numsB (1 :: supN s)).map bv) := h2'1
 have hB'1 := Bl.next (hB.trans hb6) hb7
 have hF8 := hB'1
 refine xmk 9 fun _ _ _ _ zJ zQ zo zx zy zK => op_make 244 (.int .u8 0) 1 1 ((List.replicate 244 (0 : UInt8)).map bv) zo zx zy Tryz.underlying22 (by kernel_rfl) rfl (by omega) (by omega) (zerosB 244) fun b9 W9 n9 => ?_
 refine zK _ _ ?_
 have o9 := own_of_blk (size := 1) (n := 244) n9.blk (n9.ge (Below.refl W7.heap.size _)) (by rw [List.length_map, List.length_replicate]) (by unfold maxLen; omega)
 refine xbi 7 (t2 := 9) fun _ _ _ _ zJ zQ zo zx zy zK => op_copyS (dLen := 244) (dCap := 244) (off := 0) ([83, 67, 65, 78, 84, 76, 73, 78]) (((magicB ++ List.replicate 236 (0 : UInt8)).map bv)) zo Tryz.underlying22 (by kernel_rfl) zx zy o9 (by decide) (by decide) n9.below.size (by rfl) fun W10 o10 hg10 hb10 => ?_
 refine zK _ _ ?_
 have h2_hF8 := own_sl h2
 have hB'2 := n9.below.trans hb10
 refine xbi 2 (t2 := 22) fun _ _ _ _ zJ zQ zo zx zy zK => op_copy (dLen := 236) (dCap := 236) (off := 8) 48 ((numsB (1 :: supN s)).map bv) (((supB s).map bv)) zo Tryz.underlying22 (by kernel_rfl) zx zy (h2_hF8.below hB'2) o10 (by rw [List.length_map, numsB_len]; rfl) (by decide) (by decide) (bv_one _) hB'2.size (sup_put3 s) fun W11 o11 hg11 hb11 => ?_
 refine zK _ _ ?_
 have hB'3 := hB'2.trans hb11
 have hT12 : Below W7.heap.size W7 W11 := hB'3
 have hs12 : w.heap.size ≤ W7.heap.size := hF8.size
 have hB := Bl.next hF8 hT12
 have o11'1 := own_mono o11 hs12
 exact xe 10 (.tuple #[.slice (some ⟨b9, 0, none⟩) 244 244, .int .i64 0]) ⟨_, rfl, hB, _, _, rfl, o11'1⟩
end Go.Proofs.YtinegkldgjhnpaaGreatDoor
namespace Go.Proofs.YtinegkldgjhnpaaGreatDoor
open Go.RowKit Go.Extern.Stop Go.Stop Go.Extern
set_option linter.unusedVariables false
attribute [local irreducible] wpList wpAnyH Code.wp Oper.wp Go

theorem readS_bd (l : List UInt8) : 0 ≤ (readS l).blocks ∧ (readS l).blocks < 9223372036854775808 := by
  have := rawN_lt4 l 28 4 (by decide)
  show 0 ≤ (rawN l 28 4 : Int) ∧ (rawN l 28 4 : Int) < 9223372036854775808
  omega
theorem sup_PutP (s : Sup) (w : World) (hb : 0 ≤ s.blocks ∧ s.blocks < 9223372036854775808) : Calls Tryz.prog 111 #[.agg #[.int .i64 s.tx, .int .i64 s.time, .int .i64 s.unit, .int .i64 s.data, .int .i64 s.blocks, .int .i64 s.top, .int .i64 s.details, .int .i64 s.dslots, .int .i64 s.dover, .int .i64 s.mindex, .int .i64 s.mover]] w (fun e w' =>
    (rightS s = false ∧ e = .returned (.tuple #[.slice none 0 0, .int .i64 1]) ∧ Below w.heap.size w w') ∨
    (rightS s = true ∧ ∃ p c, e = .returned (.tuple #[.slice p 244 c, .int .i64 0]) ∧ Below w.heap.size w w' ∧ w'.ownsRow w.heap.size 5 1 (.slice p 244 c) 244 ((supB s).map bv))) := by
  cases hr : rightS s with
  | false =>
    refine (sup_Put_bad s w hb.1 hb.2 hr).mono ?_
    rintro e W ⟨rfl, h⟩
    exact .inl ⟨rfl, rfl, h⟩
  | true =>
    refine (sup_Put_ok s w hb.1 hb.2 hr).mono ?_
    rintro e W ⟨_, rfl, h, p, c, rfl, ho⟩
    exact .inr ⟨rfl, p, c, rfl, h, ho⟩
def SupP (l : List UInt8) (w : World) (e : Ending) (w' : World) : Prop :=
  (supOk l = false ∧ e = .returned (.tuple #[.agg #[.int .i64 0, .int .i64 0, .int .i64 0, .int .i64 0, .int .i64 0, .int .i64 0, .int .i64 0, .int .i64 0, .int .i64 0, .int .i64 0, .int .i64 0], .int .i64 7]) ∧ Below w.heap.size w w') ∨ (supOk l = true ∧ e = .returned (.tuple #[.agg #[.int .i64 ((readS l).tx), .int .i64 ((readS l).time), .int .i64 ((readS l).unit), .int .i64 ((readS l).data), .int .i64 ((readS l).blocks), .int .i64 ((readS l).top), .int .i64 ((readS l).details), .int .i64 ((readS l).dslots), .int .i64 ((readS l).dover), .int .i64 ((readS l).mindex), .int .i64 ((readS l).mover)], .int .i64 0]) ∧ Below w.heap.size w w')
theorem supOk_eq {l : List UInt8} (hl : l.length = 244) : supOk l = ((supB (readS l) == l) && rightS (readS l)) := by rw [supB_eq hl]; rfl
set_option maxRecDepth 100000 in
set_option maxHeartbeats 4000000 in
theorem sup_Read (a : Option Addr) (c : Nat) (l : List UInt8) (w : World) (hl : l.length = 244) (h : Bys w (.slice a 244 c) l) :
    Calls Tryz.prog 71 #[.slice a 244 c] w (SupP l w) := by
 refine zin 29 Tryz.func71 ?_
 refine xa 2 [.slice a 244 c] 22 fun b1 W1 n1 => ?_
 refine xa 0 [.int .i64 0, .int .i64 0, .int .i64 0, .int .i64 0, .int .i64 0, .int .i64 0, .int .i64 0, .int .i64 0, .int .i64 0, .int .i64 0, .int .i64 0] 75 fun b2 W2 n2 => ?_
 refine xa 5 [.int .i64 0, .int .i64 0, .int .i64 0, .int .i64 0, .int .i64 0, .int .i64 0, .int .i64 0, .int .i64 0, .int .i64 0, .int .i64 0, .int .i64 0] 75 fun b3 W3 n3 => ?_
 have d3_b2 := n3.ne n2.blk
 have k1 := (n1.blk.below n2.below).below n3.below
 refine xb 5 0 k1 ?_
 refine xa 9 [.int .i64 0] 3 fun b4 W4 n4 => ?_
 refine xs 0 n4.blk [.int .i64 12] fun W5 u5 k5 => ?_
 have g4 := n4.ge (Bl.next (Bl.next n1.below n2.below) n3.below)
 have k2'1 := u5.blkT ((n2.blk.below n3.below).below n4.below) n4.blk (by decide)
 have kR0 := k2'1
 have hB := u5.below (Bl.next (Bl.next (Bl.next n1.below n2.below) n3.below) n4.below) g4
 have k3 := u5.blkT (n3.blk.below n4.below) n4.blk (by decide)
 have k1'1 := u5.blkT (k1.below n4.below) n4.blk (by decide)
 have g3 := n3.ge (Bl.next n1.below n2.below)
 refine xc 5 (args := #[.pointer (some ⟨b3, 0, none⟩), .func (.func 110) #[] #[.pointer (some ⟨b1, 0, none⟩), .pointer (some ⟨b4, 0, none⟩)]]) (sup_each_read b3 b3 b1 b4 a c l _ (by have := n3.at_; have := hB.size; have q := (k3).lt; omega) (Nat.le_refl _) (by have q1 := n3.at_; have q2 := n3.size; have q3 := n4.at_; omega) k3 k1'1 k5 hl (fun W q => h.below (hB.trans (q.mono g3)))) ?_
 rintro _ W6 ⟨u6, rfl, hb6, hO6, kS6⟩
 have kR6 := kR0.below' hb6 (by have q1 := n2.at_; have q2 := n2.size; have q3 := n3.at_; omega)
 replace kS6 : Blk _ _ [.int .i64 ((readS l).tx), .int .i64 ((readS l).time), .int .i64 ((readS l).unit), .int .i64 ((readS l).data), .int .i64 ((readS l).blocks), .int .i64 ((readS l).top), .int .i64 ((readS l).details), .int .i64 ((readS l).dslots), .int .i64 ((readS l).dover), .int .i64 ((readS l).mindex), .int .i64 ((readS l).mover)] _ := kS6
 refine xlv 5 kS6.rp ?_
 refine xc 0 (args := #[.agg #[.int .i64 ((readS l).tx), .int .i64 ((readS l).time), .int .i64 ((readS l).unit), .int .i64 ((readS l).data), .int .i64 ((readS l).blocks), .int .i64 ((readS l).top), .int .i64 ((readS l).details), .int .i64 ((readS l).dslots), .int .i64 ((readS l).dover), .int .i64 ((readS l).mindex), .int .i64 ((readS l).mover)]]) (sup_PutP (readS l) _ (readS_bd l)) ?_
 rintro e W7 hq7
 rcases hq7 with ⟨hrt, rfl, hb7⟩ | ⟨hrt, p4, c4, rfl, hb7, h4⟩
 · have kR6'1 := kR6.below hb7
   refine xsv 23 kR6'1 [.int .i64 0, .int .i64 0, .int .i64 0, .int .i64 0, .int .i64 0, .int .i64 0, .int .i64 0, .int .i64 0, .int .i64 0, .int .i64 0, .int .i64 0] fun W8 u8 k8 => ?_
   have g2 := n2.ge n1.below
   have hB'1 := u8.below (Bl.next (hB.trans (hb6.mono g3)) hb7) g2
   exact xec 5 k8 (.tuple #[.agg #[.int .i64 0, .int .i64 0, .int .i64 0, .int .i64 0, .int .i64 0, .int .i64 0, .int .i64 0, .int .i64 0, .int .i64 0, .int .i64 0, .int .i64 0], .int .i64 7]) (.inl ⟨by rw [supOk_eq hl, hrt]; exact Bool.and_false _, rfl, hB'1⟩)
 have hs7 := (hB.trans (hb6.mono g3)).size
 have k1'2 := (k1'1.only hO6 (by decide)).below hb7
 refine xb 13 0 k1'2 ?_
 have h4'1 := own_mono h4 hs7
 have hB'2 := Bl.next (hB.trans (hb6.mono g3)) hb7
 refine xr 0 (args := #[.slice p4 244 c4, .slice a 244 c]) (slices_EqualBN p4 a c4 c 244 244 (supB (readS l)) l _ (supB_len _) hl (by decide) (bys_of (own_sl h4'1) (supB_len _)) (h.below hB'2)) fun W9 hb9 => ?_
 refine xi 4 (!(supB (readS l) == l)) (fun hc10 => ?_) (fun hc10 => ?_)
 · have heq : (supB (readS l) == l) = false := by simpa using hc10
   have kR6'2 := (kR6.below hb7).below hb9
   refine xsv 3 kR6'2 [.int .i64 0, .int .i64 0, .int .i64 0, .int .i64 0, .int .i64 0, .int .i64 0, .int .i64 0, .int .i64 0, .int .i64 0, .int .i64 0, .int .i64 0] fun W11 u11 k11 => ?_
   have g2 := n2.ge n1.below
   have hB'3 := u11.below (Bl.next hB'2 hb9) g2
   exact xec 5 k11 (.tuple #[.agg #[.int .i64 0, .int .i64 0, .int .i64 0, .int .i64 0, .int .i64 0, .int .i64 0, .int .i64 0, .int .i64 0, .int .i64 0, .int .i64 0, .int .i64 0], .int .i64 7]) (.inl ⟨by rw [supOk_eq hl, heq]; rfl, rfl, hB'3⟩)
 have heq : (supB (readS l) == l) = true := by simpa using hc10
 have kS6'1 := (kS6.below hb7).below hb9
 refine xlv 4 kS6'1.rp ?_
 have kR6'3 := (kR6.below hb7).below hb9
 refine xsv 0 kR6'3 [.int .i64 ((readS l).tx), .int .i64 ((readS l).time), .int .i64 ((readS l).unit), .int .i64 ((readS l).data), .int .i64 ((readS l).blocks), .int .i64 ((readS l).top), .int .i64 ((readS l).details), .int .i64 ((readS l).dslots), .int .i64 ((readS l).dover), .int .i64 ((readS l).mindex), .int .i64 ((readS l).mover)] fun W12 u12 k12 => ?_
 have g2 := n2.ge n1.below
 have hB'4 := u12.below (Bl.next hB'2 hb9) g2
 exact xec 4 k12 (.tuple #[.agg #[.int .i64 ((readS l).tx), .int .i64 ((readS l).time), .int .i64 ((readS l).unit), .int .i64 ((readS l).data), .int .i64 ((readS l).blocks), .int .i64 ((readS l).top), .int .i64 ((readS l).details), .int .i64 ((readS l).dslots), .int .i64 ((readS l).dover), .int .i64 ((readS l).mindex), .int .i64 ((readS l).mover)], .int .i64 0]) (.inr ⟨by rw [supOk_eq hl, heq, hrt]; rfl, rfl, hB'4⟩)
def supTE (l : List UInt8) (n : Nat) : Int := if supOk l then (if (n : Int) < (readS l).blocks then 2 else 0) else 7
def superErr (l : List UInt8) : Int := if inE l 1 0 = 0 then supTE (inB l 0) (l.length / 256) else inE l 1 0
def Sup1P (l : List UInt8) (n : Nat) (w : World) (e : Ending) (w' : World) : Prop :=
  (supTE l n ≠ 0 ∧ ∃ s : Sup, e = .returned (.tuple #[.agg #[.int .i64 s.tx, .int .i64 s.time, .int .i64 s.unit, .int .i64 s.data, .int .i64 s.blocks, .int .i64 s.top, .int .i64 s.details, .int .i64 s.dslots, .int .i64 s.dover, .int .i64 s.mindex, .int .i64 s.mover], .int .i64 (supTE l n)]) ∧ Below w.heap.size w w') ∨ (supTE l n = 0 ∧ e = .returned (.tuple #[.agg #[.int .i64 ((readS l).tx), .int .i64 ((readS l).time), .int .i64 ((readS l).unit), .int .i64 ((readS l).data), .int .i64 ((readS l).blocks), .int .i64 ((readS l).top), .int .i64 ((readS l).details), .int .i64 ((readS l).dslots), .int .i64 ((readS l).dover), .int .i64 ((readS l).mindex), .int .i64 ((readS l).mover)], .int .i64 0]) ∧ Below w.heap.size w w')
def BlkSupP (l : List UInt8) (w : World) (e : Ending) (w' : World) : Prop :=
  (superErr l ≠ 0 ∧ ∃ b, e = .returned (.tuple #[.agg #[.int .i64 0, .int .i64 0, .int .i64 0, .int .i64 0, .int .i64 0, .int .i64 0, .int .i64 0, .int .i64 0, .int .i64 0, .int .i64 0, .int .i64 0], .iface 67 (.pointer (some ⟨b, 0, none⟩))]) ∧ Below w.heap.size w w' ∧ ErrV w' [some 0] (some (superErr l)) (.iface 67 (.pointer (some ⟨b, 0, none⟩)))) ∨
  (superErr l = 0 ∧ e = .returned (.tuple #[.agg #[.int .i64 ((readS (inB l 0)).tx), .int .i64 ((readS (inB l 0)).time), .int .i64 ((readS (inB l 0)).unit), .int .i64 ((readS (inB l 0)).data), .int .i64 ((readS (inB l 0)).blocks), .int .i64 ((readS (inB l 0)).top), .int .i64 ((readS (inB l 0)).details), .int .i64 ((readS (inB l 0)).dslots), .int .i64 ((readS (inB l 0)).dover), .int .i64 ((readS (inB l 0)).mindex), .int .i64 ((readS (inB l 0)).mover)], .nilIface]) ∧ Below w.heap.size w w')
def supZ : Sup := ⟨0, 0, 0, 0, 0, 0, 0, 0, 0, 0, 0⟩
set_option maxRecDepth 100000 in
set_option maxHeartbeats 1000000 in
theorem super_1 (B b bm : Nat) (pi : Option Addr) (ni ci : Nat) (li : List UInt8) (a : Option Addr) (c : Nat) (l : List UInt8) (w : World) (hI : ImgR B b pi ni ci li w) (km : Blk w bm [.pointer (some ⟨b, 0, none⟩)] 31) (hl : l.length = 244) (h : Bys w (.slice a 244 c) l) :
    Calls Tryz.prog 70 #[.slice a 244 c, .pointer (some ⟨bm, 0, none⟩)] w (Sup1P l (ni / 256) w) := by
 have hni := hI.hn
 refine zin 24 Tryz.func70 ?_
 refine xa 2 [.int .i64 0, .int .i64 0, .int .i64 0, .int .i64 0, .int .i64 0, .int .i64 0, .int .i64 0, .int .i64 0, .int .i64 0, .int .i64 0, .int .i64 0] 75 fun b1 W1 n1 => ?_
 refine xc 6 (args := #[.slice a 244 c]) (sup_Read a c l _ hl (h.below n1.below)) ?_
 rintro e W2 hq2
 rcases hq2 with ⟨hok, rfl, hb2⟩ | ⟨hok, rfl, hb2⟩
 · refine xa 3 [.int .i64 0, .int .i64 0, .int .i64 0, .int .i64 0, .int .i64 0, .int .i64 0, .int .i64 0, .int .i64 0, .int .i64 0, .int .i64 0, .int .i64 0] 75 fun b3 W3 n3 => ?_
   have k1 := n1.blk.below hb2
   have d3_b1 := n3.ne k1
   have hB'1 := Bl.next n1.below hb2
   have g3 := n3.ge hB'1
   refine xsv 0 n3.blk [.int .i64 0, .int .i64 0, .int .i64 0, .int .i64 0, .int .i64 0, .int .i64 0, .int .i64 0, .int .i64 0, .int .i64 0, .int .i64 0, .int .i64 0] fun W4 u4 k4 => ?_
   refine xd 5 .z ?_
   have k4'1 := k4.below (below_drew W4)
   refine xlv (.r [0, 1, 2, 3, 4, 5, 6, 7, 8] 7) k4'1.rp ?_
   have k1'1 := (u4.blk (k1.below n3.below) (Ne.symm (Ne.symm d3_b1))).below (below_drew W4)
   refine xsv 1 k1'1 [.int .i64 0, .int .i64 0, .int .i64 0, .int .i64 0, .int .i64 0, .int .i64 0, .int .i64 0, .int .i64 0, .int .i64 0, .int .i64 0, .int .i64 0] fun W5 u5 k5 => ?_
   have g1 := n1.ge (Below.refl w.heap.size _)
   have hB'2 := u5.below (Bl.next (u4.below (Bl.next hB'1 n3.below) g3) (below_drew W4)) g1
   exact xec 4 k5 (.tuple #[.agg #[.int .i64 0, .int .i64 0, .int .i64 0, .int .i64 0, .int .i64 0, .int .i64 0, .int .i64 0, .int .i64 0, .int .i64 0, .int .i64 0, .int .i64 0], .int .i64 7]) (.inl ⟨by unfold supTE; rw [hok, if_neg (by decide)]; decide, supZ, by unfold supTE; rw [hok, if_neg (by decide)]; rfl, hB'2⟩)
 refine xa 3 [.int .i64 0, .int .i64 0, .int .i64 0, .int .i64 0, .int .i64 0, .int .i64 0, .int .i64 0, .int .i64 0, .int .i64 0, .int .i64 0, .int .i64 0] 75 fun b6 W6 n6 => ?_
 have k1 := n1.blk.below hb2
 have d6_b1 := n6.ne k1
 have hB'3 := Bl.next n1.below hb2
 have g6 := n6.ge hB'3
 refine xsv 0 n6.blk [.int .i64 ((readS l).tx), .int .i64 ((readS l).time), .int .i64 ((readS l).unit), .int .i64 ((readS l).data), .int .i64 ((readS l).blocks), .int .i64 ((readS l).top), .int .i64 ((readS l).details), .int .i64 ((readS l).dslots), .int .i64 ((readS l).dover), .int .i64 ((readS l).mindex), .int .i64 ((readS l).mover)] fun W7 u7 k7 => ?_
 refine xd 5 .z ?_
 have k7'1 := k7.below (below_drew W7)
 refine xb (.e [0, 1, 2, 3] 4) 4 k7'1 ?_
 have km'1 := (u7.blkT (((km.below n1.below).below hb2).below n6.below) n6.blk (by decide)).below (below_drew W7)
 refine xb (.e [] 5) 0 km'1 ?_
 have hB'4 := Bl.next (u7.below (Bl.next hB'3 n6.below) g6) (below_drew W7)
 refine xr (.o [] 6) (args := #[.pointer (some ⟨b, 0, none⟩)]) (image_Blocks b _ ni ci _ (hI.below hB'4).blk (by omega)) fun W8 hb8 => ?_
 refine xid (.r [7, 8] 2) ((readS l).blocks > (↑(ni / 256) : Int)) (fun hc9 => ?_) (fun hc9 => ?_)
 · have k7'2 := k7'1.below hb8
   refine xlv 2 k7'2.rp ?_
   have k1'2 := ((u7.blk (k1.below n6.below) (Ne.symm (Ne.symm d6_b1))).below (below_drew W7)).below hb8
   refine xsv 0 k1'2 [.int .i64 ((readS l).tx), .int .i64 ((readS l).time), .int .i64 ((readS l).unit), .int .i64 ((readS l).data), .int .i64 ((readS l).blocks), .int .i64 ((readS l).top), .int .i64 ((readS l).details), .int .i64 ((readS l).dslots), .int .i64 ((readS l).dover), .int .i64 ((readS l).mindex), .int .i64 ((readS l).mover)] fun W10 u10 k10 => ?_
   have g1 := n1.ge (Below.refl w.heap.size _)
   have hB'5 := u10.below (Bl.next hB'4 hb8) g1
   exact xec 5 k10 (.tuple #[.agg #[.int .i64 ((readS l).tx), .int .i64 ((readS l).time), .int .i64 ((readS l).unit), .int .i64 ((readS l).data), .int .i64 ((readS l).blocks), .int .i64 ((readS l).top), .int .i64 ((readS l).details), .int .i64 ((readS l).dslots), .int .i64 ((readS l).dover), .int .i64 ((readS l).mindex), .int .i64 ((readS l).mover)], .int .i64 2]) (.inl ⟨by unfold supTE; rw [if_pos hok, if_pos (by omega)]; decide, readS l, by unfold supTE; rw [if_pos hok, if_pos (by omega)], hB'5⟩)
 have k7'3 := k7'1.below hb8
 refine xlv 4 k7'3.rp ?_
 have k1'3 := ((u7.blk (k1.below n6.below) (Ne.symm (Ne.symm d6_b1))).below (below_drew W7)).below hb8
 refine xsv 1 k1'3 [.int .i64 ((readS l).tx), .int .i64 ((readS l).time), .int .i64 ((readS l).unit), .int .i64 ((readS l).data), .int .i64 ((readS l).blocks), .int .i64 ((readS l).top), .int .i64 ((readS l).details), .int .i64 ((readS l).dslots), .int .i64 ((readS l).dover), .int .i64 ((readS l).mindex), .int .i64 ((readS l).mover)] fun W11 u11 k11 => ?_
 have g1 := n1.ge (Below.refl w.heap.size _)
 have hB'6 := u11.below (Bl.next hB'4 hb8) g1
 exact xec 4 k11 (.tuple #[.agg #[.int .i64 ((readS l).tx), .int .i64 ((readS l).time), .int .i64 ((readS l).unit), .int .i64 ((readS l).data), .int .i64 ((readS l).blocks), .int .i64 ((readS l).top), .int .i64 ((readS l).details), .int .i64 ((readS l).dslots), .int .i64 ((readS l).dover), .int .i64 ((readS l).mindex), .int .i64 ((readS l).mover)], .int .i64 0]) (.inr ⟨by unfold supTE; rw [if_pos hok, if_neg (by omega)], rfl, hB'6⟩)
set_option maxRecDepth 100000 in
set_option maxHeartbeats 1000000 in
theorem readSuper (B b : Nat) (p : Option Addr) (n c : Nat) (l : List UInt8) (w : World) (hI : ImgR B b p n c l w) (bt : Nat) (kt : Blk w bt [.pointer (some ⟨b, 0, none⟩)] 31) :
    Calls Tryz.prog 69 #[.pointer (some ⟨b, 0, none⟩), .int .i64 0, .int .i64 1, .func (.func 70) #[] #[.pointer (some ⟨bt, 0, none⟩)]] w (BlkSupP l w) := by
 refine zin 56 Tryz.func69 ?_
 refine xa 2 [.int .i64 0, .int .i64 0, .int .i64 0, .int .i64 0, .int .i64 0, .int .i64 0, .int .i64 0, .int .i64 0, .int .i64 0, .int .i64 0, .int .i64 0] 75 fun b1 W1 n1 => ?_
 refine xa 5 [.int .i64 0, .int .i64 0, .int .i64 0, .int .i64 0, .int .i64 0, .int .i64 0, .int .i64 0, .int .i64 0, .int .i64 0, .int .i64 0, .int .i64 0] 75 fun b2 W2 n2 => ?_
 have d2_b1 := n2.ne n1.blk
 have hB := Bl.next n1.below n2.below
 refine xc 6 (args := #[.pointer (some ⟨b, 0, none⟩), .int .i64 0]) (image_Read B b p n c l 0 _ (hI.below hB)) ?_
 rintro e W3 hq3
 rcases hq3 with ⟨ho, vr, rfl, hb3⟩ | ⟨j, hk, hj, p2, c2, rfl, hb3, ho⟩
 · refine xd 16 (.t w.heap.size [75]) ?_
   refine xm2 (.b [1, 2, 3]) 0 4 ?_ ?_
   · have k2 := (n2.blk.below hb3).below (below_drew W3)
     refine xlv 0 k2.rp ?_
     refine yc (.o [] 4) (args := #[.int .i64 0, .iface 53 (.int .i64 3)]) (.t w.heap.size [75]) (block_told 0 3 _) ?_
     rintro _ W4 ⟨_, rfl, hb4, hv4⟩
     refine ⟨(SF.of_below _ hb4), ?_⟩
     rw [if_neg (by decide), if_neg (by decide)] at hv4
     have hq4 := hv4
     obtain ⟨bf4, vf4, rfl, _, _⟩ := hq4
     have k1'1 := (((n1.blk.below n2.below).below hb3).below (below_drew W3)).below hb4
     have g1 := n1.ge (Below.refl w.heap.size _)
     refine ysv (.o [] 5) k1'1 [.int .i64 0, .int .i64 0, .int .i64 0, .int .i64 0, .int .i64 0, .int .i64 0, .int .i64 0, .int .i64 0, .int .i64 0, .int .i64 0, .int .i64 0] (.t w.heap.size [75]) fun W5 u5 k5 => ⟨(sft_upd u5 k1'1 g1 (by decide)), ?_⟩
     have hB'1 := u5.below (Bl.next (Bl.next (Bl.next hB hb3) (below_drew W3)) hb4) g1
     have hv4'1 := hv4.upd u5 k1'1 (by decide)
     refine xec (.r [6] 4) k5 (.tuple #[.agg #[.int .i64 0, .int .i64 0, .int .i64 0, .int .i64 0, .int .i64 0, .int .i64 0, .int .i64 0, .int .i64 0, .int .i64 0, .int .i64 0, .int .i64 0], .iface 67 (.pointer (some ⟨bf4, 0, none⟩))]) ?_
     have he : superErr l = 3 := by unfold superErr; rw [inE_out hI.len ho]; rfl
     exact .inl ⟨by rw [he]; decide, _, rfl, hB'1, by rw [he]; exact hv4'1⟩
   refine yc 0 (args := #[.int .i64 0, .iface 53 (.int .i64 3)]) (.t w.heap.size [75]) (block_told 0 3 _) ?_
   rintro _ W6 ⟨_, rfl, hb6, hv6⟩
   refine ⟨(SF.of_below _ hb6), ?_⟩
   rw [if_neg (by decide), if_neg (by decide)] at hv6
   have hq6 := hv6
   obtain ⟨bf6, vf6, rfl, _, _⟩ := hq6
   have k2 := ((n2.blk.below hb3).below (below_drew W3)).below hb6
   refine xlv (.o [] 0) k2.rp ?_
   have k1'2 := (((n1.blk.below n2.below).below hb3).below (below_drew W3)).below hb6
   have g1 := n1.ge (Below.refl w.heap.size _)
   refine ysv (.o [] 5) k1'2 [.int .i64 0, .int .i64 0, .int .i64 0, .int .i64 0, .int .i64 0, .int .i64 0, .int .i64 0, .int .i64 0, .int .i64 0, .int .i64 0, .int .i64 0] (.t w.heap.size [75]) fun W7 u7 k7 => ⟨(sft_upd u7 k1'2 g1 (by decide)), ?_⟩
   have hB'2 := u7.below (Bl.next (Bl.next (Bl.next hB hb3) (below_drew W3)) hb6) g1
   have hv6'1 := hv6.upd u7 k1'2 (by decide)
   refine xec (.r [6] 4) k7 (.tuple #[.agg #[.int .i64 0, .int .i64 0, .int .i64 0, .int .i64 0, .int .i64 0, .int .i64 0, .int .i64 0, .int .i64 0, .int .i64 0, .int .i64 0, .int .i64 0], .iface 67 (.pointer (some ⟨bf6, 0, none⟩))]) ?_
   have he : superErr l = 3 := by unfold superErr; rw [inE_out hI.len ho]; rfl
   exact .inl ⟨by rw [he]; decide, _, rfl, hB'2, by rw [he]; exact hv6'1⟩
 have hs3 := (Bl.next n1.below n2.below).size
 have hj2 : j < l.length / 256 := by rw [hI.len]; exact hj
 have hlj := blkB_len hj2
 have he2 := inE_in (l := l) (kind := 1) hI.len hk hj
 have ho'1 := own_mono ho hs3
 refine xc 22 (args := #[.slice p2 256 c2, .int .i64 1, .int .i64 0]) (seal_OpenN 1 0 p2 256 c2 (blkB l j) _ hlj (bys_of (own_sl ho'1) hlj)) ?_
 rintro e W8 hq8
 rcases hq8 with ⟨hs, rfl, hb8⟩ | ⟨hs, p3, c3, rfl, hb8, h3⟩
 · refine xk 14 (show (((openE 1 0 (blkB l j)) != (0 : Int)) : Bool) = true from bne_iff_ne.2 hs) ?_
   refine xd 1 (.t w.heap.size [75]) ?_
   refine xm2 (.b [1, 2, 3]) 0 4 ?_ ?_
   · have k2 := ((n2.blk.below hb3).below hb8).below (below_drew W8)
     refine xlv 0 k2.rp ?_
     refine yc (.o [] 4) (args := #[.int .i64 0, .iface 53 (.int .i64 (openE 1 0 (blkB l j)))]) (.t w.heap.size [75]) (block_told 0 (openE 1 0 (blkB l j)) _) ?_
     rintro _ W9 ⟨_, rfl, hb9, hv9⟩
     refine ⟨(SF.of_below _ hb9), ?_⟩
     rw [if_neg hs, if_neg hs] at hv9
     have hq9 := hv9
     obtain ⟨bf9, vf9, rfl, _, _⟩ := hq9
     have k1'3 := ((((n1.blk.below n2.below).below hb3).below hb8).below (below_drew W8)).below hb9
     have g1 := n1.ge (Below.refl w.heap.size _)
     refine ysv (.o [] 5) k1'3 [.int .i64 0, .int .i64 0, .int .i64 0, .int .i64 0, .int .i64 0, .int .i64 0, .int .i64 0, .int .i64 0, .int .i64 0, .int .i64 0, .int .i64 0] (.t w.heap.size [75]) fun W10 u10 k10 => ⟨(sft_upd u10 k1'3 g1 (by decide)), ?_⟩
     have hB'3 := u10.below (Bl.next (Bl.next (Bl.next (Bl.next hB hb3) hb8) (below_drew W8)) hb9) g1
     have hv9'1 := hv9.upd u10 k1'3 (by decide)
     refine xec (.r [6] 4) k10 (.tuple #[.agg #[.int .i64 0, .int .i64 0, .int .i64 0, .int .i64 0, .int .i64 0, .int .i64 0, .int .i64 0, .int .i64 0, .int .i64 0, .int .i64 0, .int .i64 0], .iface 67 (.pointer (some ⟨bf9, 0, none⟩))]) ?_
     have he : superErr l = openE 1 0 (blkB l j) := by unfold superErr; rw [he2, if_neg hs]
     exact .inl ⟨by rw [he]; exact hs, _, rfl, hB'3, by rw [he]; exact hv9'1⟩
   refine yc 0 (args := #[.int .i64 0, .iface 53 (.int .i64 (openE 1 0 (blkB l j)))]) (.t w.heap.size [75]) (block_told 0 (openE 1 0 (blkB l j)) _) ?_
   rintro _ W11 ⟨_, rfl, hb11, hv11⟩
   refine ⟨(SF.of_below _ hb11), ?_⟩
   rw [if_neg hs, if_neg hs] at hv11
   have hq11 := hv11
   obtain ⟨bf11, vf11, rfl, _, _⟩ := hq11
   have k2 := (((n2.blk.below hb3).below hb8).below (below_drew W8)).below hb11
   refine xlv (.o [] 0) k2.rp ?_
   have k1'4 := ((((n1.blk.below n2.below).below hb3).below hb8).below (below_drew W8)).below hb11
   have g1 := n1.ge (Below.refl w.heap.size _)
   refine ysv (.o [] 5) k1'4 [.int .i64 0, .int .i64 0, .int .i64 0, .int .i64 0, .int .i64 0, .int .i64 0, .int .i64 0, .int .i64 0, .int .i64 0, .int .i64 0, .int .i64 0] (.t w.heap.size [75]) fun W12 u12 k12 => ⟨(sft_upd u12 k1'4 g1 (by decide)), ?_⟩
   have hB'4 := u12.below (Bl.next (Bl.next (Bl.next (Bl.next hB hb3) hb8) (below_drew W8)) hb11) g1
   have hv11'1 := hv11.upd u12 k1'4 (by decide)
   refine xec (.r [6] 4) k12 (.tuple #[.agg #[.int .i64 0, .int .i64 0, .int .i64 0, .int .i64 0, .int .i64 0, .int .i64 0, .int .i64 0, .int .i64 0, .int .i64 0, .int .i64 0, .int .i64 0], .iface 67 (.pointer (some ⟨bf11, 0, none⟩))]) ?_
   have he : superErr l = openE 1 0 (blkB l j) := by unfold superErr; rw [he2, if_neg hs]
   exact .inl ⟨by rw [he]; exact hs, _, rfl, hB'4, by rw [he]; exact hv11'1⟩
 have hs8 := (Bl.next hB hb3).size
 have h3'1 := own_mono h3 hs8
 have hin : ((blkB l j).drop 8).take 244 = inB l 0 := (inB_in hk).symm
 have hil := inB_len hI.len hk hj
 rw [hin] at h3'1
 have hB'5 := Bl.next (Bl.next hB hb3) hb8
 refine xc 21 (args := #[.slice p3 244 c3, .pointer (some ⟨bt, 0, none⟩)]) (super_1 B b bt p n c l p3 c3 (inB l 0) _ (hI.below hB'5) (kt.below hB'5) hil (bys_of (own_sl h3'1) hil)) ?_
 rintro e W13 hq13
 rcases hq13 with ⟨hz, s9, rfl, hb13⟩ | ⟨hz, rfl, hb13⟩
 · refine xa 3 [.int .i64 0, .int .i64 0, .int .i64 0, .int .i64 0, .int .i64 0, .int .i64 0, .int .i64 0, .int .i64 0, .int .i64 0, .int .i64 0, .int .i64 0] 75 fun b14 W14 n14 => ?_
   have k1'5 := (((n1.blk.below n2.below).below hb3).below hb8).below hb13
   have d14_b1 := n14.ne k1'5
   have k2 := ((n2.blk.below hb3).below hb8).below hb13
   have d14_b2 := n14.ne k2
   have hB'6 := Bl.next hB'5 hb13
   have g14 := n14.ge hB'6
   refine xsv 0 n14.blk [.int .i64 s9.tx, .int .i64 s9.time, .int .i64 s9.unit, .int .i64 s9.data, .int .i64 s9.blocks, .int .i64 s9.top, .int .i64 s9.details, .int .i64 s9.dslots, .int .i64 s9.dover, .int .i64 s9.mindex, .int .i64 s9.mover] fun W15 u15 k15 => ?_
   refine xk 10 (show (((supTE (inB l 0) (n / 256)) != (0 : Int)) : Bool) = true from bne_iff_ne.2 hz) ?_
   refine xd 1 (.t w.heap.size [75]) ?_
   refine xm2 (.b [1, 2, 3]) 0 4 ?_ ?_
   · have k2'1 := (u15.blk (k2.below n14.below) (Ne.symm (Ne.symm d14_b2))).below (below_drew W15)
     refine xlv 0 k2'1.rp ?_
     refine yc (.o [] 4) (args := #[.int .i64 0, .iface 53 (.int .i64 (supTE (inB l 0) (n / 256)))]) (.t w.heap.size [75]) (block_told 0 (supTE (inB l 0) (n / 256)) _) ?_
     rintro _ W16 ⟨_, rfl, hb16, hv16⟩
     refine ⟨(SF.of_below _ hb16), ?_⟩
     rw [if_neg hz, if_neg hz] at hv16
     have hq16 := hv16
     obtain ⟨bf16, vf16, rfl, _, _⟩ := hq16
     have k1'6 := ((u15.blk (k1'5.below n14.below) (Ne.symm (Ne.symm d14_b1))).below (below_drew W15)).below hb16
     have g1 := n1.ge (Below.refl w.heap.size _)
     refine ysv (.o [] 5) k1'6 [.int .i64 0, .int .i64 0, .int .i64 0, .int .i64 0, .int .i64 0, .int .i64 0, .int .i64 0, .int .i64 0, .int .i64 0, .int .i64 0, .int .i64 0] (.t w.heap.size [75]) fun W17 u17 k17 => ⟨(sft_upd u17 k1'6 g1 (by decide)), ?_⟩
     have hB'7 := u17.below (Bl.next (Bl.next (u15.below (Bl.next hB'6 n14.below) g14) (below_drew W15)) hb16) g1
     have hv16'1 := hv16.upd u17 k1'6 (by decide)
     refine xec (.r [6] 4) k17 (.tuple #[.agg #[.int .i64 0, .int .i64 0, .int .i64 0, .int .i64 0, .int .i64 0, .int .i64 0, .int .i64 0, .int .i64 0, .int .i64 0, .int .i64 0, .int .i64 0], .iface 67 (.pointer (some ⟨bf16, 0, none⟩))]) ?_
     have he : superErr l = supTE (inB l 0) (n / 256) := by unfold superErr; rw [he2, if_pos hs, hI.len]
     exact .inl ⟨by rw [he]; exact hz, _, rfl, hB'7, by rw [he]; exact hv16'1⟩
   refine yc 0 (args := #[.int .i64 0, .iface 53 (.int .i64 (supTE (inB l 0) (n / 256)))]) (.t w.heap.size [75]) (block_told 0 (supTE (inB l 0) (n / 256)) _) ?_
   rintro _ W18 ⟨_, rfl, hb18, hv18⟩
   refine ⟨(SF.of_below _ hb18), ?_⟩
   rw [if_neg hz, if_neg hz] at hv18
   have hq18 := hv18
   obtain ⟨bf18, vf18, rfl, _, _⟩ := hq18
   have k2'2 := ((u15.blk (k2.below n14.below) (Ne.symm (Ne.symm d14_b2))).below (below_drew W15)).below hb18
   refine xlv (.o [] 0) k2'2.rp ?_
   have k1'7 := ((u15.blk (k1'5.below n14.below) (Ne.symm (Ne.symm d14_b1))).below (below_drew W15)).below hb18
   have g1 := n1.ge (Below.refl w.heap.size _)
   refine ysv (.o [] 5) k1'7 [.int .i64 0, .int .i64 0, .int .i64 0, .int .i64 0, .int .i64 0, .int .i64 0, .int .i64 0, .int .i64 0, .int .i64 0, .int .i64 0, .int .i64 0] (.t w.heap.size [75]) fun W19 u19 k19 => ⟨(sft_upd u19 k1'7 g1 (by decide)), ?_⟩
   have hB'8 := u19.below (Bl.next (Bl.next (u15.below (Bl.next hB'6 n14.below) g14) (below_drew W15)) hb18) g1
   have hv18'1 := hv18.upd u19 k1'7 (by decide)
   refine xec (.r [6] 4) k19 (.tuple #[.agg #[.int .i64 0, .int .i64 0, .int .i64 0, .int .i64 0, .int .i64 0, .int .i64 0, .int .i64 0, .int .i64 0, .int .i64 0, .int .i64 0, .int .i64 0], .iface 67 (.pointer (some ⟨bf18, 0, none⟩))]) ?_
   have he : superErr l = supTE (inB l 0) (n / 256) := by unfold superErr; rw [he2, if_pos hs, hI.len]
   exact .inl ⟨by rw [he]; exact hz, _, rfl, hB'8, by rw [he]; exact hv18'1⟩
 refine xa 3 [.int .i64 0, .int .i64 0, .int .i64 0, .int .i64 0, .int .i64 0, .int .i64 0, .int .i64 0, .int .i64 0, .int .i64 0, .int .i64 0, .int .i64 0] 75 fun b20 W20 n20 => ?_
 have k1'8 := (((n1.blk.below n2.below).below hb3).below hb8).below hb13
 have d20_b1 := n20.ne k1'8
 have k2 := ((n2.blk.below hb3).below hb8).below hb13
 have d20_b2 := n20.ne k2
 have hB'9 := Bl.next hB'5 hb13
 have g20 := n20.ge hB'9
 refine xsv 0 n20.blk [.int .i64 ((readS (inB l 0)).tx), .int .i64 ((readS (inB l 0)).time), .int .i64 ((readS (inB l 0)).unit), .int .i64 ((readS (inB l 0)).data), .int .i64 ((readS (inB l 0)).blocks), .int .i64 ((readS (inB l 0)).top), .int .i64 ((readS (inB l 0)).details), .int .i64 ((readS (inB l 0)).dslots), .int .i64 ((readS (inB l 0)).dover), .int .i64 ((readS (inB l 0)).mindex), .int .i64 ((readS (inB l 0)).mover)] fun W21 u21 k21 => ?_
 refine xlv 15 k21.rp ?_
 have k1'9 := u21.blk (k1'8.below n20.below) (Ne.symm (Ne.symm d20_b1))
 refine xsv 0 k1'9 [.int .i64 ((readS (inB l 0)).tx), .int .i64 ((readS (inB l 0)).time), .int .i64 ((readS (inB l 0)).unit), .int .i64 ((readS (inB l 0)).data), .int .i64 ((readS (inB l 0)).blocks), .int .i64 ((readS (inB l 0)).top), .int .i64 ((readS (inB l 0)).details), .int .i64 ((readS (inB l 0)).dslots), .int .i64 ((readS (inB l 0)).dover), .int .i64 ((readS (inB l 0)).mindex), .int .i64 ((readS (inB l 0)).mover)] fun W22 u22 k22 => ?_
 have g1 := n1.ge (Below.refl w.heap.size _)
 have hB'10 := u22.below (u21.below (Bl.next hB'9 n20.below) g20) g1
 exact xec 4 k22 (.tuple #[.agg #[.int .i64 ((readS (inB l 0)).tx), .int .i64 ((readS (inB l 0)).time), .int .i64 ((readS (inB l 0)).unit), .int .i64 ((readS (inB l 0)).data), .int .i64 ((readS (inB l 0)).blocks), .int .i64 ((readS (inB l 0)).top), .int .i64 ((readS (inB l 0)).details), .int .i64 ((readS (inB l 0)).dslots), .int .i64 ((readS (inB l 0)).dover), .int .i64 ((readS (inB l 0)).mindex), .int .i64 ((readS (inB l 0)).mover)], .nilIface]) (.inr ⟨by unfold superErr; rw [he2, if_pos hs, hI.len, hz], rfl, hB'10⟩)
set_option maxRecDepth 100000 in
set_option maxHeartbeats 1000000 in
theorem block_Super (B b : Nat) (p : Option Addr) (n c : Nat) (l : List UInt8) (w : World) (hI : ImgR B b p n c l w) :
    Calls Tryz.prog 27 #[.pointer (some ⟨b, 0, none⟩)] w (BlkSupP l w) := by
 refine zin 9 Tryz.func27 ?_
 refine xa 2 [.pointer (some ⟨b, 0, none⟩)] 31 fun b1 W1 n1 => ?_
 refine xa 0 [.int .i64 0, .int .i64 0, .int .i64 0, .int .i64 0, .int .i64 0, .int .i64 0, .int .i64 0, .int .i64 0, .int .i64 0, .int .i64 0, .int .i64 0] 75 fun b2 W2 n2 => ?_
 have k1 := n1.blk.below n2.below
 refine xb 5 0 k1 ?_
 have hB := Bl.next n1.below n2.below
 refine xc 1 (args := #[.pointer (some ⟨b, 0, none⟩), .int .i64 0, .int .i64 1, .func (.func 70) #[] #[.pointer (some ⟨b1, 0, none⟩)]]) (readSuper B b p n c l _ (hI.below hB) b1 k1) ?_
 rintro e W3 hq3
 rcases hq3 with ⟨he, bf, rfl, hb3, hv⟩ | ⟨he, rfl, hb3⟩
 · have k2 := n2.blk.below hb3
   refine xsv 2 k2 [.int .i64 0, .int .i64 0, .int .i64 0, .int .i64 0, .int .i64 0, .int .i64 0, .int .i64 0, .int .i64 0, .int .i64 0, .int .i64 0, .int .i64 0] fun W4 u4 k4 => ?_
   have g2 := n2.ge n1.below
   have hB'1 := u4.below (Bl.next hB hb3) g2
   have hv'1 := hv.upd u4 k2 (by decide)
   exact xec 4 k4 (.tuple #[.agg #[.int .i64 0, .int .i64 0, .int .i64 0, .int .i64 0, .int .i64 0, .int .i64 0, .int .i64 0, .int .i64 0, .int .i64 0, .int .i64 0, .int .i64 0], .iface 67 (.pointer (some ⟨bf, 0, none⟩))]) (.inl ⟨he, _, rfl, hB'1, hv'1⟩)
 have k2 := n2.blk.below hb3
 refine xsv 2 k2 [.int .i64 ((readS (inB l 0)).tx), .int .i64 ((readS (inB l 0)).time), .int .i64 ((readS (inB l 0)).unit), .int .i64 ((readS (inB l 0)).data), .int .i64 ((readS (inB l 0)).blocks), .int .i64 ((readS (inB l 0)).top), .int .i64 ((readS (inB l 0)).details), .int .i64 ((readS (inB l 0)).dslots), .int .i64 ((readS (inB l 0)).dover), .int .i64 ((readS (inB l 0)).mindex), .int .i64 ((readS (inB l 0)).mover)] fun W5 u5 k5 => ?_
 have g2 := n2.ge n1.below
 have hB'2 := u5.below (Bl.next hB hb3) g2
 exact xec 4 k5 (.tuple #[.agg #[.int .i64 ((readS (inB l 0)).tx), .int .i64 ((readS (inB l 0)).time), .int .i64 ((readS (inB l 0)).unit), .int .i64 ((readS (inB l 0)).data), .int .i64 ((readS (inB l 0)).blocks), .int .i64 ((readS (inB l 0)).top), .int .i64 ((readS (inB l 0)).details), .int .i64 ((readS (inB l 0)).dslots), .int .i64 ((readS (inB l 0)).dover), .int .i64 ((readS (inB l 0)).mindex), .int .i64 ((readS (inB l 0)).mover)], .nilIface]) (.inr ⟨he, rfl, hB'2⟩)
end Go.Proofs.YtinegkldgjhnpaaGreatDoor
namespace Go.Proofs.YtinegkldgjhnpaaGreatDoor
open Go.RowKit Go.Extern.Stop Go.Stop Go.Extern
set_option linter.unusedVariables false
attribute [local irreducible] wpList wpAnyH Code.wp Oper.wp Go

set_option maxRecDepth 100000 in
set_option maxHeartbeats 1000000 in
theorem ref06_in (n lo hi : Int) (w : World) :
    Calls Tryz.prog 153 #[.int .i64 n, .int .i64 lo, .int .i64 hi] w (Ret (.bool (decide (lo ≤ n ∧ n ≤ hi))) w) := by
 refine zin 15 Tryz.func153 ?_
 refine xg 11 [9, 10] (decide (n ≥ lo)) (fun hc1 => ?_) (fun hc1 => ?_)
 · have hc1 := of_decide_eq_true hc1
   exact xe 8 (.bool (decide (n ≤ hi))) ⟨by rw [show decide (lo ≤ n ∧ n ≤ hi) = decide (n ≤ hi) from by simp; omega], (Below.refl w.heap.size _)⟩
 have hc1 := of_decide_eq_false hc1
 exact xe 8 (.bool false) ⟨by rw [show decide (lo ≤ n ∧ n ≤ hi) = false from decide_eq_false (by omega)], (Below.refl w.heap.size _)⟩
set_option maxRecDepth 100000 in
set_option maxHeartbeats 4000000 in
theorem ref06_Right (s : Sup) (w : World) (hb0 : 0 ≤ s.blocks) (hb1 : s.blocks < 9223372036854775808) :
    Calls Tryz.prog 117 #[.agg #[.int .i64 s.tx, .int .i64 s.time, .int .i64 s.unit, .int .i64 s.data, .int .i64 s.blocks, .int .i64 s.top, .int .i64 s.details, .int .i64 s.dslots, .int .i64 s.dover, .int .i64 s.mindex, .int .i64 s.mover]] w (Ret (.bool (rightS s)) w) := by
 refine zin 69 Tryz.func117 ?_
 refine xa 2 [.int .i64 s.tx, .int .i64 s.time, .int .i64 s.unit, .int .i64 s.data, .int .i64 s.blocks, .int .i64 s.top, .int .i64 s.details, .int .i64 s.dslots, .int .i64 s.dover, .int .i64 s.mindex, .int .i64 s.mover] 75 fun b1 W1 n1 => ?_
 refine xb 7 0 n1.blk ?_
 refine xr 0 (args := #[.int .i64 s.tx, .int .i64 0, .int .i64 2147483647]) (ref06_in s.tx 0 2147483647 _) fun W2 hb2 => ?_
 refine xg 2 [7, 8] (!(decide ((0 : Int) ≤ s.tx ∧ s.tx ≤ 2147483647))) (fun hc3 => ?_) (fun hc3 => ?_)
 · have hd4 : (decide ((0 : Int) ≤ s.tx ∧ s.tx ≤ 2147483647)) = false := not_t hc3
   have hB := Bl.next n1.below hb2
   refine xe 33 (.bool false) ?_
   have hR : rightS s = false := by
     unfold rightS
     first | (rw [hd4]; done) | (rw [hd4]; rfl)
   rw [hR]; exact ⟨rfl, hB⟩
 have hd5 : (decide ((0 : Int) ≤ s.tx ∧ s.tx ≤ 2147483647)) = true := not_f hc3
 have k1'1 := n1.blk.below hb2
 refine xb 1 1 k1'1 ?_
 refine xr 0 (args := #[.int .i64 s.time, .int .i64 0, .int .i64 16777215]) (ref06_in s.time 0 16777215 _) fun W6 hb6 => ?_
 refine xg 3 [12, 13, 14] (!(decide ((0 : Int) ≤ s.time ∧ s.time ≤ 16777215))) (fun hc7 => ?_) (fun hc7 => ?_)
 · have hd8 : (decide ((0 : Int) ≤ s.time ∧ s.time ≤ 16777215)) = false := not_t hc7
   have hB := Bl.next (Bl.next n1.below hb2) hb6
   refine xe 27 (.bool false) ?_
   have hR : rightS s = false := by
     unfold rightS
     first | (rw [hd5, hd8]; done) | (rw [hd5, hd8]; rfl)
   rw [hR]; exact ⟨rfl, hB⟩
 have hd9 : (decide ((0 : Int) ≤ s.time ∧ s.time ≤ 16777215)) = true := not_f hc7
 have k1'2 := k1'1.below hb6
 refine xb 1 2 k1'2 ?_
 refine xr 0 (args := #[.int .i64 s.unit, .int .i64 1, .int .i64 65536]) (ref06_in s.unit 1 65536 _) fun W10 hb10 => ?_
 refine xg 3 [18, 19, 20] (!(decide ((1 : Int) ≤ s.unit ∧ s.unit ≤ 65536))) (fun hc11 => ?_) (fun hc11 => ?_)
 · have hd12 : (decide ((1 : Int) ≤ s.unit ∧ s.unit ≤ 65536)) = false := not_t hc11
   have hB := Bl.next (Bl.next (Bl.next n1.below hb2) hb6) hb10
   refine xe 21 (.bool false) ?_
   have hR : rightS s = false := by
     unfold rightS
     first | (rw [hd5, hd9, hd12]; done) | (rw [hd5, hd9, hd12]; rfl)
   rw [hR]; exact ⟨rfl, hB⟩
 have hd13 : (decide ((1 : Int) ≤ s.unit ∧ s.unit ≤ 65536)) = true := not_f hc11
 have k1'3 := k1'2.below hb10
 refine xb 1 3 k1'3 ?_
 refine xr 0 (args := #[.int .i64 s.data, .int .i64 0, .int .i64 65536]) (ref06_in s.data 0 65536 _) fun W14 hb14 => ?_
 refine xg 3 [24, 25, 26] (!(decide ((0 : Int) ≤ s.data ∧ s.data ≤ 65536))) (fun hc15 => ?_) (fun hc15 => ?_)
 · have hd16 : (decide ((0 : Int) ≤ s.data ∧ s.data ≤ 65536)) = false := not_t hc15
   have hB := Bl.next (Bl.next (Bl.next (Bl.next n1.below hb2) hb6) hb10) hb14
   refine xe 15 (.bool false) ?_
   have hR : rightS s = false := by
     unfold rightS
     first | (rw [hd5, hd9, hd13, hd16]; done) | (rw [hd5, hd9, hd13, hd16]; rfl)
   rw [hR]; exact ⟨rfl, hB⟩
 have hd17 : (decide ((0 : Int) ≤ s.data ∧ s.data ≤ 65536)) = true := not_f hc15
 have k1'4 := k1'3.below hb14
 refine xb 1 4 k1'4 ?_
 refine xr 0 (args := #[.int .i64 s.blocks, .int .i64 2, .int .i64 14400]) (ref06_in s.blocks 2 14400 _) fun W18 hb18 => ?_
 refine xi 4 (!(decide ((2 : Int) ≤ s.blocks ∧ s.blocks ≤ 14400))) (fun hc19 => ?_) (fun hc19 => ?_)
 · have hd20 : (decide ((2 : Int) ≤ s.blocks ∧ s.blocks ≤ 14400)) = false := not_t hc19
   have hB := Bl.next (Bl.next (Bl.next (Bl.next (Bl.next n1.below hb2) hb6) hb10) hb14) hb18
   refine xe 7 (.bool false) ?_
   have hR : rightS s = false := by
     unfold rightS
     first | (rw [hd5, hd9, hd13, hd17, hd20]; done) | (rw [hd5, hd9, hd13, hd17, hd20]; rfl)
   rw [hR]; exact ⟨rfl, hB⟩
 have hd21 : (decide ((2 : Int) ≤ s.blocks ∧ s.blocks ≤ 14400)) = true := not_f hc19
 have k1'5 := k1'4.below hb18
 refine xb 5 4 k1'5 ?_
 refine xw 0 (s.blocks - 1) ?_
 refine xb 6 5 k1'5 ?_
 refine xr 1 (args := #[.int .i64 s.top, .int .i64 1, .int .i64 (s.blocks - 1)]) (ref06_in s.top 1 (s.blocks - 1) _) fun W22 hb22 => ?_
 refine xg 1 [38, 39] (decide ((1 : Int) ≤ s.top ∧ s.top ≤ s.blocks - 1)) (fun hc23 => ?_) (fun hc23 => ?_)
 · have hd24 : (decide ((1 : Int) ≤ s.top ∧ s.top ≤ s.blocks - 1)) = true := hc23
   have k1'6 := k1'5.below hb22
   refine xb 1 6 k1'6 ?_
   refine xr 1 (args := #[.int .i64 s.details, .int .i64 1, .int .i64 (s.blocks - 1)]) (ref06_in s.details 1 (s.blocks - 1) _) fun W25 hb25 => ?_
   refine xg 2 [43, 44, 45] (decide ((1 : Int) ≤ s.details ∧ s.details ≤ s.blocks - 1)) (fun hc26 => ?_) (fun hc26 => ?_)
   · have hd27 : (decide ((1 : Int) ≤ s.details ∧ s.details ≤ s.blocks - 1)) = true := hc26
     have k1'7 := k1'6.below hb25
     refine xb 1 7 k1'7 ?_
     refine xr 1 (args := #[.int .i64 s.dslots, .int .i64 1, .int .i64 (s.blocks - 1)]) (ref06_in s.dslots 1 (s.blocks - 1) _) fun W28 hb28 => ?_
     refine xg 2 [49, 50, 51] (decide ((1 : Int) ≤ s.dslots ∧ s.dslots ≤ s.blocks - 1)) (fun hc29 => ?_) (fun hc29 => ?_)
     · have hd30 : (decide ((1 : Int) ≤ s.dslots ∧ s.dslots ≤ s.blocks - 1)) = true := hc29
       have k1'8 := k1'7.below hb28
       refine xb 1 8 k1'8 ?_
       refine xr 1 (args := #[.int .i64 s.dover, .int .i64 1, .int .i64 (s.blocks - 1)]) (ref06_in s.dover 1 (s.blocks - 1) _) fun W31 hb31 => ?_
       refine xg 2 [55, 56, 57] (decide ((1 : Int) ≤ s.dover ∧ s.dover ≤ s.blocks - 1)) (fun hc32 => ?_) (fun hc32 => ?_)
       · have hd33 : (decide ((1 : Int) ≤ s.dover ∧ s.dover ≤ s.blocks - 1)) = true := hc32
         have k1'9 := k1'8.below hb31
         refine xb 1 9 k1'9 ?_
         refine xr 1 (args := #[.int .i64 s.mindex, .int .i64 1, .int .i64 (s.blocks - 1)]) (ref06_in s.mindex 1 (s.blocks - 1) _) fun W34 hb34 => ?_
         refine xg 2 [61, 62, 63] (decide ((1 : Int) ≤ s.mindex ∧ s.mindex ≤ s.blocks - 1)) (fun hc35 => ?_) (fun hc35 => ?_)
         · have hd36 : (decide ((1 : Int) ≤ s.mindex ∧ s.mindex ≤ s.blocks - 1)) = true := hc35
           have k1'10 := k1'9.below hb34
           refine xb 1 10 k1'10 ?_
           refine xr 1 (args := #[.int .i64 s.mover, .int .i64 1, .int .i64 (s.blocks - 1)]) (ref06_in s.mover 1 (s.blocks - 1) _) fun W37 hb37 => ?_
           have hB := Bl.next (Bl.next (Bl.next (Bl.next (Bl.next (Bl.next (Bl.next (Bl.next (Bl.next (Bl.next (Bl.next n1.below hb2) hb6) hb10) hb14) hb18) hb22) hb25) hb28) hb31) hb34) hb37
           refine xe 5 (.bool (decide ((1 : Int) ≤ s.mover ∧ s.mover ≤ s.blocks - 1))) ?_
           have hR : rightS s = (decide ((1 : Int) ≤ s.mover ∧ s.mover ≤ s.blocks - 1)) := by
             unfold rightS
             first | (rw [hd5, hd9, hd13, hd17, hd21, hd24, hd27, hd30, hd33, hd36]; done) | (rw [hd5, hd9, hd13, hd17, hd21, hd24, hd27, hd30, hd33, hd36]; rfl)
           rw [hR]; exact ⟨rfl, hB⟩
         have hd38 : (decide ((1 : Int) ≤ s.mindex ∧ s.mindex ≤ s.blocks - 1)) = false := hc35
         have hB := Bl.next (Bl.next (Bl.next (Bl.next (Bl.next (Bl.next (Bl.next (Bl.next (Bl.next (Bl.next n1.below hb2) hb6) hb10) hb14) hb18) hb22) hb25) hb28) hb31) hb34
         refine xe 9 (.bool false) ?_
         have hR : rightS s = false := by
           unfold rightS
           first | (rw [hd5, hd9, hd13, hd17, hd21, hd24, hd27, hd30, hd33, hd38]; done) | (rw [hd5, hd9, hd13, hd17, hd21, hd24, hd27, hd30, hd33, hd38]; rfl)
         rw [hR]; exact ⟨rfl, hB⟩
       have hd39 : (decide ((1 : Int) ≤ s.dover ∧ s.dover ≤ s.blocks - 1)) = false := hc32
       have hB := Bl.next (Bl.next (Bl.next (Bl.next (Bl.next (Bl.next (Bl.next (Bl.next (Bl.next n1.below hb2) hb6) hb10) hb14) hb18) hb22) hb25) hb28) hb31
       refine xe 15 (.bool false) ?_
       have hR : rightS s = false := by
         unfold rightS
         first | (rw [hd5, hd9, hd13, hd17, hd21, hd24, hd27, hd30, hd39]; done) | (rw [hd5, hd9, hd13, hd17, hd21, hd24, hd27, hd30, hd39]; rfl)
       rw [hR]; exact ⟨rfl, hB⟩
     have hd40 : (decide ((1 : Int) ≤ s.dslots ∧ s.dslots ≤ s.blocks - 1)) = false := hc29
     have hB := Bl.next (Bl.next (Bl.next (Bl.next (Bl.next (Bl.next (Bl.next (Bl.next n1.below hb2) hb6) hb10) hb14) hb18) hb22) hb25) hb28
     refine xe 21 (.bool false) ?_
     have hR : rightS s = false := by
       unfold rightS
       first | (rw [hd5, hd9, hd13, hd17, hd21, hd24, hd27, hd40]; done) | (rw [hd5, hd9, hd13, hd17, hd21, hd24, hd27, hd40]; rfl)
     rw [hR]; exact ⟨rfl, hB⟩
   have hd41 : (decide ((1 : Int) ≤ s.details ∧ s.details ≤ s.blocks - 1)) = false := hc26
   have hB := Bl.next (Bl.next (Bl.next (Bl.next (Bl.next (Bl.next (Bl.next n1.below hb2) hb6) hb10) hb14) hb18) hb22) hb25
   refine xe 27 (.bool false) ?_
   have hR : rightS s = false := by
     unfold rightS
     first | (rw [hd5, hd9, hd13, hd17, hd21, hd24, hd41]; done) | (rw [hd5, hd9, hd13, hd17, hd21, hd24, hd41]; rfl)
   rw [hR]; exact ⟨rfl, hB⟩
 have hd42 : (decide ((1 : Int) ≤ s.top ∧ s.top ≤ s.blocks - 1)) = false := hc23
 have hB := Bl.next (Bl.next (Bl.next (Bl.next (Bl.next (Bl.next n1.below hb2) hb6) hb10) hb14) hb18) hb22
 refine xe 33 (.bool false) ?_
 have hR : rightS s = false := by
   unfold rightS
   first | (rw [hd5, hd9, hd13, hd17, hd21, hd42]; done) | (rw [hd5, hd9, hd13, hd17, hd21, hd42]; rfl)
 rw [hR]; exact ⟨rfl, hB⟩
theorem rawN_drop (l : List UInt8) (d : Nat) : ∀ (w k : Nat), rawN (l.drop d) k w = rawN l (d + k) w
  | 0, k => rfl
  | w + 1, k => by
    rw [rawN, rawN, rawN_drop l d w (k + 1)]
    simp [List.getD, Nat.add_assoc]
theorem unpL_lt (l : List UInt8) (k : Nat) (ws : List Nat) (h : ∀ x ∈ ws, x ≤ 4) (i : Nat) (hi : i < ws.length) : (unpL l k ws).getD i 0 < 9223372036854775808 := by
  rw [unpL_get l ws k i hi]
  have := rawN_lt4 l (k + (ws.take i).sum) (ws.getD i 0) (h _ (by simp [List.getD, hi]))
  omega
def sup12 (l : List UInt8) : List Nat := [rawN l 8 4, rawN l 12 4, rawN l 16 4, rawN l 20 4, rawN l 24 4, rawN l 28 4, rawN l 32 4, rawN l 36 4, rawN l 40 4, rawN l 44 4, rawN l 48 4, rawN l 52 4]
theorem sup12_eq (l : List UInt8) : unpL (l.drop 8) 0 [4, 4, 4, 4, 4, 4, 4, 4, 4, 4, 4, 4] = sup12 l := by
  simp [unpL, rawN_drop, sup12]
theorem bysD {w : World} {a : Option Addr} {c : Nat} {l : List UInt8} (h : Bys w (.slice a 244 c) l) (hl : l.length = 244) : Bys w (.slice (cutA a 8 c 1) (244 - 8) (c - 8)) (l.drop 8) := by
  have := Bys.cut h hl 8 244 (by decide) (by decide)
  rwa [List.take_of_length_le (by simp; omega)] at this
theorem bysE {w : World} {a : Option Addr} {c : Nat} {l : List UInt8} (h : Bys w (.slice a 244 c) l) (hl : l.length = 244) : Bys w (.slice (cutA a 56 c 1) (244 - 56) (c - 56)) (l.drop 56) := by
  have := Bys.cut h hl 56 244 (by decide) (by decide)
  rwa [List.take_of_length_le (by simp; omega)] at this
set_option maxRecDepth 100000 in
set_option maxHeartbeats 4000000 in
theorem ref06_Read (a : Option Addr) (c : Nat) (l : List UInt8) (w : World) (hl : l.length = 244) (h : Bys w (.slice a 244 c) l) :
    Calls Tryz.prog 74 #[.slice a 244 c] w (SupP l w) := by
 have hcap := Bys.cap h hl
 refine zin 75 Tryz.func74 ?_
 refine xa 2 [.int .i64 0, .int .i64 0, .int .i64 0, .int .i64 0, .int .i64 0, .int .i64 0, .int .i64 0, .int .i64 0, .int .i64 0, .int .i64 0, .int .i64 0] 75 fun b1 W1 n1 => ?_
 refine xsH 11 (fun _ _ _ _ zo zx zy V => run_sliceH (k := 8) (b := a) (n := 244) (c := c) (i := 8) (ki := .i64) zo zx zy rfl (by omega) Tryz.underlying22 (by kernel_rfl) V) ?_
 refine xcv0 0 (fun _ _ _ zo zx => run_bstr zo zx ((Bys.take h hl 8 (by decide)).below n1.below) (by simp; omega) Tryz.underlying22 Tryz.underlying5 Tryz.underlying9) ?_
 refine xi 4 (!((⟨(l.take 8).toArray⟩ : ByteArray).toList == (⟨#[83, 67, 65, 78, 84, 76, 73, 78]⟩ : ByteArray).toList)) (fun hc2 => ?_) (fun hc2 => ?_)
 · have hmg : (l.take 8 == magicB) = false := by rw [← str_beq]; exact not_t hc2
   refine xsv 3 n1.blk [.int .i64 0, .int .i64 0, .int .i64 0, .int .i64 0, .int .i64 0, .int .i64 0, .int .i64 0, .int .i64 0, .int .i64 0, .int .i64 0, .int .i64 0] fun W3 u3 k3 => ?_
   have g1 := n1.ge (Below.refl w.heap.size _)
   have hB'1 := u3.below n1.below g1
   exact xec 5 k3 (.tuple #[.agg #[.int .i64 0, .int .i64 0, .int .i64 0, .int .i64 0, .int .i64 0, .int .i64 0, .int .i64 0, .int .i64 0, .int .i64 0, .int .i64 0, .int .i64 0], .int .i64 7]) (.inl ⟨by unfold supOk; simp_all, rfl, hB'1⟩)
 have hmg : (l.take 8 == magicB) = true := by rw [← str_beq]; exact not_f hc2
 refine xsL 5 (fun _ _ _ _ zo zx zy V => run_sliceLA (k := 8) (b := a) (n := 244) (c := c) (i := 8) (ki := .i64) 1 zo zx zy rfl (by omega) Tryz.underlying22 (by kernel_rfl) V) ?_
 refine xbs 0 12 [.int .i64 4, .int .i64 4, .int .i64 4, .int .i64 4, .int .i64 4, .int .i64 4, .int .i64 4, .int .i64 4, .int .i64 4, .int .i64 4, .int .i64 4, .int .i64 4] 3 fun b4 W4 n4 => ?_
 have g4 := n4.ge n1.below
 have hB'2 := Bl.next n1.below n4.below
 refine xc 0 (args := #[.slice (cutA a 8 c 1) (244 - 8) (c - 8), .slice (some ⟨b4, 0, none⟩) 12 12]) (ref_UnpackN (cutA a 8 c 1) (244 - 8) (c - 8) (l.drop 8) (some ⟨b4, 0, none⟩) 12 12 [4, 4, 4, 4, 4, 4, 4, 4, 4, 4, 4, 4] (sup12 l) _ (by simp; omega) rfl (sup12_eq l) (by decide) (by decide) (by decide) (by decide) ((bysD h hl).below hB'2) (n4.blk.sl 12 12 (by decide) (by decide)) (unpL_lt _ _ _ (by decide))) ?_
 rintro _ W5 ⟨_, rfl, hb5, p5, c5, rfl, h5⟩
 have hs5 := (Bl.next n1.below n4.below).size
 refine xd 8 (.t w.heap.size [75]) ?_
 have h5'1 := own_below (own_mono h5 hs5) (below_drew W5)
 refine xx (.e [0] 1) _ 12 1 1 (nv_elem (l := sup12 l) (own_sl h5'1) rfl (k := 1) (by decide)).1 ?_
 refine xlt (.e [] 2) (.t w.heap.size [75]) (fun V hV => (nv_elem (l := sup12 l) (own_sl (own_only h5'1 hV.2 (by decide))) rfl (k := 1) (by decide)).2) ?_
 refine xx (.e [3] 4) _ 12 2 1 (nv_elem (l := sup12 l) (own_sl h5'1) rfl (k := 2) (by decide)).1 ?_
 refine xlt (.e [] 5) (.t w.heap.size [75]) (fun V hV => (nv_elem (l := sup12 l) (own_sl (own_only h5'1 hV.2 (by decide))) rfl (k := 2) (by decide)).2) ?_
 refine xx (.e [6] 7) _ 12 3 1 (nv_elem (l := sup12 l) (own_sl h5'1) rfl (k := 3) (by decide)).1 ?_
 refine xlt (.e [] 8) (.t w.heap.size [75]) (fun V hV => (nv_elem (l := sup12 l) (own_sl (own_only h5'1 hV.2 (by decide))) rfl (k := 3) (by decide)).2) ?_
 refine xx (.e [9] 10) _ 12 4 1 (nv_elem (l := sup12 l) (own_sl h5'1) rfl (k := 4) (by decide)).1 ?_
 refine xlt (.e [] 11) (.t w.heap.size [75]) (fun V hV => (nv_elem (l := sup12 l) (own_sl (own_only h5'1 hV.2 (by decide))) rfl (k := 4) (by decide)).2) ?_
 refine xx (.e [12] 13) _ 12 5 1 (nv_elem (l := sup12 l) (own_sl h5'1) rfl (k := 5) (by decide)).1 ?_
 refine xlt (.e [] 14) (.t w.heap.size [75]) (fun V hV => (nv_elem (l := sup12 l) (own_sl (own_only h5'1 hV.2 (by decide))) rfl (k := 5) (by decide)).2) ?_
 refine xx (.e [15] 16) _ 12 6 1 (nv_elem (l := sup12 l) (own_sl h5'1) rfl (k := 6) (by decide)).1 ?_
 refine xlt (.e [] 17) (.t w.heap.size [75]) (fun V hV => (nv_elem (l := sup12 l) (own_sl (own_only h5'1 hV.2 (by decide))) rfl (k := 6) (by decide)).2) ?_
 refine xx (.e [18] 19) _ 12 7 1 (nv_elem (l := sup12 l) (own_sl h5'1) rfl (k := 7) (by decide)).1 ?_
 refine xlt (.e [] 20) (.t w.heap.size [75]) (fun V hV => (nv_elem (l := sup12 l) (own_sl (own_only h5'1 hV.2 (by decide))) rfl (k := 7) (by decide)).2) ?_
 refine xx (.e [21] 22) _ 12 8 1 (nv_elem (l := sup12 l) (own_sl h5'1) rfl (k := 8) (by decide)).1 ?_
 refine xlt (.e [] 23) (.t w.heap.size [75]) (fun V hV => (nv_elem (l := sup12 l) (own_sl (own_only h5'1 hV.2 (by decide))) rfl (k := 8) (by decide)).2) ?_
 refine xx (.e [24] 25) _ 12 9 1 (nv_elem (l := sup12 l) (own_sl h5'1) rfl (k := 9) (by decide)).1 ?_
 refine xlt (.e [] 26) (.t w.heap.size [75]) (fun V hV => (nv_elem (l := sup12 l) (own_sl (own_only h5'1 hV.2 (by decide))) rfl (k := 9) (by decide)).2) ?_
 refine xx (.e [27] 28) _ 12 10 1 (nv_elem (l := sup12 l) (own_sl h5'1) rfl (k := 10) (by decide)).1 ?_
 refine xlt (.e [] 29) (.t w.heap.size [75]) (fun V hV => (nv_elem (l := sup12 l) (own_sl (own_only h5'1 hV.2 (by decide))) rfl (k := 10) (by decide)).2) ?_
 refine xx (.e [30] 31) _ 12 11 1 (nv_elem (l := sup12 l) (own_sl h5'1) rfl (k := 11) (by decide)).1 ?_
 refine xlt (.e [] 32) (.t w.heap.size [75]) (fun V hV => (nv_elem (l := sup12 l) (own_sl (own_only h5'1 hV.2 (by decide))) rfl (k := 11) (by decide)).2) ?_
 refine xa (.o [33] 34) [.int .i64 0, .int .i64 0, .int .i64 0, .int .i64 0, .int .i64 0, .int .i64 0, .int .i64 0, .int .i64 0, .int .i64 0, .int .i64 0, .int .i64 0] 75 fun b6 W6 n6 => ?_
 have k1 := ((n1.blk.below n4.below).below hb5).below (below_drew W5)
 have d6_b1 := n6.ne k1
 have hB'3 := Bl.next (Bl.next hB'2 hb5) (below_drew W5)
 have g6 := n6.ge hB'3
 refine ysv (.o [] 35) n6.blk [.int .i64 (↑(rawN l 12 4) : Int), .int .i64 (↑(rawN l 16 4) : Int), .int .i64 (↑(rawN l 20 4) : Int), .int .i64 (↑(rawN l 24 4) : Int), .int .i64 (↑(rawN l 28 4) : Int), .int .i64 (↑(rawN l 32 4) : Int), .int .i64 (↑(rawN l 36 4) : Int), .int .i64 (↑(rawN l 40 4) : Int), .int .i64 (↑(rawN l 44 4) : Int), .int .i64 (↑(rawN l 48 4) : Int), .int .i64 (↑(rawN l 52 4) : Int)] (.t w.heap.size [75]) fun W7 u7 k7 => ⟨(sft_upd u7 n6.blk g6 (by decide)), ?_⟩
 have h5'2 := u7.own2 (own_below h5'1 n6.below) n6.blk (by decide)
 refine xx 6 _ 12 0 1 (nv_elem (l := sup12 l) (own_sl h5'2) rfl (k := 0) (by decide)).1 ?_
 refine xl 0 ((nv_elem (l := sup12 l) (own_sl h5'2) rfl (k := 0) (by decide)).2) ?_
 refine xg 2 [61, 62] ((↑(rawN l 8 4) : Int) != (1 : Int)) (fun hc8 => ?_) (fun hc8 => ?_)
 · have hc8 := ne_of_bne hc8
   have hve : decide (rawN l 8 4 = 1) = false := decide_eq_false (by omega)
   have k1'1 := u7.blk (k1.below n6.below) (Ne.symm (Ne.symm d6_b1))
   refine xsv 16 k1'1 [.int .i64 0, .int .i64 0, .int .i64 0, .int .i64 0, .int .i64 0, .int .i64 0, .int .i64 0, .int .i64 0, .int .i64 0, .int .i64 0, .int .i64 0] fun W9 u9 k9 => ?_
   have g1 := n1.ge (Below.refl w.heap.size _)
   have hB'4 := u9.below (u7.below (Bl.next hB'3 n6.below) g6) g1
   exact xec 5 k9 (.tuple #[.agg #[.int .i64 0, .int .i64 0, .int .i64 0, .int .i64 0, .int .i64 0, .int .i64 0, .int .i64 0, .int .i64 0, .int .i64 0, .int .i64 0, .int .i64 0], .int .i64 7]) (.inl ⟨by unfold supOk; simp_all, rfl, hB'4⟩)
 have hc8 := eq_of_bne_false hc8
 have hve : decide (rawN l 8 4 = 1) = true := decide_eq_true (by omega)
 refine xsL 1 (fun _ _ _ _ zo zx zy V => run_sliceLA (k := 56) (b := a) (n := 244) (c := c) (i := 56) (ki := .i64) 1 zo zx zy rfl (by omega) Tryz.underlying22 (by kernel_rfl) V) ?_
 have hB'5 := u7.below (Bl.next hB'3 n6.below) g6
 refine xr 0 (args := #[.slice (cutA a 56 c 1) (244 - 56) (c - 56)]) (ref_ZeroN (cutA a 56 c 1) (244 - 56) (c - 56) (l.drop 56) _ (by simp; omega) (by decide) ((bysE h hl).below hB'5)) fun W10 hb10 => ?_
 refine xg 3 [66, 67, 68] (!(zeroB (l.drop 56))) (fun hc11 => ?_) (fun hc11 => ?_)
 · have hze : zeroB (l.drop 56) = false := not_t hc11
   have k1'2 := (u7.blk (k1.below n6.below) (Ne.symm (Ne.symm d6_b1))).below hb10
   refine xsv 10 k1'2 [.int .i64 0, .int .i64 0, .int .i64 0, .int .i64 0, .int .i64 0, .int .i64 0, .int .i64 0, .int .i64 0, .int .i64 0, .int .i64 0, .int .i64 0] fun W12 u12 k12 => ?_
   have g1 := n1.ge (Below.refl w.heap.size _)
   have hB'6 := u12.below (Bl.next hB'5 hb10) g1
   exact xec 5 k12 (.tuple #[.agg #[.int .i64 0, .int .i64 0, .int .i64 0, .int .i64 0, .int .i64 0, .int .i64 0, .int .i64 0, .int .i64 0, .int .i64 0, .int .i64 0, .int .i64 0], .int .i64 7]) (.inl ⟨by unfold supOk; simp_all, rfl, hB'6⟩)
 have hze : zeroB (l.drop 56) = true := not_f hc11
 have k7'1 := k7.below hb10
 refine xlv 0 k7'1.rp ?_
 refine xr 0 (args := #[.agg #[.int .i64 (↑(rawN l 12 4) : Int), .int .i64 (↑(rawN l 16 4) : Int), .int .i64 (↑(rawN l 20 4) : Int), .int .i64 (↑(rawN l 24 4) : Int), .int .i64 (↑(rawN l 28 4) : Int), .int .i64 (↑(rawN l 32 4) : Int), .int .i64 (↑(rawN l 36 4) : Int), .int .i64 (↑(rawN l 40 4) : Int), .int .i64 (↑(rawN l 44 4) : Int), .int .i64 (↑(rawN l 48 4) : Int), .int .i64 (↑(rawN l 52 4) : Int)]]) (ref06_Right (readS l) _ (readS_bd l).1 (readS_bd l).2) fun W13 hb13 => ?_
 refine xi 4 (!(rightS (readS l))) (fun hc14 => ?_) (fun hc14 => ?_)
 · have hri : rightS (readS l) = false := not_t hc14
   have k1'3 := ((u7.blk (k1.below n6.below) (Ne.symm (Ne.symm d6_b1))).below hb10).below hb13
   refine xsv 3 k1'3 [.int .i64 0, .int .i64 0, .int .i64 0, .int .i64 0, .int .i64 0, .int .i64 0, .int .i64 0, .int .i64 0, .int .i64 0, .int .i64 0, .int .i64 0] fun W15 u15 k15 => ?_
   have g1 := n1.ge (Below.refl w.heap.size _)
   have hB'7 := u15.below (Bl.next (Bl.next hB'5 hb10) hb13) g1
   exact xec 5 k15 (.tuple #[.agg #[.int .i64 0, .int .i64 0, .int .i64 0, .int .i64 0, .int .i64 0, .int .i64 0, .int .i64 0, .int .i64 0, .int .i64 0, .int .i64 0, .int .i64 0], .int .i64 7]) (.inl ⟨by unfold supOk; simp_all, rfl, hB'7⟩)
 have hri : rightS (readS l) = true := not_f hc14
 have k7'2 := k7'1.below hb13
 refine xlv 4 k7'2.rp ?_
 have k1'4 := ((u7.blk (k1.below n6.below) (Ne.symm (Ne.symm d6_b1))).below hb10).below hb13
 refine xsv 0 k1'4 [.int .i64 (↑(rawN l 12 4) : Int), .int .i64 (↑(rawN l 16 4) : Int), .int .i64 (↑(rawN l 20 4) : Int), .int .i64 (↑(rawN l 24 4) : Int), .int .i64 (↑(rawN l 28 4) : Int), .int .i64 (↑(rawN l 32 4) : Int), .int .i64 (↑(rawN l 36 4) : Int), .int .i64 (↑(rawN l 40 4) : Int), .int .i64 (↑(rawN l 44 4) : Int), .int .i64 (↑(rawN l 48 4) : Int), .int .i64 (↑(rawN l 52 4) : Int)] fun W16 u16 k16 => ?_
 have g1 := n1.ge (Below.refl w.heap.size _)
 have hB'8 := u16.below (Bl.next (Bl.next hB'5 hb10) hb13) g1
 exact xec 4 k16 (.tuple #[.agg #[.int .i64 (↑(rawN l 12 4) : Int), .int .i64 (↑(rawN l 16 4) : Int), .int .i64 (↑(rawN l 20 4) : Int), .int .i64 (↑(rawN l 24 4) : Int), .int .i64 (↑(rawN l 28 4) : Int), .int .i64 (↑(rawN l 32 4) : Int), .int .i64 (↑(rawN l 36 4) : Int), .int .i64 (↑(rawN l 40 4) : Int), .int .i64 (↑(rawN l 44 4) : Int), .int .i64 (↑(rawN l 48 4) : Int), .int .i64 (↑(rawN l 52 4) : Int)], .int .i64 0]) (.inr ⟨by unfold supOk; rw [hmg, hve, hze, hri]; rfl, rfl, hB'8⟩)
def RBlkSupP (l : List UInt8) (w : World) (e : Ending) (w' : World) : Prop :=
  (superErr l ≠ 0 ∧ ∃ a c, e = .returned (.tuple #[.agg #[.int .i64 0, .int .i64 0, .int .i64 0, .int .i64 0, .int .i64 0, .int .i64 0, .int .i64 0, .int .i64 0, .int .i64 0, .int .i64 0, .int .i64 0], .agg #[.slice a 1 c, .int .i64 (superErr l)]]) ∧ Below w.heap.size w w' ∧ w'.ownsRow w.heap.size 3 1 (.slice a 1 c) 1 [.int .i64 0]) ∨
  (superErr l = 0 ∧ e = .returned (.tuple #[.agg #[.int .i64 ((readS (inB l 0)).tx), .int .i64 ((readS (inB l 0)).time), .int .i64 ((readS (inB l 0)).unit), .int .i64 ((readS (inB l 0)).data), .int .i64 ((readS (inB l 0)).blocks), .int .i64 ((readS (inB l 0)).top), .int .i64 ((readS (inB l 0)).details), .int .i64 ((readS (inB l 0)).dslots), .int .i64 ((readS (inB l 0)).dover), .int .i64 ((readS (inB l 0)).mindex), .int .i64 ((readS (inB l 0)).mover)], .agg #[.slice none 0 0, .int .i64 0]]) ∧ Below w.heap.size w w')
set_option maxRecDepth 100000 in
set_option maxHeartbeats 4000000 in
theorem ref11_Super (B bm : Nat) (p : Option Addr) (k c : Nat) (l : List UInt8) (w : World) (hI : RefI B bm p k c l w) :
    Calls Tryz.prog 28 #[.pointer (some ⟨bm, 0, none⟩)] w (RBlkSupP l w) := by
 have hkm := hI.blk
 have hkk : l.length / 256 = k := by rw [hI.hl]; omega
 refine zin 40 Tryz.func28 ?_
 refine xa 2 [.int .i64 0, .int .i64 0, .int .i64 0, .int .i64 0, .int .i64 0, .int .i64 0, .int .i64 0, .int .i64 0, .int .i64 0, .int .i64 0, .int .i64 0] 75 fun b1 W1 n1 => ?_
 refine xa 0 [.slice none 0 0, .int .i64 0] 45 fun b2 W2 n2 => ?_
 have hB := Bl.next n1.below n2.below
 refine xc 5 (args := #[.pointer (some ⟨bm, 0, none⟩), .int .i64 0, .int .i64 1]) (ref11_in B bm p k c l _ (hI.below hB) 0 1) ?_
 rintro e W3 hq3
 rcases hq3 with ⟨hse, rfl, hb3⟩ | ⟨hse, hil, p3, c3, rfl, hb3, h3⟩
 · refine xk 14 (show (((inE l 1 0) != (0 : Int)) : Bool) = true from bne_iff_ne.2 hse) ?_
   refine xc 4 (args := #[.int .i64 0, .int .i64 (inE l 1 0)]) (ref11_AtN 0 (inE l 1 0) _ hse) ?_
   rintro _ W4 ⟨_, rfl, hb4, a5, c5, rfl, hs5⟩
   have hs4 := (Bl.next hB hb3).size
   have k1 := ((n1.blk.below n2.below).below hb3).below hb4
   refine xsv 0 k1 [.int .i64 0, .int .i64 0, .int .i64 0, .int .i64 0, .int .i64 0, .int .i64 0, .int .i64 0, .int .i64 0, .int .i64 0, .int .i64 0, .int .i64 0] fun W5 u5 k5 => ?_
   have g1 := n1.ge (Below.refl w.heap.size _)
   have k2 := u5.blkT ((n2.blk.below hb3).below hb4) k1 (by decide)
   refine xsv 0 k2 [.slice a5 1 c5, .int .i64 (inE l 1 0)] fun W6 u6 k6 => ?_
   have g2 := n2.ge n1.below
   have hB'1 := u6.below (u5.below (Bl.next (Bl.next hB hb3) hb4) g1) g2
   have hs5'1 := u6.own2 (u5.own2 (own_mono hs5 hs4) k1 (by decide)) k2 (by decide)
   have k5'1 := u6.blkT k5 k2 (by decide)
   refine xecm 4 [(b1, [.int .i64 0, .int .i64 0, .int .i64 0, .int .i64 0, .int .i64 0, .int .i64 0, .int .i64 0, .int .i64 0, .int .i64 0, .int .i64 0, .int .i64 0]), (b2, [.slice a5 1 c5, .int .i64 (inE l 1 0)])] ⟨⟨_, k5'1⟩, ⟨_, k6⟩, trivial⟩ (.tuple #[.agg #[.int .i64 0, .int .i64 0, .int .i64 0, .int .i64 0, .int .i64 0, .int .i64 0, .int .i64 0, .int .i64 0, .int .i64 0, .int .i64 0, .int .i64 0], .agg #[.slice a5 1 c5, .int .i64 (inE l 1 0)]]) ?_
   have he : superErr l = (inE l 1 0) := by unfold superErr; rw [if_neg hse]
   exact .inl ⟨by rw [he]; exact hse, _, _, by rw [he], hB'1, hs5'1⟩
 have hs3 := (Bl.next n1.below n2.below).size
 have h3'1 := own_mono h3 hs3
 refine xc 20 (args := #[.slice p3 244 c3]) (ref06_Read p3 c3 (inB l 0) _ hil (bys_of (own_sl h3'1) hil)) ?_
 rintro e W7 hq7
 rcases hq7 with ⟨hok, rfl, hb7⟩ | ⟨hok, rfl, hb7⟩
 · refine xa 3 [.int .i64 0, .int .i64 0, .int .i64 0, .int .i64 0, .int .i64 0, .int .i64 0, .int .i64 0, .int .i64 0, .int .i64 0, .int .i64 0, .int .i64 0] 75 fun b8 W8 n8 => ?_
   have k1 := ((n1.blk.below n2.below).below hb3).below hb7
   have d8_b1 := n8.ne k1
   have hB'2 := Bl.next (Bl.next hB hb3) hb7
   have g8 := n8.ge hB'2
   refine xsv 0 n8.blk [.int .i64 0, .int .i64 0, .int .i64 0, .int .i64 0, .int .i64 0, .int .i64 0, .int .i64 0, .int .i64 0, .int .i64 0, .int .i64 0, .int .i64 0] fun W9 u9 k9 => ?_
   refine xc 15 (args := #[.int .i64 0, .int .i64 7]) (ref11_AtN 0 7 _ (by decide)) ?_
   rintro _ W10 ⟨_, rfl, hb10, a5, c5, rfl, hs5⟩
   have hs10 := (u9.below (Bl.next hB'2 n8.below) g8).size
   have k1'1 := (u9.blk (k1.below n8.below) (Ne.symm (Ne.symm d8_b1))).below hb10
   refine xsv 0 k1'1 [.int .i64 0, .int .i64 0, .int .i64 0, .int .i64 0, .int .i64 0, .int .i64 0, .int .i64 0, .int .i64 0, .int .i64 0, .int .i64 0, .int .i64 0] fun W11 u11 k11 => ?_
   have g1 := n1.ge (Below.refl w.heap.size _)
   have k2 := u11.blkT ((u9.blkT (((n2.blk.below hb3).below hb7).below n8.below) n8.blk (by decide)).below hb10) k1'1 (by decide)
   refine xsv 0 k2 [.slice a5 1 c5, .int .i64 7] fun W12 u12 k12 => ?_
   have g2 := n2.ge n1.below
   have hB'3 := u12.below (u11.below (Bl.next (u9.below (Bl.next hB'2 n8.below) g8) hb10) g1) g2
   have hs5'2 := u12.own2 (u11.own2 (own_mono hs5 hs10) k1'1 (by decide)) k2 (by decide)
   have k11'1 := u12.blkT k11 k2 (by decide)
   refine xecm 4 [(b1, [.int .i64 0, .int .i64 0, .int .i64 0, .int .i64 0, .int .i64 0, .int .i64 0, .int .i64 0, .int .i64 0, .int .i64 0, .int .i64 0, .int .i64 0]), (b2, [.slice a5 1 c5, .int .i64 7])] ⟨⟨_, k11'1⟩, ⟨_, k12⟩, trivial⟩ (.tuple #[.agg #[.int .i64 0, .int .i64 0, .int .i64 0, .int .i64 0, .int .i64 0, .int .i64 0, .int .i64 0, .int .i64 0, .int .i64 0, .int .i64 0, .int .i64 0], .agg #[.slice a5 1 c5, .int .i64 7]]) ?_
   have he : superErr l = 7 := by unfold superErr supTE; rw [if_pos hse, hok, if_neg (by decide)]
   exact .inl ⟨by rw [he]; decide, _, _, by rw [he], hB'3, hs5'2⟩
 refine xa 3 [.int .i64 0, .int .i64 0, .int .i64 0, .int .i64 0, .int .i64 0, .int .i64 0, .int .i64 0, .int .i64 0, .int .i64 0, .int .i64 0, .int .i64 0] 75 fun b13 W13 n13 => ?_
 have k1 := ((n1.blk.below n2.below).below hb3).below hb7
 have d13_b1 := n13.ne k1
 have hB'4 := Bl.next (Bl.next hB hb3) hb7
 have g13 := n13.ge hB'4
 refine xsv 0 n13.blk [.int .i64 ((readS (inB l 0)).tx), .int .i64 ((readS (inB l 0)).time), .int .i64 ((readS (inB l 0)).unit), .int .i64 ((readS (inB l 0)).data), .int .i64 ((readS (inB l 0)).blocks), .int .i64 ((readS (inB l 0)).top), .int .i64 ((readS (inB l 0)).details), .int .i64 ((readS (inB l 0)).dslots), .int .i64 ((readS (inB l 0)).dover), .int .i64 ((readS (inB l 0)).mindex), .int .i64 ((readS (inB l 0)).mover)] fun W14 u14 k14 => ?_
 refine xd 15 .z ?_
 have k14'1 := k14.below (below_drew W14)
 refine xb (.e [0] 1) 4 k14'1 ?_
 have hkm'1 := (u14.blkT (((((hkm.below n1.below).below n2.below).below hb3).below hb7).below n13.below) n13.blk (by decide)).below (below_drew W14)
 refine xb (.e [2, 3, 4] 5) 0 hkm'1 ?_
 refine xid (.r [6, 7] 2) ((readS (inB l 0)).blocks > (↑k : Int)) (fun hc15 => ?_) (fun hc15 => ?_)
 · refine xc 3 (args := #[.int .i64 0, .int .i64 2]) (ref11_AtN 0 2 _ (by decide)) ?_
   rintro _ W16 ⟨_, rfl, hb16, a5, c5, rfl, hs5⟩
   have hs16 := (Bl.next (u14.below (Bl.next hB'4 n13.below) g13) (below_drew W14)).size
   have k1'2 := ((u14.blk (k1.below n13.below) (Ne.symm (Ne.symm d13_b1))).below (below_drew W14)).below hb16
   refine xsv 0 k1'2 [.int .i64 0, .int .i64 0, .int .i64 0, .int .i64 0, .int .i64 0, .int .i64 0, .int .i64 0, .int .i64 0, .int .i64 0, .int .i64 0, .int .i64 0] fun W17 u17 k17 => ?_
   have g1 := n1.ge (Below.refl w.heap.size _)
   have k2 := u17.blkT (((u14.blkT (((n2.blk.below hb3).below hb7).below n13.below) n13.blk (by decide)).below (below_drew W14)).below hb16) k1'2 (by decide)
   refine xsv 0 k2 [.slice a5 1 c5, .int .i64 2] fun W18 u18 k18 => ?_
   have g2 := n2.ge n1.below
   have hB'5 := u18.below (u17.below (Bl.next (Bl.next (u14.below (Bl.next hB'4 n13.below) g13) (below_drew W14)) hb16) g1) g2
   have hs5'3 := u18.own2 (u17.own2 (own_mono hs5 hs16) k1'2 (by decide)) k2 (by decide)
   have k17'1 := u18.blkT k17 k2 (by decide)
   refine xecm 4 [(b1, [.int .i64 0, .int .i64 0, .int .i64 0, .int .i64 0, .int .i64 0, .int .i64 0, .int .i64 0, .int .i64 0, .int .i64 0, .int .i64 0, .int .i64 0]), (b2, [.slice a5 1 c5, .int .i64 2])] ⟨⟨_, k17'1⟩, ⟨_, k18⟩, trivial⟩ (.tuple #[.agg #[.int .i64 0, .int .i64 0, .int .i64 0, .int .i64 0, .int .i64 0, .int .i64 0, .int .i64 0, .int .i64 0, .int .i64 0, .int .i64 0, .int .i64 0], .agg #[.slice a5 1 c5, .int .i64 2]]) ?_
   have he : superErr l = 2 := by unfold superErr supTE; rw [if_pos hse, if_pos hok, hkk, if_pos (by omega)]
   exact .inl ⟨by rw [he]; decide, _, _, by rw [he], hB'5, hs5'3⟩
 refine xlv 4 k14'1.rp ?_
 have k1'3 := (u14.blk (k1.below n13.below) (Ne.symm (Ne.symm d13_b1))).below (below_drew W14)
 refine xsv 1 k1'3 [.int .i64 ((readS (inB l 0)).tx), .int .i64 ((readS (inB l 0)).time), .int .i64 ((readS (inB l 0)).unit), .int .i64 ((readS (inB l 0)).data), .int .i64 ((readS (inB l 0)).blocks), .int .i64 ((readS (inB l 0)).top), .int .i64 ((readS (inB l 0)).details), .int .i64 ((readS (inB l 0)).dslots), .int .i64 ((readS (inB l 0)).dover), .int .i64 ((readS (inB l 0)).mindex), .int .i64 ((readS (inB l 0)).mover)] fun W19 u19 k19 => ?_
 have g1 := n1.ge (Below.refl w.heap.size _)
 have k2 := u19.blkT ((u14.blkT (((n2.blk.below hb3).below hb7).below n13.below) n13.blk (by decide)).below (below_drew W14)) k1'3 (by decide)
 refine xsv 0 k2 [.slice none 0 0, .int .i64 0] fun W20 u20 k20 => ?_
 have g2 := n2.ge n1.below
 have hB'6 := u20.below (u19.below (Bl.next (u14.below (Bl.next hB'4 n13.below) g13) (below_drew W14)) g1) g2
 have k19'1 := u20.blkT k19 k2 (by decide)
 exact xecm 3 [(b1, [.int .i64 ((readS (inB l 0)).tx), .int .i64 ((readS (inB l 0)).time), .int .i64 ((readS (inB l 0)).unit), .int .i64 ((readS (inB l 0)).data), .int .i64 ((readS (inB l 0)).blocks), .int .i64 ((readS (inB l 0)).top), .int .i64 ((readS (inB l 0)).details), .int .i64 ((readS (inB l 0)).dslots), .int .i64 ((readS (inB l 0)).dover), .int .i64 ((readS (inB l 0)).mindex), .int .i64 ((readS (inB l 0)).mover)]), (b2, [.slice none 0 0, .int .i64 0])] ⟨⟨_, k19'1⟩, ⟨_, k20⟩, trivial⟩ (.tuple #[.agg #[.int .i64 ((readS (inB l 0)).tx), .int .i64 ((readS (inB l 0)).time), .int .i64 ((readS (inB l 0)).unit), .int .i64 ((readS (inB l 0)).data), .int .i64 ((readS (inB l 0)).blocks), .int .i64 ((readS (inB l 0)).top), .int .i64 ((readS (inB l 0)).details), .int .i64 ((readS (inB l 0)).dslots), .int .i64 ((readS (inB l 0)).dover), .int .i64 ((readS (inB l 0)).mindex), .int .i64 ((readS (inB l 0)).mover)], .agg #[.slice none 0 0, .int .i64 0]]) (.inr ⟨by unfold superErr supTE; rw [if_pos hse, if_pos hok, hkk, if_neg (by omega)], rfl, hB'6⟩)
end Go.Proofs.YtinegkldgjhnpaaGreatDoor
namespace Go.Proofs.YtinegkldgjhnpaaGreatDoor
open Go.RowKit
set_option linter.unusedVariables false
theorem run_cat {P : Program} {a : Act} {o : Oper} {t t2 : TypeId} {x y : Operand} {l m : List UInt8} (ho : o.op = .binOp .add t x y t2) (hx : a.eval x = .string ⟨l.toArray⟩) (hy : a.eval y = .string ⟨m.toArray⟩) (hl : l.length + m.length ≤ 1000000) (w : World) : (execOp a.eval o).run P w = .ok (.value (.string ⟨(l ++ m).toArray⟩)) w := by
  have e : (⟨l.toArray⟩ : ByteArray) ++ ⟨m.toArray⟩ = ⟨(l ++ m).toArray⟩ := by
    apply ByteArray.ext
    simp
  have g : binOp .add t (.string ⟨l.toArray⟩) (.string ⟨m.toArray⟩) = pure (.string ((⟨l.toArray⟩ : ByteArray) ++ ⟨m.toArray⟩)) := by
    have h : ¬ (9223372036854775807 : Int) < ((⟨l.toArray⟩ : ByteArray).size : Int) + ((⟨m.toArray⟩ : ByteArray).size : Int) := by simp [ByteArray.size]; omega
    simp [binOp, Op.stringOp]
    intro q; exact absurd q h
  have q : eqGuard .add t x y (.string ⟨l.toArray⟩ : Value) (.string ⟨m.toArray⟩ : Value) = pure () := rfl
  simp only [execOp, ho, hx, hy, g, e, q]
  simp
end Go.Proofs.YtinegkldgjhnpaaGreatDoor
namespace Go.Proofs.YtinegkldgjhnpaaGreatDoor
open Go.RowKit Go.Extern.Stop Go.Stop Go.Extern
set_option linter.unusedVariables false
attribute [local irreducible] wpList wpAnyH Code.wp Oper.wp Go

def txtL (N : List Int) (ws : List Nat) (k : Nat) : List UInt8 := (List.range k).flatMap fun i => leB (N.getD i 0) (ws.getD i 0)
theorem txtL_succ (N : List Int) (ws : List Nat) (k : Nat) : txtL N ws (k + 1) = txtL N ws k ++ leB (N.getD k 0) (ws.getD k 0) := by simp [txtL, List.range_succ]
/-- numbers that may be told, in so many bytes each -/
def TxtOk (N : List Int) (ws : List Nat) : Prop := N.length ≤ 100 ∧ ws.length = N.length ∧ ∀ i, i < N.length → 0 ≤ N.getD i 0 ∧ N.getD i 0 < 9223372036854775808 ∧ ws.getD i 0 ≤ 8
theorem txtL_len {N : List Int} {ws : List Nat} (h : TxtOk N ws) : ∀ k, k ≤ N.length → (txtL N ws k).length ≤ k * 8
  | 0, _ => Nat.zero_le _
  | k + 1, hk => by
    rw [txtL_succ, List.length_append, leB_len]
    have := txtL_len h k (by omega)
    have := (h.2.2 k (by omega)).2.2
    omega
set_option maxRecDepth 100000 in
set_option maxHeartbeats 1000000 in
theorem ref08_textG (N : List Int) (ws : List Nat) (gn gw : Option Addr) (cn cw : Nat) (w : World) (hok : TxtOk N ws) (hN : Sl w (.slice gn N.length cn) N.length (N.map (Value.int .i64))) (hW : Sl w (.slice gw N.length cw) N.length (ws.map nv)) :
    Calls Tryz.prog 168 #[.slice gn N.length cn, .slice gw N.length cw] w (Ret (.string ⟨(txtL N ws N.length).toArray⟩) w) := by
 have hnl := hok.1
 have hwl := hok.2.1
 refine zin 26 Tryz.func168 ?_
 have hB := Below.refl w.heap.size w
 refine zl 17 26 (fun zm zkv V => ∃ (i : Nat), zkv = [(0, .slice gn N.length cn), (1, .slice gw N.length cw), (4, .string ⟨#[]⟩), (5, .string ⟨(txtL N ws i).toArray⟩), (6, .int .i64 (↑i : Int))] ∧ zm = N.length - ((↑i : Int)).toNat ∧ Below w.heap.size w V ∧ i ≤ N.length) ⟨0, rfl, rfl, hB, Nat.zero_le _⟩ ?_
 rintro _ _ W1 ⟨i, rfl, rfl, hB_1, hi⟩ J1 hJ1 r1
 have htl := txtL_len hok i hi
 have hw8 : i < N.length → ws.getD i 0 ≤ 8 := fun q => (hok.2.2 i q).2.2
 refine xid 9 ((↑i : Int) < (↑N.length : Int)) (fun hc2 => ?_) (fun hc2 => ?_)
 · refine xd 4 .z ?_
   refine xx (.e [0, 1, 2] 3) _ N.length i 1 (IntsN.elem hN rfl (k := i) (by omega)).1 ?_
   have hB'1 := Bl.next hB_1 (below_drew W1)
   refine xl (.e [] 4) ((IntsN.elem (hN.below hB'1) rfl (k := i) (by omega)).2) ?_
   refine xx (.e [5, 6] 7) _ N.length i 1 (nv_elem hW hwl (k := i) (by omega)).1 ?_
   refine xl (.e [] 8) ((nv_elem (hW.below hB'1) hwl (k := i) (by omega)).2) ?_
   refine yc (.o [] 9) (args := #[.int .i64 (N.getD i 0), .int .i64 (↑(ws.getD i 0) : Int)]) .z (ref_BytesN (N.getD i 0) (ws.getD i 0) (↑(ws.getD i 0) : Int) _ (hok.2.2 i (by omega)).1 (hok.2.2 i (by omega)).2.1 rfl (hok.2.2 i (by omega)).2.2) ?_
   rintro _ W3 ⟨_, rfl, hb3, p2, c2, rfl, h2⟩
   refine ⟨hb3, ?_⟩
   have h2'1 := own_mono h2 hB'1.size
   refine xcv (.e [] 10) (fun _ _ _ zo zx V hV => run_bstr zo zx (bys_of (own_sl (own_below h2'1 hV)) (leB_len _ _)) (leB_len _ _) Tryz.underlying22 Tryz.underlying5 Tryz.underlying9) ?_
   refine xbo (.e [] 11) (t := 9) (t2 := 9) (fun _ _ _ _ zo zx zy V hV => run_cat (l := txtL N ws i) (m := leB (N.getD i 0) (ws.getD i 0)) zo zx zy (by rw [leB_len]; omega) V) ?_
   refine xwm (.r [12] 5) ((↑i : Int) + 1) (↑(i + 1) : Int) ?_
   refine xv1 2 5 (show (.string ⟨(txtL N ws i ++ leB (N.getD i 0) (ws.getD i 0)).toArray⟩ : Value) = .string ⟨(txtL N ws (i + 1)).toArray⟩ from by rw [txtL_succ]) ?_
   have hB'2 := Bl.next hB'1 hb3
   exact ze 0 (hJ1 _ _ _ ⟨i + 1, rfl, rfl, hB'2, by omega⟩ (by omega))
 refine xe 12 (.string ⟨(txtL N ws i).toArray⟩) ?_
 obtain rfl : i = N.length := by omega
 exact ⟨rfl, hB_1⟩
def slotQ (x y z : Int) : Bool := decide (1 ≤ x ∧ x ≤ 14399) && decide (0 ≤ y ∧ y ≤ 960) && decide (0 ≤ z ∧ z ≤ 960)
def SlotStrP (x y z : Int) (w : World) (e : Ending) (w' : World) : Prop :=
  (slotQ x y z = false ∧ e = .returned (.string ⟨#[]⟩) ∧ Below w.heap.size w w') ∨ (slotQ x y z = true ∧ e = .returned (.string ⟨(txtL [x, y, z] [8, 4, 4] 3).toArray⟩) ∧ Below w.heap.size w w')
theorem slotQ_ok {x y z : Int} (h : slotQ x y z = true) : TxtOk [x, y, z] [8, 4, 4] := by
  unfold slotQ at h
  simp only [Bool.and_eq_true, decide_eq_true_iff] at h
  refine ⟨show 3 ≤ 100 from by decide, rfl, fun i hi => ?_⟩
  have hi' : i < 3 := hi
  obtain rfl | rfl | rfl : i = 0 ∨ i = 1 ∨ i = 2 := by omega
  all_goals simp [List.getD]
  all_goals omega
theorem txt3_ne (x y z : Int) : ((⟨(txtL [x, y, z] [8, 4, 4] 3).toArray⟩ : ByteArray).toList == (⟨#[]⟩ : ByteArray).toList) = false := by
  rw [show (⟨#[]⟩ : ByteArray) = ⟨([] : List UInt8).toArray⟩ from rfl, str_beq]
  apply beq_false_of_ne
  intro q
  have h1 := congrArg List.length q
  rw [txtL_succ, List.length_append, leB_len, List.length_nil] at h1
  simp at h1
set_option maxRecDepth 100000 in
set_option maxHeartbeats 1000000 in
theorem ref08_Slot (x y z : Int) (w : World) :
    Calls Tryz.prog 155 #[.agg #[.int .i64 x, .int .i64 y, .int .i64 z]] w (SlotStrP x y z w) := by
 refine zin 28 Tryz.func155 ?_
 refine xa 2 [.int .i64 x, .int .i64 y, .int .i64 z] 163 fun b1 W1 n1 => ?_
 refine xb 7 0 n1.blk ?_
 refine xr 0 (args := #[.int .i64 x, .int .i64 1, .int .i64 14399]) (ref08_inB x 1 14399 _) fun W2 hb2 => ?_
 refine xg 2 [6, 7] (!(decide ((1 : Int) ≤ x ∧ x ≤ 14399))) (fun hc3 => ?_) (fun hc3 => ?_)
 · have hd4 : (decide ((1 : Int) ≤ x ∧ x ≤ 14399)) = false := not_t hc3
   have hB := Bl.next n1.below hb2
   exact xe 21 (.string ⟨#[]⟩) (.inl ⟨by unfold slotQ; first | (rw [hd4]; done) | (rw [hd4]; rfl), rfl, hB⟩)
 have hd5 : (decide ((1 : Int) ≤ x ∧ x ≤ 14399)) = true := not_f hc3
 have k1'1 := n1.blk.below hb2
 refine xb 1 1 k1'1 ?_
 refine xr 0 (args := #[.int .i64 y, .int .i64 0, .int .i64 960]) (ref08_inB y 0 960 _) fun W6 hb6 => ?_
 refine xg 3 [11, 12, 13] (!(decide ((0 : Int) ≤ y ∧ y ≤ 960))) (fun hc7 => ?_) (fun hc7 => ?_)
 · have hd8 : (decide ((0 : Int) ≤ y ∧ y ≤ 960)) = false := not_t hc7
   have hB := Bl.next (Bl.next n1.below hb2) hb6
   exact xe 15 (.string ⟨#[]⟩) (.inl ⟨by unfold slotQ; first | (rw [hd5, hd8]; done) | (rw [hd5, hd8]; rfl), rfl, hB⟩)
 have hd9 : (decide ((0 : Int) ≤ y ∧ y ≤ 960)) = true := not_f hc7
 have k1'2 := k1'1.below hb6
 refine xb 1 2 k1'2 ?_
 refine xr 0 (args := #[.int .i64 z, .int .i64 0, .int .i64 960]) (ref08_inB z 0 960 _) fun W10 hb10 => ?_
 refine xi 4 (!(decide ((0 : Int) ≤ z ∧ z ≤ 960))) (fun hc11 => ?_) (fun hc11 => ?_)
 · have hd12 : (decide ((0 : Int) ≤ z ∧ z ≤ 960)) = false := not_t hc11
   have hB := Bl.next (Bl.next (Bl.next n1.below hb2) hb6) hb10
   exact xe 7 (.string ⟨#[]⟩) (.inl ⟨by unfold slotQ; first | (rw [hd5, hd9, hd12]; done) | (rw [hd5, hd9, hd12]; rfl), rfl, hB⟩)
 have hd13 : (decide ((0 : Int) ≤ z ∧ z ≤ 960)) = true := not_f hc11
 have k1'3 := k1'2.below hb10
 refine xb 5 0 k1'3 ?_
 refine xb 1 1 k1'3 ?_
 refine xb 1 2 k1'3 ?_
 refine xbs 0 3 [.int .i64 x, .int .i64 y, .int .i64 z] 3 fun b14 W14 n14 => ?_
 refine xbs 0 3 [.int .i64 8, .int .i64 4, .int .i64 4] 3 fun b15 W15 n15 => ?_
 have d15_b14 := n15.ne n14.blk
 have hsb : slotQ x y z = true := by
   unfold slotQ
   rw [hd5, hd9, hd13]; rfl
 have k14'1 := n14.blk.below n15.below
 refine xr 0 (args := #[.slice (some ⟨b14, 0, none⟩) 3 3, .slice (some ⟨b15, 0, none⟩) 3 3]) (ref08_textG [x, y, z] [8, 4, 4] (some ⟨b14, 0, none⟩) (some ⟨b15, 0, none⟩) 3 3 _ (slotQ_ok hsb) (k14'1.sl 3 3 (by decide) (by decide)) (n15.blk.sl 3 3 (by decide) (by decide))) fun W16 hb16 => ?_
 have hB := Bl.next (Bl.next (Bl.next (Bl.next (Bl.next (Bl.next n1.below hb2) hb6) hb10) n14.below) n15.below) hb16
 exact xe 4 (.string ⟨(txtL [x, y, z] [8, 4, 4] 3).toArray⟩) (.inr ⟨hsb, rfl, hB⟩)
theorem raws_slot (s : List UInt8) : rawsL slotP s = [rawN s 0 8, rawN s 8 4, rawN s 12 4] := rfl
theorem slot_readOk (s : List UInt8) : readOk slotP s = slotQ (rawN s 0 8 : Int) (rawN s 8 4 : Int) (rawN s 12 4 : Int) := by
  unfold readOk allIn slotQ
  rw [raws_slot]
  simp [slotP, List.range, List.range.loop, inP, List.getD, part0, Bool.and_assoc]
theorem slot_sum : (wids slotP slotP.length).sum = 16 := rfl
def UnpRP (s : List UInt8) (w : World) (e : Ending) (w' : World) : Prop :=
  (¬ rawN s 0 8 < 9223372036854775808 ∧ e = .returned (.tuple #[.slice none 0 0, .int .i64 2]) ∧ Below w.heap.size w w') ∨
  (rawN s 0 8 < 9223372036854775808 ∧ ∃ p c, e = .returned (.tuple #[.slice p 3 c, .int .i64 0]) ∧ Below w.heap.size w w' ∧ w'.ownsRow w.heap.size 3 1 (.slice p 3 c) 3 (([rawN s 0 8, rawN s 8 4, rawN s 12 4] : List Nat).map nv))
theorem ref_Unp844 (a : Option Addr) (n c : Nat) (s : List UInt8) (g : Nat) (w : World) (hn : s.length = n) (h16 : n = 16) (h : Bys w (.slice a n c) s) (kg : Blk w g [.int .i64 8, .int .i64 4, .int .i64 4] 3) :
    Calls Tryz.prog 115 #[.slice a n c, .slice (some ⟨g, 0, none⟩) 3 3] w (UnpRP s w) := by
  subst hn
  have hk : ∀ i, i < ([8, 4, 4] : List Nat).length → ([8, 4, 4] : List Nat).getD i 0 = 1 ∨ ([8, 4, 4] : List Nat).getD i 0 = 2 ∨ ([8, 4, 4] : List Nat).getD i 0 = 4 ∨ ([8, 4, 4] : List Nat).getD i 0 = 8 := by decide
  have hws : Sl w (.slice (some ⟨g, 0, none⟩) 3 3) 3 (([8, 4, 4] : List Nat).map nv) := kg.sl 3 3 (by decide) (by decide)
  have h1 := rawN_lt4 s 8 4 (by decide)
  have h2 := rawN_lt4 s 12 4 (by decide)
  by_cases hq : rawN s 0 8 < 9223372036854775808
  · refine (ref_Unpack_ok a c s (some ⟨g, 0, none⟩) 3 [8, 4, 4] w hk (by rw [h16]; decide) (by omega) (by decide) h hws ?_).mono ?_
    · intro i hi
      have hi' : i < 3 := hi
      obtain rfl | rfl | rfl : i = 0 ∨ i = 1 ∨ i = 2 := by omega
      · exact hq
      · show rawN s 8 4 < _; omega
      · show rawN s 12 4 < _; omega
    · rintro e W ⟨_, rfl, hb, p, c2, rfl, ho⟩
      exact .inr ⟨hq, p, c2, rfl, hb, ho⟩
  · refine (ref_Unpack_bad a c s (some ⟨g, 0, none⟩) 3 [8, 4, 4] w hk (by rw [h16]; decide) (by omega) (by decide) h hws ?_).mono ?_
    · intro q; exact hq (q 0 (by decide))
    · rintro e W ⟨rfl, hb⟩
      exact .inl ⟨hq, rfl, hb⟩
set_option maxRecDepth 100000 in
set_option maxHeartbeats 2000000 in
theorem ref08_ReadSlot (s : List UInt8) (w : World) (hs : s.length ≤ 1000) :
    Calls Tryz.prog 123 #[.string ⟨s.toArray⟩] w (Ret (.tuple #[.agg #[.int .i64 (↑((readV slotP s).getD 0 0) : Int), .int .i64 (↑((readV slotP s).getD 1 0) : Int), .int .i64 (↑((readV slotP s).getD 2 0) : Int)], .int .i64 (readE slotP s)]) w) := by
 refine zin 36 Tryz.func123 ?_
 refine xa 2 [.int .i64 0, .int .i64 0, .int .i64 0] 163 fun b1 W1 n1 => ?_
 refine xin 11 (↑s.length : Int) (16 : Int) (fun hc2 => ?_) (fun hc2 => ?_)
 · refine xsv 3 n1.blk [.int .i64 0, .int .i64 0, .int .i64 0] fun W3 u3 k3 => ?_
   have g1 := n1.ge (Below.refl w.heap.size _)
   have hB := u3.below n1.below g1
   refine xec 5 k3 (.tuple #[.agg #[.int .i64 0, .int .i64 0, .int .i64 0], .int .i64 7]) ?_
   have he : readE slotP s = 7 := if_neg (by rw [slot_sum]; omega)
   rw [readV, he, if_neg (by decide)]; exact ⟨rfl, hB⟩
 refine xcf 5 fun _ _ _ zJ zQ zo zx zK => op_strBytes s zo zx Tryz.underlying9 Tryz.underlying22 Tryz.underlying5 (by omega) ?_
 intro bz cz W4 hb4 hbz
 refine zK _ _ ?_
 refine xbs 0 3 [.int .i64 8, .int .i64 4, .int .i64 4] 3 fun b5 W5 n5 => ?_
 have hbz'1 := hbz.below n5.below
 refine xc 0 (args := #[.slice (some ⟨bz, 0, none⟩) s.length cz, .slice (some ⟨b5, 0, none⟩) 3 3]) (ref_Unp844 (some ⟨bz, 0, none⟩) s.length cz s b5 _ rfl (by omega) hbz'1 n5.blk) ?_
 rintro e W6 hq6
 rcases hq6 with ⟨hq, rfl, hb6⟩ | ⟨hq, p5, c5, rfl, hb6, h5⟩
 · have k1 := ((n1.blk.below hb4).below n5.below).below hb6
   refine xsv 18 k1 [.int .i64 0, .int .i64 0, .int .i64 0] fun W7 u7 k7 => ?_
   have g1 := n1.ge (Below.refl w.heap.size _)
   have hB := u7.below (Bl.next (Bl.next (Bl.next n1.below hb4) n5.below) hb6) g1
   refine xec 5 k7 (.tuple #[.agg #[.int .i64 0, .int .i64 0, .int .i64 0], .int .i64 2]) ?_
   have he : readE slotP s = 2 := by unfold readE; rw [slot_sum, if_pos (by omega), slot_readOk, show slotQ (rawN s 0 8 : Int) (rawN s 8 4 : Int) (rawN s 12 4 : Int) = false from by unfold slotQ; rw [decide_eq_false (by omega)]; rfl, if_neg (by decide)]
   rw [readV, he, if_neg (by decide)]; exact ⟨rfl, hB⟩
 have hs6 := (Bl.next (Bl.next n1.below hb4) n5.below).size
 refine xd 18 (.t w.heap.size [163]) ?_
 have h5'1 := own_below (own_mono h5 hs6) (below_drew W6)
 refine xx (.e [0] 1) _ 3 0 1 (nv_elem (l := [rawN s 0 8, rawN s 8 4, rawN s 12 4]) (own_sl h5'1) rfl (k := 0) (by decide)).1 ?_
 refine xlt (.e [] 2) (.t w.heap.size [163]) (fun V hV => (nv_elem (l := [rawN s 0 8, rawN s 8 4, rawN s 12 4]) (own_sl (own_only h5'1 hV.2 (by decide))) rfl (k := 0) (by decide)).2) ?_
 refine xx (.e [3] 4) _ 3 1 1 (nv_elem (l := [rawN s 0 8, rawN s 8 4, rawN s 12 4]) (own_sl h5'1) rfl (k := 1) (by decide)).1 ?_
 refine xlt (.e [] 5) (.t w.heap.size [163]) (fun V hV => (nv_elem (l := [rawN s 0 8, rawN s 8 4, rawN s 12 4]) (own_sl (own_only h5'1 hV.2 (by decide))) rfl (k := 1) (by decide)).2) ?_
 refine xx (.e [6] 7) _ 3 2 1 (nv_elem (l := [rawN s 0 8, rawN s 8 4, rawN s 12 4]) (own_sl h5'1) rfl (k := 2) (by decide)).1 ?_
 refine xlt (.e [] 8) (.t w.heap.size [163]) (fun V hV => (nv_elem (l := [rawN s 0 8, rawN s 8 4, rawN s 12 4]) (own_sl (own_only h5'1 hV.2 (by decide))) rfl (k := 2) (by decide)).2) ?_
 refine xa (.o [9] 10) [.int .i64 0, .int .i64 0, .int .i64 0] 163 fun b8 W8 n8 => ?_
 have k1 := (((n1.blk.below hb4).below n5.below).below hb6).below (below_drew W6)
 have d8_b1 := n8.ne k1
 have g8 := n8.ge (Bl.next (Bl.next (Bl.next (Bl.next n1.below hb4) n5.below) hb6) (below_drew W6))
 refine ysv (.o [] 11) n8.blk [.int .i64 (↑(rawN s 0 8) : Int), .int .i64 (↑(rawN s 8 4) : Int), .int .i64 (↑(rawN s 12 4) : Int)] (.t w.heap.size [163]) fun W9 u9 k9 => ⟨(sft_upd u9 n8.blk g8 (by decide)), ?_⟩
 refine xlv 5 k9.rp ?_
 refine xc 0 (args := #[.agg #[.int .i64 (↑(rawN s 0 8) : Int), .int .i64 (↑(rawN s 8 4) : Int), .int .i64 (↑(rawN s 12 4) : Int)]]) (ref08_Slot (↑(rawN s 0 8) : Int) (↑(rawN s 8 4) : Int) (↑(rawN s 12 4) : Int) _) ?_
 rintro e W10 hq10
 rcases hq10 with ⟨hsb, rfl, hb10⟩ | ⟨hsb, rfl, hb10⟩
 · have k1'1 := (u9.blk (k1.below n8.below) (Ne.symm (Ne.symm d8_b1))).below hb10
   refine xsv 7 k1'1 [.int .i64 0, .int .i64 0, .int .i64 0] fun W11 u11 k11 => ?_
   have g1 := n1.ge (Below.refl w.heap.size _)
   have hB := u11.below (Bl.next (u9.below (Bl.next (Bl.next (Bl.next (Bl.next (Bl.next n1.below hb4) n5.below) hb6) (below_drew W6)) n8.below) g8) hb10) g1
   refine xec 5 k11 (.tuple #[.agg #[.int .i64 0, .int .i64 0, .int .i64 0], .int .i64 2]) ?_
   have he : readE slotP s = 2 := by unfold readE; rw [slot_sum, if_pos (by omega), slot_readOk, hsb, if_neg (by decide)]
   rw [readV, he, if_neg (by decide)]; exact ⟨rfl, hB⟩
 refine xk 3 (show (((⟨(txtL [(↑(rawN s 0 8) : Int), (↑(rawN s 8 4) : Int), (↑(rawN s 12 4) : Int)] [8, 4, 4] 3).toArray⟩ : ByteArray).toList == (⟨#[]⟩ : ByteArray).toList) : Bool) = false from txt3_ne _ _ _) ?_
 have k9'1 := k9.below hb10
 refine xlv 4 k9'1.rp ?_
 have k1'2 := (u9.blk (k1.below n8.below) (Ne.symm (Ne.symm d8_b1))).below hb10
 refine xsv 0 k1'2 [.int .i64 (↑(rawN s 0 8) : Int), .int .i64 (↑(rawN s 8 4) : Int), .int .i64 (↑(rawN s 12 4) : Int)] fun W12 u12 k12 => ?_
 have g1 := n1.ge (Below.refl w.heap.size _)
 have hB := u12.below (Bl.next (u9.below (Bl.next (Bl.next (Bl.next (Bl.next (Bl.next n1.below hb4) n5.below) hb6) (below_drew W6)) n8.below) g8) hb10) g1
 refine xec 4 k12 (.tuple #[.agg #[.int .i64 (↑(rawN s 0 8) : Int), .int .i64 (↑(rawN s 8 4) : Int), .int .i64 (↑(rawN s 12 4) : Int)], .int .i64 0]) ?_
 have he : readE slotP s = 0 := by unfold readE; rw [slot_sum, if_pos (by omega), slot_readOk, hsb, if_pos rfl]
 rw [readV, he, if_pos rfl, raws_slot]; exact ⟨rfl, hB⟩
end Go.Proofs.YtinegkldgjhnpaaGreatDoor
namespace Go.Proofs.YtinegkldgjhnpaaGreatDoor
open Go.RowKit Go.Extern.Stop Go.Stop Go.Extern
set_option linter.unusedVariables false
attribute [local irreducible] wpList wpAnyH Code.wp Oper.wp Go

set_option maxRecDepth 100000 in
set_option maxHeartbeats 1000000 in
theorem ref01_Same (a b : Option Addr) (ca cb : Nat) (l : List Int) (w : World) (ha : Ints w (.slice a l.length ca) l) (hb : Ints w (.slice b l.length cb) l) :
    Calls Tryz.prog 34 #[.slice a l.length ca, .slice b l.length cb] w (Ret (.bool true) w) := by
 have hLa := Sl.len ha
 refine zin 26 Tryz.func34 ?_
 refine xk 15 (show (((↑l.length : Int) != (↑l.length : Int)) : Bool) = false from by simp) ?_
 have hB := Below.refl w.heap.size w
 refine zl 9 26 (fun zm zkv V => ∃ (i : Nat), zkv = [(0, .slice a l.length ca), (1, .slice b l.length cb), (5, .int .i64 (↑i : Int))] ∧ zm = l.length - ((↑i : Int)).toNat ∧ Below w.heap.size w V ∧ i ≤ l.length) ⟨0, rfl, rfl, hB, Nat.zero_le _⟩ ?_
 rintro _ _ W1 ⟨i, rfl, rfl, hB_1, hi⟩ J1 hJ1 r1
 refine xid 9 ((↑i : Int) < (↑l.length : Int)) (fun hc2 => ?_) (fun hc2 => ?_)
 · refine xd 5 .z ?_
   refine xx (.e [0, 1] 2) _ l.length i 1 (Ints.elem ha (k := i) (by omega)).1 ?_
   have hB'1 := Bl.next hB_1 (below_drew W1)
   refine xl (.e [] 3) ((Ints.elem (ha.below hB'1) (k := i) (by omega)).2) ?_
   refine xx (.e [4, 5] 6) _ l.length i 1 (Ints.elem hb (k := i) (by omega)).1 ?_
   refine xl (.e [] 7) ((Ints.elem (hb.below hB'1) (k := i) (by omega)).2) ?_
   refine xk (.r [8] 2) (show (((l.getD i 0) != (l.getD i 0)) : Bool) = false from by simp) ?_
   refine xwm 5 ((↑i : Int) + 1) (↑(i + 1) : Int) ?_
   exact ze 2 (hJ1 _ _ _ ⟨i + 1, rfl, rfl, hB'1, by omega⟩ (by omega))
 exact xe 11 (.bool true) ⟨rfl, hB_1⟩
end Go.Proofs.YtinegkldgjhnpaaGreatDoor
namespace Go.Proofs.YtinegkldgjhnpaaGreatDoor
open Go.RowKit Go.Extern.Stop Go.Stop Go.Extern
set_option linter.unusedVariables false
attribute [local irreducible] wpList wpAnyH Code.wp Oper.wp Go

theorem ImgR.mono {B B' b : Nat} {p : Option Addr} {n c : Nat} {l : List UInt8} {w : World} (h : ImgR B b p n c l w) (hB : B' ≤ B) : ImgR B' b p n c l w := ⟨h.blk, own_mono h.row hB, h.hn⟩
theorem image_OfR (a : Option Addr) (c n m : Nat) (l : List UInt8) (w : World) (hn : l.length = n) (hm : min (n / 256) 14400 * 256 = m) (h : Bys w (.slice a n c) l) (hl : n ≤ 100000000) (hc : n ≤ c) :
    Calls Tryz.prog 10 #[.slice a n c] w (RetS (fun w' r => ∃ b p c2, r = .pointer (some ⟨b, 0, none⟩) ∧ w.heap.size ≤ b ∧ ImgR w.heap.size b p m c2 (l.take m) w') w) := by
  subst hn hm
  refine (image_Of a c l w h hl hc).mono ?_
  rintro e W ⟨_, rfl, hb, b, p, c2, rfl, h1, h2, h3⟩
  exact ⟨_, rfl, hb, b, p, c2, rfl, h1, h2, h3, by omega⟩
def WroteR (B b : Nat) (p : Option Addr) (n c : Nat) (l : List UInt8) (w : World) (e : Ending) (w' : World) : Prop :=
  e = .returned .nilIface ∧ Below B w w' ∧ Only [5] w w' ∧ ImgR B b p n c l w'
theorem block_WriteR (B b : Nat) (p : Option Addr) (n c k : Nat) (ki : Int) (l : List UInt8) (kind : Int) (a : Option Addr) (ca m : Nat) (li : List UInt8) (w : World) (hki : ki = (k : Int)) (hm : li.length = m) (hI : ImgR B b p n c l w) (hk : k < n / 256) (h1 : 1 ≤ kind) (h2 : kind ≤ 4) (hin : Bys w (.slice a m ca) li) (hl : m ≤ 244) (hBw : B ≤ w.heap.size) :
    Calls Tryz.prog 20 #[.pointer (some ⟨b, 0, none⟩), .int .i64 ki, .int .i64 kind, .slice a m ca] w (WroteR B b p n c (putB l (k * 256) (sealB kind k li)) w) := by
  subst hki hm
  obtain ⟨g, rfl, hc⟩ := hI.base (by omega)
  refine (block_Write B b g n c k l kind a ca li w hI.blk hI.row hI.hn hc hk h1 h2 hin hl hBw).mono ?_
  rintro e W ⟨rfl, hb, hO, _, ho⟩
  exact ⟨rfl, hb, hO, hI.blk.only hO (by decide), ho, hI.hn⟩
end Go.Proofs.YtinegkldgjhnpaaGreatDoor
namespace Go.Proofs.YtinegkldgjhnpaaGreatDoor
open Go.RowKit Go.Extern.Stop Go.Stop Go.Extern
set_option linter.unusedVariables false
attribute [local irreducible] wpList wpAnyH Code.wp Oper.wp Go

theorem seal_Seal_err (kind no : Int) (a : Option Addr) (c : Nat) (li : List UInt8) (w : World) (h : Bys w (.slice a li.length c) li) (hs : sealE kind no li ≠ 0) :
    Calls Tryz.prog 53 #[.int .i64 kind, .int .i64 no, .slice a li.length c] w (Ret (.tuple #[.slice none 0 0, .int .i64 (sealE kind no li)]) w) := by
  refine (seal_SealG kind no a c li w h).mono ?_
  rintro e W (⟨_, rfl, hb⟩ | ⟨h0, _⟩)
  · exact ⟨rfl, hb⟩
  · exact absurd h0 hs
theorem seal_Seal_yes (kind no : Int) (a : Option Addr) (c : Nat) (li : List UInt8) (w : World) (h : Bys w (.slice a li.length c) li) (hs : sealE kind no li = 0) :
    Calls Tryz.prog 53 #[.int .i64 kind, .int .i64 no, .slice a li.length c] w (fun e w' => li.length ≤ 244 ∧ ∃ p c, e = .returned (.tuple #[.slice p 256 c, .int .i64 0]) ∧ Below w.heap.size w w') := by
  refine (seal_SealG kind no a c li w h).mono ?_
  rintro e W (⟨h0, _⟩ | ⟨_, _, hl, p, c2, rfl, hb, ho⟩)
  · exact absurd hs h0
  · exact ⟨hl, p, c2, rfl, hb⟩
theorem sealE_zero {kind no : Int} {li : List UInt8} (h : sealE kind no li = 0) : knownB kind no = true ∧ li.length ≤ 244 := by
  unfold sealE at h
  split at h
  · split at h
    · exact ⟨by assumption, by assumption⟩
    · cases h
  · cases h
set_option maxRecDepth 100000 in
set_option maxHeartbeats 1000000 in
theorem image_Write_out (b : Nat) (p : Option Addr) (n c : Nat) (k : Int) (x : Value) (w : World) (hk : Blk w b [.slice p n c] 100) (hn : n ≤ 100000000) (ho : ¬ (0 ≤ k ∧ k < (n / 256 : Nat))) :
    Calls Tryz.prog 54 #[.pointer (some ⟨b, 0, none⟩), .int .i64 k, x] w (Ret (.int .i64 3) w) := by
 refine zin 24 Tryz.func54 ?_
 refine xr 9 (args := #[.pointer (some ⟨b, 0, none⟩), .int .i64 k]) (image_block_out b p n c k _ (hk.below (Below.refl w.heap.size _)) hn ho) fun W1 hb1 => ?_
 exact xe 23 (.int .i64 3) ⟨rfl, hb1⟩
set_option maxRecDepth 100000 in
set_option maxHeartbeats 1000000 in
theorem blkW_bad (B b : Nat) (p : Option Addr) (n c : Nat) (l : List UInt8) (no kind : Int) (a : Option Addr) (ca : Nat) (li : List UInt8) (w : World) (hI : ImgR B b p n c l w) (hin : Bys w (.slice a li.length ca) li) (hs : sealE kind no li ≠ 0) :
    Calls Tryz.prog 20 #[.pointer (some ⟨b, 0, none⟩), .int .i64 no, .int .i64 kind, .slice a li.length ca] w (RetS (fun w' r => ErrV w' [some no] (some (sealE kind no li)) r) w) := by
 refine zin 28 Tryz.func20 ?_
 refine xr 10 (args := #[.int .i64 kind, .int .i64 no, .slice a li.length ca]) (seal_Seal_err kind no a ca li _ (hin.below (Below.refl w.heap.size _)) hs) fun W1 hb1 => ?_
 refine xk 14 (show (((sealE kind no li) == (0 : Int)) : Bool) = false from beq_false_of_ne hs) ?_
 refine xc 7 (args := #[.int .i64 no, .iface 53 (.int .i64 (sealE kind no li))]) (block_told no (sealE kind no li) _) ?_
 rintro _ W2 ⟨_, rfl, hb2, hv2⟩
 rw [if_neg hs, if_neg hs] at hv2
 have hq2 := hv2
 obtain ⟨bf2, vf2, rfl, _, _⟩ := hq2
 have hB := Bl.next hb1 hb2
 exact xe 4 (.iface 67 (.pointer (some ⟨bf2, 0, none⟩))) ⟨_, rfl, hB, hv2⟩
set_option maxRecDepth 100000 in
set_option maxHeartbeats 1000000 in
theorem blkW_out (B b : Nat) (p : Option Addr) (n c : Nat) (l : List UInt8) (no kind : Int) (a : Option Addr) (ca : Nat) (li : List UInt8) (w : World) (hI : ImgR B b p n c l w) (hin : Bys w (.slice a li.length ca) li) (hs : sealE kind no li = 0) (ho : ¬ (0 ≤ no ∧ no < (n / 256 : Nat))) :
    Calls Tryz.prog 20 #[.pointer (some ⟨b, 0, none⟩), .int .i64 no, .int .i64 kind, .slice a li.length ca] w (RetS (fun w' r => ErrV w' [some no] (some 3) r) w) := by
 refine zin 28 Tryz.func20 ?_
 refine xc 10 (args := #[.int .i64 kind, .int .i64 no, .slice a li.length ca]) (seal_Seal_yes kind no a ca li _ (hin.below (Below.refl w.heap.size _)) hs) ?_
 rintro _ W1 ⟨_, p2, c2, rfl, hb1⟩
 refine xr 19 (args := #[.pointer (some ⟨b, 0, none⟩), .int .i64 no, .slice p2 256 c2]) (image_Write_out b p n c no _ _ (hI.below hb1).blk (by have := hI.hn; omega) ho) fun W2 hb2 => ?_
 refine xc 8 (args := #[.int .i64 no, .iface 53 (.int .i64 3)]) (block_told no 3 _) ?_
 rintro _ W3 ⟨_, rfl, hb3, hv3⟩
 rw [if_neg (by decide), if_neg (by decide)] at hv3
 have hq3 := hv3
 obtain ⟨bf3, vf3, rfl, _, _⟩ := hq3
 have hB'1 := Bl.next (Bl.next hb1 hb2) hb3
 exact xe 4 (.iface 67 (.pointer (some ⟨bf3, 0, none⟩))) ⟨_, rfl, hB'1, hv3⟩
def erL (no er : Int) : List (Option Int) := if er = 0 then [] else [some no]
def erT (er : Int) : Option Int := if er = 0 then none else some er
theorem erL_blocks (no er : Int) : blocksOf (erL no er) = fltL no er := by unfold erL fltL; split <;> rfl
theorem erL_code (no er : Int) : codeOf (erL no er) (erT er) = er := by
  unfold erL erT
  split
  · rename_i h; rw [h]; rfl
  · rfl
theorem erL_len (no er : Int) : (erL no er).length ≤ 1000000 := by unfold erL; split <;> simp
def WroteG (B b : Nat) (p : Option Addr) (n c : Nat) (l : List UInt8) (no er : Int) (w : World) (e : Ending) (w' : World) : Prop :=
  ∃ v, e = .returned v ∧ Below B w w' ∧ Only [5] w w' ∧ ImgR B b p n c l w' ∧ ErrV w' (erL no er) (erT er) v
theorem block_WriteG (B b : Nat) (p : Option Addr) (k n c : Nat) (l : List UInt8) (no kind : Int) (a : Option Addr) (ca : Nat) (li : List UInt8) (w : World) (hn : n = k * 256) (hI : ImgR B b p n c l w) (hin : Bys w (.slice a li.length ca) li) (hBw : B ≤ w.heap.size) :
    Calls Tryz.prog 20 #[.pointer (some ⟨b, 0, none⟩), .int .i64 no, .int .i64 kind, .slice a li.length ca] w (WroteG B b p n c (wrL kind no k li l) no (wrE kind no k li) w) := by
  have hk : n / 256 = k := by omega
  by_cases hs : sealE kind no li = 0
  · obtain ⟨hkb, hl4⟩ := sealE_zero hs
    obtain ⟨h1, h2, h3, h4⟩ := knownB_all hkb
    by_cases ho : 0 ≤ no ∧ no < (k : Int)
    · have he : wrE kind no k li = 0 := by unfold wrE; rw [if_pos hs, if_pos ho]
      obtain ⟨j, rfl⟩ : ∃ j : Nat, no = j := ⟨no.toNat, by omega⟩
      rw [wrL, if_pos he, he]
      refine (block_WriteR B b p n c j (j : Int) l kind a ca li.length li w rfl rfl hI (by omega) h1 h2 hin hl4 hBw).mono ?_
      rintro e W ⟨rfl, hb, hO, hI2⟩
      exact ⟨_, rfl, hb, hO, hI2, rfl⟩
    · have he : wrE kind no k li = 3 := by unfold wrE; rw [if_pos hs, if_neg ho]
      rw [wrL, if_neg (by rw [he]; decide), he]
      refine (blkW_out B b p n c l no kind a ca li w hI hin hs (by rw [hk]; exact ho)).mono ?_
      rintro e W ⟨v, rfl, hb, hv⟩
      exact ⟨_, rfl, hb.mono hBw, Only.of_below hb, hI.below hb, hv⟩
  · have he : wrE kind no k li = sealE kind no li := by unfold wrE; rw [if_neg hs]
    rw [wrL, if_neg (by rw [he]; exact hs), he]
    refine (blkW_bad B b p n c l no kind a ca li w hI hin hs).mono ?_
    rintro e W ⟨v, rfl, hb, hv⟩
    exact ⟨_, rfl, hb.mono hBw, Only.of_below hb, hI.below hb, by rw [erL, erT, if_neg hs, if_neg hs]; exact hv⟩
theorem ref_OfN (a : Option Addr) (c n k : Nat) (l : List UInt8) (w : World) (hn : l.length = n) (hk : min (n / 256) 14400 = k) (h : Bys w (.slice a n c) l) (hl : n ≤ 100000000) :
    Calls Tryz.prog 12 #[.slice a n c] w (RetS (fun w' r => ∃ bm p c2, r = .pointer (some ⟨bm, 0, none⟩) ∧ w.heap.size ≤ bm ∧ RefI w.heap.size bm p k c2 (l.take (k * 256)) w') w) := by
  subst hn hk; exact ref_Of a c l w h hl
set_option maxRecDepth 100000 in
set_option maxHeartbeats 1000000 in
theorem law11_same (no er : Int) (v : Value) (a5 : Option Addr) (c5 : Nat) (w : World) (hg : ErrT w) (hv : ErrV w (erL no er) (erT er) v) (hs : Ints w (.slice a5 (fltL no er).length c5) (fltL no er)) :
    Calls Tryz.prog 30 #[v, .agg #[.slice a5 ((fltL no er).length) c5, .int .i64 er]] w (Ret (.bool true) w) := by
 refine zin 9 Tryz.func30 ?_
 refine xa 2 [.slice a5 ((fltL no er).length) c5, .int .i64 er] 45 fun b1 W1 n1 => ?_
 refine xd 4 .z ?_
 have k1 := n1.blk.below (below_drew W1)
 refine xlv (.e [0] 2) k1.rp ?_
 have hB := Bl.next n1.below (below_drew W1)
 have hv'1 := (hv.below n1.below).below (below_drew W1)
 refine yc (.o [] 1) (args := #[v]) .z (law05_Told (erT er) (erL no er) v _ (erL_len no er) (hg.below hB) hv'1) ?_
 rintro _ W2 ⟨vt, rfl, hb2, hq⟩
 refine ⟨hb2, ?_⟩
 rw [erL_blocks, erL_code] at hq
 have hB'1 := Bl.next hB hb2
 refine xr (.o [] 3) (args := #[vt, .agg #[.slice a5 ((fltL no er).length) c5, .int .i64 er]]) (ref05_Same (fltL no er) er vt _ _ hq ⟨_, rfl, Sl.below hs hB'1⟩) fun W3 hb3 => ?_
 have hB'2 := Bl.next hB'1 hb3
 exact xe (.r [4] 3) (.bool true) ⟨rfl, hB'2⟩
end Go.Proofs.YtinegkldgjhnpaaGreatDoor
namespace Go.Proofs.YtinegkldgjhnpaaGreatDoor
open Go.RowKit Go.Extern.Stop Go.Stop Go.Extern
set_option linter.unusedVariables false
attribute [local irreducible] wpList wpAnyH Code.wp Oper.wp Go

theorem ref08_ReadSlotP (l : List UInt8) (i : Nat) (w : World) (hs : (slotS l i).length ≤ 1000) : Calls Tryz.prog 123 #[.string ⟨(slotS l i).toArray⟩] w (fun e w' =>
    (readE slotP (slotS l i) = 0 ∧ e = .returned (.tuple #[.agg #[.int .i64 (slotK l i 0 : Int), .int .i64 (slotK l i 1 : Int), .int .i64 (slotK l i 2 : Int)], .int .i64 0]) ∧ Below w.heap.size w w') ∨
    (readE slotP (slotS l i) ≠ 0 ∧ e = .returned (.tuple #[.agg #[.int .i64 (slotK l i 0 : Int), .int .i64 (slotK l i 1 : Int), .int .i64 (slotK l i 2 : Int)], .int .i64 (readE slotP (slotS l i))]) ∧ Below w.heap.size w w')) := by
  refine (ref08_ReadSlot (slotS l i) w hs).mono ?_
  rintro e W ⟨rfl, hb⟩
  by_cases h : readE slotP (slotS l i) = 0
  · exact .inl ⟨h, by rw [h]; rfl, hb⟩
  · exact .inr ⟨h, rfl, hb⟩
theorem bysZ {w : World} {a : Option Addr} {c r : Nat} {l : List UInt8} (h : Bys w (.slice a 244 c) l) (hl : l.length = 244) (hk : 4 + 16 * r ≤ 244) : Bys w (.slice (cutA a (4 + 16 * r) c 1) (244 - (4 + 16 * r)) (c - (4 + 16 * r))) (l.drop (4 + r * 16)) := by
  rw [Nat.mul_comm r 16]; exact bysK h hl hk
theorem slot_cut {w : World} {a : Option Addr} {c i : Nat} {l : List UInt8} (h : Bys w (.slice a 244 c) l) (hl : l.length = 244) (hi : i < 15) : Bys w (.slice (cutA a (4 + 16 * i) c 1) (20 + 16 * i - (4 + 16 * i)) (c - (4 + 16 * i))) (slotS l i) := by
  have := Bys.cut h hl (4 + 16 * i) (20 + 16 * i) (by omega) (by omega)
  unfold slotS
  have e : 20 + 16 * i - (4 + 16 * i) = 16 := by omega
  rw [Nat.mul_comm i 16]
  rw [e] at this ⊢
  exact this
theorem slot_cutlen {i : Nat} {l : List UInt8} (hl : l.length = 244) (hi : i < 15) : (slotS l i).length = 20 + 16 * i - (4 + 16 * i) := by rw [slotS_len hl hi]; omega
set_option maxRecDepth 100000 in
set_option maxHeartbeats 4000000 in
theorem ref10_Read (a : Option Addr) (c : Nat) (l : List UInt8) (w : World) (hl : l.length = 244) (h : Bys w (.slice a 244 c) l) :
    Calls Tryz.prog 77 #[.slice a 244 c] w (SlotsP l w) := by
 have hcap := Bys.cap h hl
 refine zin 54 Tryz.func77 ?_
 refine xr 20 (args := #[.slice a 244 c, .int .i64 0, .int .i64 4]) (ref_GetN a 244 c 0 4 0 4 l _ hl rfl rfl (by decide) (by decide) (by decide) (h.below (Below.refl w.heap.size _))) fun W1 hb1 => ?_
 refine xg 13 [19, 20] (decide ((↑(rawN l 0 4) : Int) > (15 : Int))) (fun hc2 => ?_) (fun hc2 => ?_)
 · have hc2 := of_decide_eq_true hc2
   refine xe 19 (.tuple #[.slice none 0 0, .int .i64 7]) ?_
   have he : idxE l = 7 := by unfold idxE idxOk; rw [decide_eq_false (by omega), Bool.false_and, if_neg (by decide)]
   exact .inl ⟨by rw [he]; decide, by rw [he], hb1⟩
 have hc2 := of_decide_eq_false hc2
 refine xwm 2 (16 * (↑(rawN l 0 4) : Int)) (↑(16 * (rawN l 0 4)) : Int) ?_
 refine xwm 0 (4 + (↑(16 * (rawN l 0 4)) : Int)) (↑(4 + (16 * (rawN l 0 4))) : Int) ?_
 refine xsL 0 (fun _ _ _ _ zo zx zy V => run_sliceLA (k := (4 + (16 * (rawN l 0 4)))) (b := a) (n := 244) (c := c) (i := (↑(4 + (16 * (rawN l 0 4))) : Int)) (ki := .i64) 1 zo zx zy rfl (by omega) Tryz.underlying22 (by kernel_rfl) V) ?_
 refine xr 0 (args := #[.slice (cutA a (4 + (16 * (rawN l 0 4))) c 1) (244 - (4 + (16 * (rawN l 0 4)))) (c - (4 + (16 * (rawN l 0 4))))]) (ref_ZeroN (cutA a (4 + (16 * (rawN l 0 4))) c 1) (244 - (4 + (16 * (rawN l 0 4)))) (c - (4 + (16 * (rawN l 0 4)))) (l.drop (4 + rawN l 0 4 * 16)) _ (by simp; omega) (by omega) ((bysZ h hl (by omega)).below hb1)) fun W3 hb3 => ?_
 refine xi 4 (!(zeroB (l.drop (4 + rawN l 0 4 * 16)))) (fun hc4 => ?_) (fun hc4 => ?_)
 · have hze : zeroB (l.drop (4 + rawN l 0 4 * 16)) = false := not_t hc4
   have hB'1 := Bl.next hb1 hb3
   refine xe 8 (.tuple #[.slice none 0 0, .int .i64 7]) ?_
   have he : idxE l = 7 := by unfold idxE idxOk; rw [hze, Bool.and_false, if_neg (by decide)]
   exact .inl ⟨by rw [he]; decide, by rw [he], hB'1⟩
 have hze : zeroB (l.drop (4 + rawN l 0 4 * 16)) = true := not_f hc4
 have hB'2 := Bl.next hb1 hb3
 refine zl 14 54 (fun zm zkv V => ∃ (i : Nat) (q : Option Addr) (d : Nat), zkv = [(0, .slice a 244 c), (4, .int .i64 (↑(rawN l 0 4) : Int)), (6, .slice q i d), (7, .int .i64 (↑i : Int))] ∧ zm = (rawN l 0 4) - ((↑i : Int)).toNat ∧ Below w.heap.size w V ∧ V.ownsRow w.heap.size 163 3 (.slice q i d) i ((sltsL l i).flatMap sltC) ∧ i ≤ (rawN l 0 4) ∧ sltsE l i = 0) ⟨0, _, _, rfl, rfl, hB'2, World.ownsRow_nil _ _ _ _, Nat.zero_le _, rfl⟩ ?_
 rintro _ _ W5 ⟨i, q, d, rfl, rfl, hB_5, ho, hi, hz⟩ J5 hJ5 r5
 refine xid 8 ((↑i : Int) < (↑(rawN l 0 4) : Int)) (fun hc6 => ?_) (fun hc6 => ?_)
 · refine xwm 8 (16 * (↑i : Int)) (↑(16 * i) : Int) ?_
   refine xwm 0 (4 + (↑(16 * i) : Int)) (↑(4 + (16 * i)) : Int) ?_
   refine xwm 1 (16 * (↑i : Int)) (↑(16 * i) : Int) ?_
   refine xwm 0 (20 + (↑(16 * i) : Int)) (↑(20 + (16 * i)) : Int) ?_
   refine xsB 0 (fun _ _ _ _ _ zo zx zy zz V => run_sliceLHA (k := (4 + (16 * i))) (h := (20 + (16 * i))) (b := a) (n := 244) (c := c) (i := (↑(4 + (16 * i)) : Int)) (ki := .i64) (j := (↑(20 + (16 * i)) : Int)) (kj := .i64) 1 zo zx zy rfl zz rfl (by omega) (by omega) Tryz.underlying22 (by kernel_rfl) V) ?_
   refine xcv0 0 (fun _ _ _ zo zx => run_bstr zo zx ((slot_cut (i := i) h hl (by omega)).below hB_5) (slot_cutlen (i := i) hl (by omega)) Tryz.underlying22 Tryz.underlying5 Tryz.underlying9) ?_
   refine xc 0 (args := #[.string ⟨(slotS l i).toArray⟩]) (ref08_ReadSlotP l i _ (by rw [slotS_len hl (by omega)]; decide)) ?_
   rintro e W7 hq7
   rcases hq7 with ⟨hz0, rfl, hb7⟩ | ⟨hz0, rfl, hb7⟩
   · refine xa 3 [.int .i64 0, .int .i64 0, .int .i64 0] 163 fun b8 W8 n8 => ?_
     have hB'3 := Bl.next hB_5 hb7
     have g8 := n8.ge hB'3
     have ho'1 := own_below ho hb7
     have r8_ho := own_ne ho'1 n8
     refine xsv 0 n8.blk [.int .i64 (↑(slotK l i 0) : Int), .int .i64 (↑(slotK l i 1) : Int), .int .i64 (↑(slotK l i 2) : Int)] fun W9 u9 k9 => ?_
     refine xlv 15 k9.rp ?_
     refine xbs 0 1 [.int .i64 (↑(slotK l i 0) : Int), .int .i64 (↑(slotK l i 1) : Int), .int .i64 (↑(slotK l i 2) : Int)] 163 fun b10 W10 n10 => ?_
     have d10_b8 := n10.ne k9
     have hB'4 := u9.below (Bl.next hB'3 n8.below) g8
     have g10 := n10.ge hB'4
     have ho'2 := u9.own3 (own_below ho'1 n8.below) r8_ho
     have r10_ho := own_ne ho'2 n10
     have ho'3 := own_below ho'2 n10.below
     have hB'5 := Bl.next hB'4 n10.below
     refine xbi 0 fun _ _ _ _ zJ zQ zo zx zy zK => op_app (m := 1) (news := [.int .i64 (↑(slotK l i 0) : Int), .int .i64 (↑(slotK l i 1) : Int), .int .i64 (↑(slotK l i 2) : Int)]) (.agg #[.int .i64 0, .int .i64 0, .int .i64 0]) 3 24 (i + 1) (((sltsL l (i + 1)).flatMap sltC)) zo Tryz.underlying63 (by kernel_rfl) rfl (by decide) zx ho'3 zy (n10.blk.sl 1 1 (by decide) (by decide)) rfl (by simp [Value.oneCell']) (by unfold maxLen; omega) (by omega) hB'5.size (by rfl) (by rw [sltsL_snoc, List.flatMap_append]; rfl) fun px11 cx11 W11 o11 hg11 hb11 => ?_
     refine zK _ _ ?_
     refine xwm 6 ((↑i : Int) + 1) (↑(i + 1) : Int) ?_
     have hB'6 := hB'5.trans hb11
     exact ze 2 (hJ5 _ _ _ ⟨i + 1, _, _, rfl, rfl, hB'6, o11, by omega, sltsE_next hz hz0⟩ (by omega))
   refine xa 3 [.int .i64 0, .int .i64 0, .int .i64 0] 163 fun b12 W12 n12 => ?_
   have hB'7 := Bl.next hB_5 hb7
   have g12 := n12.ge hB'7
   have ho'4 := own_below ho hb7
   have r12_ho := own_ne ho'4 n12
   refine xsv 0 n12.blk [.int .i64 (↑(slotK l i 0) : Int), .int .i64 (↑(slotK l i 1) : Int), .int .i64 (↑(slotK l i 2) : Int)] fun W13 u13 k13 => ?_
   refine xk 10 (show (((readE slotP (slotS l i)) != (0 : Int)) : Bool) = true from bne_iff_ne.2 hz0) ?_
   have hB'8 := u13.below (Bl.next hB'7 n12.below) g12
   refine xe 13 (.tuple #[.slice none 0 0, .int .i64 2]) ?_
   have hok : idxOk l = true := by unfold idxOk; rw [hze, decide_eq_true (by omega)]; rfl
   have h2 : readE slotP (slotS l i) = 2 := (slot_two hl (by omega)).resolve_left hz0
   have he : idxE l = 2 := by unfold idxE; rw [if_pos hok, sltsE_at hz hz0 (by omega), h2]
   exact .inl ⟨by rw [he]; decide, by rw [he], hB'8⟩
 refine xe 13 (.tuple #[.slice q i d, .int .i64 0]) ?_
 have hok : idxOk l = true := by unfold idxOk; rw [hze, decide_eq_true (by omega)]; rfl
 obtain rfl : i = rawN l 0 4 := by omega
 exact .inr ⟨by unfold idxE; rw [if_pos hok, hz], _, _, rfl, hB_5, ho⟩
def sltD : Nat × Nat × Nat := (0, 0, 0)
theorem run_sltne {a : Act} {o : Oper} {p q : Operand} (x : Nat × Nat × Nat) (ho : o.op = .binOp .neq 163 p q 163) (hx : a.eval p = .agg (sltC x).toArray) (hy : a.eval q = .agg (sltC x).toArray) (V : World) :
    (execOp a.eval o).run Tryz.prog V = .ok (.value (.bool false)) V := by
  have h1 := Tryz.underlying163
  have h2 := Tryz.underlying3
  have h4 : Tryz.prog.stoodInHeld 163 = false := by kernel_rfl
  have hb : (binOp .neq 163 (.agg (sltC x).toArray) (.agg (sltC x).toArray)).run Tryz.prog V = .ok (.bool false) V := by
    obtain ⟨x0, x1, x2⟩ := x
    simp [go_sem, Program.fieldsOf, h1, h2, h4, Op.eqFields, sltC]
  have hg := run_eqGuard_agg (P := Tryz.prog) (w := V) .neq 163 p q (sltC x).toArray (sltC x).toArray (by kernel_rfl)
  simp only [execOp, ho, hx, hy, Sem.run_bind, hg, Result.andThen_ok, hb]
  rfl
set_option maxRecDepth 100000 in
set_option maxHeartbeats 1000000 in
theorem ref10_Same (a b : Option Addr) (ca cb : Nat) (es : List (Nat × Nat × Nat)) (w : World) (ha : Sts sltC w (.slice a es.length ca) es) (hb : Sts sltC w (.slice b es.length cb) es) :
    Calls Tryz.prog 35 #[.slice a es.length ca, .slice b es.length cb] w (Ret (.bool true) w) := by
 have hLa := Sl.len ha
 refine zin 26 Tryz.func35 ?_
 refine xk 15 (show (((↑es.length : Int) != (↑es.length : Int)) : Bool) = false from by simp) ?_
 have hB := Below.refl w.heap.size w
 refine zl 9 26 (fun zm zkv V => ∃ (i : Nat), zkv = [(0, .slice a es.length ca), (1, .slice b es.length cb), (5, .int .i64 (↑i : Int))] ∧ zm = es.length - ((↑i : Int)).toNat ∧ Below w.heap.size w V ∧ i ≤ es.length) ⟨0, rfl, rfl, hB, Nat.zero_le _⟩ ?_
 rintro _ _ W1 ⟨i, rfl, rfl, hB_1, hi⟩ J1 hJ1 r1
 refine xid 9 ((↑i : Int) < (↑es.length : Int)) (fun hc2 => ?_) (fun hc2 => ?_)
 · refine xd 5 .z ?_
   refine xx (.e [0, 1] 2) _ es.length i 3 (Sts.cell ha sltC_len sltD (k := i) (i := 0) (by omega) rfl).1 ?_
   have hB'1 := Bl.next hB_1 (below_drew W1)
   refine xlv (.e [] 3) (Sts.rp (k := i) (ha.below hB'1) sltC_len sltD (by omega) (by decide)) ?_
   refine xx (.e [4, 5] 6) _ es.length i 3 (Sts.cell hb sltC_len sltD (k := i) (i := 0) (by omega) rfl).1 ?_
   refine xlv (.e [] 7) (Sts.rp (k := i) (hb.below hB'1) sltC_len sltD (by omega) (by decide)) ?_
   refine xbo (.e [] 8) (t := 163) (t2 := 163) (fun _ _ _ _ zo zx zy V hV => run_sltne (es.getD i sltD) zo zx zy V) ?_
   refine xwm 8 ((↑i : Int) + 1) (↑(i + 1) : Int) ?_
   exact ze 2 (hJ1 _ _ _ ⟨i + 1, rfl, rfl, hB'1, by omega⟩ (by omega))
 exact xe 11 (.bool true) ⟨rfl, hB_1⟩
def bitR (l : List UInt8) (no : Int) : List Int := if bitsErr l no = 0 then bitI (inB l no) (rawN (inB l no) 0 4) else []
def idxR (l : List UInt8) (no : Int) : List (Nat × Nat × Nat) := if idxErr l no = 0 then sltsL (inB l no) (rawN (inB l no) 0 4) else []
theorem bitR_ok {l : List UInt8} {no : Int} (h : bitsErr l no = 0) : bitR l no = bitI (inB l no) (rawN (inB l no) 0 4) ∧ (bitR l no).length = rawN (inB l no) 0 4 := by unfold bitR; rw [if_pos h]; exact ⟨rfl, bitI_len _ _⟩
theorem bitR_bad {l : List UInt8} {no : Int} (h : bitsErr l no ≠ 0) : bitR l no = [] := if_neg h
theorem idxR_ok {l : List UInt8} {no : Int} (h : idxErr l no = 0) : idxR l no = sltsL (inB l no) (rawN (inB l no) 0 4) ∧ (idxR l no).length = rawN (inB l no) 0 4 := by unfold idxR; rw [if_pos h]; exact ⟨rfl, sltsL_len _ _⟩
theorem idxR_bad {l : List UInt8} {no : Int} (h : idxErr l no ≠ 0) : idxR l no = [] := if_neg h
theorem bitI_map (l : List UInt8) (n : Nat) : (bitI l n).map (Value.int .i64) = (bitsL l n).map nv := by simp [bitI, nv]
/-- a row and the error, as the document has them -/
def RBitsU (l : List UInt8) (no : Int) (w : World) (e : Ending) (w' : World) : Prop :=
  ∃ p c a5 c5, e = .returned (.tuple #[.slice p (bitR l no).length c, .agg #[.slice a5 (fltL no (bitsErr l no)).length c5, .int .i64 (bitsErr l no)]]) ∧ Below w.heap.size w w' ∧ w'.ownsRow w.heap.size 3 1 (.slice p (bitR l no).length c) (bitR l no).length ((bitR l no).map (Value.int .i64)) ∧ w'.ownsRow w.heap.size 3 1 (.slice a5 (fltL no (bitsErr l no)).length c5) (fltL no (bitsErr l no)).length ((fltL no (bitsErr l no)).map (Value.int .i64))
def RIdxU (l : List UInt8) (no : Int) (w : World) (e : Ending) (w' : World) : Prop :=
  ∃ p c a5 c5, e = .returned (.tuple #[.slice p (idxR l no).length c, .agg #[.slice a5 (fltL no (idxErr l no)).length c5, .int .i64 (idxErr l no)]]) ∧ Below w.heap.size w w' ∧ w'.ownsRow w.heap.size 163 3 (.slice p (idxR l no).length c) (idxR l no).length ((idxR l no).flatMap sltC) ∧ w'.ownsRow w.heap.size 3 1 (.slice a5 (fltL no (idxErr l no)).length c5) (fltL no (idxErr l no)).length ((fltL no (idxErr l no)).map (Value.int .i64))
theorem rbitsU_ok {l : List UInt8} {no : Int} {w W : World} {p a5 : Option Addr} {c c5 : Nat} (he : bitsErr l no = 0) (hb : Below w.heap.size w W) (ho : W.ownsRow w.heap.size 3 1 (.slice p (rawN (inB l no) 0 4) c) (rawN (inB l no) 0 4) ((bitI (inB l no) (rawN (inB l no) 0 4)).map (Value.int .i64))) (h5 : W.ownsRow w.heap.size 3 1 (.slice a5 (fltL no 0).length c5) (fltL no 0).length ((fltL no 0).map (Value.int .i64))) :
    RBitsU l no w (.returned (.tuple #[.slice p (rawN (inB l no) 0 4) c, .agg #[.slice a5 (fltL no 0).length c5, .int .i64 0]])) W := by
  obtain ⟨h1, h2⟩ := bitR_ok he
  refine ⟨p, c, a5, c5, by rw [h2, he], hb, ?_, by rw [he]; exact h5⟩
  rw [h2, h1]; exact ho
theorem rbitsU_bad {l : List UInt8} {no er : Int} {w W : World} {a5 : Option Addr} {c5 : Nat} (he : bitsErr l no = er) (hz : er ≠ 0) (hb : Below w.heap.size w W) (h5 : W.ownsRow w.heap.size 3 1 (.slice a5 (fltL no er).length c5) (fltL no er).length ((fltL no er).map (Value.int .i64))) :
    RBitsU l no w (.returned (.tuple #[.slice none 0 0, .agg #[.slice a5 (fltL no er).length c5, .int .i64 er]])) W := by
  subst he
  refine ⟨none, 0, a5, c5, by rw [bitR_bad hz]; rfl, hb, ?_, h5⟩
  rw [bitR_bad hz]; exact World.ownsRow_nil _ _ _ _
theorem ridxU_ok {l : List UInt8} {no : Int} {w W : World} {p a5 : Option Addr} {c c5 : Nat} (he : idxErr l no = 0) (hb : Below w.heap.size w W) (ho : W.ownsRow w.heap.size 163 3 (.slice p (rawN (inB l no) 0 4) c) (rawN (inB l no) 0 4) ((sltsL (inB l no) (rawN (inB l no) 0 4)).flatMap sltC)) (h5 : W.ownsRow w.heap.size 3 1 (.slice a5 (fltL no 0).length c5) (fltL no 0).length ((fltL no 0).map (Value.int .i64))) :
    RIdxU l no w (.returned (.tuple #[.slice p (rawN (inB l no) 0 4) c, .agg #[.slice a5 (fltL no 0).length c5, .int .i64 0]])) W := by
  obtain ⟨h1, h2⟩ := idxR_ok he
  refine ⟨p, c, a5, c5, by rw [h2, he], hb, ?_, by rw [he]; exact h5⟩
  rw [h2, h1]; exact ho
theorem ridxU_bad {l : List UInt8} {no er : Int} {w W : World} {a5 : Option Addr} {c5 : Nat} (he : idxErr l no = er) (hz : er ≠ 0) (hb : Below w.heap.size w W) (h5 : W.ownsRow w.heap.size 3 1 (.slice a5 (fltL no er).length c5) (fltL no er).length ((fltL no er).map (Value.int .i64))) :
    RIdxU l no w (.returned (.tuple #[.slice none 0 0, .agg #[.slice a5 (fltL no er).length c5, .int .i64 er]])) W := by
  subst he
  refine ⟨none, 0, a5, c5, by rw [idxR_bad hz]; rfl, hb, ?_, h5⟩
  rw [idxR_bad hz]; exact World.ownsRow_nil _ _ _ _
set_option maxRecDepth 100000 in
set_option maxHeartbeats 1000000 in
theorem ref11_Bits (B bm : Nat) (p : Option Addr) (k c : Nat) (l : List UInt8) (no : Int) (w : World) (hI : RefI B bm p k c l w) :
    Calls Tryz.prog 32 #[.pointer (some ⟨bm, 0, none⟩), .int .i64 no] w (RBitsU l no w) := by
 refine zin 30 Tryz.func32 ?_
 refine xa 3 [.slice none 0 0, .int .i64 0] 45 fun b1 W1 n1 => ?_
 have hI'1 := hI.below n1.below
 refine xc 6 (args := #[.pointer (some ⟨bm, 0, none⟩), .int .i64 no, .int .i64 3]) (ref11_in B bm p k c l _ hI'1 no 3) ?_
 rintro e W2 hq2
 rcases hq2 with ⟨hse, rfl, hb2⟩ | ⟨hse, hil, p3, c3, rfl, hb2, h3⟩
 · refine xk 14 (show (((inE l 3 no) != (0 : Int)) : Bool) = true from bne_iff_ne.2 hse) ?_
   refine xc 4 (args := #[.int .i64 no, .int .i64 (inE l 3 no)]) (ref11_At no (inE l 3 no) _) ?_
   rintro _ W3 ⟨a5, c5, rfl, hb3, hQ5⟩
   have hs3 := (Bl.next n1.below hb2).size
   have k1 := (n1.blk.below hb2).below hb3
   refine xsv 1 k1 [.slice a5 ((fltL no (inE l 3 no)).length) c5, .int .i64 (inE l 3 no)] fun W4 u4 k4 => ?_
   have g1 := n1.ge (Below.refl w.heap.size _)
   have hB := u4.below (Bl.next (Bl.next n1.below hb2) hb3) g1
   have hQ5'1 := u4.own2 (own_mono hQ5 hs3) k1 (by decide)
   exact xec 4 k4 (.tuple #[.slice none 0 0, .agg #[.slice a5 ((fltL no (inE l 3 no)).length) c5, .int .i64 (inE l 3 no)]]) (rbitsU_bad (by unfold bitsErr; rw [if_neg hse]) hse hB hQ5'1)
 have h3'1 := own_mono h3 n1.below.size
 refine xc 20 (args := #[.slice p3 244 c3]) (ref09_Read p3 c3 (inB l no) _ hil (bys_of (own_sl h3'1) hil)) ?_
 rintro e W5 hq5
 rcases hq5 with ⟨hz, rfl, hb5⟩ | ⟨hz, p4, c4, rfl, hb5, h4⟩
 · refine xc 12 (args := #[.int .i64 no, .int .i64 7]) (ref11_At no 7 _) ?_
   rintro _ W6 ⟨a5, c5, rfl, hb6, hQ5⟩
   have hs6 := (Bl.next (Bl.next n1.below hb2) hb5).size
   have k1 := ((n1.blk.below hb2).below hb5).below hb6
   refine xsv 1 k1 [.slice a5 ((fltL no 7).length) c5, .int .i64 7] fun W7 u7 k7 => ?_
   have g1 := n1.ge (Below.refl w.heap.size _)
   have hB := u7.below (Bl.next (Bl.next (Bl.next n1.below hb2) hb5) hb6) g1
   have hQ5'2 := u7.own2 (own_mono hQ5 hs6) k1 (by decide)
   exact xec 3 k7 (.tuple #[.slice none 0 0, .agg #[.slice a5 ((fltL no 7).length) c5, .int .i64 7]]) (rbitsU_bad (by unfold bitsErr; rw [if_pos hse, hz, if_neg (by decide)]) (by decide) hB hQ5'2)
 have hs5 := (Bl.next n1.below hb2).size
 refine xc 12 (args := #[.int .i64 no, .int .i64 0]) (ref11_At no 0 _) ?_
 rintro _ W8 ⟨a5, c5, rfl, hb8, hQ5⟩
 have hs8 := (Bl.next (Bl.next n1.below hb2) hb5).size
 have k1 := ((n1.blk.below hb2).below hb5).below hb8
 refine xsv 1 k1 [.slice a5 ((fltL no 0).length) c5, .int .i64 0] fun W9 u9 k9 => ?_
 have g1 := n1.ge (Below.refl w.heap.size _)
 have hB := u9.below (Bl.next (Bl.next (Bl.next n1.below hb2) hb5) hb8) g1
 have h4'1 := u9.own2 (own_below (own_mono h4 hs5) hb8) k1 (by decide)
 have hQ5'3 := u9.own2 (own_mono hQ5 hs8) k1 (by decide)
 exact xec 3 k9 (.tuple #[.slice p4 (rawN (inB l no) 0 4) c4, .agg #[.slice a5 ((fltL no 0).length) c5, .int .i64 0]]) (rbitsU_ok (by unfold bitsErr; rw [if_pos hse, if_pos hz]) hB h4'1 hQ5'3)
set_option maxRecDepth 100000 in
set_option maxHeartbeats 1000000 in
theorem ref11_Index (B bm : Nat) (p : Option Addr) (k c : Nat) (l : List UInt8) (no : Int) (w : World) (hI : RefI B bm p k c l w) :
    Calls Tryz.prog 33 #[.pointer (some ⟨bm, 0, none⟩), .int .i64 no] w (RIdxU l no w) := by
 refine zin 30 Tryz.func33 ?_
 refine xa 3 [.slice none 0 0, .int .i64 0] 45 fun b1 W1 n1 => ?_
 have hI'1 := hI.below n1.below
 refine xc 6 (args := #[.pointer (some ⟨bm, 0, none⟩), .int .i64 no, .int .i64 4]) (ref11_in B bm p k c l _ hI'1 no 4) ?_
 rintro e W2 hq2
 rcases hq2 with ⟨hse, rfl, hb2⟩ | ⟨hse, hil, p3, c3, rfl, hb2, h3⟩
 · refine xk 14 (show (((inE l 4 no) != (0 : Int)) : Bool) = true from bne_iff_ne.2 hse) ?_
   refine xc 4 (args := #[.int .i64 no, .int .i64 (inE l 4 no)]) (ref11_At no (inE l 4 no) _) ?_
   rintro _ W3 ⟨a5, c5, rfl, hb3, hQ5⟩
   have hs3 := (Bl.next n1.below hb2).size
   have k1 := (n1.blk.below hb2).below hb3
   refine xsv 1 k1 [.slice a5 ((fltL no (inE l 4 no)).length) c5, .int .i64 (inE l 4 no)] fun W4 u4 k4 => ?_
   have g1 := n1.ge (Below.refl w.heap.size _)
   have hB := u4.below (Bl.next (Bl.next n1.below hb2) hb3) g1
   have hQ5'1 := u4.own2 (own_mono hQ5 hs3) k1 (by decide)
   exact xec 4 k4 (.tuple #[.slice none 0 0, .agg #[.slice a5 ((fltL no (inE l 4 no)).length) c5, .int .i64 (inE l 4 no)]]) (ridxU_bad (by unfold idxErr; rw [if_neg hse]) hse hB hQ5'1)
 have h3'1 := own_mono h3 n1.below.size
 refine xc 20 (args := #[.slice p3 244 c3]) (ref10_Read p3 c3 (inB l no) _ hil (bys_of (own_sl h3'1) hil)) ?_
 rintro e W5 hq5
 rcases hq5 with ⟨hz, rfl, hb5⟩ | ⟨hz, p4, c4, rfl, hb5, h4⟩
 · refine xc 12 (args := #[.int .i64 no, .int .i64 (idxE (inB l no))]) (ref11_At no (idxE (inB l no)) _) ?_
   rintro _ W6 ⟨a5, c5, rfl, hb6, hQ5⟩
   have hs6 := (Bl.next (Bl.next n1.below hb2) hb5).size
   have k1 := ((n1.blk.below hb2).below hb5).below hb6
   refine xsv 1 k1 [.slice a5 ((fltL no (idxE (inB l no))).length) c5, .int .i64 (idxE (inB l no))] fun W7 u7 k7 => ?_
   have g1 := n1.ge (Below.refl w.heap.size _)
   have hB := u7.below (Bl.next (Bl.next (Bl.next n1.below hb2) hb5) hb6) g1
   have hQ5'2 := u7.own2 (own_mono hQ5 hs6) k1 (by decide)
   exact xec 3 k7 (.tuple #[.slice none 0 0, .agg #[.slice a5 ((fltL no (idxE (inB l no))).length) c5, .int .i64 (idxE (inB l no))]]) (ridxU_bad (by unfold idxErr; rw [if_pos hse]) hz hB hQ5'2)
 have hs5 := (Bl.next n1.below hb2).size
 refine xc 12 (args := #[.int .i64 no, .int .i64 0]) (ref11_At no 0 _) ?_
 rintro _ W8 ⟨a5, c5, rfl, hb8, hQ5⟩
 have hs8 := (Bl.next (Bl.next n1.below hb2) hb5).size
 have k1 := ((n1.blk.below hb2).below hb5).below hb8
 refine xsv 1 k1 [.slice a5 ((fltL no 0).length) c5, .int .i64 0] fun W9 u9 k9 => ?_
 have g1 := n1.ge (Below.refl w.heap.size _)
 have hB := u9.below (Bl.next (Bl.next (Bl.next n1.below hb2) hb5) hb8) g1
 have h4'1 := u9.own2 (own_below (own_mono h4 hs5) hb8) k1 (by decide)
 have hQ5'3 := u9.own2 (own_mono hQ5 hs8) k1 (by decide)
 exact xec 3 k9 (.tuple #[.slice p4 (rawN (inB l no) 0 4) c4, .agg #[.slice a5 ((fltL no 0).length) c5, .int .i64 0]]) (ridxU_ok (by unfold idxErr; rw [if_pos hse, hz]) hB h4'1 hQ5'3)
end Go.Proofs.YtinegkldgjhnpaaGreatDoor
namespace Go.Proofs.YtinegkldgjhnpaaGreatDoor
open Go.RowKit Go.Extern.Stop Go.Stop Go.Extern
set_option linter.unusedVariables false
attribute [local irreducible] wpList wpAnyH Code.wp Oper.wp Go

def RBlkNodeP (l : List UInt8) (no tree : Int) (w : World) (e : Ending) (w' : World) : Prop :=
  (nodeErr l no tree ≠ 0 ∧ ∃ a c, e = .returned (.tuple #[.agg #[.int .i64 0, .bool false, .slice none 0 0, .slice none 0 0], .agg #[.slice a 1 c, .int .i64 (nodeErr l no tree)]]) ∧ Below w.heap.size w w' ∧ w'.ownsRow w.heap.size 3 1 (.slice a 1 c) 1 [.int .i64 no]) ∨
  (nodeErr l no tree = 0 ∧ ∃ kp kc vp vc, e = .returned (.tuple #[.agg #[.int .i64 (nodT (inB l no)), .bool (nodL (inB l no)), .slice kp (nodC (inB l no)) kc, .slice vp (nodC (inB l no)) vc], .agg #[.slice none 0 0, .int .i64 0]]) ∧ Below w.heap.size w w' ∧ w'.ownsRow w.heap.size 3 1 (.slice kp (nodC (inB l no)) kc) (nodC (inB l no)) ((keysI (inB l no) (nodC (inB l no))).map (Value.int .i64)) ∧ w'.ownsRow w.heap.size 9 1 (.slice vp (nodC (inB l no)) vc) (nodC (inB l no)) ((valsL (inB l no) (nodC (inB l no))).map sv))
set_option maxRecDepth 100000 in
set_option maxHeartbeats 1000000 in
theorem ref11_Node (B bm : Nat) (p : Option Addr) (k c : Nat) (l : List UInt8) (no tree : Int) (w : World) (hI : RefI B bm p k c l w) :
    Calls Tryz.prog 29 #[.pointer (some ⟨bm, 0, none⟩), .int .i64 no, .int .i64 tree] w (RBlkNodeP l no tree w) := by
 refine zin 48 Tryz.func29 ?_
 refine xa 2 [.int .i64 0, .bool false, .slice none 0 0, .slice none 0 0] 52 fun b1 W1 n1 => ?_
 refine xa 0 [.slice none 0 0, .int .i64 0] 45 fun b2 W2 n2 => ?_
 have hI'1 := (hI.below n1.below).below n2.below
 refine xc 6 (args := #[.pointer (some ⟨bm, 0, none⟩), .int .i64 no, .int .i64 2]) (ref11_in B bm p k c l _ hI'1 no 2) ?_
 rintro e W3 hq3
 rcases hq3 with ⟨hse, rfl, hb3⟩ | ⟨hse, hil, p3, c3, rfl, hb3, h3⟩
 · refine xk 14 (show (((inE l 2 no) != (0 : Int)) : Bool) = true from bne_iff_ne.2 hse) ?_
   refine xc 5 (args := #[.int .i64 no, .int .i64 (inE l 2 no)]) (ref11_AtN no (inE l 2 no) _ hse) ?_
   rintro _ W4 ⟨_, rfl, hb4, a5, c5, rfl, hs5⟩
   have hs4 := (Bl.next (Bl.next n1.below n2.below) hb3).size
   have k1 := ((n1.blk.below n2.below).below hb3).below hb4
   refine xsv 0 k1 [.int .i64 0, .bool false, .slice none 0 0, .slice none 0 0] fun W5 u5 k5 => ?_
   have g1 := n1.ge (Below.refl w.heap.size _)
   have k2 := u5.blkT ((n2.blk.below hb3).below hb4) k1 (by decide)
   refine xsv 0 k2 [.slice a5 1 c5, .int .i64 (inE l 2 no)] fun W6 u6 k6 => ?_
   have g2 := n2.ge n1.below
   have hB := u6.below (u5.below (Bl.next (Bl.next (Bl.next n1.below n2.below) hb3) hb4) g1) g2
   have hs5'1 := u6.own2 (u5.own2 (own_mono hs5 hs4) k1 (by decide)) k2 (by decide)
   have k5'1 := u6.blkT k5 k2 (by decide)
   refine xecm 4 [(b1, [.int .i64 0, .bool false, .slice none 0 0, .slice none 0 0]), (b2, [.slice a5 1 c5, .int .i64 (inE l 2 no)])] ⟨⟨_, k5'1⟩, ⟨_, k6⟩, trivial⟩ (.tuple #[.agg #[.int .i64 0, .bool false, .slice none 0 0, .slice none 0 0], .agg #[.slice a5 1 c5, .int .i64 (inE l 2 no)]]) ?_
   have he : nodeErr l no tree = (inE l 2 no) := by unfold nodeErr; rw [if_neg hse]
   exact .inl ⟨by rw [he]; exact hse, _, _, by rw [he], hB, hs5'1⟩
 have hs3 := (Bl.next n1.below n2.below).size
 have h3'1 := own_mono h3 hs3
 refine xc 20 (args := #[.slice p3 244 c3]) (ref07_Read p3 c3 (inB l no) _ hil (bys_of (own_sl h3'1) hil)) ?_
 rintro e W7 hq7
 rcases hq7 with ⟨hz, rfl, hb7⟩ | ⟨hz, kp, kc, vp, vc, rfl, hb7, hk, hv_⟩
 · refine xa 3 [.int .i64 0, .bool false, .slice none 0 0, .slice none 0 0] 52 fun b8 W8 n8 => ?_
   have k1 := ((n1.blk.below n2.below).below hb3).below hb7
   have d8_b1 := n8.ne k1
   refine xsv 0 n8.blk [.int .i64 0, .bool false, .slice none 0 0, .slice none 0 0] fun W9 u9 k9 => ?_
   have g8 := n8.ge (Bl.next (Bl.next (Bl.next n1.below n2.below) hb3) hb7)
   refine xk 10 (show (((nodeE (inB l no)) != (0 : Int)) : Bool) = true from bne_iff_ne.2 hz) ?_
   refine xc 5 (args := #[.int .i64 no, .int .i64 (nodeE (inB l no))]) (ref11_AtN no (nodeE (inB l no)) _ hz) ?_
   rintro _ W10 ⟨_, rfl, hb10, a5, c5, rfl, hs5⟩
   have hs10 := (u9.below (Bl.next (Bl.next (Bl.next (Bl.next n1.below n2.below) hb3) hb7) n8.below) g8).size
   have k1'1 := (u9.blk (k1.below n8.below) (Ne.symm (Ne.symm d8_b1))).below hb10
   refine xsv 0 k1'1 [.int .i64 0, .bool false, .slice none 0 0, .slice none 0 0] fun W11 u11 k11 => ?_
   have g1 := n1.ge (Below.refl w.heap.size _)
   have k2 := u11.blkT ((u9.blkT (((n2.blk.below hb3).below hb7).below n8.below) n8.blk (by decide)).below hb10) k1'1 (by decide)
   refine xsv 0 k2 [.slice a5 1 c5, .int .i64 (nodeE (inB l no))] fun W12 u12 k12 => ?_
   have g2 := n2.ge n1.below
   have hB := u12.below (u11.below (Bl.next (u9.below (Bl.next (Bl.next (Bl.next (Bl.next n1.below n2.below) hb3) hb7) n8.below) g8) hb10) g1) g2
   have hs5'2 := u12.own2 (u11.own2 (own_mono hs5 hs10) k1'1 (by decide)) k2 (by decide)
   have k11'1 := u12.blkT k11 k2 (by decide)
   refine xecm 4 [(b1, [.int .i64 0, .bool false, .slice none 0 0, .slice none 0 0]), (b2, [.slice a5 1 c5, .int .i64 (nodeE (inB l no))])] ⟨⟨_, k11'1⟩, ⟨_, k12⟩, trivial⟩ (.tuple #[.agg #[.int .i64 0, .bool false, .slice none 0 0, .slice none 0 0], .agg #[.slice a5 1 c5, .int .i64 (nodeE (inB l no))]]) ?_
   have he : nodeErr l no tree = (nodeE (inB l no)) := by unfold nodeErr nodeTE; rw [if_pos hse, if_neg hz]
   exact .inl ⟨by rw [he]; exact hz, _, _, by rw [he], hB, hs5'2⟩
 have hs7 := (Bl.next (Bl.next n1.below n2.below) hb3).size
 refine xa 3 [.int .i64 0, .bool false, .slice none 0 0, .slice none 0 0] 52 fun b13 W13 n13 => ?_
 have k1 := ((n1.blk.below n2.below).below hb3).below hb7
 have d13_b1 := n13.ne k1
 refine xsv 0 n13.blk [.int .i64 (nodT (inB l no)), .bool (nodL (inB l no)), .slice kp (nodC (inB l no)) kc, .slice vp (nodC (inB l no)) vc] fun W14 u14 k14 => ?_
 have g13 := n13.ge (Bl.next (Bl.next (Bl.next n1.below n2.below) hb3) hb7)
 refine xg 19 [36, 37] (tree != (0 : Int)) (fun hc15 => ?_) (fun hc15 => ?_)
 · have hc15 := ne_of_bne hc15
   refine xb 1 0 k14 ?_
   refine xin 5 (nodT (inB l no)) tree (fun hc16 => ?_) (fun hc16 => ?_)
   · refine xc 4 (args := #[.int .i64 no, .int .i64 6]) (ref11_AtN no 6 _ (by decide)) ?_
     rintro _ W17 ⟨_, rfl, hb17, a5, c5, rfl, hs5⟩
     have hs17 := (u14.below (Bl.next (Bl.next (Bl.next (Bl.next n1.below n2.below) hb3) hb7) n13.below) g13).size
     have k1'2 := (u14.blk (k1.below n13.below) (Ne.symm (Ne.symm d13_b1))).below hb17
     refine xsv 0 k1'2 [.int .i64 0, .bool false, .slice none 0 0, .slice none 0 0] fun W18 u18 k18 => ?_
     have g1 := n1.ge (Below.refl w.heap.size _)
     have k2 := u18.blkT ((u14.blkT (((n2.blk.below hb3).below hb7).below n13.below) n13.blk (by decide)).below hb17) k1'2 (by decide)
     refine xsv 0 k2 [.slice a5 1 c5, .int .i64 6] fun W19 u19 k19 => ?_
     have g2 := n2.ge n1.below
     have hB := u19.below (u18.below (Bl.next (u14.below (Bl.next (Bl.next (Bl.next (Bl.next n1.below n2.below) hb3) hb7) n13.below) g13) hb17) g1) g2
     have hs5'3 := u19.own2 (u18.own2 (own_mono hs5 hs17) k1'2 (by decide)) k2 (by decide)
     have k18'1 := u19.blkT k18 k2 (by decide)
     refine xecm 4 [(b1, [.int .i64 0, .bool false, .slice none 0 0, .slice none 0 0]), (b2, [.slice a5 1 c5, .int .i64 6])] ⟨⟨_, k18'1⟩, ⟨_, k19⟩, trivial⟩ (.tuple #[.agg #[.int .i64 0, .bool false, .slice none 0 0, .slice none 0 0], .agg #[.slice a5 1 c5, .int .i64 6]]) ?_
     have he : nodeErr l no tree = 6 := by unfold nodeErr nodeTE; rw [if_pos hse, if_pos hz, if_neg (by omega)]
     exact .inl ⟨by rw [he]; decide, _, _, by rw [he], hB, hs5'3⟩
   refine xlv 4 k14.rp ?_
   have k1'3 := u14.blk (k1.below n13.below) (Ne.symm (Ne.symm d13_b1))
   refine xsv 1 k1'3 [.int .i64 (nodT (inB l no)), .bool (nodL (inB l no)), .slice kp (nodC (inB l no)) kc, .slice vp (nodC (inB l no)) vc] fun W20 u20 k20 => ?_
   have g1 := n1.ge (Below.refl w.heap.size _)
   have k2 := u20.blkT (u14.blkT (((n2.blk.below hb3).below hb7).below n13.below) n13.blk (by decide)) k1'3 (by decide)
   refine xsv 0 k2 [.slice none 0 0, .int .i64 0] fun W21 u21 k21 => ?_
   have g2 := n2.ge n1.below
   have hB := u21.below (u20.below (u14.below (Bl.next (Bl.next (Bl.next (Bl.next n1.below n2.below) hb3) hb7) n13.below) g13) g1) g2
   have hk'1 := u21.own2 (u20.own2 (u14.own2 (own_below (own_mono hk hs7) n13.below) n13.blk (by decide)) k1'3 (by decide)) k2 (by decide)
   have hv_'1 := u21.own2 (u20.own2 (u14.own2 (own_below (own_mono hv_ hs7) n13.below) n13.blk (by decide)) k1'3 (by decide)) k2 (by decide)
   have k20'1 := u21.blkT k20 k2 (by decide)
   exact xecm 3 [(b1, [.int .i64 (nodT (inB l no)), .bool (nodL (inB l no)), .slice kp (nodC (inB l no)) kc, .slice vp (nodC (inB l no)) vc]), (b2, [.slice none 0 0, .int .i64 0])] ⟨⟨_, k20'1⟩, ⟨_, k21⟩, trivial⟩ (.tuple #[.agg #[.int .i64 (nodT (inB l no)), .bool (nodL (inB l no)), .slice kp (nodC (inB l no)) kc, .slice vp (nodC (inB l no)) vc], .agg #[.slice none 0 0, .int .i64 0]]) (.inr ⟨by unfold nodeErr nodeTE; rw [if_pos hse, if_pos hz, if_pos (by omega)], _, _, _, _, rfl, hB, hk'1, hv_'1⟩)
 have hc15 := eq_of_bne_false hc15
 refine xlv 12 k14.rp ?_
 have k1'4 := u14.blk (k1.below n13.below) (Ne.symm (Ne.symm d13_b1))
 refine xsv 1 k1'4 [.int .i64 (nodT (inB l no)), .bool (nodL (inB l no)), .slice kp (nodC (inB l no)) kc, .slice vp (nodC (inB l no)) vc] fun W22 u22 k22 => ?_
 have g1 := n1.ge (Below.refl w.heap.size _)
 have k2 := u22.blkT (u14.blkT (((n2.blk.below hb3).below hb7).below n13.below) n13.blk (by decide)) k1'4 (by decide)
 refine xsv 0 k2 [.slice none 0 0, .int .i64 0] fun W23 u23 k23 => ?_
 have g2 := n2.ge n1.below
 have hB := u23.below (u22.below (u14.below (Bl.next (Bl.next (Bl.next (Bl.next n1.below n2.below) hb3) hb7) n13.below) g13) g1) g2
 have hk'2 := u23.own2 (u22.own2 (u14.own2 (own_below (own_mono hk hs7) n13.below) n13.blk (by decide)) k1'4 (by decide)) k2 (by decide)
 have hv_'2 := u23.own2 (u22.own2 (u14.own2 (own_below (own_mono hv_ hs7) n13.below) n13.blk (by decide)) k1'4 (by decide)) k2 (by decide)
 have k22'1 := u23.blkT k22 k2 (by decide)
 exact xecm 3 [(b1, [.int .i64 (nodT (inB l no)), .bool (nodL (inB l no)), .slice kp (nodC (inB l no)) kc, .slice vp (nodC (inB l no)) vc]), (b2, [.slice none 0 0, .int .i64 0])] ⟨⟨_, k22'1⟩, ⟨_, k23⟩, trivial⟩ (.tuple #[.agg #[.int .i64 (nodT (inB l no)), .bool (nodL (inB l no)), .slice kp (nodC (inB l no)) kc, .slice vp (nodC (inB l no)) vc], .agg #[.slice none 0 0, .int .i64 0]]) (.inr ⟨by unfold nodeErr nodeTE; rw [if_pos hse, if_pos hz, if_pos (by omega)], _, _, _, _, rfl, hB, hk'2, hv_'2⟩)
set_option maxRecDepth 100000 in
set_option maxHeartbeats 1000000 in
theorem ref14_has (a : Option Addr) (c : Nat) (l : List Int) (x : Int) (w : World) (h : Ints w (.slice a l.length c) l) (hln : l.length ≤ 1000000) :
    Calls Tryz.prog 85 #[.slice a l.length c, .int .i64 x] w (Ret (.bool (hasI l x)) w) := by
 refine zin 18 Tryz.func85 ?_
 have hB := Below.refl w.heap.size w
 refine zl 12 18 (fun zm zkv V => ∃ (i : Nat), zkv = [(0, .slice a l.length c), (1, .int .i64 x), (5, .int .i64 (↑i : Int))] ∧ zm = l.length - ((↑i : Int)).toNat ∧ Below w.heap.size w V ∧ i ≤ l.length ∧ (∀ j, j < i → x ≠ l.getD j 0)) ⟨0, rfl, rfl, hB, Nat.zero_le _, ?_⟩ ?_
 · exact fun j hj => absurd hj (by omega)
 rintro _ _ W1 ⟨i, rfl, rfl, hB_1, hi, hz⟩ J1 hJ1 r1
 refine xid 9 ((↑i : Int) < (↑l.length : Int)) (fun hc2 => ?_) (fun hc2 => ?_)
 · refine xx 8 _ l.length i 1 (Ints.elem h (k := i) (by omega)).1 ?_
   refine xl 0 ((Ints.elem (h.below hB_1) (k := i) (by omega)).2) ?_
   refine xie 4 (l.getD i 0) x (fun hc3 => ?_) (fun hc3 => ?_)
   · refine xe 11 (.bool true) ?_
     rw [hasI_true (i := i) (by omega) (by omega)]; exact ⟨rfl, hB_1⟩
   refine xwm 5 ((↑i : Int) + 1) (↑(i + 1) : Int) ?_
   exact ze 2 (hJ1 _ _ _ ⟨i + 1, rfl, rfl, hB_1, by omega, fun j hj => (Nat.lt_or_ge j i).elim (hz j) (fun q => by obtain rfl : j = i := (by omega); omega)⟩ (by omega))
 refine xe 11 (.bool false) ?_
 rw [hasI_false (fun j hj => hz j (by omega))]; exact ⟨rfl, hB_1⟩
def RLookP (l : List UInt8) (way : List Int) (no tree lo hi deep : Int) (w : World) (e : Ending) (w' : World) : Prop :=
  (lookE l way no tree lo hi deep ≠ 0 ∧ ∃ a4 b4 k4 n4 c4 v4 m4 d4 a c, e = .returned (.tuple #[.agg #[.int .i64 a4, .bool b4, .slice k4 n4 c4, .slice v4 m4 d4], .agg #[.slice a 1 c, .int .i64 (lookE l way no tree lo hi deep)]]) ∧ Below w.heap.size w w' ∧ w'.ownsRow w.heap.size 3 1 (.slice a 1 c) 1 [.int .i64 no]) ∨
  (lookE l way no tree lo hi deep = 0 ∧ ∃ kp kc vp vc, e = .returned (.tuple #[.agg #[.int .i64 (nodT (inB l no)), .bool (nodL (inB l no)), .slice kp (nodC (inB l no)) kc, .slice vp (nodC (inB l no)) vc], .agg #[.slice none 0 0, .int .i64 0]]) ∧ Below w.heap.size w w' ∧ w'.ownsRow w.heap.size 3 1 (.slice kp (nodC (inB l no)) kc) (nodC (inB l no)) ((keysI (inB l no) (nodC (inB l no))).map (Value.int .i64)) ∧ w'.ownsRow w.heap.size 9 1 (.slice vp (nodC (inB l no)) vc) (nodC (inB l no)) ((valsL (inB l no) (nodC (inB l no))).map sv))
set_option maxRecDepth 100000 in
set_option maxHeartbeats 4000000 in
theorem ref14_look (B bm : Nat) (p : Option Addr) (k c : Nat) (l : List UInt8) (no tree : Int) (lo hi deep : Int) (way : List Int) (wa : Option Addr) (wc : Nat) (ft : Value) (w : World) (hI : RefI B bm p k c l w) (hw : Ints w (.slice wa way.length wc) way) (hwl : way.length ≤ 100000) (hr : rightB lo hi = true) :
    Calls Tryz.prog 42 #[.pointer (some ⟨bm, 0, none⟩), .agg #[.int .i64 no, .int .i64 lo, .int .i64 hi, .slice wa way.length wc, ft], .int .i64 tree, .int .i64 deep] w (RLookP l way no tree lo hi deep w) := by
 refine zin 84 Tryz.func42 ?_
 refine xa 2 [.int .i64 no, .int .i64 lo, .int .i64 hi, .slice wa way.length wc, ft] 102 fun b1 W1 n1 => ?_
 refine xa 0 [.int .i64 0, .bool false, .slice none 0 0, .slice none 0 0] 52 fun b2 W2 n2 => ?_
 refine xa 0 [.slice none 0 0, .int .i64 0] 45 fun b3 W3 n3 => ?_
 have k1 := (n1.blk.below n2.below).below n3.below
 refine xb 6 3 k1 ?_
 refine xb 1 0 k1 ?_
 have hB := Bl.next (Bl.next n1.below n2.below) n3.below
 refine xr 0 (args := #[.slice wa way.length wc, .int .i64 no]) (ref14_has wa wc way no _ (hw.below hB) (by omega)) fun W4 hb4 => ?_
 refine xi 2 (hasI way no) (fun hc5 => ?_) (fun hc5 => ?_)
 · have hh : hasI way no = true := hc5
   have k1'1 := k1.below hb4
   refine xb 4 0 k1'1 ?_
   refine xc 0 (args := #[.int .i64 no, .int .i64 11]) (ref11_AtN no 11 _ (by decide)) ?_
   rintro _ W6 ⟨_, rfl, hb6, a5, c5, rfl, hs5⟩
   have hs6 := (Bl.next hB hb4).size
   have k2 := ((n2.blk.below n3.below).below hb4).below hb6
   refine xsv 0 k2 [.int .i64 0, .bool false, .slice none 0 0, .slice none 0 0] fun W7 u7 k7 => ?_
   have g2 := n2.ge n1.below
   have k3 := u7.blkT ((n3.blk.below hb4).below hb6) k2 (by decide)
   refine xsv 0 k3 [.slice a5 1 c5, .int .i64 11] fun W8 u8 k8 => ?_
   have g3 := n3.ge (Bl.next n1.below n2.below)
   have hB'1 := u8.below (u7.below (Bl.next (Bl.next hB hb4) hb6) g2) g3
   have hs5'1 := u8.own2 (u7.own2 (own_mono hs5 hs6) k2 (by decide)) k3 (by decide)
   have k7'1 := u8.blkT k7 k3 (by decide)
   refine xecm 4 [(b2, [.int .i64 0, .bool false, .slice none 0 0, .slice none 0 0]), (b3, [.slice a5 1 c5, .int .i64 11])] ⟨⟨_, k7'1⟩, ⟨_, k8⟩, trivial⟩ (.tuple #[.agg #[.int .i64 0, .bool false, .slice none 0 0, .slice none 0 0], .agg #[.slice a5 1 c5, .int .i64 11]]) ?_
   have he : (lookE l way no tree lo hi deep) = 11 := by unfold lookE; rw [if_pos hh]
   exact .inl ⟨by rw [he]; decide, _, _, _, _, _, _, _, _, _, _, by rw [he], hB'1, hs5'1⟩
 have hh : hasI way no = false := hc5
 have k1'2 := k1.below hb4
 refine xb 6 3 k1'2 ?_
 refine xwm 1 ((↑way.length : Int) + 1) (↑(way.length + 1) : Int) ?_
 refine xid 3 ((↑(way.length + 1) : Int) > (16 : Int)) (fun hc9 => ?_) (fun hc9 => ?_)
 · refine xb 4 0 k1'2 ?_
   refine xc 0 (args := #[.int .i64 no, .int .i64 10]) (ref11_AtN no 10 _ (by decide)) ?_
   rintro _ W10 ⟨_, rfl, hb10, a5, c5, rfl, hs5⟩
   have hs10 := (Bl.next hB hb4).size
   have k2 := ((n2.blk.below n3.below).below hb4).below hb10
   refine xsv 0 k2 [.int .i64 0, .bool false, .slice none 0 0, .slice none 0 0] fun W11 u11 k11 => ?_
   have g2 := n2.ge n1.below
   have k3 := u11.blkT ((n3.blk.below hb4).below hb10) k2 (by decide)
   refine xsv 0 k3 [.slice a5 1 c5, .int .i64 10] fun W12 u12 k12 => ?_
   have g3 := n3.ge (Bl.next n1.below n2.below)
   have hB'2 := u12.below (u11.below (Bl.next (Bl.next hB hb4) hb10) g2) g3
   have hs5'2 := u12.own2 (u11.own2 (own_mono hs5 hs10) k2 (by decide)) k3 (by decide)
   have k11'1 := u12.blkT k11 k3 (by decide)
   refine xecm 4 [(b2, [.int .i64 0, .bool false, .slice none 0 0, .slice none 0 0]), (b3, [.slice a5 1 c5, .int .i64 10])] ⟨⟨_, k11'1⟩, ⟨_, k12⟩, trivial⟩ (.tuple #[.agg #[.int .i64 0, .bool false, .slice none 0 0, .slice none 0 0], .agg #[.slice a5 1 c5, .int .i64 10]]) ?_
   have he : (lookE l way no tree lo hi deep) = 10 := by unfold lookE; rw [if_neg (by rw [hh]; decide), if_pos (by omega)]
   exact .inl ⟨by rw [he]; decide, _, _, _, _, _, _, _, _, _, _, by rw [he], hB'2, hs5'2⟩
 refine xb 6 0 k1'2 ?_
 have hI'1 := (((hI.below n1.below).below n2.below).below n3.below).below hb4
 refine xc 1 (args := #[.pointer (some ⟨bm, 0, none⟩), .int .i64 no, .int .i64 tree]) (ref11_Node B bm p k c l no tree _ hI'1) ?_
 rintro e W13 hq13
 rcases hq13 with ⟨hne, a3, c3, rfl, hb13, hs3⟩ | ⟨hne, kp, kc, vp, vc, rfl, hb13, hk, hv_⟩
 · have hs13 := (Bl.next hB hb4).size
   refine xa 3 [.int .i64 0, .bool false, .slice none 0 0, .slice none 0 0] 52 fun b14 W14 n14 => ?_
   have k2 := ((n2.blk.below n3.below).below hb4).below hb13
   have d14_b2 := n14.ne k2
   have hB'3 := Bl.next (Bl.next hB hb4) hb13
   have g14 := n14.ge hB'3
   refine xa 0 [.slice none 0 0, .int .i64 0] 45 fun b15 W15 n15 => ?_
   have k3 := ((n3.blk.below hb4).below hb13).below n14.below
   have d15_b3 := n15.ne k3
   have hB'4 := Bl.next hB'3 n14.below
   have g15 := n15.ge hB'4
   have k14 := n14.blk.below n15.below
   refine xsv 0 k14 [.int .i64 0, .bool false, .slice none 0 0, .slice none 0 0] fun W16 u16 k16 => ?_
   have k15 := u16.blkT n15.blk k14 (by decide)
   refine xsv 0 k15 [.slice a3 1 c3, .int .i64 (nodeErr l no tree)] fun W17 u17 k17 => ?_
   refine xb 6 1 k17 ?_
   refine xk 3 (show (((nodeErr l no tree) != (0 : Int)) : Bool) = true from bne_iff_ne.2 hne) ?_
   refine xd 1 (.t w.heap.size [52, 45]) ?_
   refine xm2 0 0 1 ?_ ?_
   · have k16'1 := (u17.blkT k16 k15 (by decide)).below (below_drew W17)
     refine xlv 0 k16'1.rp ?_
     refine xm2 0 1 2 ?_ ?_
     · have k17'1 := k17.below (below_drew W17)
       refine xlv 0 k17'1.rp ?_
       have k2'1 := (u17.blkT (u16.blk ((k2.below n14.below).below n15.below) (Ne.symm (Ne.symm d14_b2))) k15 (by decide)).below (below_drew W17)
       have g2 := n2.ge n1.below
       refine ysv (.o [] 2) k2'1 [.int .i64 0, .bool false, .slice none 0 0, .slice none 0 0] (.t w.heap.size [52, 45]) fun W18 u18 k18 => ⟨(sft_upd u18 k2'1 g2 (by decide)), ?_⟩
       have k3'1 := u18.blkT ((u17.blk (u16.blkT (k3.below n15.below) k14 (by decide)) (Ne.symm (Ne.symm d15_b3))).below (below_drew W17)) k2'1 (by decide)
       have g3 := n3.ge (Bl.next n1.below n2.below)
       refine ysv (.o [] 3) k3'1 [.slice a3 1 c3, .int .i64 (nodeErr l no tree)] (.t w.heap.size [52, 45]) fun W19 u19 k19 => ⟨(sft_upd u19 k3'1 g3 (by decide)), ?_⟩
       have hB'5 := u19.below (u18.below (Bl.next (u17.below (u16.below (Bl.next hB'4 n15.below) g14) g15) (below_drew W17)) g2) g3
       have hs3'1 := u19.own2 (u18.own2 (own_below (u17.own2 (u16.own2 (own_below (own_below (own_mono hs3 hs13) n14.below) n15.below) k14 (by decide)) k15 (by decide)) (below_drew W17)) k2'1 (by decide)) k3'1 (by decide)
       have k18'1 := u19.blkT k18 k3'1 (by decide)
       refine xecm 4 [(b2, [.int .i64 0, .bool false, .slice none 0 0, .slice none 0 0]), (b3, [.slice a3 1 c3, .int .i64 (nodeErr l no tree)])] ⟨⟨_, k18'1⟩, ⟨_, k19⟩, trivial⟩ (.tuple #[.agg #[.int .i64 0, .bool false, .slice none 0 0, .slice none 0 0], .agg #[.slice a3 1 c3, .int .i64 (nodeErr l no tree)]]) ?_
       have he : (lookE l way no tree lo hi deep) = nodeErr l no tree := by unfold lookE; rw [if_neg (by rw [hh]; decide), if_neg (by omega), if_pos hne]
       exact .inl ⟨by rw [he]; exact hne, _, _, _, _, _, _, _, _, _, _, by rw [he], hB'5, hs3'1⟩
     have k2'2 := (u17.blkT (u16.blk ((k2.below n14.below).below n15.below) (Ne.symm (Ne.symm d14_b2))) k15 (by decide)).below (below_drew W17)
     have g2 := n2.ge n1.below
     refine ysv 0 k2'2 [.int .i64 0, .bool false, .slice none 0 0, .slice none 0 0] (.t w.heap.size [52, 45]) fun W20 u20 k20 => ⟨(sft_upd u20 k2'2 g2 (by decide)), ?_⟩
     have k17'2 := u20.blkT (k17.below (below_drew W17)) k2'2 (by decide)
     refine xlv (.o [] 1) k17'2.rp ?_
     have k3'2 := u20.blkT ((u17.blk (u16.blkT (k3.below n15.below) k14 (by decide)) (Ne.symm (Ne.symm d15_b3))).below (below_drew W17)) k2'2 (by decide)
     have g3 := n3.ge (Bl.next n1.below n2.below)
     refine ysv (.o [] 3) k3'2 [.slice a3 1 c3, .int .i64 (nodeErr l no tree)] (.t w.heap.size [52, 45]) fun W21 u21 k21 => ⟨(sft_upd u21 k3'2 g3 (by decide)), ?_⟩
     have hB'6 := u21.below (u20.below (Bl.next (u17.below (u16.below (Bl.next hB'4 n15.below) g14) g15) (below_drew W17)) g2) g3
     have hs3'2 := u21.own2 (u20.own2 (own_below (u17.own2 (u16.own2 (own_below (own_below (own_mono hs3 hs13) n14.below) n15.below) k14 (by decide)) k15 (by decide)) (below_drew W17)) k2'2 (by decide)) k3'2 (by decide)
     have k20'1 := u21.blkT k20 k3'2 (by decide)
     refine xecm 4 [(b2, [.int .i64 0, .bool false, .slice none 0 0, .slice none 0 0]), (b3, [.slice a3 1 c3, .int .i64 (nodeErr l no tree)])] ⟨⟨_, k20'1⟩, ⟨_, k21⟩, trivial⟩ (.tuple #[.agg #[.int .i64 0, .bool false, .slice none 0 0, .slice none 0 0], .agg #[.slice a3 1 c3, .int .i64 (nodeErr l no tree)]]) ?_
     have he : (lookE l way no tree lo hi deep) = nodeErr l no tree := by unfold lookE; rw [if_neg (by rw [hh]; decide), if_neg (by omega), if_pos hne]
     exact .inl ⟨by rw [he]; exact hne, _, _, _, _, _, _, _, _, _, _, by rw [he], hB'6, hs3'2⟩
   have k17'3 := k17.below (below_drew W17)
   refine xlv 0 k17'3.rp ?_
   have k16'2 := (u17.blkT k16 k15 (by decide)).below (below_drew W17)
   refine xlv (.o [] 0) k16'2.rp ?_
   have k2'3 := (u17.blkT (u16.blk ((k2.below n14.below).below n15.below) (Ne.symm (Ne.symm d14_b2))) k15 (by decide)).below (below_drew W17)
   have g2 := n2.ge n1.below
   refine ysv (.o [] 2) k2'3 [.int .i64 0, .bool false, .slice none 0 0, .slice none 0 0] (.t w.heap.size [52, 45]) fun W22 u22 k22 => ⟨(sft_upd u22 k2'3 g2 (by decide)), ?_⟩
   have k3'3 := u22.blkT ((u17.blk (u16.blkT (k3.below n15.below) k14 (by decide)) (Ne.symm (Ne.symm d15_b3))).below (below_drew W17)) k2'3 (by decide)
   have g3 := n3.ge (Bl.next n1.below n2.below)
   refine ysv (.o [] 3) k3'3 [.slice a3 1 c3, .int .i64 (nodeErr l no tree)] (.t w.heap.size [52, 45]) fun W23 u23 k23 => ⟨(sft_upd u23 k3'3 g3 (by decide)), ?_⟩
   have hB'7 := u23.below (u22.below (Bl.next (u17.below (u16.below (Bl.next hB'4 n15.below) g14) g15) (below_drew W17)) g2) g3
   have hs3'3 := u23.own2 (u22.own2 (own_below (u17.own2 (u16.own2 (own_below (own_below (own_mono hs3 hs13) n14.below) n15.below) k14 (by decide)) k15 (by decide)) (below_drew W17)) k2'3 (by decide)) k3'3 (by decide)
   have k22'1 := u23.blkT k22 k3'3 (by decide)
   refine xecm 4 [(b2, [.int .i64 0, .bool false, .slice none 0 0, .slice none 0 0]), (b3, [.slice a3 1 c3, .int .i64 (nodeErr l no tree)])] ⟨⟨_, k22'1⟩, ⟨_, k23⟩, trivial⟩ (.tuple #[.agg #[.int .i64 0, .bool false, .slice none 0 0, .slice none 0 0], .agg #[.slice a3 1 c3, .int .i64 (nodeErr l no tree)]]) ?_
   have he : (lookE l way no tree lo hi deep) = nodeErr l no tree := by unfold lookE; rw [if_neg (by rw [hh]; decide), if_neg (by omega), if_pos hne]
   exact .inl ⟨by rw [he]; exact hne, _, _, _, _, _, _, _, _, _, _, by rw [he], hB'7, hs3'3⟩
 have hs13 := (Bl.next hB hb4).size
 have hcn : nodC (inB l no) ≤ 18 := Nat.le_trans (node_shapeP (nodeE_shape (nodeTE_zero (nodeErr_TE hne).2))) (maxG_18 _ _)
 refine xa 3 [.int .i64 0, .bool false, .slice none 0 0, .slice none 0 0] 52 fun b24 W24 n24 => ?_
 have k2 := ((n2.blk.below n3.below).below hb4).below hb13
 have d24_b2 := n24.ne k2
 have hB'8 := Bl.next (Bl.next hB hb4) hb13
 have g24 := n24.ge hB'8
 refine xa 0 [.slice none 0 0, .int .i64 0] 45 fun b25 W25 n25 => ?_
 have k3 := ((n3.blk.below hb4).below hb13).below n24.below
 have d25_b3 := n25.ne k3
 have hB'9 := Bl.next hB'8 n24.below
 have g25 := n25.ge hB'9
 have k24 := n24.blk.below n25.below
 refine xsv 0 k24 [.int .i64 (nodT (inB l no)), .bool (nodL (inB l no)), .slice kp (nodC (inB l no)) kc, .slice vp (nodC (inB l no)) vc] fun W26 u26 k26 => ?_
 have k25 := u26.blkT n25.blk k24 (by decide)
 refine xsv 0 k25 [.slice none 0 0, .int .i64 0] fun W27 u27 k27 => ?_
 refine xb 6 1 k27 ?_
 have hk'1 := u27.own2 (u26.own2 (own_below (own_below (own_mono hk hs13) n24.below) n25.below) k24 (by decide)) k25 (by decide)
 have hv_'1 := u27.own2 (u26.own2 (own_below (own_below (own_mono hv_ hs13) n24.below) n25.below) k24 (by decide)) k25 (by decide)
 have hB'10 := u27.below (u26.below (Bl.next hB'9 n25.below) g24) g25
 have k1'3 := u27.blkT (u26.blkT (((k1'2.below hb13).below n24.below).below n25.below) k24 (by decide)) k25 (by decide)
 have k2'4 := u27.blkT (u26.blk ((k2.below n24.below).below n25.below) (Ne.symm (Ne.symm d24_b2))) k25 (by decide)
 have k3'4 := u27.blk (u26.blkT (k3.below n25.below) k24 (by decide)) (Ne.symm (Ne.symm d25_b3))
 have k26'1 := u27.blkT k26 k25 (by decide)
 refine zl 13 84 (fun zm zkv V => ∃ (i : Nat), zkv = [(3, .int .i64 deep), (5, .pointer (some ⟨b1, 0, none⟩)), (8, .pointer (some ⟨b2, 0, none⟩)), (9, .pointer (some ⟨b3, 0, none⟩)), (10, .pointer (some ⟨b24, 0, none⟩)), (12, .int .i64 (↑i : Int))] ∧ zm = nodC (inB l no) - ((↑i : Int)).toNat ∧ Below w.heap.size w V ∧ Blk V b1 ([.int .i64 no, .int .i64 lo, .int .i64 hi, .slice wa way.length wc, ft]) 102 ∧ Blk V b2 ([.int .i64 0, .bool false, .slice none 0 0, .slice none 0 0]) 52 ∧ Blk V b3 ([.slice none 0 0, .int .i64 0]) 45 ∧ Blk V b24 ([.int .i64 (nodT (inB l no)), .bool (nodL (inB l no)), .slice kp (nodC (inB l no)) kc, .slice vp (nodC (inB l no)) vc]) 52 ∧ Blk V b25 ([.slice none 0 0, .int .i64 0]) 45 ∧ V.ownsRow w.heap.size 3 1 (.slice kp (nodC (inB l no)) kc) (nodC (inB l no)) ((keysI (inB l no) (nodC (inB l no))).map (Value.int .i64)) ∧ V.ownsRow w.heap.size 9 1 (.slice vp (nodC (inB l no)) vc) (nodC (inB l no)) ((valsL (inB l no) (nodC (inB l no))).map sv) ∧ i ≤ nodC (inB l no) ∧ (∀ j, j < i → hasB lo hi ((nodK l no).getD j 0) = true)) ⟨0, rfl, rfl, hB'10, k1'3, k2'4, k3'4, k26'1, k27, hk'1, hv_'1, Nat.zero_le _, ?_⟩ ?_
 · exact fun j hj => absurd hj (by omega)
 rintro _ _ W28 ⟨i, rfl, rfl, hB_28, k28_b1, k28_b2, k28_b3, k28_b24, k28_b25, hk, hv_, hii, hall⟩ J28 hJ28 r28
 refine xb 5 2 k28_b24 ?_
 refine xid 4 ((↑i : Int) < (↑(nodC (inB l no)) : Int)) (fun hc29 => ?_) (fun hc29 => ?_)
 · refine xd 5 .z ?_
   have k28_b1'1 := k28_b1.below (below_drew W28)
   refine xlv (.e [0] 1) (k28_b1'1.rpp 1 2) ?_
   have k28_b24'1 := k28_b24.below (below_drew W28)
   refine xb (.e [2] 3) 2 k28_b24'1 ?_
   have hk'2 := own_below hk (below_drew W28)
   refine xx (.e [4] 5) _ (nodC (inB l no)) i 1 (IntsN.elem (l := (nodK l no)) (own_sl hk'2) (keysI_len _ _) (k := i) (by omega)).1 ?_
   refine xl (.e [] 6) ((IntsN.elem (l := (nodK l no)) (own_sl hk'2) (keysI_len _ _) (k := i) (by omega)).2) ?_
   refine xr (.o [] 7) (args := #[.agg #[.int .i64 lo, .int .i64 hi], .int .i64 ((nodK l no).getD i 0)]) (refspan_has lo hi ((nodK l no).getD i 0) _) fun W30 hb30 => ?_
   refine xi (.r [8] 2) (!(hasB lo hi ((nodK l no).getD i 0))) (fun hc31 => ?_) (fun hc31 => ?_)
   · have hna : hasB lo hi ((nodK l no).getD i 0) = false := by simpa using hc31
     refine xd 1 (.t w.heap.size [52, 45]) ?_
     have k28_b1'2 := (k28_b1'1.below hb30).below (below_drew W30)
     refine xbt (.e [1] 2) 0 w.heap.size [52, 45] k28_b1'2 ?_
     refine xm2 0 0 3 ?_ ?_
     · have k28_b24'2 := (k28_b24'1.below hb30).below (below_drew W30)
       refine xlv 0 k28_b24'2.rp ?_
       refine yc (.o [] 3) (args := #[.int .i64 no, .int .i64 9]) (.t w.heap.size [52, 45]) (ref11_AtN no 9 _ (by decide)) ?_
       rintro _ W32 ⟨_, rfl, hb32, a5, c5, rfl, hs5⟩
       have hs32 := (Bl.next (Bl.next (Bl.next hB_28 (below_drew W28)) hb30) (below_drew W30)).size
       refine ⟨(SF.of_below _ hb32), ?_⟩
       have k28_b2'1 := (((k28_b2.below (below_drew W28)).below hb30).below (below_drew W30)).below hb32
       have g2 := n2.ge n1.below
       refine ysv (.o [] 4) k28_b2'1 [.int .i64 (nodT (inB l no)), .bool (nodL (inB l no)), .slice kp (nodC (inB l no)) kc, .slice vp (nodC (inB l no)) vc] (.t w.heap.size [52, 45]) fun W33 u33 k33 => ⟨(sft_upd u33 k28_b2'1 g2 (by decide)), ?_⟩
       have k28_b3'1 := u33.blkT ((((k28_b3.below (below_drew W28)).below hb30).below (below_drew W30)).below hb32) k28_b2'1 (by decide)
       have g3 := n3.ge (Bl.next n1.below n2.below)
       refine ysv (.o [] 5) k28_b3'1 [.slice a5 1 c5, .int .i64 9] (.t w.heap.size [52, 45]) fun W34 u34 k34 => ⟨(sft_upd u34 k28_b3'1 g3 (by decide)), ?_⟩
       have hB'11 := u34.below (u33.below (Bl.next (Bl.next (Bl.next (Bl.next hB_28 (below_drew W28)) hb30) (below_drew W30)) hb32) g2) g3
       have hs5'3 := u34.own2 (u33.own2 (own_mono hs5 hs32) k28_b2'1 (by decide)) k28_b3'1 (by decide)
       have k33'1 := u34.blkT k33 k28_b3'1 (by decide)
       refine xecm 8 [(b2, [.int .i64 (nodT (inB l no)), .bool (nodL (inB l no)), .slice kp (nodC (inB l no)) kc, .slice vp (nodC (inB l no)) vc]), (b3, [.slice a5 1 c5, .int .i64 9])] ⟨⟨_, k33'1⟩, ⟨_, k34⟩, trivial⟩ (.tuple #[.agg #[.int .i64 (nodT (inB l no)), .bool (nodL (inB l no)), .slice kp (nodC (inB l no)) kc, .slice vp (nodC (inB l no)) vc], .agg #[.slice a5 1 c5, .int .i64 9]]) ?_
       have he : (lookE l way no tree lo hi deep) = 9 := by unfold lookE; rw [if_neg (by rw [hh]; decide), if_neg (by omega), if_neg (by rw [hne]; decide), if_pos (by have := nodK_out (i := i) (tree := tree) (by omega) hna; exact this)]
       exact .inl ⟨by rw [he]; decide, _, _, _, _, _, _, _, _, _, _, by rw [he], hB'11, hs5'3⟩
     refine yc 0 (args := #[.int .i64 no, .int .i64 9]) (.t w.heap.size [52, 45]) (ref11_AtN no 9 _ (by decide)) ?_
     rintro _ W35 ⟨_, rfl, hb35, a5, c5, rfl, hs5⟩
     have hs35 := (Bl.next (Bl.next (Bl.next hB_28 (below_drew W28)) hb30) (below_drew W30)).size
     refine ⟨(SF.of_below _ hb35), ?_⟩
     have k28_b24'3 := ((k28_b24'1.below hb30).below (below_drew W30)).below hb35
     refine xlv (.o [] 0) k28_b24'3.rp ?_
     have k28_b2'2 := (((k28_b2.below (below_drew W28)).below hb30).below (below_drew W30)).below hb35
     have g2 := n2.ge n1.below
     refine ysv (.o [] 4) k28_b2'2 [.int .i64 (nodT (inB l no)), .bool (nodL (inB l no)), .slice kp (nodC (inB l no)) kc, .slice vp (nodC (inB l no)) vc] (.t w.heap.size [52, 45]) fun W36 u36 k36 => ⟨(sft_upd u36 k28_b2'2 g2 (by decide)), ?_⟩
     have k28_b3'2 := u36.blkT ((((k28_b3.below (below_drew W28)).below hb30).below (below_drew W30)).below hb35) k28_b2'2 (by decide)
     have g3 := n3.ge (Bl.next n1.below n2.below)
     refine ysv (.o [] 5) k28_b3'2 [.slice a5 1 c5, .int .i64 9] (.t w.heap.size [52, 45]) fun W37 u37 k37 => ⟨(sft_upd u37 k28_b3'2 g3 (by decide)), ?_⟩
     have hB'12 := u37.below (u36.below (Bl.next (Bl.next (Bl.next (Bl.next hB_28 (below_drew W28)) hb30) (below_drew W30)) hb35) g2) g3
     have hs5'4 := u37.own2 (u36.own2 (own_mono hs5 hs35) k28_b2'2 (by decide)) k28_b3'2 (by decide)
     have k36'1 := u37.blkT k36 k28_b3'2 (by decide)
     refine xecm 8 [(b2, [.int .i64 (nodT (inB l no)), .bool (nodL (inB l no)), .slice kp (nodC (inB l no)) kc, .slice vp (nodC (inB l no)) vc]), (b3, [.slice a5 1 c5, .int .i64 9])] ⟨⟨_, k36'1⟩, ⟨_, k37⟩, trivial⟩ (.tuple #[.agg #[.int .i64 (nodT (inB l no)), .bool (nodL (inB l no)), .slice kp (nodC (inB l no)) kc, .slice vp (nodC (inB l no)) vc], .agg #[.slice a5 1 c5, .int .i64 9]]) ?_
     have he : (lookE l way no tree lo hi deep) = 9 := by unfold lookE; rw [if_neg (by rw [hh]; decide), if_neg (by omega), if_neg (by rw [hne]; decide), if_pos (by have := nodK_out (i := i) (tree := tree) (by omega) hna; exact this)]
     exact .inl ⟨by rw [he]; decide, _, _, _, _, _, _, _, _, _, _, by rw [he], hB'12, hs5'4⟩
   have hna : hasB lo hi ((nodK l no).getD i 0) = true := by simpa using hc31
   refine xwm 5 ((↑i : Int) + 1) (↑(i + 1) : Int) ?_
   have hB'13 := Bl.next (Bl.next hB_28 (below_drew W28)) hb30
   have k28_b1'3 := k28_b1'1.below hb30
   have k28_b2'3 := (k28_b2.below (below_drew W28)).below hb30
   have k28_b3'3 := (k28_b3.below (below_drew W28)).below hb30
   have k28_b24'4 := k28_b24'1.below hb30
   have k28_b25'1 := (k28_b25.below (below_drew W28)).below hb30
   have hk'3 := own_below hk'2 hb30
   have hv_'2 := own_below (own_below hv_ (below_drew W28)) hb30
   exact ze 2 (hJ28 _ _ _ ⟨i + 1, rfl, rfl, hB'13, k28_b1'3, k28_b2'3, k28_b3'3, k28_b24'4, k28_b25'1, hk'3, hv_'2, by omega, fun j hj => (Nat.lt_or_ge j i).elim (hall j) (fun q => by obtain rfl : j = i := (by omega); exact hna)⟩ (by omega))
 refine xb 9 1 k28_b24 ?_
 refine xg 1 [65, 66] (nodL (inB l no)) (fun hc38 => ?_) (fun hc38 => ?_)
 · refine xg 4 [68, 69, 70] (deep != (0 : Int)) (fun hc39 => ?_) (fun hc39 => ?_)
   · have hc39 := ne_of_bne hc39
     refine xb 1 3 k28_b1 ?_
     refine xwm 1 ((↑way.length : Int) + 1) (↑(way.length + 1) : Int) ?_
     refine xin 5 (↑(way.length + 1) : Int) deep (fun hc40 => ?_) (fun hc40 => ?_)
     · refine xd 1 (.t w.heap.size [52, 45]) ?_
       have k28_b1'4 := k28_b1.below (below_drew W28)
       refine xbt (.e [1] 2) 0 w.heap.size [52, 45] k28_b1'4 ?_
       refine xm2 0 0 3 ?_ ?_
       · have k28_b24'5 := k28_b24.below (below_drew W28)
         refine xlv 0 k28_b24'5.rp ?_
         refine yc (.o [] 3) (args := #[.int .i64 no, .int .i64 10]) (.t w.heap.size [52, 45]) (ref11_AtN no 10 _ (by decide)) ?_
         rintro _ W41 ⟨_, rfl, hb41, a5, c5, rfl, hs5⟩
         have hs41 := (Bl.next hB_28 (below_drew W28)).size
         refine ⟨(SF.of_below _ hb41), ?_⟩
         have k28_b2'4 := (k28_b2.below (below_drew W28)).below hb41
         have g2 := n2.ge n1.below
         refine ysv (.o [] 4) k28_b2'4 [.int .i64 (nodT (inB l no)), .bool (nodL (inB l no)), .slice kp (nodC (inB l no)) kc, .slice vp (nodC (inB l no)) vc] (.t w.heap.size [52, 45]) fun W42 u42 k42 => ⟨(sft_upd u42 k28_b2'4 g2 (by decide)), ?_⟩
         have k28_b3'4 := u42.blkT ((k28_b3.below (below_drew W28)).below hb41) k28_b2'4 (by decide)
         have g3 := n3.ge (Bl.next n1.below n2.below)
         refine ysv (.o [] 5) k28_b3'4 [.slice a5 1 c5, .int .i64 10] (.t w.heap.size [52, 45]) fun W43 u43 k43 => ⟨(sft_upd u43 k28_b3'4 g3 (by decide)), ?_⟩
         have hB'14 := u43.below (u42.below (Bl.next (Bl.next hB_28 (below_drew W28)) hb41) g2) g3
         have hs5'5 := u43.own2 (u42.own2 (own_mono hs5 hs41) k28_b2'4 (by decide)) k28_b3'4 (by decide)
         have k42'1 := u43.blkT k42 k28_b3'4 (by decide)
         refine xecm 4 [(b2, [.int .i64 (nodT (inB l no)), .bool (nodL (inB l no)), .slice kp (nodC (inB l no)) kc, .slice vp (nodC (inB l no)) vc]), (b3, [.slice a5 1 c5, .int .i64 10])] ⟨⟨_, k42'1⟩, ⟨_, k43⟩, trivial⟩ (.tuple #[.agg #[.int .i64 (nodT (inB l no)), .bool (nodL (inB l no)), .slice kp (nodC (inB l no)) kc, .slice vp (nodC (inB l no)) vc], .agg #[.slice a5 1 c5, .int .i64 10]]) ?_
         have he : (lookE l way no tree lo hi deep) = 10 := by unfold lookE; rw [if_neg (by rw [hh]; decide), if_neg (by omega), if_neg (by rw [hne]; decide), if_neg (by have := nodK_fits hne hr (fun j hj => hall j (by omega)); unfold nodK at this; rw [this]; decide), if_pos ⟨by assumption, by omega, by omega⟩]
         exact .inl ⟨by rw [he]; decide, _, _, _, _, _, _, _, _, _, _, by rw [he], hB'14, hs5'5⟩
       refine yc 0 (args := #[.int .i64 no, .int .i64 10]) (.t w.heap.size [52, 45]) (ref11_AtN no 10 _ (by decide)) ?_
       rintro _ W44 ⟨_, rfl, hb44, a5, c5, rfl, hs5⟩
       have hs44 := (Bl.next hB_28 (below_drew W28)).size
       refine ⟨(SF.of_below _ hb44), ?_⟩
       have k28_b24'6 := (k28_b24.below (below_drew W28)).below hb44
       refine xlv (.o [] 0) k28_b24'6.rp ?_
       have k28_b2'5 := (k28_b2.below (below_drew W28)).below hb44
       have g2 := n2.ge n1.below
       refine ysv (.o [] 4) k28_b2'5 [.int .i64 (nodT (inB l no)), .bool (nodL (inB l no)), .slice kp (nodC (inB l no)) kc, .slice vp (nodC (inB l no)) vc] (.t w.heap.size [52, 45]) fun W45 u45 k45 => ⟨(sft_upd u45 k28_b2'5 g2 (by decide)), ?_⟩
       have k28_b3'5 := u45.blkT ((k28_b3.below (below_drew W28)).below hb44) k28_b2'5 (by decide)
       have g3 := n3.ge (Bl.next n1.below n2.below)
       refine ysv (.o [] 5) k28_b3'5 [.slice a5 1 c5, .int .i64 10] (.t w.heap.size [52, 45]) fun W46 u46 k46 => ⟨(sft_upd u46 k28_b3'5 g3 (by decide)), ?_⟩
       have hB'15 := u46.below (u45.below (Bl.next (Bl.next hB_28 (below_drew W28)) hb44) g2) g3
       have hs5'6 := u46.own2 (u45.own2 (own_mono hs5 hs44) k28_b2'5 (by decide)) k28_b3'5 (by decide)
       have k45'1 := u46.blkT k45 k28_b3'5 (by decide)
       refine xecm 4 [(b2, [.int .i64 (nodT (inB l no)), .bool (nodL (inB l no)), .slice kp (nodC (inB l no)) kc, .slice vp (nodC (inB l no)) vc]), (b3, [.slice a5 1 c5, .int .i64 10])] ⟨⟨_, k45'1⟩, ⟨_, k46⟩, trivial⟩ (.tuple #[.agg #[.int .i64 (nodT (inB l no)), .bool (nodL (inB l no)), .slice kp (nodC (inB l no)) kc, .slice vp (nodC (inB l no)) vc], .agg #[.slice a5 1 c5, .int .i64 10]]) ?_
       have he : (lookE l way no tree lo hi deep) = 10 := by unfold lookE; rw [if_neg (by rw [hh]; decide), if_neg (by omega), if_neg (by rw [hne]; decide), if_neg (by have := nodK_fits hne hr (fun j hj => hall j (by omega)); unfold nodK at this; rw [this]; decide), if_pos ⟨by assumption, by omega, by omega⟩]
       exact .inl ⟨by rw [he]; decide, _, _, _, _, _, _, _, _, _, _, by rw [he], hB'15, hs5'6⟩
     refine xlv 4 k28_b24.rp ?_
     refine xsv 1 k28_b2 [.int .i64 (nodT (inB l no)), .bool (nodL (inB l no)), .slice kp (nodC (inB l no)) kc, .slice vp (nodC (inB l no)) vc] fun W47 u47 k47 => ?_
     have g2 := n2.ge n1.below
     have k28_b3'6 := u47.blkT k28_b3 k28_b2 (by decide)
     refine xsv 0 k28_b3'6 [.slice none 0 0, .int .i64 0] fun W48 u48 k48 => ?_
     have g3 := n3.ge (Bl.next n1.below n2.below)
     have hB'16 := u48.below (u47.below hB_28 g2) g3
     have hk'4 := u48.own2 (u47.own2 hk k28_b2 (by decide)) k28_b3'6 (by decide)
     have hv_'3 := u48.own2 (u47.own2 hv_ k28_b2 (by decide)) k28_b3'6 (by decide)
     have k47'1 := u48.blkT k47 k28_b3'6 (by decide)
     refine xecm 3 [(b2, [.int .i64 (nodT (inB l no)), .bool (nodL (inB l no)), .slice kp (nodC (inB l no)) kc, .slice vp (nodC (inB l no)) vc]), (b3, [.slice none 0 0, .int .i64 0])] ⟨⟨_, k47'1⟩, ⟨_, k48⟩, trivial⟩ (.tuple #[.agg #[.int .i64 (nodT (inB l no)), .bool (nodL (inB l no)), .slice kp (nodC (inB l no)) kc, .slice vp (nodC (inB l no)) vc], .agg #[.slice none 0 0, .int .i64 0]]) ?_
     have he : (lookE l way no tree lo hi deep) = 0 := by unfold lookE; rw [if_neg (by rw [hh]; decide), if_neg (by omega), if_neg (by rw [hne]; decide), if_neg (by have := nodK_fits hne hr (fun j hj => hall j (by omega)); unfold nodK at this; rw [this]; decide), if_neg]; rintro ⟨q1, q2, q3⟩; omega
     exact .inr ⟨he, _, _, _, _, rfl, hB'16, hk'4, hv_'3⟩
   have hc39 := eq_of_bne_false hc39
   refine xlv 14 k28_b24.rp ?_
   refine xsv 1 k28_b2 [.int .i64 (nodT (inB l no)), .bool (nodL (inB l no)), .slice kp (nodC (inB l no)) kc, .slice vp (nodC (inB l no)) vc] fun W49 u49 k49 => ?_
   have g2 := n2.ge n1.below
   have k28_b3'7 := u49.blkT k28_b3 k28_b2 (by decide)
   refine xsv 0 k28_b3'7 [.slice none 0 0, .int .i64 0] fun W50 u50 k50 => ?_
   have g3 := n3.ge (Bl.next n1.below n2.below)
   have hB'17 := u50.below (u49.below hB_28 g2) g3
   have hk'5 := u50.own2 (u49.own2 hk k28_b2 (by decide)) k28_b3'7 (by decide)
   have hv_'4 := u50.own2 (u49.own2 hv_ k28_b2 (by decide)) k28_b3'7 (by decide)
   have k49'1 := u50.blkT k49 k28_b3'7 (by decide)
   refine xecm 3 [(b2, [.int .i64 (nodT (inB l no)), .bool (nodL (inB l no)), .slice kp (nodC (inB l no)) kc, .slice vp (nodC (inB l no)) vc]), (b3, [.slice none 0 0, .int .i64 0])] ⟨⟨_, k49'1⟩, ⟨_, k50⟩, trivial⟩ (.tuple #[.agg #[.int .i64 (nodT (inB l no)), .bool (nodL (inB l no)), .slice kp (nodC (inB l no)) kc, .slice vp (nodC (inB l no)) vc], .agg #[.slice none 0 0, .int .i64 0]]) ?_
   have he : (lookE l way no tree lo hi deep) = 0 := by unfold lookE; rw [if_neg (by rw [hh]; decide), if_neg (by omega), if_neg (by rw [hne]; decide), if_neg (by have := nodK_fits hne hr (fun j hj => hall j (by omega)); unfold nodK at this; rw [this]; decide), if_neg]; rintro ⟨q1, q2, q3⟩; omega
   exact .inr ⟨he, _, _, _, _, rfl, hB'17, hk'5, hv_'4⟩
 refine xlv 18 k28_b24.rp ?_
 refine xsv 1 k28_b2 [.int .i64 (nodT (inB l no)), .bool (nodL (inB l no)), .slice kp (nodC (inB l no)) kc, .slice vp (nodC (inB l no)) vc] fun W51 u51 k51 => ?_
 have g2 := n2.ge n1.below
 have k28_b3'8 := u51.blkT k28_b3 k28_b2 (by decide)
 refine xsv 0 k28_b3'8 [.slice none 0 0, .int .i64 0] fun W52 u52 k52 => ?_
 have g3 := n3.ge (Bl.next n1.below n2.below)
 have hB'18 := u52.below (u51.below hB_28 g2) g3
 have hk'6 := u52.own2 (u51.own2 hk k28_b2 (by decide)) k28_b3'8 (by decide)
 have hv_'5 := u52.own2 (u51.own2 hv_ k28_b2 (by decide)) k28_b3'8 (by decide)
 have k51'1 := u52.blkT k51 k28_b3'8 (by decide)
 refine xecm 3 [(b2, [.int .i64 (nodT (inB l no)), .bool (nodL (inB l no)), .slice kp (nodC (inB l no)) kc, .slice vp (nodC (inB l no)) vc]), (b3, [.slice none 0 0, .int .i64 0])] ⟨⟨_, k51'1⟩, ⟨_, k52⟩, trivial⟩ (.tuple #[.agg #[.int .i64 (nodT (inB l no)), .bool (nodL (inB l no)), .slice kp (nodC (inB l no)) kc, .slice vp (nodC (inB l no)) vc], .agg #[.slice none 0 0, .int .i64 0]]) ?_
 have he : (lookE l way no tree lo hi deep) = 0 := by unfold lookE; rw [if_neg (by rw [hh]; decide), if_neg (by omega), if_neg (by rw [hne]; decide), if_neg (by have := nodK_fits hne hr (fun j hj => hall j (by omega)); unfold nodK at this; rw [this]; decide), if_neg]; rintro ⟨q1, q2, q3⟩; exact absurd q1 (by simp_all)
 exact .inr ⟨he, _, _, _, _, rfl, hB'18, hk'6, hv_'5⟩
end Go.Proofs.YtinegkldgjhnpaaGreatDoor
namespace Go.Proofs.YtinegkldgjhnpaaGreatDoor
open Go.RowKit Go.Extern.Stop Go.Stop Go.Extern
set_option linter.unusedVariables false
attribute [local irreducible] wpList wpAnyH Code.wp Oper.wp Go

theorem block_Bits_ok (B b : Nat) (p : Option Addr) (n c : Nat) (l : List UInt8) (no : Int) (w : World) (hI : ImgR B b p n c l w) (he : bitsErr l no = 0) (m : Nat) (hm : rawN (inB l no) 0 4 = m) (xs : List Value) (hx : (bitsL (inB l no) m).map nv = xs) :
    Calls Tryz.prog 22 #[.pointer (some ⟨b, 0, none⟩), .int .i64 no] w (RetS (fun w' r => ∃ p c, r = .tuple #[.slice p m c, .nilIface] ∧ w'.ownsRow w.heap.size 3 1 (.slice p m c) m xs) w) := by
  subst hm hx
  refine (block_Bits B b p n c l no w hI).mono ?_
  rintro e W (⟨h, _⟩ | ⟨_, p4, c4, rfl, hb, h4⟩)
  · exact absurd he h
  · exact ⟨_, rfl, hb, p4, c4, rfl, h4⟩
def li11 : List UInt8 := [1, 0, 0, 0, 2] ++ List.replicate 239 0
def im11 : List UInt8 := putB (List.replicate 512 0) (1 * 256) (sealB 3 1 li11)
theorem li11_len : li11.length = 244 := by decide +kernel
theorem li11_ok : bitsOkB li11 = true := by decide +kernel
theorem im11_blk : blkB im11 1 = sealB 3 1 li11 := blkB_put (sealB_len (by rw [li11_len]; decide)) (by rw [List.length_replicate]; decide)
theorem im11_len : im11.length = 512 := by unfold im11; rw [putB_len (by rw [sealB_len (by rw [li11_len]; decide), List.length_replicate]; decide), List.length_replicate]
theorem im11_in : inB im11 1 = li11 := by
  rw [inB_in (no := 1) (j := 1) rfl, im11_blk, in_seal (by rw [li11_len]; decide)]
  unfold inSeal; rw [li11_len]; exact List.append_nil _
theorem im11_ok : bitsErr im11 1 = 0 := by
  unfold bitsErr
  rw [inE_in (no := 1) (j := 1) im11_len rfl (by decide), im11_blk, if_pos (open_seal (by decide) (by decide) (by decide) (by decide) (by rw [li11_len]; decide)), im11_in, if_pos li11_ok]
theorem im11_n : rawN (inB im11 1) 0 4 = 1 := by rw [im11_in]; decide +kernel
theorem im11_l : (bitsL (inB im11 1) 1).map nv = [.int .i64 2] := by rw [im11_in]; have : bitN li11 0 = 2 := by decide +kernel
                                                                     simp [bitsL, this, nv]
theorem text93 : textB [some 9] (some 3) = ⟨#[98, 108, 111, 99, 107, 32, 57, 58, 32, 101, 114, 114, 111, 114, 32, 51]⟩ := by
  have h9 : numB 9 = ⟨#[57]⟩ := by unfold numB; rw [show (Lib.itoa 9).toArray = #[57] by decide +kernel]
  have h3 : numB 3 = ⟨#[51]⟩ := by unfold numB; rw [show (Lib.itoa 3).toArray = #[51] by decide +kernel]
  unfold textB textB; rw [h9, h3]; rfl
theorem fault_Text93 (v : Value) (w : World) (hv : ErrV w [some 9] (some 3) v) : Calls Tryz.prog 52 #[v] w (Ret (.string ⟨#[98, 108, 111, 99, 107, 32, 57, 58, 32, 101, 114, 114, 111, 114, 32, 51]⟩) w) := by
  have := fault_Text (some 3) [some 9] v w (by decide) hv (fun _ => rfl) (fun b hb => by
    have hb' : b = 9 ∨ b = 3 := by
      rcases hb with hb | hb
      · left; simpa using hb
      · right; injection hb with h; exact h.symm
    rcases hb' with rfl | rfl
    · exact ⟨Itoas.small (n := 9) (by decide) w, by unfold numB; decide +kernel⟩
    · exact ⟨Itoas.small (n := 3) (by decide) w, by unfold numB; decide +kernel⟩)
  rwa [text93] at this
set_option maxRecDepth 100000 in
set_option maxHeartbeats 1000000 in
theorem readN_out (k : Nat) (B b : Nat) (p : Option Addr) (n c : Nat) (l : List UInt8) (no : Int) (w : World) (hI : ImgR B b p n c l w) (ho : ¬ (0 ≤ no ∧ no < (n / 256 : Nat))) :
    Calls Tryz.prog 56 #[.pointer (some ⟨b, 0, none⟩), .int .i64 no, .int .i64 2, .func (.func 57) #[] #[.pointer (some ⟨k, 0, none⟩)]] w (RetS (fun w' r => ∃ b, r = .tuple #[.agg #[.int .i64 0, .bool false, .slice none 0 0, .slice none 0 0], .iface 67 (.pointer (some ⟨b, 0, none⟩))] ∧ ErrV w' [some no] (some 3) (.iface 67 (.pointer (some ⟨b, 0, none⟩)))) w) := by
 refine zin 56 Tryz.func56 ?_
 refine xa 2 [.int .i64 0, .bool false, .slice none 0 0, .slice none 0 0] 52 fun b1 W1 n1 => ?_
 refine xa 5 [.int .i64 0, .bool false, .slice none 0 0, .slice none 0 0] 52 fun b2 W2 n2 => ?_
 have d2_b1 := n2.ne n1.blk
 have hB := Bl.next n1.below n2.below
 refine xc 6 (args := #[.pointer (some ⟨b, 0, none⟩), .int .i64 no]) (image_Read_out B b p n c l no _ (hI.below hB) ho) ?_
 rintro _ W3 ⟨_, rfl, hb3, vr, rfl⟩
 refine xd 16 (.t w.heap.size [52]) ?_
 refine xm2 (.b [1, 2, 3]) 0 4 ?_ ?_
 · have k2 := (n2.blk.below hb3).below (below_drew W3)
   refine xlv 0 k2.rp ?_
   refine yc (.o [] 4) (args := #[.int .i64 no, .iface 53 (.int .i64 3)]) (.t w.heap.size [52]) (block_told no 3 _) ?_
   rintro _ W4 ⟨_, rfl, hb4, hv4⟩
   refine ⟨(SF.of_below _ hb4), ?_⟩
   rw [if_neg (by decide), if_neg (by decide)] at hv4
   have hq4 := hv4
   obtain ⟨bf4, vf4, rfl, _, _⟩ := hq4
   have k1'1 := (((n1.blk.below n2.below).below hb3).below (below_drew W3)).below hb4
   have g1 := n1.ge (Below.refl w.heap.size _)
   refine ysv (.o [] 5) k1'1 [.int .i64 0, .bool false, .slice none 0 0, .slice none 0 0] (.t w.heap.size [52]) fun W5 u5 k5 => ⟨(sft_upd u5 k1'1 g1 (by decide)), ?_⟩
   have hB'1 := u5.below (Bl.next (Bl.next (Bl.next hB hb3) (below_drew W3)) hb4) g1
   have hv4'1 := hv4.upd u5 k1'1 (by decide)
   exact xec (.r [6] 4) k5 (.tuple #[.agg #[.int .i64 0, .bool false, .slice none 0 0, .slice none 0 0], .iface 67 (.pointer (some ⟨bf4, 0, none⟩))]) ⟨_, rfl, hB'1, _, rfl, hv4'1⟩
 refine yc 0 (args := #[.int .i64 no, .iface 53 (.int .i64 3)]) (.t w.heap.size [52]) (block_told no 3 _) ?_
 rintro _ W6 ⟨_, rfl, hb6, hv6⟩
 refine ⟨(SF.of_below _ hb6), ?_⟩
 rw [if_neg (by decide), if_neg (by decide)] at hv6
 have hq6 := hv6
 obtain ⟨bf6, vf6, rfl, _, _⟩ := hq6
 have k2 := ((n2.blk.below hb3).below (below_drew W3)).below hb6
 refine xlv (.o [] 0) k2.rp ?_
 have k1'2 := (((n1.blk.below n2.below).below hb3).below (below_drew W3)).below hb6
 have g1 := n1.ge (Below.refl w.heap.size _)
 refine ysv (.o [] 5) k1'2 [.int .i64 0, .bool false, .slice none 0 0, .slice none 0 0] (.t w.heap.size [52]) fun W7 u7 k7 => ⟨(sft_upd u7 k1'2 g1 (by decide)), ?_⟩
 have hB'2 := u7.below (Bl.next (Bl.next (Bl.next hB hb3) (below_drew W3)) hb6) g1
 have hv6'1 := hv6.upd u7 k1'2 (by decide)
 exact xec (.r [6] 4) k7 (.tuple #[.agg #[.int .i64 0, .bool false, .slice none 0 0, .slice none 0 0], .iface 67 (.pointer (some ⟨bf6, 0, none⟩))]) ⟨_, rfl, hB'2, _, rfl, hv6'1⟩
set_option maxRecDepth 100000 in
set_option maxHeartbeats 1000000 in
theorem block_Node_out (tree : Int) (B b : Nat) (p : Option Addr) (n c : Nat) (l : List UInt8) (no : Int) (w : World) (hI : ImgR B b p n c l w) (ho : ¬ (0 ≤ no ∧ no < (n / 256 : Nat))) :
    Calls Tryz.prog 21 #[.pointer (some ⟨b, 0, none⟩), .int .i64 no, .int .i64 tree] w (RetS (fun w' r => ∃ b, r = .tuple #[.agg #[.int .i64 0, .bool false, .slice none 0 0, .slice none 0 0], .iface 67 (.pointer (some ⟨b, 0, none⟩))] ∧ ErrV w' [some no] (some 3) (.iface 67 (.pointer (some ⟨b, 0, none⟩)))) w) := by
 refine zin 14 Tryz.func21 ?_
 refine xa 2 [.int .i64 tree] 3 fun b1 W1 n1 => ?_
 refine xa 0 [.int .i64 0, .bool false, .slice none 0 0, .slice none 0 0] 52 fun b2 W2 n2 => ?_
 have hB := Bl.next n1.below n2.below
 refine xc 8 (args := #[.pointer (some ⟨b, 0, none⟩), .int .i64 no, .int .i64 2, .func (.func 57) #[] #[.pointer (some ⟨b1, 0, none⟩)]]) (readN_out b1 B b p n c l no _ (hI.below hB) ho) ?_
 rintro _ W3 ⟨_, rfl, hb3, bf, rfl, hv⟩
 have k2 := n2.blk.below hb3
 refine xsv 2 k2 [.int .i64 0, .bool false, .slice none 0 0, .slice none 0 0] fun W4 u4 k4 => ?_
 have g2 := n2.ge n1.below
 have hB'1 := u4.below (Bl.next hB hb3) g2
 have hv'1 := hv.upd u4 k2 (by decide)
 exact xec 4 k4 (.tuple #[.agg #[.int .i64 0, .bool false, .slice none 0 0, .slice none 0 0], .iface 67 (.pointer (some ⟨bf, 0, none⟩))]) ⟨_, rfl, hB'1, _, rfl, hv'1⟩
set_option maxRecDepth 100000 in
set_option maxHeartbeats 4000000 in
theorem lives11 (w : World) :
    Calls Tryz.prog 18 #[] w (Ret (.bool true) w) := by
 refine zin 45 Tryz.func18 ?_
 refine xmk 7 fun _ _ _ _ zJ zQ zo zx zy zK => op_make 512 (.int .u8 0) 1 1 ((List.replicate 512 (0 : UInt8)).map bv) zo zx zy Tryz.underlying22 (by kernel_rfl) rfl (by omega) (by omega) (zerosB 512) fun b1 W1 n1 => ?_
 refine zK _ _ ?_
 have hs8 : w.heap.size ≤ (W1).heap.size := n1.below.size
 have o1 := own_of_blk (size := 1) (n := 512) n1.blk (n1.ge (Below.refl w.heap.size _)) (by rw [List.length_map, List.length_replicate]) (by unfold maxLen; omega)
 refine xc 0 (args := #[.slice (some ⟨b1, 0, none⟩) 512 512]) (image_OfR (some ⟨b1, 0, none⟩) 512 512 512 (List.replicate 512 (0 : UInt8)) _ List.length_replicate (by decide) (bys_of (own_sl o1) List.length_replicate) (by decide) (by decide)) ?_
 rintro _ W2 ⟨_, rfl, hb2, bi, pi, ci, rfl, _, hI⟩
 replace hI := hI.mono hs8
 rw [List.take_of_length_le (by simp)] at hI
 refine xc 6 (args := #[.pointer (some ⟨bi, 0, none⟩), .int .i64 9, .int .i64 0]) (block_Node_out 0 w.heap.size bi pi 512 ci _ 9 _ hI (by decide)) ?_
 rintro _ W3 ⟨_, rfl, hb3, bf, rfl, hv⟩
 refine xa 3 [.int .i64 0, .bool false, .slice none 0 0, .slice none 0 0] 52 fun b4 W4 n4 => ?_
 refine xsv 0 n4.blk [.int .i64 0, .bool false, .slice none 0 0, .slice none 0 0] fun W5 u5 k5 => ?_
 have g4 := n4.ge (Bl.next (Bl.next n1.below hb2) hb3)
 refine xbs 6 5 [.int .u8 1, .int .u8 0, .int .u8 0, .int .u8 0, .int .u8 2] 5 fun b6 W6 n6 => ?_
 have hB'1 := Bl.next (u5.below (Bl.next (Bl.next (Bl.next n1.below hb2) hb3) n4.below) g4) n6.below
 have hs7 : w.heap.size ≤ (W6).heap.size := hB'1.size
 refine xbi 0 (t2 := 3) fun _ _ _ _ zJ zQ zo zx zy zK => op_appZ (kq := .i64) b6 5 239 [.int .u8 1, .int .u8 0, .int .u8 0, .int .u8 0, .int .u8 2] zo Tryz.underlying22 Tryz.underlying3 (by kernel_rfl) zx n6.blk rfl zy (by decide) (by decide) ?_
 intro gz cz W7 oz hb7
 replace oz := own_mono oz hs7
 replace oz : W7.ownsRow w.heap.size 5 1 (.slice (some ⟨gz, 0, none⟩) 244 cz) 244 (li11.map bv) := oz
 refine zK _ _ ?_
 have hI'1 := ((((hI.below hb3).below n4.below).only (Only.of_upd (T := [52]) u5 n4.blk (by decide)) (by decide)).below n6.below).below hb7
 have hB'2 := Bl.next hB'1 hb7
 refine xc 0 (args := #[.pointer (some ⟨bi, 0, none⟩), .int .i64 1, .int .i64 3, .slice (some ⟨gz, 0, none⟩) 244 cz]) (block_WriteR w.heap.size bi pi 512 ci 1 1 (List.replicate 512 (0 : UInt8)) 3 (some ⟨gz, 0, none⟩) cz 244 li11 _ rfl li11_len hI'1 (by decide) (by decide) (by decide) (bys_of (own_sl oz) li11_len) (by decide) hB'2.size) ?_
 rintro _ W8 ⟨rfl, hb8, hO8, hI⟩
 rw [show putB (List.replicate 512 (0 : UInt8)) (1 * 256) (sealB 3 (1 : Nat) li11) = im11 from rfl] at hI
 refine xc 6 (args := #[.pointer (some ⟨bi, 0, none⟩), .int .i64 1]) (block_Bits_ok w.heap.size bi pi 512 ci im11 1 _ hI im11_ok 1 im11_n _ im11_l) ?_
 rintro _ W9 ⟨_, rfl, hb9, p4, c4, rfl, h4⟩
 have hs9 := (hB'2.trans hb8).size
 have hv'1 := (((((hv.below n4.below).upd u5 n4.blk (by decide)).below n6.below).below hb7).only hO8 (by decide)).below hb9
 refine xr 10 (args := #[.iface 67 (.pointer (some ⟨bf, 0, none⟩))]) (fault_Text93 _ _ hv'1) fun W10 hb10 => ?_
 have h4'1 := own_below (own_mono h4 hs9) hb10
 refine xx 16 _ 1 0 1 (Ints.elem (l := [2]) (own_sl h4'1) (k := 0) (by decide)).1 ?_
 refine xl 0 ((Ints.elem (l := [2]) (own_sl h4'1) (k := 0) (by decide)).2) ?_
 have hB'3 := Bl.next (Bl.next (hB'2.trans hb8) hb9) hb10
 exact xe 6 (.bool true) ⟨rfl, hB'3⟩
end Go.Proofs.YtinegkldgjhnpaaGreatDoor
