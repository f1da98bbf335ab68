/- image.Of and block.Write at an image in a row of its own. block.Write of anything, and the statement BlockWrites, walked. Package alloc at any numbers: New and From with their errors, Next, Lay, Left, Used, Ahead. Package alloc at any numbers: Next, Lay, Ahead. The document's answer for layer 16: From, New, Take, Lay, Ahead; Same of two lists. The document's answer for layer 17: Right and Tree. The document's answer for layers 9 and 22: Free, bad, lay. A region that draws its order, inside a round of a range over a function: walked as everywhere. No program is named here. What package span computes: All, Has, Right and Fits return the plain functions below, for any span and any slice of keys, and change nothing that lay there. What package span's iterator 'each' hands over: the spans of the children from the last one to the first, for any span and any keys; and that Child and Split return the plain functions below. What the iterator of slices.Chunk hands over: chunks of 960 of a slice of ints. slices.Chunk of counts. What the iterator of slices.Backward hands over: the elements of a slice of ints from the last one to the first. slices.Backward of ints. (*walker).note: an error noted at the blocks of the way. What a round of a range over chunks keeps. slices.Contains of ints. Child and Split of package span return the plain functions below, for any span and any slice of keys. (*walker).look. (*walker).leaf. append onto one of two rows of the same type: where the new row lies. The document's answer for layer 21: Split. The document's answer for layer 21: Split, walked. The document's answer for layer 22: Data. value.Count and value.Slot of numbers that may stand there. slots.Put and ref10.Put: an index of slots as bytes. The document's answer for layer 22: Data with room. The document's answer for layer 10: Put. Counts with one more at some numbers; scantlinglaw22.free. The document's answer for layer 22: Meta with room. bits.Put and bits.Free of small counts, slices.Clone of counts. plot.Data$1: a slot noted as an entry. plot.Meta$1: a slot noted; plot.lay with that closure. plot.lay with the closure of plot.Meta: blocks of counts laid, their slots noted. tally.Split of counts. plot.lay with the closure of plot.Data: blocks of counts laid, their slots noted. law17.made: an allocator of a new image. The example of law 17. -/
import Derived.RangeFuncNested
import Derived.RangeFuncBound
import Derived.RangeFuncCalls
import Derived.RangeFuncLeaves
import Derived.OwnWalkIn
import Derived.OrdersIn
import Derived.Test.YtbhjgcokpmiopaaGreatRows
import Derived.Shelf.Abstract
import Derived.Shelf.RegionOpen
import Derived.TacticsInMore
import Derived.LoopNIn
import Derived.LoopIn
import Derived.Sort.BigQuietIn
import Derived.Test.YtbhjgcokpmiopaaGreatMg3
namespace Go.Proofs.YtbhjgcokpmiopaaGreat
open Go.RowKit Go.Extern.Stop Go.Stop Go.Extern
set_option linter.unusedVariables false
attribute [local irreducible] wpList wpAnyH Code.wp Oper.wp Go

theorem ImgR.mono {B B' b : Nat} {p : Option Addr} {n c : Nat} {l : List UInt8} {w : World} (h : ImgR B b p n c l w) (hB : B' ≤ B) : ImgR B' b p n c l w := ⟨h.blk, own_mono h.row hB, h.hn⟩
theorem image_OfR (a : Option Addr) (c n m : Nat) (l : List UInt8) (w : World) (hn : l.length = n) (hm : min (n / 256) 14400 * 256 = m) (h : Bys w (.slice a n c) l) (hl : n ≤ 100000000) (hc : n ≤ c) :
    Calls Tryz.prog 13 #[.slice a n c] w (RetS (fun w' r => ∃ b p c2, r = .pointer (some ⟨b, 0, none⟩) ∧ w.heap.size ≤ b ∧ ImgR w.heap.size b p m c2 (l.take m) w') w) := by
  subst hn hm
  refine (image_Of a c l w h hl hc).mono ?_
  rintro e W ⟨_, rfl, hb, b, p, c2, rfl, h1, h2, h3⟩
  exact ⟨_, rfl, hb, b, p, c2, rfl, h1, h2, h3, by omega⟩
def WroteR (B b : Nat) (p : Option Addr) (n c : Nat) (l : List UInt8) (w : World) (e : Ending) (w' : World) : Prop :=
  e = .returned .nilIface ∧ Below B w w' ∧ Only [5] w w' ∧ ImgR B b p n c l w'
theorem block_WriteR (B b : Nat) (p : Option Addr) (n c k : Nat) (ki : Int) (l : List UInt8) (kind : Int) (a : Option Addr) (ca m : Nat) (li : List UInt8) (w : World) (hki : ki = (k : Int)) (hm : li.length = m) (hI : ImgR B b p n c l w) (hk : k < n / 256) (h1 : 1 ≤ kind) (h2 : kind ≤ 4) (hin : Bys w (.slice a m ca) li) (hl : m ≤ 244) (hBw : B ≤ w.heap.size) :
    Calls Tryz.prog 44 #[.pointer (some ⟨b, 0, none⟩), .int .i64 ki, .int .i64 kind, .slice a m ca] w (WroteR B b p n c (putB l (k * 256) (sealB kind k li)) w) := by
  subst hki hm
  obtain ⟨g, rfl, hc⟩ := hI.base (by omega)
  refine (block_Write B b g n c k l kind a ca li w hI.blk hI.row hI.hn hc hk h1 h2 hin hl hBw).mono ?_
  rintro e W ⟨rfl, hb, hO, _, ho⟩
  exact ⟨rfl, hb, hO, hI.blk.only hO (by decide), ho, hI.hn⟩
end Go.Proofs.YtbhjgcokpmiopaaGreat
namespace Go.Proofs.YtbhjgcokpmiopaaGreat
open Go.RowKit Go.Extern.Stop Go.Stop Go.Extern
set_option linter.unusedVariables false
attribute [local irreducible] wpList wpAnyH Code.wp Oper.wp Go

theorem seal_Seal_err (kind no : Int) (a : Option Addr) (c : Nat) (li : List UInt8) (w : World) (h : Bys w (.slice a li.length c) li) (hs : sealE kind no li ≠ 0) :
    Calls Tryz.prog 70 #[.int .i64 kind, .int .i64 no, .slice a li.length c] w (Ret (.tuple #[.slice none 0 0, .int .i64 (sealE kind no li)]) w) := by
  refine (seal_SealG kind no a c li w h).mono ?_
  rintro e W (⟨_, rfl, hb⟩ | ⟨h0, _⟩)
  · exact ⟨rfl, hb⟩
  · exact absurd h0 hs
theorem seal_Seal_yes (kind no : Int) (a : Option Addr) (c : Nat) (li : List UInt8) (w : World) (h : Bys w (.slice a li.length c) li) (hs : sealE kind no li = 0) :
    Calls Tryz.prog 70 #[.int .i64 kind, .int .i64 no, .slice a li.length c] w (fun e w' => li.length ≤ 244 ∧ ∃ p c, e = .returned (.tuple #[.slice p 256 c, .int .i64 0]) ∧ Below w.heap.size w w') := by
  refine (seal_SealG kind no a c li w h).mono ?_
  rintro e W (⟨h0, _⟩ | ⟨_, _, hl, p, c2, rfl, hb, ho⟩)
  · exact absurd hs h0
  · exact ⟨hl, p, c2, rfl, hb⟩
theorem sealE_zero {kind no : Int} {li : List UInt8} (h : sealE kind no li = 0) : knownB kind no = true ∧ li.length ≤ 244 := by
  unfold sealE at h
  split at h
  · split at h
    · exact ⟨by assumption, by assumption⟩
    · cases h
  · cases h
set_option maxRecDepth 100000 in
set_option maxHeartbeats 1000000 in
theorem image_Write_out (b : Nat) (p : Option Addr) (n c : Nat) (k : Int) (x : Value) (w : World) (hk : Blk w b [.slice p n c] 71) (hn : n ≤ 100000000) (ho : ¬ (0 ≤ k ∧ k < (n / 256 : Nat))) :
    Calls Tryz.prog 71 #[.pointer (some ⟨b, 0, none⟩), .int .i64 k, x] w (Ret (.int .i64 3) w) := by
 refine zin 24 Tryz.func71 ?_
 refine xr 9 (args := #[.pointer (some ⟨b, 0, none⟩), .int .i64 k]) (image_block_out b p n c k _ (hk.below (Below.refl w.heap.size _)) hn ho) fun W1 hb1 => ?_
 exact xe 23 (.int .i64 3) ⟨rfl, hb1⟩
set_option maxRecDepth 100000 in
set_option maxHeartbeats 1000000 in
theorem blkW_bad (B b : Nat) (p : Option Addr) (n c : Nat) (l : List UInt8) (no kind : Int) (a : Option Addr) (ca : Nat) (li : List UInt8) (w : World) (hI : ImgR B b p n c l w) (hin : Bys w (.slice a li.length ca) li) (hs : sealE kind no li ≠ 0) :
    Calls Tryz.prog 44 #[.pointer (some ⟨b, 0, none⟩), .int .i64 no, .int .i64 kind, .slice a li.length ca] w (RetS (fun w' r => ErrV w' [some no] (some (sealE kind no li)) r) w) := by
 refine zin 28 Tryz.func44 ?_
 refine xr 10 (args := #[.int .i64 kind, .int .i64 no, .slice a li.length ca]) (seal_Seal_err kind no a ca li _ (hin.below (Below.refl w.heap.size _)) hs) fun W1 hb1 => ?_
 refine xk 14 (show (((sealE kind no li) == (0 : Int)) : Bool) = false from beq_false_of_ne hs) ?_
 refine xc 7 (args := #[.int .i64 no, .iface 46 (.int .i64 (sealE kind no li))]) (block_told no (sealE kind no li) _) ?_
 rintro _ W2 ⟨_, rfl, hb2, hv2⟩
 rw [if_neg hs, if_neg hs] at hv2
 have hq2 := hv2
 obtain ⟨bf2, vf2, rfl, _, _⟩ := hq2
 have hB := Bl.next hb1 hb2
 exact xe 4 (.iface 146 (.pointer (some ⟨bf2, 0, none⟩))) ⟨_, rfl, hB, hv2⟩
set_option maxRecDepth 100000 in
set_option maxHeartbeats 1000000 in
theorem blkW_out (B b : Nat) (p : Option Addr) (n c : Nat) (l : List UInt8) (no kind : Int) (a : Option Addr) (ca : Nat) (li : List UInt8) (w : World) (hI : ImgR B b p n c l w) (hin : Bys w (.slice a li.length ca) li) (hs : sealE kind no li = 0) (ho : ¬ (0 ≤ no ∧ no < (n / 256 : Nat))) :
    Calls Tryz.prog 44 #[.pointer (some ⟨b, 0, none⟩), .int .i64 no, .int .i64 kind, .slice a li.length ca] w (RetS (fun w' r => ErrV w' [some no] (some 3) r) w) := by
 refine zin 28 Tryz.func44 ?_
 refine xc 10 (args := #[.int .i64 kind, .int .i64 no, .slice a li.length ca]) (seal_Seal_yes kind no a ca li _ (hin.below (Below.refl w.heap.size _)) hs) ?_
 rintro _ W1 ⟨_, p2, c2, rfl, hb1⟩
 refine xr 19 (args := #[.pointer (some ⟨b, 0, none⟩), .int .i64 no, .slice p2 256 c2]) (image_Write_out b p n c no _ _ (hI.below hb1).blk (by have := hI.hn; omega) ho) fun W2 hb2 => ?_
 refine xc 8 (args := #[.int .i64 no, .iface 46 (.int .i64 3)]) (block_told no 3 _) ?_
 rintro _ W3 ⟨_, rfl, hb3, hv3⟩
 rw [if_neg (by decide), if_neg (by decide)] at hv3
 have hq3 := hv3
 obtain ⟨bf3, vf3, rfl, _, _⟩ := hq3
 have hB'1 := Bl.next (Bl.next hb1 hb2) hb3
 exact xe 4 (.iface 146 (.pointer (some ⟨bf3, 0, none⟩))) ⟨_, rfl, hB'1, hv3⟩
def erL (no er : Int) : List (Option Int) := if er = 0 then [] else [some no]
def erT (er : Int) : Option Int := if er = 0 then none else some er
theorem erL_blocks (no er : Int) : blocksOf (erL no er) = fltL no er := by unfold erL fltL; split <;> rfl
theorem erL_code (no er : Int) : codeOf (erL no er) (erT er) = er := by
  unfold erL erT
  split
  · rename_i h; rw [h]; rfl
  · rfl
theorem erL_len (no er : Int) : (erL no er).length ≤ 1000000 := by unfold erL; split <;> simp
def WroteG (B b : Nat) (p : Option Addr) (n c : Nat) (l : List UInt8) (no er : Int) (w : World) (e : Ending) (w' : World) : Prop :=
  ∃ v, e = .returned v ∧ Below B w w' ∧ Only [5] w w' ∧ ImgR B b p n c l w' ∧ ErrV w' (erL no er) (erT er) v
theorem block_WriteG (B b : Nat) (p : Option Addr) (k n c : Nat) (l : List UInt8) (no kind : Int) (a : Option Addr) (ca : Nat) (li : List UInt8) (w : World) (hn : n = k * 256) (hI : ImgR B b p n c l w) (hin : Bys w (.slice a li.length ca) li) (hBw : B ≤ w.heap.size) :
    Calls Tryz.prog 44 #[.pointer (some ⟨b, 0, none⟩), .int .i64 no, .int .i64 kind, .slice a li.length ca] w (WroteG B b p n c (wrL kind no k li l) no (wrE kind no k li) w) := by
  have hk : n / 256 = k := by omega
  by_cases hs : sealE kind no li = 0
  · obtain ⟨hkb, hl4⟩ := sealE_zero hs
    obtain ⟨h1, h2, h3, h4⟩ := knownB_all hkb
    by_cases ho : 0 ≤ no ∧ no < (k : Int)
    · have he : wrE kind no k li = 0 := by unfold wrE; rw [if_pos hs, if_pos ho]
      obtain ⟨j, rfl⟩ : ∃ j : Nat, no = j := ⟨no.toNat, by omega⟩
      rw [wrL, if_pos he, he]
      refine (block_WriteR B b p n c j (j : Int) l kind a ca li.length li w rfl rfl hI (by omega) h1 h2 hin hl4 hBw).mono ?_
      rintro e W ⟨rfl, hb, hO, hI2⟩
      exact ⟨_, rfl, hb, hO, hI2, rfl⟩
    · have he : wrE kind no k li = 3 := by unfold wrE; rw [if_pos hs, if_neg ho]
      rw [wrL, if_neg (by rw [he]; decide), he]
      refine (blkW_out B b p n c l no kind a ca li w hI hin hs (by rw [hk]; exact ho)).mono ?_
      rintro e W ⟨v, rfl, hb, hv⟩
      exact ⟨_, rfl, hb.mono hBw, Only.of_below hb, hI.below hb, hv⟩
  · have he : wrE kind no k li = sealE kind no li := by unfold wrE; rw [if_neg hs]
    rw [wrL, if_neg (by rw [he]; exact hs), he]
    refine (blkW_bad B b p n c l no kind a ca li w hI hin hs).mono ?_
    rintro e W ⟨v, rfl, hb, hv⟩
    exact ⟨_, rfl, hb.mono hBw, Only.of_below hb, hI.below hb, by rw [erL, erT, if_neg hs, if_neg hs]; exact hv⟩
end Go.Proofs.YtbhjgcokpmiopaaGreat
namespace Go.Proofs.YtbhjgcokpmiopaaGreat
open Go.RowKit Go.Extern.Stop Go.Stop Go.Extern
set_option linter.unusedVariables false
attribute [local irreducible] wpList wpAnyH Code.wp Oper.wp Go

/-- an allocator of the numbers L, k of them handed out, of the image at b -/
structure AlG (B ba b : Nat) (pa : Option Addr) (N ca k : Nat) (L : List Int) (w : World) : Prop where
  blk : Blk w ba [.slice pa N ca, .int .i64 (k : Int), .pointer (some ⟨b, 0, none⟩)] 64
  nums : w.ownsRow B 3 1 (.slice pa N ca) N (L.map (Value.int .i64))
  hL : L.length = N
  hB : B ≤ ba
  hN : N ≤ 1000000
  hk : k ≤ N
theorem AlG.below {B ba b : Nat} {pa : Option Addr} {N ca k : Nat} {L : List Int} {w W : World} (h : AlG B ba b pa N ca k L w) (hb : Below w.heap.size w W) : AlG B ba b pa N ca k L W := ⟨h.blk.below hb, own_below h.nums hb, h.hL, h.hB, h.hN, h.hk⟩
theorem AlG.only {B ba b : Nat} {pa : Option Addr} {N ca k : Nat} {L : List Int} {w W : World} {T : List TypeId} (h : AlG B ba b pa N ca k L w) (hO : Only T w W) (hT : T.contains 64 = false ∧ T.contains 3 = false) : AlG B ba b pa N ca k L W := ⟨h.blk.only hO hT.1, own_only h.nums hO hT.2, h.hL, h.hB, h.hN, h.hk⟩
theorem AlG.mono {B B' ba b : Nat} {pa : Option Addr} {N ca k : Nat} {L : List Int} {w : World} (h : AlG B ba b pa N ca k L w) (hB : B' ≤ B) : AlG B' ba b pa N ca k L w := ⟨h.blk, own_mono h.nums hB, h.hL, Nat.le_trans hB h.hB, h.hN, h.hk⟩
def goodB (K : Nat) (L : List Int) : Bool := L.all fun x => decide (1 ≤ x ∧ x < (K : Int))
def riseB (L : List Int) : Bool := (List.range (L.length - 1)).all fun i => decide (L.getD i 0 < L.getD (i + 1) 0)
/-- the number of From's error -/
def fromE (K : Nat) (L : List Int) : Int := if goodB K L then (if riseB L then 0 else 8) else 1
theorem goodB_true {K : Nat} {L : List Int} (h : ∀ j, j < L.length → 1 ≤ L.getD j 0 ∧ L.getD j 0 < (K : Int)) : goodB K L = true := by
  unfold goodB
  rw [List.all_eq_true]
  intro x hx
  obtain ⟨j, hj, rfl⟩ := List.mem_iff_getElem.1 hx
  have := h j hj
  simpa [List.getD, hj] using this
theorem goodB_get {K : Nat} {L : List Int} (h : goodB K L = true) {j : Nat} (hj : j < L.length) : 1 ≤ L.getD j 0 ∧ L.getD j 0 < (K : Int) := by
  unfold goodB at h
  rw [List.all_eq_true] at h
  have := h L[j] (List.getElem_mem hj)
  simpa [List.getD, hj] using this
theorem goodB_false {K : Nat} {L : List Int} {j : Nat} (hj : j < L.length) (h : ¬ (1 ≤ L.getD j 0 ∧ L.getD j 0 < (K : Int))) : goodB K L = false := by
  cases hg : goodB K L with
  | false => rfl
  | true => exact absurd (goodB_get hg hj) h
theorem riseB_true {L : List Int} (h : ∀ j, j + 1 < L.length → L.getD j 0 < L.getD (j + 1) 0) : riseB L = true := by
  unfold riseB
  rw [List.all_eq_true]
  intro j hj
  exact decide_eq_true (h j (by have := List.mem_range.1 hj; omega))
theorem riseB_false {L : List Int} {j : Nat} (hj : j + 1 < L.length) (h : ¬ L.getD j 0 < L.getD (j + 1) 0) : riseB L = false := by
  unfold riseB
  rw [List.all_eq_false]
  exact ⟨j, List.mem_range.2 (by omega), by simpa using h⟩
theorem ints_one (l : List Int) : ∀ u ∈ l.map (Value.int .i64), u.oneCell' = true := by
  intro u hu
  obtain ⟨x, _, rfl⟩ := List.mem_map.1 hu
  rfl
set_option maxRecDepth 100000 in
set_option maxHeartbeats 1000000 in
theorem alloc_New_bad (b : Nat) (p0 : Option Addr) (n c : Nat) (f : Int) (w : World) (hk : Blk w b [.slice p0 n c] 71) (hn : n ≤ 100000000) (hf : ¬ (1 ≤ f ∧ f ≤ (n / 256 : Nat))) :
    Calls Tryz.prog 12 #[.pointer (some ⟨b, 0, none⟩), .int .i64 f] w (Ret (.tuple #[.pointer none, .iface 46 (.int .i64 1)]) w) := by
 refine zin 37 Tryz.func12 ?_
 refine xg 16 [12, 13, 14] (decide (f < (1 : Int))) (fun hc1 => ?_) (fun hc1 => ?_)
 · have hc1 := of_decide_eq_true hc1
   exact xe 17 (.tuple #[.pointer none, .iface 46 (.int .i64 1)]) ⟨rfl, (Below.refl w.heap.size _)⟩
 have hc1 := of_decide_eq_false hc1
 refine xr 2 (args := #[.pointer (some ⟨b, 0, none⟩)]) (image_Blocks b _ n c _ (hk.below (Below.refl w.heap.size _)) hn) fun W2 hb2 => ?_
 refine xk 4 (show (decide (f > (↑(n / 256) : Int)) : Bool) = true from decide_eq_true (by omega)) ?_
 exact xe 9 (.tuple #[.pointer none, .iface 46 (.int .i64 1)]) ⟨rfl, hb2⟩
set_option maxRecDepth 100000 in
set_option maxHeartbeats 1000000 in
theorem clone_ints (p : Addr) (N c : Nat) (xs : List Value) (w : World) (h : Sl w (.slice (some p) N c) N xs) (hl : xs.length = N) (h1 : ∀ u ∈ xs, u.oneCell' = true) (hn : N ≤ 1000000) :
    Calls Tryz.prog 18 #[.slice (some p) N c] w (RetS (fun w' r => ∃ q c2, r = .slice q N c2 ∧ w'.ownsRow w.heap.size 3 1 (.slice q N c2) N xs) w) := by
 refine zin 8 Tryz.func18 ?_
 refine xb0 17 3 fun b1 W1 n1 => ?_
 have o1 := own_of_blk (size := 1) (n := 0) n1.blk (n1.ge (Below.refl w.heap.size _)) rfl (by decide)
 refine xbi 1 fun _ _ _ _ zJ zQ zo zx zy zK => op_app (m := N) (news := xs) (.int .i64 0) 1 8 (N) (xs) zo Tryz.underlying24 (by kernel_rfl) rfl (by decide) zx o1 zy (h.below n1.below) (by rw [hl, Nat.mul_one]) h1 (by unfold maxLen; omega) (by omega) n1.below.size (by omega) (by rfl) fun p2 c2 W2 o2 hg2 hb2 => ?_
 refine zK _ _ ?_
 have hB'1 := n1.below.trans hb2
 exact xe 4 (.slice p2 N c2) ⟨_, rfl, hB'1, _, _, rfl, o2⟩
set_option maxRecDepth 100000 in
set_option maxHeartbeats 1000000 in
theorem clone_ints_nil (w : World) :
    Calls Tryz.prog 18 #[.slice none 0 0] w (Ret (.slice none 0 0) w) := by
 refine zin 8 Tryz.func18 ?_
 exact xe 20 (.slice none 0 0) ⟨rfl, (Below.refl w.heap.size _)⟩
theorem clone_intsG (a : Option Addr) (N c : Nat) (xs : List Value) (w : World) (h : Sl w (.slice a N c) N xs) (hc : a = none → c = 0) (hl : xs.length = N) (h1 : ∀ u ∈ xs, u.oneCell' = true) (hn : N ≤ 1000000) :
    Calls Tryz.prog 18 #[.slice a N c] w (RetS (fun w' r => ∃ q c2, r = .slice q N c2 ∧ w'.ownsRow w.heap.size 3 1 (.slice q N c2) N xs) w) := by
  cases a with
  | some p => exact clone_ints p N c xs w h hl h1 hn
  | none =>
    have hN : N = 0 ∧ xs = [] := by
      rcases h with ⟨a', c', h2, h3, h4⟩ | ⟨b', off, cap, h2, _⟩
      · simp only [Value.slice.injEq] at h2; exact ⟨h2.2.1, h4⟩
      · cases h2
    obtain ⟨rfl, rfl⟩ := hN
    obtain rfl := hc rfl
    refine (clone_ints_nil w).mono ?_
    rintro e W ⟨rfl, hb⟩
    exact ⟨_, rfl, hb, none, 0, rfl, World.ownsRow_nil _ _ _ _⟩
def FromP (b : Nat) (K : Nat) (L : List Int) (w : World) (e : Ending) (w' : World) : Prop :=
  (fromE K L ≠ 0 ∧ e = .returned (.tuple #[.pointer none, .iface 46 (.int .i64 (fromE K L))]) ∧ Below w.heap.size w w') ∨
  (fromE K L = 0 ∧ ∃ ba pa ca, e = .returned (.tuple #[.pointer (some ⟨ba, 0, none⟩), .nilIface]) ∧ Below w.heap.size w w' ∧ AlG w.heap.size ba b pa L.length ca 0 L w')
end Go.Proofs.YtbhjgcokpmiopaaGreat
namespace Go.Proofs.YtbhjgcokpmiopaaGreat
open Go.RowKit Go.Extern.Stop Go.Stop Go.Extern
set_option linter.unusedVariables false
attribute [local irreducible] wpList wpAnyH Code.wp Oper.wp Go

theorem sl_cut {w : World} {b : Option Addr} {n c : Nat} {xs : List Value} (h : Sl w (.slice b n c) n xs) (hl : xs.length = n) (k : Nat) (hk : k ≤ n) : Sl w (.slice (cutA b k c 1) (n - k) (c - k)) (n - k) (xs.drop k) := by
  rcases h with ⟨a', c', h1, h2, h3⟩ | ⟨g, off, cap, h1, h2, h3, h4⟩
  · obtain rfl : k = 0 := by omega
    subst h3 h2
    exact .inl ⟨cutA b 0 c 1, c - 0, rfl, rfl, rfl⟩
  · simp only [Value.slice.injEq] at h1
    obtain ⟨rfl, _, rfl⟩ := h1
    by_cases hz : n - k = 0
    · refine .inl ⟨cutA (some ⟨g, off, none⟩) k c 1, c - k, by rw [hz], by omega, ?_⟩
      exact List.drop_eq_nil_of_le (by omega)
    · refine .inr ⟨g, off + k * 1, c - k, ?_, by omega, by omega, fun j x hj => ?_⟩
      · rw [cutA, if_neg (by omega)]; simp [Addr.add]
      · rw [List.getElem?_drop] at hj
        have := h4 (k + j) x hj
        rwa [Nat.mul_one, Nat.add_assoc]
theorem sl_take {w : World} {b : Option Addr} {n c : Nat} {xs : List Value} (h : Sl w (.slice b n c) n xs) (hl : xs.length = n) (m : Nat) (hm : m ≤ n) : Sl w (.slice b m c) m (xs.take m) := Sl.head h hl m hm
def nxV (k N : Nat) (L : List Int) : Int := if k < N then L.getD k 0 else 0
def nxE (k N : Nat) : Int := if k < N then 0 else 14
def nxK (k N : Nat) : Nat := if k < N then k + 1 else k
def NextG (B ba b : Nat) (pa : Option Addr) (N ca k : Nat) (L : List Int) (w : World) (e : Ending) (w' : World) : Prop :=
  ∃ v, e = .returned (.tuple #[.int .i64 (nxV k N L), v]) ∧ Below B w w' ∧ Only [64] w w' ∧ AlG B ba b pa N ca (nxK k N) L w' ∧ ErrV w' [] (erT (nxE k N)) v
theorem alloc_NextG (B ba b : Nat) (pa : Option Addr) (N ca k : Nat) (L : List Int) (w : World) (hA : AlG B ba b pa N ca k L w) (hg : k < N → 0 ≤ L.getD k 0) (hBw : B ≤ w.heap.size) :
    Calls Tryz.prog 43 #[.pointer (some ⟨ba, 0, none⟩)] w (NextG B ba b pa N ca k L w) := by
  by_cases hk : k < N
  · obtain ⟨q, hq⟩ : ∃ q : Nat, L.getD k 0 = q := ⟨(L.getD k 0).toNat, by have := hg hk; omega⟩
    refine (alloc_Next B ba pa N ca k L hA.hL b q hq w hA.blk hA.nums hA.hB hBw hA.hN hk).mono ?_
    rintro e W ⟨rfl, hb, hO, _, hk2, hn2⟩
    have e1 : nxV k N L = (q : Int) := by unfold nxV; rw [if_pos hk, hq]
    have e2 : nxE k N = 0 := if_pos hk
    have e3 : nxK k N = k + 1 := if_pos hk
    exact ⟨_, by rw [e1], hb, hO, by rw [e3]; exact ⟨hk2, hn2, hA.hL, hA.hB, hA.hN, hk⟩, by rw [e2]; exact rfl⟩
  · refine (alloc_Next_none ba b pa N ca k w hA.blk (by omega)).mono ?_
    rintro e W ⟨rfl, hb⟩
    have e1 : nxV k N L = 0 := by unfold nxV; rw [if_neg hk]
    have e2 : nxE k N = 14 := if_neg hk
    have e3 : nxK k N = k := if_neg hk
    exact ⟨_, by rw [e1], hb.mono hBw, Only.of_below hb, by rw [e3]; exact hA.below hb, by rw [e2]; exact rfl⟩
/-- Write, by its two ends -/
def WroteA (B b : Nat) (p : Option Addr) (k n c : Nat) (l : List UInt8) (no kind : Int) (li : List UInt8) (w : World) (e : Ending) (w' : World) : Prop :=
  (wrE kind no k li = 0 ∧ e = .returned .nilIface ∧ Below B w w' ∧ Only [5] w w' ∧ ImgR B b p n c (wrL kind no k li l) w') ∨
  (wrE kind no k li ≠ 0 ∧ ∃ bf, e = .returned (.iface 146 (.pointer (some ⟨bf, 0, none⟩))) ∧ Below B w w' ∧ Only [5] w w' ∧ ImgR B b p n c (wrL kind no k li l) w' ∧ ErrV w' [some no] (some (wrE kind no k li)) (.iface 146 (.pointer (some ⟨bf, 0, none⟩))))
theorem block_WriteA (B b : Nat) (p : Option Addr) (k n c : Nat) (l : List UInt8) (no kind : Int) (a : Option Addr) (ca : Nat) (li : List UInt8) (w : World) (hn : n = k * 256) (hI : ImgR B b p n c l w) (hin : Bys w (.slice a li.length ca) li) (hBw : B ≤ w.heap.size) :
    Calls Tryz.prog 44 #[.pointer (some ⟨b, 0, none⟩), .int .i64 no, .int .i64 kind, .slice a li.length ca] w (WroteA B b p k n c l no kind li w) := by
  refine (block_WriteG B b p k n c l no kind a ca li w hn hI hin hBw).mono ?_
  rintro e W ⟨v, rfl, hb, hO, hI2, hv⟩
  by_cases he : wrE kind no k li = 0
  · rw [he] at hv
    obtain rfl : v = .nilIface := hv
    exact .inl ⟨he, rfl, hb, hO, hI2⟩
  · rw [erL, erT, if_neg he, if_neg he] at hv
    have hq := hv
    obtain ⟨bf, vf, rfl, _, _⟩ := hq
    exact .inr ⟨he, bf, rfl, hb, hO, hI2, hv⟩
def lyE (k N K : Nat) (L : List Int) (kind : Int) (li : List UInt8) : Int := if k < N then wrE kind (L.getD k 0) K li else 14
def lyB (k N K : Nat) (L : List Int) (kind : Int) (li : List UInt8) : List Int := if k < N then fltL (L.getD k 0) (wrE kind (L.getD k 0) K li) else []
def lyV (k N K : Nat) (L : List Int) (kind : Int) (li : List UInt8) : Int := if k < N ∧ wrE kind (L.getD k 0) K li = 0 then L.getD k 0 else 0
def lyK (k N K : Nat) (L : List Int) (kind : Int) (li : List UInt8) : Nat := if k < N ∧ wrE kind (L.getD k 0) K li = 0 then k + 1 else k
def lyL (k N K : Nat) (L : List Int) (kind : Int) (li l : List UInt8) : List UInt8 := if k < N then wrL kind (L.getD k 0) K li l else l
def LayG (B ba b : Nat) (pa : Option Addr) (N ca k : Nat) (L : List Int) (p : Option Addr) (K n c : Nat) (l : List UInt8) (kind : Int) (li : List UInt8) (w : World) (e : Ending) (w' : World) : Prop :=
  ∃ v, e = .returned (.tuple #[.int .i64 (lyV k N K L kind li), v]) ∧ Below B w w' ∧ Only [64, 5] w w' ∧ AlG B ba b pa N ca (lyK k N K L kind li) L w' ∧ ImgR B b p n c (lyL k N K L kind li l) w' ∧ ErrV w' ((lyB k N K L kind li).map some) (erT (lyE k N K L kind li)) v
set_option maxRecDepth 100000 in
set_option maxHeartbeats 1000000 in
theorem alloc_back (B ba : Nat) (v m : Value) (k : Nat) (w : World) (hk : Blk w ba [v, .int .i64 ((k + 1 : Nat) : Int), m] 64) (hB0 : B ≤ ba) (hBw : B ≤ w.heap.size) (hk2 : k ≤ 1000000) :
    Calls Tryz.prog 45 #[.pointer (some ⟨ba, 0, none⟩)] w ((fun e w' => e = .returned (.tuple #[]) ∧ Below B w w' ∧ Only [64] w w' ∧ Blk w' ba [v, .int .i64 (k : Int), m] 64)) := by
 refine zin 9 Tryz.func45 ?_
 refine xb 4 1 hk ?_
 refine xq 0 (congrArg (Value.int .i64) (show IntKind.i64.wrap ((↑(k + 1) : Int) - 1) = (↑k : Int) from (show IntKind.i64.wrap ((↑(k + 1) : Int) - 1) = ((↑(k + 1) : Int) - 1) from by first | exact IntWalk.i64_in _ (by omega) | (simp only [IntKind.wrap]; omega)).trans (by omega))) ?_
 refine xs 2 hk [v, .int .i64 (↑k : Int), m] fun W1 u1 k1 => ?_
 have hB := u1.below (Below.refl B w) hB0
 have hO := (show Only [64] w _ from (Only.of_upd u1 hk (by decide)))
 exact xe 1 (.tuple #[]) ⟨rfl, hB, hO, k1⟩
set_option maxRecDepth 100000 in
set_option maxHeartbeats 4000000 in
theorem alloc_Lay_g (B ba b : Nat) (p0 : Option Addr) (N ca k q : Nat) (L : List Int) (p : Option Addr) (K n c : Nat) (l : List UInt8) (kind : Int) (a : Option Addr) (ci : Nat) (li : List UInt8) (w : World) (hk : Blk w ba [.slice p0 N ca, .int .i64 (k : Int), .pointer (some ⟨b, 0, none⟩)] 64) (ho : w.ownsRow B 3 1 (.slice p0 N ca) N (L.map (Value.int .i64))) (hL : L.length = N) (hB0 : B ≤ ba) (hN : N ≤ 1000000) (hkN : k < N) (hq : L.getD k 0 = (q : Int)) (hn : n = K * 256) (hI : ImgR B b p n c l w) (hin : ∀ W, Below B w W → Bys W (.slice a li.length ci) li) (hBw : B ≤ w.heap.size) :
    Calls Tryz.prog 24 #[.pointer (some ⟨ba, 0, none⟩), .int .i64 kind, .slice a li.length ci] w (LayG B ba b p0 N ca k L p K n c l kind li w) := by
 refine zin 35 Tryz.func24 ?_
 refine xc 9 (args := #[.pointer (some ⟨ba, 0, none⟩)]) (alloc_Next B ba p0 N ca k L hL b q hq _ hk ho hB0 (Nat.le_trans hBw (Below.refl B _).size) hN hkN) ?_
 rintro _ W1 ⟨rfl, hb1, hO1, _, kA, ho⟩
 refine xb 23 2 kA ?_
 have hI'1 := hI.only hO1 (by decide)
 refine xc 3 (args := #[.pointer (some ⟨b, 0, none⟩), .int .i64 (↑q : Int), .int .i64 kind, .slice a li.length ci]) (block_WriteA B b p K n c l (↑q : Int) kind a ci li _ hn hI'1 (hin _ hb1) (Nat.le_trans hBw hb1.size)) ?_
 rintro e W2 hq2
 rcases hq2 with ⟨he, rfl, hb2, hO2, hI⟩ | ⟨he, bf, rfl, hb2, hO2, hI, hv⟩
 · have hB'1 := hb1.trans hb2
   have hO := (show Only [64, 5] w _ from (only_aa hO1)).trans (only_ab hO2)
   have kA'1 := kA.only hO2 (by decide)
   have ho'1 := own_only ho hO2 (by decide)
   refine xe 20 (.tuple #[.int .i64 (↑q : Int), .nilIface]) ?_
   have h2 : k < N ∧ wrE kind (L.getD k 0) K li = 0 := ⟨hkN, by rw [hq]; exact he⟩
   exact ⟨_, by rw [lyV, if_pos h2, hq], hB'1, hO, by rw [lyK, if_pos h2]; exact ⟨kA'1, ho'1, hL, hB0, hN, hkN⟩, by rw [lyL, if_pos hkN, hq]; exact hI, by rw [lyB, lyE, if_pos hkN, if_pos hkN, h2.2]; exact rfl⟩
 have kA'2 := kA.only hO2 (by decide)
 have hB'2 := hb1.trans hb2
 refine xc 15 (args := #[.pointer (some ⟨ba, 0, none⟩)]) (alloc_back B ba _ _ k _ kA'2 hB0 (Nat.le_trans hBw hB'2.size) (by omega)) ?_
 rintro _ W3 ⟨rfl, hb3, hO3, kA2⟩
 have hB'3 := hB'2.trans hb3
 have hO := ((show Only [64, 5] w _ from (only_aa hO1)).trans (only_ab hO2)).trans (only_aa hO3)
 have ho'2 := own_only (own_only ho hO2 (by decide)) hO3 (by decide)
 have hI'2 := hI.only hO3 (by decide)
 have hv'1 := hv.only hO3 (by decide)
 refine xe 11 (.tuple #[.int .i64 0, .iface 146 (.pointer (some ⟨bf, 0, none⟩))]) ?_
 have h2 : ¬ (k < N ∧ wrE kind (L.getD k 0) K li = 0) := fun h => he (by rw [← hq]; exact h.2)
 exact ⟨_, by rw [lyV, if_neg h2], hB'3, hO, by rw [lyK, if_neg h2]; exact ⟨kA2, ho'2, hL, hB0, hN, by omega⟩, by rw [lyL, if_pos hkN, hq]; exact hI'2, by rw [lyB, lyE, if_pos hkN, if_pos hkN, hq, fltL_nz he, erT, if_neg he]; exact hv'1⟩
theorem alloc_LayG (B ba b : Nat) (pa : Option Addr) (N ca k : Nat) (L : List Int) (p : Option Addr) (K n c : Nat) (l : List UInt8) (kind : Int) (a : Option Addr) (ci : Nat) (li : List UInt8) (w : World) (hA : AlG B ba b pa N ca k L w) (hg : k < N → 0 ≤ L.getD k 0) (hn : n = K * 256) (hI : ImgR B b p n c l w) (hin : ∀ W, Below B w W → Bys W (.slice a li.length ci) li) (hBw : B ≤ w.heap.size) :
    Calls Tryz.prog 24 #[.pointer (some ⟨ba, 0, none⟩), .int .i64 kind, .slice a li.length ci] w (LayG B ba b pa N ca k L p K n c l kind li w) := by
  by_cases hk : k < N
  · obtain ⟨q, hq⟩ : ∃ q : Nat, L.getD k 0 = q := ⟨(L.getD k 0).toNat, by have := hg hk; omega⟩
    exact alloc_Lay_g B ba b pa N ca k q L p K n c l kind a ci li w hA.blk hA.nums hA.hL hA.hB hA.hN hk hq hn hI hin hBw
  · refine (alloc_Lay_none ba b pa N ca k _ _ w hA.blk (by omega)).mono ?_
    rintro e W ⟨rfl, hb⟩
    have h2 : ¬ (k < N ∧ wrE kind (L.getD k 0) K li = 0) := fun h => hk h.1
    exact ⟨_, by rw [lyV, if_neg h2], hb.mono hBw, Only.of_below hb, by rw [lyK, if_neg h2]; exact hA.below hb, by rw [lyL, if_neg hk]; exact hI.below hb, by rw [lyB, lyE, if_neg hk, if_neg hk]; exact rfl⟩
theorem aheadSl {w : World} {b : Option Addr} {n c k i : Nat} {L : List Int} (h : Sl w (.slice b n c) n (L.map (Value.int .i64))) (hl : L.length = n) (hk : k ≤ n) : Sl w (.slice (cutA b k c 1) (min i (n - k)) (c - k)) (min i (n - k)) (((L.drop k).take i).map (Value.int .i64)) := by
  have h1 := sl_cut h (by simpa using hl) k hk
  have h2 := sl_take h1 (by simp [hl]) (min i (n - k)) (by omega)
  rw [← List.map_drop, ← List.map_take] at h2
  have e : (L.drop k).take (min i (n - k)) = (L.drop k).take i := by
    rcases Nat.le_total i (n - k) with q | q
    · rw [Nat.min_eq_left q]
    · rw [Nat.min_eq_right q, List.take_of_length_le (by simp [hl]), List.take_of_length_le (by simp [hl]; omega)]
  rw [e] at h2
  exact h2
theorem aheadN {w : World} {B : Nat} {b : Option Addr} {n c k : Nat} {xs : List Value} {e size : Nat} (h : w.ownsRow B e size (.slice b n c) n xs) : cutA b k c 1 = none → c - k = 0 := by
  intro hn
  have hb : b = none := by
    unfold cutA at hn
    split at hn
    · exact hn
    · simpa using hn
  subst hb
  rcases h.2 with ⟨h2, _⟩ | ⟨g, cap, cur, h2, _⟩
  · simp only [Value.slice.injEq] at h2; omega
  · cases h2
set_option maxRecDepth 100000 in
set_option maxHeartbeats 1000000 in
theorem alloc_Ahead (B ba b : Nat) (p0 : Option Addr) (N ca k i : Nat) (L : List Int) (w : World) (hA : AlG B ba b p0 N ca k L w) (hi : i ≤ 1000000) :
    Calls Tryz.prog 19 #[.pointer (some ⟨ba, 0, none⟩), .int .i64 (↑i : Int)] w (RetS (fun w' r => ∃ q c2, r = .slice q (min i (N - k)) c2 ∧ w'.ownsRow w.heap.size 3 1 (.slice q (min i (N - k)) c2) (min i (N - k)) (((L.drop k).take i).map (Value.int .i64))) w) := by
 have hk := hA.blk
 have hkN := hA.hk
 have hL := hA.hL
 have hN := hA.hN
 have hca : N ≤ ca := by
   rcases Nat.eq_zero_or_pos N with q | q
   · omega
   · exact own_cap hA.nums q
 refine zin 23 Tryz.func19 ?_
 refine xr 9 (args := #[.pointer (some ⟨ba, 0, none⟩)]) (alloc_nobody ba b _ _ _ hk) fun W1 hb1 => ?_
 refine xid 6 ((↑i : Int) < (1 : Int)) (fun hc2 => ?_) (fun hc2 => ?_)
 · refine xe 7 (.slice none 0 0) ?_
   obtain rfl : i = 0 := by omega
   exact ⟨_, rfl, hb1, none, 0, by rw [Nat.zero_min], by rw [Nat.zero_min, List.take_zero]; exact World.ownsRow_nil _ _ _ _⟩
 have hk'1 := hk.below hb1
 refine xr 7 (args := #[.pointer (some ⟨ba, 0, none⟩)]) (alloc_left ba p0 N ca k _ _ hk'1 hkN) fun W3 hb3 => ?_
 refine xq 9 (congrArg (Value.int .i64) (show (if (↑(N - k) : Int) < (↑i : Int) then (↑(N - k) : Int) else (↑i : Int) : Int) = (↑(min i (N - k)) : Int) from min_cast i (N - k))) ?_
 refine xsH 0 (fun _ _ _ _ zo zx zy V => run_sliceH (k := (min i (N - k))) (b := (cutA p0 k ca 1)) (n := (N - k)) (c := (ca - k)) (i := (↑(min i (N - k)) : Int)) (ki := .i64) zo zx zy rfl (by omega) Tryz.underlying24 (by kernel_rfl) V) ?_
 have hB := Bl.next hb1 hb3
 refine xc 0 (args := #[.slice (cutA p0 k ca 1) (min i (N - k)) (ca - k)]) (clone_intsG (cutA p0 k ca 1) (min i (N - k)) (ca - k) (((L.drop k).take i).map (Value.int .i64)) _ (aheadSl (own_sl (own_below hA.nums hB)) hL hkN) (aheadN hA.nums) (by simp; omega) (ints_one _) (by omega)) ?_
 rintro _ W4 ⟨_, rfl, hb4, pq, cq, rfl, hq⟩
 have hs4 := (Bl.next hb1 hb3).size
 have hB'1 := Bl.next hB hb4
 have hq'1 := own_mono hq hs4
 exact xe 4 (.slice pq (min i (N - k)) cq) ⟨_, rfl, hB'1, _, _, rfl, hq'1⟩
set_option maxRecDepth 100000 in
set_option maxHeartbeats 1000000 in
theorem allocG_Image (B ba b : Nat) (p0 : Option Addr) (N ca k : Nat) (L : List Int) (w : World) (hA : AlG B ba b p0 N ca k L w) :
    Calls Tryz.prog 9 #[.pointer (some ⟨ba, 0, none⟩)] w (Ret (.pointer (some ⟨b, 0, none⟩)) w) := by
 have hk := hA.blk
 refine zin 9 Tryz.func9 ?_
 refine xr 9 (args := #[.pointer (some ⟨ba, 0, none⟩)]) (alloc_nobody ba b _ _ _ hk) fun W1 hb1 => ?_
 have hk'1 := hk.below hb1
 refine xb 10 2 hk'1 ?_
 exact xe 4 (.pointer (some ⟨b, 0, none⟩)) ⟨rfl, hb1⟩
/-- New, whatever the first block -/
def NewP (b : Nat) (K : Nat) (f : Int) (w : World) (e : Ending) (w' : World) : Prop :=
  (¬ (1 ≤ f ∧ f ≤ (K : Int)) ∧ e = .returned (.tuple #[.pointer none, .iface 46 (.int .i64 1)]) ∧ Below w.heap.size w w') ∨
  ((1 ≤ f ∧ f ≤ (K : Int)) ∧ ∃ ba pa ca, e = .returned (.tuple #[.pointer (some ⟨ba, 0, none⟩), .nilIface]) ∧ Below w.heap.size w w' ∧ AlG w.heap.size ba b pa (K - f.toNat) ca 0 (rngJ f.toNat (K - f.toNat)) w')
theorem alloc_NewP (b : Nat) (p0 : Option Addr) (n c K : Nat) (f : Int) (w : World) (hk : Blk w b [.slice p0 n c] 71) (hn : n ≤ 3686400) (hK : n = K * 256) :
    Calls Tryz.prog 12 #[.pointer (some ⟨b, 0, none⟩), .int .i64 f] w (NewP b K f w) := by
  have e : n / 256 = K := by omega
  by_cases hf : 1 ≤ f ∧ f ≤ (K : Int)
  · refine (alloc_NewN b p0 n c f.toNat (K - f.toNat) f (by omega) (by rw [e]) w hk hn (by omega) (by omega)).mono ?_
    rintro q W ⟨_, rfl, hb, ba, pa, ca, rfl, h1, h2, h3⟩
    exact .inr ⟨hf, ba, pa, ca, rfl, hb, h2, h3, rngJ_len _ _, h1, by omega, Nat.zero_le _⟩
  · refine (alloc_New_bad b p0 n c f w hk (by omega) (by rw [e]; exact hf)).mono ?_
    rintro q W ⟨rfl, hb⟩
    exact .inl ⟨hf, rfl, hb⟩
end Go.Proofs.YtbhjgcokpmiopaaGreat
namespace Go.Proofs.YtbhjgcokpmiopaaGreat
open Go.RowKit Go.Extern.Stop Go.Stop Go.Extern
set_option linter.unusedVariables false
attribute [local irreducible] wpList wpAnyH Code.wp Oper.wp Go

theorem free_sl {w : World} {pg : Option Addr} {N cg : Nat} {fa : Option Addr} {m fc k : Nat} {L : List Int} (h : Sl w (.slice pg N cg) N (L.map (Value.int .i64))) (hf : 0 < m → fa = cutA pg k cg 1 ∧ fc = cg - k) (hm : m + k = N) (hL : L.length = N) : Sl w (.slice fa m fc) m ((L.drop k).map (Value.int .i64)) := by
  rcases Nat.eq_zero_or_pos m with rfl | hp
  · rw [List.drop_eq_nil_of_le (by omega)]; exact .inl ⟨fa, fc, rfl, rfl, rfl⟩
  · obtain ⟨rfl, rfl⟩ := hf hp
    have := sl_cut h (by simpa using hL) k (by omega)
    rw [show N - k = m by omega, ← List.map_drop] at this
    exact this
theorem free_elem {w : World} {fa : Option Addr} {m fc k : Nat} {L : List Int} (h : Sl w (.slice fa m fc) m ((L.drop k).map (Value.int .i64))) (hL : L.length = m + k) {i : Nat} (hi : i < m) : fa.isSome = true ∧ w.cell? (elemAddr fa (i * 1)) = some (.int .i64 (L.getD (k + i) 0)) := by
  have := IntsN.elem h (by simp; omega) hi
  rwa [show (L.drop k).getD i 0 = L.getD (k + i) 0 by simp [List.getD, List.getElem?_drop]] at this
theorem cutA_zero (g c : Nat) : cutA (some ⟨g, 0, none⟩) 0 c 1 = some ⟨g, 0, none⟩ := by
  unfold cutA; split
  · rfl
  · simp [Addr.add]
theorem cutA_step {w : World} {B N cg k : Nat} {pg : Option Addr} {xs : List Value} {e size : Nat} (h : w.ownsRow B e size (.slice pg N cg) N xs) (hk : k + 1 < N) : cutA (cutA pg k cg 1) 1 (cg - k) 1 = cutA pg (k + 1) cg 1 ∧ cg - k - 1 = cg - (k + 1) := by
  have hc := own_cap h (by omega)
  obtain ⟨g, rfl, _⟩ := own_someN h (by omega)
  refine ⟨?_, by omega⟩
  unfold cutA
  rw [if_neg (by omega), if_neg (by omega), if_neg (by omega)]
  by_cases h0 : k = 0
  · subst h0; simp [Addr.add]
  · simp [Addr.add, h0]
end Go.Proofs.YtbhjgcokpmiopaaGreat
namespace Go.Proofs.YtbhjgcokpmiopaaGreat
open Go.RowKit Go.Extern.Stop Go.Stop Go.Extern
set_option linter.unusedVariables false
attribute [local irreducible] wpList wpAnyH Code.wp Oper.wp Go

/-- the levels from one on -/
def treeL (t : Int) (leaf : Bool) (m v : Nat) (l : List Ent) (q : Nat) (bs : List UInt8) : Int × List UInt8 := treeUp t (upE l m q (ovN l.length m)) (q + ovN l.length m) (levB t leaf m v l q bs (ovN l.length m))
theorem from_lt {n m i : Nat} (hm : 1 ≤ m) (h : i * m < n ∨ i = 0) : i < ovN n m := by
  have hp := ovN_pos n m
  rcases h with h | h
  · unfold ovN
    have : i < (n + m - 1) / m := by
      rw [Nat.lt_div_iff_mul_lt (by omega)]; omega
    omega
  · omega
theorem from_end {n m i : Nat} (hm : 1 ≤ m) (hi : i ≤ ovN n m) (h : ¬ i * m < n) (h0 : i * m ≠ 0) : i = ovN n m := by
  rcases Nat.lt_or_ge i (ovN n m) with q | q
  · rcases Nat.eq_zero_or_pos n with hn | hn
    · subst hn
      rw [ovN_small hm (Nat.zero_le _)] at q
      obtain rfl : i = 0 := by omega
      simp at h0
    · exact absurd (siz_lt hm hn q) h
  · omega
theorem up_at {w : World} {p : Option Addr} {i c m q : Nat} {u : List Ent} (h : Sl w (.slice p i c) i ((upE u m q i).flatMap entC)) (hi : 0 < i) : p.isSome = true ∧ w.cell? ((elemAddr p (0 * 3)).add 2) = some (.int .i64 (upX u m q 0).2.2) := by
  have h2 : Sts entC w (.slice p (upE u m q i).length c) (upE u m q i) := by unfold Sts; rw [upE_len]; exact h
  have := Sts.cell h2 entC_len entD (k := 0) (i := 2) (by rw [upE_len]; exact hi) rfl
  rw [upE_get hi] at this
  exact this
end Go.Proofs.YtbhjgcokpmiopaaGreat
namespace Go.Proofs.YtbhjgcokpmiopaaGreat
open Go.RowKit Go.Extern.Stop Go.Stop Go.Extern
set_option linter.unusedVariables false
attribute [local irreducible] wpList wpAnyH Code.wp Oper.wp Go

/-- slots of blocks of counts -/
def rsV (L : List (List Int)) (q i : Nat) : List Value := [.int .i64 ((q + i : Nat) : Int), .int .i64 (freeN (L.getD i []) : Int), .int .i64 (firstN (L.getD i []) : Int)]
def rsL (L : List (List Int)) (q n : Nat) : List Value := (List.range n).flatMap (rsV L q)
theorem rsL_succ (L : List (List Int)) (q n : Nat) : rsL L q (n + 1) = rsL L q n ++ rsV L q n := by simp [rsL, List.range_succ]
end Go.Proofs.YtbhjgcokpmiopaaGreat
namespace Go.Proofs.YtbhjgcokpmiopaaGreat
open Go.RowKit
set_option linter.unusedVariables false
theorem rows_in {n : Nat} {P : Program} {row : String} {args : Array Value} {w : World} {R : Value → World → Prop} (h : Rows P row args w R) : RowsIn Fence.wide n P row args w R :=
  fun c cs _ => let ⟨v, w', r, q⟩ := h c cs; ⟨v, w', r, stepsIn_wide.2 q⟩
theorem oper_in {P : Program} {l n : Nat} {o : Oper} {a : Act} {w : World} {K : Act → World → Prop} {Q : Exit → Act → World → Prop} (hd : ∀ c, o.op ≠ .defer c) (h : o.wp P a w K Q) : o.wpIn (Fence.wide.inRound l) n P a w K Q := by
  unfold Oper.wpIn
  refine ⟨fun f _ => trivial, ?_⟩
  rw [Oper.semAt_plain _ _ _ hd]
  unfold Oper.wp at h
  generalize (execOp a.eval o).run P w = r at *
  cases r with
  | ok nx w' =>
    cases nx with
    | value v => exact h
    | skip => exact h
    | defer d => exact h
    | enter f args => exact ⟨(fun q => by cases q), callsIn_wide.2 h⟩
    | row r args => exact ⟨(fun q => by cases q), rows_in h⟩
    | _ => exact h.elim
  | halt hh w' =>
    cases hh with
    | panic v => exact h
    | _ => exact h.elim
theorem op_in {P : Program} {l n i : Nat} {ops : Array Oper} {a : Act} {w : World} {K K' : Act → World → Prop} {Q : Exit → Act → World → Prop} (hQ : ¬ LetsOut Q) (hd : ∀ o ∈ ops.toList, ∀ c, o.op ≠ .defer c) (hK : ∀ a w, K a w → K' a w) (h : wpOp P ops Q i K a w) : wpOpIn (Fence.wide.inRound l) n P ops Q i K' a w := by
  unfold wpOp at h
  unfold wpOpIn
  cases ho : ops[i]? with
  | none => rw [ho] at h; exact hK _ _ h
  | some o =>
    rw [ho] at h
    dsimp only at h ⊢
    split at h
    · rename_i hw
      rw [if_pos hw]
      have ho' : o ∈ ops.toList := by
        obtain ⟨hi, e⟩ := Array.getElem?_eq_some_iff.1 ho
        rw [← e]; exact Array.mem_toList_iff.2 (Array.getElem_mem hi)
      exact Oper.wpIn_mono hK (oper_in (hd o ho') (h.resolve_right fun q => hQ q.2))
    · rename_i hw
      rw [if_neg hw]
      exact ⟨fun f _ => trivial, hK _ _ h⟩
theorem any_in {P : Program} {l n : Nat} {md : Region.Mode} {ops : Array Oper} {Q : Exit → Act → World → Prop} (hQ : ¬ LetsOut Q) (hd : ∀ o ∈ ops.toList, ∀ c, o.op ≠ .defer c) : ∀ (fuel : Nat) (L : Array Bool) (a : Act) (w : World), wpAny P md ops Q fuel L a w → wpAnyIn (Fence.wide.inRound l) n P md ops Q fuel L a w
  | 0, _, _, _, h => h
  | fuel + 1, L, a, w, h => ⟨h.1, fun i hi => op_in hQ hd (fun a w => any_in hQ hd fuel _ a w) (h.2 i hi)⟩
/-- the region, by the walk of any place -/
theorem h_regIn {P : Program} {l0 n0 id : Nat} {l : List Oper} {Q : Exit → Act → World → Prop} {a : Act} {w : World} (S : World → Prop) (n : Nat) (hn : l.toArray.size = n) (L : Array Bool) (hL : Array.replicate n false = L) (hm : P.follows .mixedOrders = true) (hQ : ¬ LetsOut Q) (hd : ∀ o ∈ l, ∀ c, o.op ≠ .defer c) (hS : S w.drew) (h : S w.drew → wpAnyH P .any l.toArray Q S n L a w.drew) : (Code.region id l.toArray true).wpIn (Fence.wide.inRound l0) n0 P Q a w :=
  wpIn_region_any hm (any_in hQ (by simpa using hd) _ _ _ _ (wpAny_of_held _ _ _ _ (by rw [hn, hL]; exact h hS)))
end Go.Proofs.YtbhjgcokpmiopaaGreat
namespace Go.Proofs.YtbhjgcokpmiopaaGreat
open Go.RowKit
set_option linter.unusedVariables false

def hasB (lo hi k : Int) : Bool := decide (lo ≤ k ∧ k < hi)
def rightB (lo hi : Int) : Bool := decide (0 ≤ lo ∧ lo ≤ hi ∧ hi ≤ 281474976710656)
def SortP (l : List Int) : Prop := ∀ k, k < l.length → 1 ≤ k → l[k-1]?.getD 0 < l[k]?.getD 0
instance (l : List Int) : Decidable (SortP l) := by unfold SortP; infer_instance
def fitsI (lo hi : Int) (l : List Int) : Int :=
  if rightB lo hi then if SortP l then if ∀ k ∈ l, lo ≤ k ∧ k < hi then 0 else 9 else 8 else 1
@[go_sem] def spanV (lo hi : Int) : Value := .agg #[.int .i64 lo, .int .i64 hi]

theorem SortP.lt {l : List Int} (h : SortP l) : ∀ (j i : Nat), i < j → j < l.length → l[i]?.getD 0 < l[j]?.getD 0 := by
  intro j
  induction j with
  | zero => intro i h1; omega
  | succ j ih =>
    intro i h1 h2
    have h3 := h (j + 1) h2 (by omega)
    simp only [Nat.add_sub_cancel] at h3
    by_cases hij : i = j
    · subst hij; exact h3
    · exact Int.lt_trans (ih i (by omega) (by omega)) h3
theorem SortP.one (l : List Int) : SortP (l.take 1) := by
  intro k h1 h2; simp at h1; omega
theorem SortP.succ {l : List Int} {k : Nat} {x y : Int} (h : SortP (l.take k)) (hx : l[k-1]? = some x) (hy : l[k]? = some y) (hxy : x < y) : SortP (l.take (k + 1)) := by
  intro j h1 h2
  have hjk : j < k + 1 := by simp at h1; omega
  rw [List.getElem?_take, List.getElem?_take, if_pos (by omega), if_pos hjk]
  by_cases hj : j = k
  · subst hj; rw [hx, hy]; exact hxy
  · have := h j (by simp at h1 ⊢; omega) h2
    rw [List.getElem?_take, List.getElem?_take, if_pos (by omega), if_pos (by omega)] at this
    exact this
theorem fits_right {lo hi : Int} {l : List Int} (h : rightB lo hi = false) : fitsI lo hi l = 1 := by simp [fitsI, h]
theorem fits_order {lo hi : Int} {l : List Int} {k : Nat} {x y : Int} (h : rightB lo hi = true) (hk : 1 ≤ k) (hx : l[k-1]? = some x) (hy : l[k]? = some y) (hxy : y ≤ x) : fitsI lo hi l = 8 := by
  have hn : ¬ SortP l := fun hs => by
    have hlt : k < l.length := by rcases List.getElem?_eq_some_iff.1 hy with ⟨h, _⟩; exact h
    have := hs k hlt hk
    rw [hx, hy] at this
    simp at this; omega
  simp [fitsI, h, hn]
theorem fits_nil {lo hi : Int} (h : rightB lo hi = true) : fitsI lo hi [] = 0 := by
  have hs : SortP [] := fun k h1 => by simp at h1
  simp [fitsI, h, hs]
theorem SortP.all {l : List Int} {k : Nat} (h : SortP (l.take k)) (hk : l.length ≤ k) : SortP l := by rwa [List.take_of_length_le hk] at h
theorem hasB_iff {lo hi k : Int} : hasB lo hi k = true ↔ lo ≤ k ∧ k < hi := by simp [hasB]
theorem fits_in {lo hi : Int} {l : List Int} {x y : Int} (h : rightB lo hi = true) (hs : SortP l) (hx : l[0]? = some x) (hy : l[l.length - 1]? = some y) (ha : hasB lo hi x = true) (hb : hasB lo hi y = true) : fitsI lo hi l = 0 := by
  have hall : ∀ k ∈ l, lo ≤ k ∧ k < hi := by
    intro k hk
    obtain ⟨i, hi', rfl⟩ := List.mem_iff_getElem.1 hk
    rw [hasB_iff] at ha hb
    have e : l[i]? = some l[i] := by simp
    have h1 : x ≤ l[i] := by
      by_cases h0 : i = 0
      · subst h0; rw [hx] at e; injection e with e; omega
      · have := hs.lt i 0 (by omega) hi'
        rw [hx, e] at this; simp at this; omega
    have h2 : l[i] ≤ y := by
      by_cases h0 : i = l.length - 1
      · subst h0; rw [hy] at e; injection e with e; omega
      · have := hs.lt (l.length - 1) i (by omega) (by omega)
        rw [hy, e] at this; simp at this; omega
    omega
  simp only [fitsI, h, if_true, hs]
  rw [if_pos hall]
theorem fits_out {lo hi : Int} {l : List Int} {i : Nat} {x : Int} (h : rightB lo hi = true) (hs : SortP l) (hx : l[i]? = some x) (ha : hasB lo hi x = false) : fitsI lo hi l = 9 := by
  have hn : ¬ ∀ k ∈ l, lo ≤ k ∧ k < hi := fun hall => by
    have := hasB_iff.2 (hall x (List.mem_of_getElem? hx))
    rw [ha] at this; cases this
  simp only [fitsI, h, if_true, hs]
  rw [if_neg hn]

end Go.Proofs.YtbhjgcokpmiopaaGreat
namespace Go.Proofs.YtbhjgcokpmiopaaGreat
open Go.RowKit
set_option linter.unusedVariables false
attribute [local go_sem] Oper.semAt_some

/-- the children's spans -/
def partAt (hi : Int) (l : List Int) (i : Nat) : Int × Int := (l[i]?.getD 0, l[i+1]?.getD hi)
/-- what comes as number j: the child's number -/
def qOf {n : Nat} (j : Fin n) : Nat := n - 1 - j.val
def encE (hi : Int) (l : List Int) (j : Fin l.length) : Array Value := #[.int .i64 (qOf j : Int), spanV (partAt hi l (qOf j)).1 (partAt hi l (qOf j)).2]
theorem fin_take_succ {n k : Nat} (h : k < n) : (List.finRange n).take (k + 1) = (List.finRange n).take k ++ [⟨k, h⟩] := by
  rw [List.take_succ_eq_append_getElem (by simpa using h)]; simp
theorem fin_take_all (n : Nat) : (List.finRange n).take n = List.finRange n := List.take_of_length_le (by simp)
theorem fin_take_length {n k : Nat} (h : k ≤ n) : ((List.finRange n).take k).length = k := by simp [h]

end Go.Proofs.YtbhjgcokpmiopaaGreat
namespace Go.Proofs.YtbhjgcokpmiopaaGreat
open Go.RowKit
set_option linter.unusedVariables false
attribute [local go_sem] Oper.semAt_some
def encK (b off n : Nat) (j : Fin (bmN n)) : Array Value := #[.slice (some ⟨b, off + j.val * 960, none⟩) (min 960 (n - j.val * 960)) (min 960 (n - j.val * 960))]
set_option maxRecDepth 100000 in
set_option maxHeartbeats 2000000 in
theorem chunk1_in (l B1 B2 : Nat) (p : Nat → Prop) (b off n cap : Nat) (hlen : n ≤ 1000000) (hcap : n ≤ cap) (hB1 : p B1) (hB2 : p B2) (J Jx : List (Fin (bmN n)) → World → Prop)
    (hY : ∀ pre x W, J pre W → pre.length < bmN n → YieldAt Fence.wide 2 Tryz.prog l (encK b off n x) W fun e W' =>
      (e = .returned (.bool true) ∧ J (pre ++ [x]) W' ∧ Keeps p W W') ∨ (e = .returned (.bool false) ∧ Jx (pre ++ [x]) W'))
    (W : World) (hck : W.cell? ⟨B1, 0, none⟩ = some (.slice (some ⟨b, off, none⟩) n cap)) (hcn : W.cell? ⟨B2, 0, none⟩ = some (.int .i64 960)) (hJa : AbidesFrom W.heap.size J) (h0 : J [] W) :
    CallsIn Fence.wide 3 Tryz.prog 56 #[.func (.yield l) #[] #[], .pointer (some ⟨B1, 0, none⟩), .pointer (some ⟨B2, 0, none⟩)] W fun e W' => (∃ v, e = .returned v) ∧
      ((∃ ys, ys = List.finRange (bmN n) ∧ J ys W') ∨ (∃ pre, (∃ k, k ≤ bmN n ∧ pre = (List.finRange (bmN n)).take k) ∧ Jx pre W')) := by
  refine callsIn_of_wp Tryz.func56 rfl trivial ?_ rfl
  simp only [Tryz.ntmps56, List.size_toArray, List.length_cons, List.length_nil, Nat.reduceAdd, Nat.reduceSub, Array.replicate_succ, Array.replicate_zero, List.push_toArray, List.append_toArray, List.nil_append, List.cons_append]
  gi_wp2
  gi_loopw [4] (fun i wr => ∃ k : Nat, k ≤ bmN n ∧ i = .int .i64 ((k * 960 : Nat) : Int) ∧ J ((List.finRange (bmN n)).take k) wr ∧ Keeps p W wr)
    (fun i _ => (n - (intOf i)).toNat)
  case atStart => exact ⟨0, Nat.zero_le _, by simp, h0, Keeps.refl _ _⟩
  case round =>
    obtain ⟨k, hk, rfl, hJs, hnx⟩ := hrel
    have hck' := (hnx.cell (a := ⟨B1, 0, none⟩) hB1).trans hck
    have hcn' := (hnx.cell (a := ⟨B2, 0, none⟩) hB2).trans hcn
    by_cases hlt : k < bmN n
    · have hkn := bmN_lt hlt
      gi_wp2
      gi_big_quiet_th (fail)
      obtain ⟨fn, tmps, assign, body, hy, hR⟩ := hY _ ⟨k, hlt⟩ (wr.drewN nq) (hJa _ wr _ none hJs ⟨rfl, rfl, rfl, Nat.le_refl _, fun _ _ _ => rfl⟩ (fun _ e => by cases e)) (by rw [fin_take_length hk]; exact hlt)
      have hE : encK b off n ⟨k, hlt⟩ = #[.slice (some ⟨b, off + k * 960, none⟩) (min 960 (n - k * 960)) (min 960 (n - k * 960))] := rfl
      rw [hE] at hy
      have HE := Lib.hid hE; clear hE
      rw [show (if ((n - k * 960 : Nat) : Int) < 960 then ((n - k * 960 : Nat) : Int) else 960) = ((min 960 (n - k * 960) : Nat) : Int) from by split <;> omega]
      obtain ⟨m, hm⟩ : ∃ m, min 960 (n - k * 960) = m := ⟨_, rfl⟩
      rw [hm] at hy ⊢
      have hm1 : k * 960 + m ≤ n := by omega
      have hm2 : k * 960 + m ≤ cap := by omega
      have hm3 : k * 960 + m - k * 960 = m := by omega
      gi_wp2
      refine hR.mono ?_
      rintro e W3 (⟨rfl, hJ3, hk3⟩ | ⟨rfl, hJx3⟩)
      · have hcn3 : W3.cell? ⟨B2, 0, none⟩ = some (.int .i64 960) := (hk3.cell (a := ⟨B2, 0, none⟩) hB2).trans hcn'
        gi_wp2
        go_roundw
        case rel =>
          refine ⟨k + 1, by omega, ?_, by rw [fin_take_succ hlt]; exact hJ3, (hnx.trans (show Keeps p wr (wr.drewN nq) from ⟨Nat.le_refl _, fun _ _ => rfl⟩)).trans hk3⟩
          exact congrArg (Value.int .i64) (by omega)
        case measure => simp only [intOf]; omega
      · gi_wp2
        refine bodyPost_ret (results_none rfl _ _ _) rfl ?_
        exact ⟨⟨_, rfl⟩, .inr ⟨_, ⟨k + 1, by omega, by rw [fin_take_succ hlt]⟩, hJx3⟩⟩
    · obtain rfl : k = bmN n := by omega
      have hdn := bmN_done (n := n) rfl
      have hdi : ¬ (((bmN n * 960 : Nat) : Int) < (n : Int)) := by omega
      rw [fin_take_all] at hJs
      have HJ := Lib.hid hJs; clear hJs
      gi_wp2
      go_end0
      exact ⟨⟨_, rfl⟩, .inl HJ.out⟩
set_option maxRecDepth 100000 in
set_option maxHeartbeats 1000000 in
theorem chunk1_nil_in {α : Type} (l B1 B2 : Nat) (J : List α → World → Prop) (W : World) {a0 : Option Addr} {c0 : Nat} (hck : W.cell? ⟨B1, 0, none⟩ = some (.slice a0 0 c0)) (h0 : J [] W) :
    CallsIn Fence.wide 3 Tryz.prog 56 #[.func (.yield l) #[] #[], .pointer (some ⟨B1, 0, none⟩), .pointer (some ⟨B2, 0, none⟩)] W fun e W' => (∃ v, e = .returned v) ∧ J [] W' := by
  refine callsIn_of_wp Tryz.func56 rfl trivial ?_ rfl
  simp only [Tryz.ntmps56, List.size_toArray, List.length_cons, List.length_nil, Nat.reduceAdd, Nat.reduceSub, Array.replicate_succ, Array.replicate_zero, List.push_toArray, List.append_toArray, List.nil_append, List.cons_append]
  gi_wp2
  gi_loopw [4] (fun i wr => i = .int .i64 0 ∧ J [] wr ∧ wr.cell? ⟨B1, 0, none⟩ = some (.slice a0 0 c0)) (fun _ _ => 0)
  case atStart => exact ⟨rfl, h0, hck⟩
  case round =>
    obtain ⟨rfl, hJs, hcr⟩ := hrel
    have HJ := Lib.hid hJs; clear hJs
    gi_wp2
    go_end0
    exact ⟨⟨_, rfl⟩, HJ.out⟩
theorem chunk_stops (B1 B2 : Nat) (p : Nat → Prop) (b off n cap : Nat) (v : Value) (w : World) (hp : ∀ b, p b → b < w.heap.size) (h1 : p B1) (h2 : p B2) (hlen : n ≤ 1000000) (hv : (n = 0 ∧ ∃ a c, v = .slice a 0 c) ∨ v = .slice (some ⟨b, off, none⟩) n cap ∧ n ≤ cap) (hck : w.cell? ⟨B1, 0, none⟩ = some v) (hcn : w.cell? ⟨B2, 0, none⟩ = some (.int .i64 960)) :
    SeqStopsK Fence.wide 3 Tryz.prog 56 #[.pointer (some ⟨B1, 0, none⟩), .pointer (some ⟨B2, 0, none⟩)] (encK b off n) (Keeps p)
      (fun ys => ys = List.finRange (bmN n)) (fun pre => ∃ k, k ≤ bmN n ∧ pre = (List.finRange (bmN n)).take k) (bmN n) w := fun l J Jx W hW hJa _ hY h0 => by
  have hck' := getC hW hck
  have hcn' := getC hW hcn
  rcases hv with ⟨rfl, a, c, rfl⟩ | ⟨rfl, hcap⟩
  · exact (chunk1_nil_in l B1 B2 J W hck' h0).mono fun e W' ⟨he, hj⟩ => ⟨he, .inl ⟨_, rfl, hj⟩⟩
  · exact chunk1_in l B1 B2 p b off n cap hlen hcap h1 h2 J Jx hY W hck' hcn' hJa h0
end Go.Proofs.YtbhjgcokpmiopaaGreat
namespace Go.Proofs.YtbhjgcokpmiopaaGreat
open Go.RowKit Go.Extern.Stop Go.Stop Go.Extern
set_option linter.unusedVariables false
attribute [local irreducible] wpList wpAnyH Code.wp Oper.wp Go

set_option maxRecDepth 100000 in
set_option maxHeartbeats 1000000 in
theorem slices_Chunk (p : Option Addr) (n c : Nat) (w : World) :
    Calls Tryz.prog 33 #[.slice p n c, .int .i64 960] w (fun e w' => ∃ b1 b2, e = .returned (.func (.func 56) #[] #[.pointer (some ⟨b1, 0, none⟩), .pointer (some ⟨b2, 0, none⟩)]) ∧ Below w.heap.size w w' ∧ w.heap.size ≤ b1 ∧ w.heap.size ≤ b2 ∧ b1 ≠ b2 ∧ Blk w' b1 [.slice p n c] 24 ∧ Blk w' b2 [.int .i64 960] 3) := by
 refine zin 9 Tryz.func33 ?_
 refine xa 2 [.slice p n c] 24 fun b1 W1 n1 => ?_
 refine xa 0 [.int .i64 960] 3 fun b2 W2 n2 => ?_
 refine xb 6 0 n2.blk ?_
 have k1 := n1.blk.below n2.below
 have hB := Bl.next n1.below n2.below
 have g1 := n1.ge (Below.refl w.heap.size _)
 have g2 := n2.ge n1.below
 exact xe 13 (.func (.func 56) #[] #[.pointer (some ⟨b1, 0, none⟩), .pointer (some ⟨b2, 0, none⟩)]) ⟨_, _, rfl, hB, g1, g2, (Blk.tne k1 n2.blk (by decide)), k1, n2.blk⟩
end Go.Proofs.YtbhjgcokpmiopaaGreat
namespace Go.Proofs.YtbhjgcokpmiopaaGreat
open Go.RowKit
set_option linter.unusedVariables false
attribute [local go_sem] Oper.semAt_some
def encB (l : List Int) (j : Fin l.length) : Array Value := #[.int .i64 (qOf j : Int), .int .i64 (l[qOf j]?.getD 0)]
end Go.Proofs.YtbhjgcokpmiopaaGreat
namespace Go.Proofs.YtbhjgcokpmiopaaGreat
open Go.RowKit Go.Extern.Stop Go.Stop Go.Extern
set_option linter.unusedVariables false
attribute [local irreducible] wpList wpAnyH Code.wp Oper.wp Go

end Go.Proofs.YtbhjgcokpmiopaaGreat
namespace Go.Proofs.YtbhjgcokpmiopaaGreat
open Go.RowKit Go.Extern.Stop Go.Stop Go.Extern
set_option linter.unusedVariables false
attribute [local irreducible] wpList wpAnyH Code.wp Oper.wp Go

attribute [local go_sem] Oper.semAt_some
theorem Upd.of_put (w : World) (D : Nat) (o : Obj) : Upd w D (w.putObj D o) := ⟨rfl, rfl, rfl, by simp [World.putObj], fun k hk => World.putObj_heap_other hk⟩
/-- a record of deferred calls at block D -/
def Dfr (D : Nat) (w : World) : Prop := w.heap[D]? = some (.deferred (some []))
theorem Dfr.below {D : Nat} {w W : World} (h : Dfr D w) (hb : Below w.heap.size w W) : Dfr D W := (hb.block D (Array.getElem?_eq_some_iff.1 h).1).trans h
theorem Dfr.ne {D b : Nat} {w : World} {cs : List Value} {t : TypeId} (h : Dfr D w) (k : Blk w b cs t) : b ≠ D := by
  rintro rfl
  have h' : w.heap[b]? = _ := h
  rw [show w.heap[b]? = _ from k] at h'
  cases h'
theorem Dfr.upd {D b : Nat} {w W : World} {cs : List Value} {t : TypeId} (h : Dfr D w) (u : Upd w b W) (k : Blk w b cs t) : Dfr D W := (u.block D fun e => h.ne k e.symm).trans h
theorem Dfr.row {D : Nat} {w : World} {base e size n : Nat} {v : Value} {xs : List Value} (h : Dfr D w) (k : w.ownsRow base e size v n xs) : ∀ g, v.ownBlock = some g → g ≠ D := by
  rintro g hg rfl
  rcases k.2 with ⟨rfl, _⟩ | ⟨g', cap, cur, rfl, _, hh, _⟩
  · cases hg
  · simp only [Value.ownBlock, Option.some.injEq] at hg
    subst hg
    rw [show w.heap[g']? = _ from h] at hh
    cases hh
theorem Dfr.grown {D : Nat} {w W : World} {base e size n : Nat} {v : Value} {xs : List Value} (h : Dfr D w) (hg : w.grownBy W v.ownBlock) (k : w.ownsRow base e size v n xs) : Dfr D W :=
  (hg.block D (Array.getElem?_eq_some_iff.1 h).1 fun q => h.row k D q.symm rfl).trans h
theorem g_endM {P : Program} {fn : Func} {R : Ending → World → Prop} {a : Act} {w : World} {D : Nat} (hK : Dfr D w) (v : Value) (hd : a.defers = [{ target := .collected D, args := #[] }]) (hr : (results fn a.tmps).run P (w.putObj D (.deferred none)) = .ok v (w.putObj D (.deferred none))) (h : R (.returned v) (w.putObj D (.deferred none))) : bodyPostM Fence.wide 4 P fn R .normal a w :=
  by
  show LeavesInM _ _ _ _ a.tmps R a.defers .returning w
  rw [hd]
  exact ⟨by simp, .inl ⟨_, _, rfl, run_takeDeferred hK, _, hr, h⟩⟩
def noPan (Q : Exit → Act → World → Prop) : Exit → Act → World → Prop
  | .normal, a, w => Q .normal a w
  | .ret, a, w => Q .ret a w
  | _, _, _ => False
theorem g_nopan {P : Program} {c : Code} {Q : Exit → Act → World → Prop} {a : Act} {w : World} (h : c.wp P (noPan Q) a w) : c.wp P Q a w := wp_mono h fun e a w q => by cases e <;> first | exact q | exact q.elim
theorem own_ty_ne {w : World} {base size n b : Nat} {e t : TypeId} {v : Value} {xs cs : List Value} (k : w.ownsRow base e size v n xs) (q : Blk w b cs t) (hne : e ≠ t) : ∀ g, v.ownBlock = some g → g ≠ b := by
  rintro g hg rfl
  rcases k.2 with ⟨rfl, _⟩ | ⟨g', cap, cur, rfl, _, hh, _⟩
  · cases hg
  · simp only [Value.ownBlock, Option.some.injEq] at hg
    subst hg
    rw [show w.heap[g']? = _ from q] at hh
    simp only [Option.some.injEq, Obj.cells.injEq] at hh
    exact hne hh.2.1.symm
theorem keepsO_below {w W : World} (h : Below w.heap.size w W) : KeepsOthers w W := ⟨h.size, fun b o hb _ => (h.block b (Array.getElem?_eq_some_iff.1 hb).1).trans hb⟩
theorem keepsO_upd {w W : World} {b : Nat} {cs : List Value} {t : TypeId} (u : Upd w b W) (k : Blk w b cs t) : KeepsOthers w W := ⟨Nat.le_of_eq u.size.symm, fun d o hd ho => (u.block d (by rintro rfl; rw [show w.heap[d]? = _ from k] at hd; cases hd; cases ho)).trans hd⟩
theorem Dfr.only_new {T : List TypeId} {a w W : World} {b : Nat} (h : Only T a w) (hbb : BelowBut w b W) (hb : a.heap.size ≤ b) : Only T a W := fun k cs t fr hk ht => by
  have h0 := (Array.getElem?_eq_some_iff.1 hk).1
  have h1 := h k cs t fr hk ht
  rw [hbb.block k (Array.getElem?_eq_some_iff.1 h1).1 (by omega)]; exact h1
theorem BelowBut.own3 {w W : World} {b base size n : Nat} {e : TypeId} {v : Value} {xs : List Value} (h : BelowBut w b W) (k : w.ownsRow base e size v n xs) (hs : ∀ j, v.ownBlock = some j → j ≠ b) : W.ownsRow base e size v n xs := by
  obtain ⟨h1, h2⟩ := k
  refine ⟨h1, ?_⟩
  rcases h2 with h2 | ⟨g, cap, cur, rfl, hg, hh, r⟩
  · exact Or.inl h2
  · exact Or.inr ⟨g, cap, cur, rfl, hg, by rw [h.block g (Array.getElem?_eq_some_iff.1 hh).1 (hs g rfl)]; exact hh, r⟩
theorem ownFrom_but {β : Type} {w : World} {b B : Nat} (hB : w.heap.size ≤ B) : OwnFrom B (fun (_ : β) W => BelowBut w b W) := fun _ W W' row hs hg hr =>
  ⟨hg.os.trans hs.os, hg.tape.trans hs.tape, hg.output.trans hs.output, Nat.le_trans hs.size hg.size, fun k hk hne => (hg.block k (Nat.lt_of_lt_of_le hk hs.size) (fun e => by have := (hr k e.symm).1; omega)).trans (hs.block k hk hne)⟩
theorem ErrV.turn {A B : World} {row : Option Nat} {l : List (Option Int)} {c : Option Int} {v : Value} (h : ErrV A l c v) (hg : A.grownBy B row) (hr : ∀ r, row = some r → ∃ o : Obj, A.heap[r]? = some o ∧ o.isCells = false) : ErrV B l c v := h.kept fun _ _ k => k.turn hg hr
/-- the blocks of the way, seen from below -/
def atW (way : List Int) (pre : List (Fin way.length)) (bs : List Int) : List Int := (pre.map fun j => way[qOf j]?.getD 0).reverse ++ bs
theorem atW_snoc (way : List Int) (pre : List (Fin way.length)) (x : Fin way.length) (bs : List Int) : atW way (pre ++ [x]) bs = (way[qOf x]?.getD 0) :: atW way pre bs := by simp [atW]
theorem atW_all (way bs : List Int) : atW way (List.finRange way.length) bs = way ++ bs := by
  unfold atW
  congr 1
  apply List.ext_getElem
  · simp
  · intro i h1 h2
    simp only [List.length_reverse, List.length_map, List.length_finRange] at h1
    rw [List.getElem_reverse, List.getElem_map]
    simp only [List.length_map, List.length_finRange, List.getElem_finRange, qOf]
    have e : way.length - 1 - (way.length - 1 - i) = i := by omega
    simp [e, h2]
theorem ErrV.one {w : World} {l : List (Option Int)} {c : Option Int} {v : Value} (h : ErrV w l c v) : v.oneCell' = true := by
  rcases h.nil_or with ⟨_, rfl⟩ | ⟨_, t, x, rfl⟩ <;> rfl
theorem ErrV.iface {w : World} {l : List (Option Int)} {c : Int} {v : Value} (h : ErrV w l (some c) v) : ∃ t x, v = .iface t x := by
  rcases h.nil_or with ⟨q, _⟩ | ⟨_, q⟩
  · simp [noErr] at q
  · exact q
theorem atL_some {b c : Int} {l : List (Option Int)} : atL b l (some c) = some b :: l := by simp [atL, noErr]
theorem one_one {v : Value} (h : v.oneCell' = true) : ∀ u ∈ [v], u.oneCell' = true := by simpa using h
end Go.Proofs.YtbhjgcokpmiopaaGreat
namespace Go.Proofs.YtbhjgcokpmiopaaGreat
open Go.RowKit
set_option linter.unusedVariables false
theorem own_turn {A B : World} {row : Option Nat} {base size n : Nat} {e : TypeId} {v : Value} {xs : List Value} (k : A.ownsRow base e size v n xs) (hg : A.grownBy B row) (hr : ∀ r, row = some r → ∃ o : Obj, A.heap[r]? = some o ∧ o.isCells = false) : B.ownsRow base e size v n xs := by
  obtain ⟨h1, h2⟩ := k
  refine ⟨h1, ?_⟩
  rcases h2 with h2 | ⟨g, cap, cur, hv, hb, hh, r⟩
  · exact Or.inl h2
  · refine Or.inr ⟨g, cap, cur, hv, hb, ?_, r⟩
    rw [hg.block g (Array.getElem?_eq_some_iff.1 hh).1 (fun q => by
      obtain ⟨o, ho, hc⟩ := hr g q.symm
      rw [hh] at ho
      cases ho
      cases hc)]
    exact hh
theorem Lists.turn {A B : World} {row : Option Nat} {base : Nat} {v : Value} {gs : List (Nat × Nat)} {L : List (List Int)} (h : Lists A base v gs L) (hg : A.grownBy B row) (hr : ∀ r, row = some r → ∃ o : Obj, A.heap[r]? = some o ∧ o.isCells = false) : Lists B base v gs L := ⟨own_turn h.row hg hr, fun i hi => own_turn (h.each i hi) hg hr⟩
/-- from the world w0 the worlds ahead of a round differ in block b alone; and what the round keeps -/
structure RdZ (w0 : World) (b : Nat) (W V : World) : Prop where
  bb : BelowBut w0 b V
  ko : KeepsOthers W V
  fr : ∀ k, k < w0.heap.size → k ≠ b → V.heap[k]? = W.heap[k]?
  le : W.heap.size ≤ V.heap.size
theorem RdZ.refl {w0 W : World} {b : Nat} (h : BelowBut w0 b W) : RdZ w0 b W W := ⟨h, ⟨Nat.le_refl _, fun _ _ h _ => h⟩, fun _ _ _ => rfl, Nat.le_refl _⟩
theorem RdZ.below {w0 W V U : World} {b : Nat} (h : RdZ w0 b W V) (hb : Below V.heap.size V U) : RdZ w0 b W U :=
  ⟨h.bb.next hb, h.ko.trans (keepsO_below hb), fun k hk hn => (hb.block k (Nat.lt_of_lt_of_le hk h.bb.size)).trans (h.fr k hk hn), Nat.le_trans h.le hb.size⟩
theorem RdZ.upd {w0 W V U : World} {b : Nat} {cs : List Value} {t : TypeId} (h : RdZ w0 b W V) (u : Upd V b U) (k : Blk V b cs t) : RdZ w0 b W U :=
  ⟨h.bb.upd u, h.ko.trans (keepsO_upd u k), fun k hk hn => (u.block k hn).trans (h.fr k hk hn), Nat.le_trans h.le (Nat.le_of_eq u.size.symm)⟩
theorem RdZ.grown {w0 W V U : World} {b size n : Nat} {e : TypeId} {v : Value} {xs : List Value} (h : RdZ w0 b W V) (hg : V.grownBy U v.ownBlock) (k : V.ownsRow w0.heap.size e size v n xs) : RdZ w0 b W U :=
  ⟨⟨hg.os.trans h.bb.os, hg.tape.trans h.bb.tape, hg.output.trans h.bb.output, Nat.le_trans h.bb.size hg.size, fun i hi hn => (hg.block i (Nat.lt_of_lt_of_le hi h.bb.size) (fun e => by have := (k.lt i e.symm).1; omega)).trans (h.bb.block i hi hn)⟩,
   ⟨Nat.le_trans h.ko.size hg.size, fun i o hi ho => by
      have h1 := h.ko.same i o hi ho
      rw [hg.block i (Array.getElem?_eq_some_iff.1 h1).1 (fun q => by
        rcases k.2 with ⟨rfl, _⟩ | ⟨g, cap, cur, rfl, _, hh, _⟩
        · cases q
        · simp only [Value.ownBlock, Option.some.injEq] at q
          subst q
          rw [hh] at h1
          cases h1
          cases ho)]
      exact h1⟩,
   fun i hi hn => (hg.block i (Nat.lt_of_lt_of_le hi h.bb.size) (fun e => by have := (k.lt i e.symm).1; omega)).trans (h.fr i hi hn), Nat.le_trans h.le hg.size⟩
theorem row_or {w : World} {base e n c : Nat} {p : Option Addr} {xs : List Value} (k : w.ownsRow base e 1 (.slice p n c) n xs) : ∃ g, (n = 0 ∧ ∃ a c', Value.slice p n c = .slice a 0 c') ∨ Value.slice p n c = .slice (some ⟨g, 0, none⟩) n c ∧ n ≤ c := by
  rcases k.2 with ⟨h, _⟩ | ⟨g, cap, cur, hv, _, _, hc, _⟩
  · simp only [Value.slice.injEq] at h
    exact ⟨0, .inl ⟨h.2.1, none, 0, by rw [h.1, h.2.1, h.2.2]⟩⟩
  · simp only [Value.slice.injEq] at hv
    obtain ⟨rfl, _, rfl⟩ := hv
    exact ⟨g, .inr ⟨rfl, hc⟩⟩
/-- each row of counts, without the row that holds them -/
def Each (w : World) (base : Nat) (gs : List (Nat × Nat)) (L : List (List Int)) : Prop := ∀ i, i < L.length → w.ownsRow base 3 1 (lstV gs L i) (L.getD i []).length ((L.getD i []).map (Value.int .i64))
theorem Each.below {w W : World} {base : Nat} {gs : List (Nat × Nat)} {L : List (List Int)} (h : Each w base gs L) (hb : Below w.heap.size w W) : Each W base gs L := fun i hi => own_below (h i hi) hb
theorem Each.only {T : List TypeId} {w W : World} {base : Nat} {gs : List (Nat × Nat)} {L : List (List Int)} (h : Each w base gs L) (hO : Only T w W) (hT : T.contains 3 = false) : Each W base gs L := fun i hi => own_only (h i hi) hO hT
theorem lstV_old {gs : List (Nat × Nat)} {L : List (List Int)} {g c i : Nat} {ch : List Int} (hg : gs.length = L.length) (hi : i < L.length) : lstV (gs ++ [(g, c)]) (L ++ [ch]) i = lstV gs L i := by
  unfold lstV
  simp [List.getD, List.getElem?_append_left, hi, hg]
theorem lstV_new {gs : List (Nat × Nat)} {L : List (List Int)} {g c : Nat} {ch : List Int} (hg : gs.length = L.length) : lstV (gs ++ [(g, c)]) (L ++ [ch]) L.length = .slice (some ⟨g, 0, none⟩) ch.length c := by
  unfold lstV
  rw [show (gs ++ [(g, c)]).getD L.length (0, 0) = (g, c) from by rw [← hg]; simp [List.getD], show (L ++ [ch]).getD L.length [] = ch from by simp [List.getD]]
theorem Lists.snoc {w : World} {base g c n : Nat} {v : Value} {gs : List (Nat × Nat)} {L : List (List Int)} {ch : List Int} (hn : n = L.length + 1) (hrow : w.ownsRow base 24 1 v n ((List.range L.length).map (lstV gs L) ++ [.slice (some ⟨g, 0, none⟩) ch.length c])) (he : Each w base gs L) (hnew : w.ownsRow base 3 1 (.slice (some ⟨g, 0, none⟩) ch.length c) ch.length (ch.map (Value.int .i64))) (hg : gs.length = L.length) : Lists w base v (gs ++ [(g, c)]) (L ++ [ch]) := by
  subst hn
  refine ⟨?_, fun i hi => ?_⟩
  · rw [show (L ++ [ch]).length = L.length + 1 from by simp, List.range_succ, List.map_append]
    rw [show (List.range L.length).map (lstV (gs ++ [(g, c)]) (L ++ [ch])) = (List.range L.length).map (lstV gs L) from List.map_congr_left fun i hi => lstV_old hg (List.mem_range.1 hi), List.map_singleton, lstV_new hg]
    exact hrow
  · by_cases h : i < L.length
    · rw [lstV_old hg h, show (L ++ [ch]).getD i [] = L.getD i [] from by simp [List.getD, List.getElem?_append_left, h]]
      exact he i h
    · obtain rfl : i = L.length := by simp at hi; omega
      rw [lstV_new hg, show (L ++ [ch]).getD L.length [] = ch from by simp [List.getD]]
      exact hnew
/-- a piece of a row of counts -/
theorem Sl.midI {w : World} {g n c : Nat} {xs : List Value} (h : Sl w (.slice (some ⟨g, 0, none⟩) n c) n xs) (hl : xs.length = n) (k m : Nat) (hm : 0 < m) (hk : k + m ≤ n) : Sl w (.slice (some ⟨g, 0 + k, none⟩) m m) m ((xs.drop k).take m) := by
  rcases h with ⟨a', c', h1, h2, h3⟩ | ⟨g', off', cap, h1, h2, h3, h4⟩
  · omega
  · simp only [Value.slice.injEq, Option.some.injEq, Addr.mk.injEq] at h1
    obtain ⟨⟨rfl, rfl, _⟩, _, rfl⟩ := h1
    refine .inr ⟨g, 0 + k, m, rfl, Nat.le_refl _, by omega, fun j x hj => ?_⟩
    have hjm : j < m := by
      rcases Nat.lt_or_ge j m with q | q
      · exact q
      · rw [List.getElem?_eq_none (by simp; omega)] at hj; cases hj
    rw [List.getElem?_take_of_lt hjm, List.getElem?_drop] at hj
    have := h4 (k + j) x hj
    rw [show 0 + k + j = 0 + (k + j) from by omega]
    exact this
end Go.Proofs.YtbhjgcokpmiopaaGreat
namespace Go.Proofs.YtbhjgcokpmiopaaGreat
open Go.RowKit Go.Extern.Stop Go.Stop Go.Extern
set_option linter.unusedVariables false
attribute [local irreducible] wpList wpAnyH Code.wp Oper.wp Go

/-- whether x is in l -/
def hasI (l : List Int) (x : Int) : Bool := l.any fun y => decide (x = y)
theorem hasI_true {l : List Int} {x : Int} {i : Nat} (hi : i < l.length) (h : x = l.getD i 0) : hasI l x = true := by
  unfold hasI
  rw [List.any_eq_true]
  exact ⟨l[i], List.getElem_mem _, by rw [decide_eq_true_iff, h]; simp [hi]⟩
theorem hasI_false {l : List Int} {x : Int} (h : ∀ j, j < l.length → x ≠ l.getD j 0) : hasI l x = false := by
  unfold hasI
  rw [List.any_eq_false]
  intro y hy
  obtain ⟨j, hj, rfl⟩ := List.getElem_of_mem hy
  have := h j hj
  simpa [hj] using this
end Go.Proofs.YtbhjgcokpmiopaaGreat
namespace Go.Proofs.YtbhjgcokpmiopaaGreat
open Go.RowKit
set_option linter.unusedVariables false
attribute [local go_sem] Oper.semAt_some

def splitL (hi : Int) (l : List Int) : List (Int × Int) := (List.range l.length).map (partAt hi l)
/-- the child of number i -/
def childI (lo hi : Int) (l : List Int) (i : Int) : (Int × Int) × Int :=
  if fitsI lo hi l = 0 then if 0 ≤ i ∧ i < l.length then (partAt hi l i.toNat, 0) else ((0, 0), 3) else ((0, 0), fitsI lo hi l)

theorem child_bad {lo hi i : Int} {l : List Int} (h : fitsI lo hi l ≠ 0) : childI lo hi l i = ((0, 0), fitsI lo hi l) := by simp [childI, h]
theorem child_out {lo hi i : Int} {l : List Int} (h : fitsI lo hi l = 0) (hi' : ¬ (0 ≤ i ∧ i < l.length)) : childI lo hi l i = ((0, 0), 3) := by simp only [childI, h, if_true]; rw [if_neg hi']
theorem child_in {lo hi : Int} {l : List Int} {i : Nat} (h : fitsI lo hi l = 0) (hi' : i < l.length) : childI lo hi l i = (partAt hi l i, 0) := by
  simp only [childI, h, if_true]; rw [if_pos ⟨by omega, by omega⟩]; simp
theorem each_none {i : Int} {n : Nat} (h : ∀ x ∈ List.finRange n, (qOf x : Int) ≠ i) : ¬ (0 ≤ i ∧ i < n) := fun ⟨h1, h2⟩ => by
  refine h ⟨n - 1 - i.toNat, by omega⟩ (by simp) ?_
  simp only [qOf]; omega
theorem each_last {lo hi i : Int} {l : List Int} {x : Fin l.length} (hf : fitsI lo hi l = 0) (hx : (qOf x : Int) = i) : childI lo hi l i = (partAt hi l (qOf x), 0) := by
  rw [← hx]; exact child_in hf (by have := x.2; simp only [qOf]; omega)
theorem below_child {w w' : World} {B : Nat} (h : Below w.heap.size w w') (hB : w.heap.size ≤ B) {i j k : Nat} {x y z : Value} {C : Nat} (hC : w.heap.size ≤ C) :
    Below w.heap.size w (((w'.setCell ⟨B, i, none⟩ x).setCell ⟨B, j, none⟩ y).setCell ⟨C, k, none⟩ z) := ((h.setCell hB _).setCell hB _).setCell hC _

/-- the result's cells when the rounds of pre are over -/
def outStep (hi : Int) (l : List Int) (cs : List Value) (x : Fin l.length) : List Value :=
  (cs.set (qOf x * 2) (.int .i64 (partAt hi l (qOf x)).1)).set (qOf x * 2 + 1) (.int .i64 (partAt hi l (qOf x)).2)
def outC (hi : Int) (l : List Int) (pre : List (Fin l.length)) : List Value := pre.foldl (outStep hi l) (zeros [.int .i64 0, .int .i64 0] l.length)
theorem outC_snoc (hi : Int) (l : List Int) (pre : List (Fin l.length)) (x : Fin l.length) : outC hi l (pre ++ [x]) = outStep hi l (outC hi l pre) x := by simp [outC]
theorem outFold_length (hi : Int) (l : List Int) : ∀ (pre : List (Fin l.length)) (cs : List Value), (pre.foldl (outStep hi l) cs).length = cs.length
  | [], _ => rfl
  | x :: pre, cs => by rw [List.foldl_cons, outFold_length hi l pre]; simp [outStep]
theorem outC_length (hi : Int) (l : List Int) (pre : List (Fin l.length)) : (outC hi l pre).length = l.length * 2 := by
  rw [outC, outFold_length, zeros_length]; rfl
theorem outFold_get (hi : Int) (l : List Int) (q : Nat) (hq : q < l.length) : ∀ (pre : List (Fin l.length)) (cs : List Value), cs.length = l.length * 2 →
    ((∃ x ∈ pre, qOf x = q) ∨ (cs[q * 2]? = some (.int .i64 (partAt hi l q).1) ∧ cs[q * 2 + 1]? = some (.int .i64 (partAt hi l q).2))) →
    (pre.foldl (outStep hi l) cs)[q * 2]? = some (.int .i64 (partAt hi l q).1) ∧ (pre.foldl (outStep hi l) cs)[q * 2 + 1]? = some (.int .i64 (partAt hi l q).2)
  | [], cs, hl, h => by
    rcases h with ⟨x, hx, _⟩ | h
    · cases hx
    · exact h
  | x :: pre, cs, hl, h => by
    rw [List.foldl_cons]
    refine outFold_get hi l q hq pre _ (by simp [outStep, hl]) ?_
    by_cases hx : qOf x = q
    · subst hx
      refine .inr ⟨?_, ?_⟩
      · simp only [outStep]; rw [List.getElem?_set_ne (by omega), List.getElem?_set_self (by omega)]
      · simp only [outStep]; rw [List.getElem?_set_self (by simp; omega)]
    · rcases h with ⟨y, hy, hyq⟩ | h
      · rcases List.mem_cons.1 hy with rfl | hy
        · exact absurd hyq hx
        · exact .inl ⟨y, hy, hyq⟩
      · refine .inr ⟨?_, ?_⟩
        · simp only [outStep]; rw [List.getElem?_set_ne (by omega), List.getElem?_set_ne (by omega)]; exact h.1
        · simp only [outStep]; rw [List.getElem?_set_ne (by omega), List.getElem?_set_ne (by omega)]; exact h.2
theorem outC_all (hi : Int) (l : List Int) : outC hi l (List.finRange l.length) = flat2 (splitL hi l) := by
  have hs : (splitL hi l).length = l.length := by simp [splitL]
  have hg : ∀ q, q < l.length → (splitL hi l)[q]? = some (partAt hi l q) := fun q hq => by simp [splitL, hq]
  apply List.ext_getElem?
  intro j
  by_cases hj : j < l.length * 2
  · have hq : j / 2 < l.length := by omega
    have h := outFold_get hi l (j / 2) hq (List.finRange l.length) (zeros [.int .i64 0, .int .i64 0] l.length) (by rw [zeros_length]; rfl)
      (.inl ⟨⟨l.length - 1 - j / 2, by omega⟩, by simp, by simp only [qOf]; omega⟩)
    by_cases h2 : j % 2 = 0
    · have e : j = j / 2 * 2 := by omega
      rw [e, flat2_even, hg _ hq]; exact h.1
    · have e : j = j / 2 * 2 + 1 := by omega
      rw [e, flat2_odd, hg _ hq]; exact h.2
  · rw [List.getElem?_eq_none (by rw [outC_length]; omega), List.getElem?_eq_none (by rw [flat2_length, hs]; omega)]
def splitR (lo hi : Int) (l : List Int) : List (Int × Int) := if fitsI lo hi l = 0 then splitL hi l else []
end Go.Proofs.YtbhjgcokpmiopaaGreat
namespace Go.Proofs.YtbhjgcokpmiopaaGreat
open Go.RowKit Go.Extern.Stop Go.Stop Go.Extern
set_option linter.unusedVariables false
attribute [local irreducible] wpList wpAnyH Code.wp Oper.wp Go

/-- the number of the error of a node that is looked at, as the one below way, for the span lo hi -/
def lookE (l : List UInt8) (way : List Int) (no tree lo hi deep : Int) : Int :=
  if hasI way no = true then 11 else if 16 ≤ way.length then 10 else if nodeErr l no tree ≠ 0 then nodeErr l no tree else if fitsI lo hi (keysI (inB l no) (nodC (inB l no))) ≠ 0 then 9 else
    if nodL (inB l no) = true ∧ deep ≠ 0 ∧ deep ≠ ((way.length + 1 : Nat) : Int) then 10 else 0
theorem intsN_of {w : World} {v : Value} {n : Nat} {l : List Int} (h : Sl w v n (l.map (Value.int .i64))) (hl : l.length = n) : Ints w v l := by subst hl; exact h
end Go.Proofs.YtbhjgcokpmiopaaGreat
namespace Go.Proofs.YtbhjgcokpmiopaaGreat
open Go.RowKit Go.Extern.Stop Go.Stop Go.Extern
set_option linter.unusedVariables false
attribute [local irreducible] wpList wpAnyH Code.wp Oper.wp Go

/-- a leaf's first k entries -/
def leafL (K : List Int) (Vs : List (List UInt8)) (no : Int) (k : Nat) : List Ent := (List.range k).map fun j => (K.getD j 0, Vs.getD j [], no)
theorem leafL_len (K : List Int) (Vs : List (List UInt8)) (no : Int) (k : Nat) : (leafL K Vs no k).length = k := by simp [leafL]
theorem leafL_snoc (K : List Int) (Vs : List (List UInt8)) (no : Int) (k : Nat) : leafL K Vs no (k + 1) = leafL K Vs no k ++ [(K.getD k 0, Vs.getD k [], no)] := by simp [leafL, List.range_succ]
theorem leaf_row (es : List Ent) (K : List Int) (Vs : List (List UInt8)) (no : Int) (k : Nat) : (es ++ leafL K Vs no k).flatMap entC ++ [.int .i64 (K.getD k 0), .string ⟨(Vs.getD k []).toArray⟩, .int .i64 no] = (es ++ leafL K Vs no (k + 1)).flatMap entC := by
  rw [leafL_snoc, ← List.append_assoc, List.flatMap_append (xs := es ++ leafL K Vs no k)]
  rfl
end Go.Proofs.YtbhjgcokpmiopaaGreat
namespace Go.Proofs.YtbhjgcokpmiopaaGreat
open Go.RowKit Go.Extern.Stop Go.Stop Go.Extern
set_option linter.unusedVariables false
/-- two rows lie apart -/
def Apart (u v : Value) : Prop := ∀ j, u.ownBlock = some j → v.ownBlock ≠ some j
theorem Apart.symm {u v : Value} (h : Apart u v) : Apart v u := fun j h1 h2 => h j h2 h1
theorem Apart.grow {w : World} {u v u' : Value} {base e size n : Nat} {xs : List Value} (h : Apart u v) (k : w.ownsRow base e size v n xs) (hl : u'.ownBlock = u.ownBlock ∨ u'.ownBlock = some w.heap.size) : Apart u' v := by
  rintro j h1 h2
  rcases hl with hl | hl
  · exact h j (hl ▸ h1) h2
  · rw [hl, Option.some.injEq] at h1
    subst h1
    have := (k.lt _ h2).2
    omega
theorem Apart.row {w W : World} {u v : Value} {base e size n : Nat} {xs : List Value} (h : Apart u v) (k : w.ownsRow base e size v n xs) (hg : w.grownBy W u.ownBlock) : W.ownsRow base e size v n xs := by
  obtain ⟨h1, h2⟩ := k
  refine ⟨h1, ?_⟩
  rcases h2 with h2 | ⟨g, cap, cur, rfl, hb, hh, r⟩
  · exact Or.inl h2
  · exact Or.inr ⟨g, cap, cur, rfl, hb, (hg.block g (Array.getElem?_eq_some_iff.1 hh).1 (fun q => h g q.symm rfl)).trans hh, r⟩
theorem Apart.of_lt {w W : World} {u v : Value} {base base2 e e2 size size2 n n2 : Nat} {xs ys : List Value} (k : w.ownsRow base e size u n xs) (q : W.ownsRow base2 e2 size2 v n2 ys) (h : w.heap.size ≤ base2) : Apart u v := fun j h1 h2 => by
  have := (k.lt j h1).2
  have := (q.lt j h2).1
  omega
theorem Apart.nil (v : Value) : Apart (.slice none 0 0) v := fun j h => by cases h
/-- a row cut short at its end is a row -/
theorem own_cut {w : World} {base e n m c : Nat} {p : Option Addr} {xs : List Value} (k : w.ownsRow base e 1 (.slice p n c) n xs) (hm : m ≤ n) (hp : p.isSome = true) : w.ownsRow base e 1 (.slice p m c) m (xs.take m) := by
  obtain ⟨h1, h2⟩ := k
  refine ⟨by rw [List.length_take]; omega, ?_⟩
  rcases h2 with ⟨h2, _⟩ | ⟨g, cap, cur, hv, hb, hh, hc, hr1, hr2, hr3⟩
  · cases h2; cases hp
  · simp only [Value.slice.injEq] at hv
    obtain ⟨rfl, _, rfl⟩ := hv
    refine Or.inr ⟨g, c, cur, rfl, hb, hh, by omega, hr1, hr2, ?_⟩
    rw [← hr3, List.take_take]
    congr 1
    omega
theorem op_app_at {P : Program} {a : Act} {w : World} {K : Act → World → Prop} {Q : Exit → Act → World → Prop} {o : Oper} {s x : Operand} {t e te : TypeId} {base : Nat} {v : Value} {n : Nat} {xs : List Value} {b m c : Nat} {news : List Value} (z : Value) (size bytes n' : Nat) (xs' : List Value)
    (ho : o.op = .call { callee := .builtin .append, args := #[s, x], argTypes := #[t, t] }) (ht : P.underlying t = some (.slice e)) (hi : (P.info? e).map (fun i => (i.zero, i.size, i.bytes)) = some (some z, size, bytes)) (hzs : z.cells.size = size) (hsz : 0 < size) (hs : a.eval s = v)
    (hown : w.ownsRow base e size v n xs) (hx : a.eval x = .slice (some ⟨b, 0, none⟩) m c) (hnew : Blk w b news te) (hl : news.length = m * size) (h1 : ∀ u ∈ news, u.oneCell' = true) (h63 : n + m ≤ maxLen) (hbytes : (n + m) * bytes ≤ 140737488355328) (hbase : base ≤ w.heap.size) (hn : n + m = n') (hxs : xs ++ news = xs')
    (h : ∀ p c W, W.ownsRow base e size (.slice p n' c) n' xs' → w.grownBy W v.ownBlock → Below base w W → ((Value.slice p n' c).ownBlock = v.ownBlock ∨ (Value.slice p n' c).ownBlock = some w.heap.size) → K (a.put o.dst (.slice p n' c)) W) : o.wp P a w K Q := by
  cases hq : P.info? e with
  | none => simp [hq] at hi
  | some i =>
    simp only [hq, Option.map_some, Option.some.injEq, Prod.mk.injEq] at hi
    have hc : ∀ j u, news[j]? = some u → w.cell? ((⟨b, 0, none⟩ : Addr).add j) = some u := fun j u hj => by
      have hc := hnew.cell hj
      by_cases h0 : j = 0
      · subst h0; simpa [Addr.add] using hc
      · simpa [Addr.add, h0] using hc
    obtain ⟨v', W, hr, h2, h3, _, h5⟩ := run_append_own_at (P := P) w base t o.type e i z size bytes ht hq hi.1 hi.2.1 hi.2.2 hzs hsz v n xs hown ⟨b, 0, none⟩ m c news hl hc h1 h63 hbytes hbase
    subst hn hxs
    obtain ⟨p, c2, rfl⟩ := (own_sl h2).slice
    unfold Oper.wp execOp
    simp only [ho, resolve, invoke, builtin, Sem.run_bind, Sem.run_pure, Result.andThen_ok, List.map_toArray, List.map_cons, List.map_nil, hs, hx, hr]
    exact h p c2 W h2 h3 (grown_below h3 hown (Nat.le_refl _) hbase) h5
end Go.Proofs.YtbhjgcokpmiopaaGreat
namespace Go.Proofs.YtbhjgcokpmiopaaGreat
open Go.RowKit Go.Extern.Stop Go.Stop Go.Extern
set_option linter.unusedVariables false
attribute [local irreducible] wpList wpAnyH Code.wp Oper.wp Go

/-- the rows that are full, apart from a row that grows -/
structure EachS (B : Nat) (W : World) (u : Value) (gs : List (Nat × Nat)) (L : List (List Int)) : Prop where
  len : gs.length = L.length
  each : Each W B gs L
  ap : ∀ i, i < L.length → Apart u (lstV gs L i)
theorem EachS.below {B : Nat} {w W : World} {u : Value} {gs : List (Nat × Nat)} {L : List (List Int)} (h : EachS B w u gs L) (hb : Below w.heap.size w W) : EachS B W u gs L := ⟨h.len, h.each.below hb, h.ap⟩
theorem EachS.only {T : List TypeId} {B : Nat} {w W : World} {u : Value} {gs : List (Nat × Nat)} {L : List (List Int)} (h : EachS B w u gs L) (hO : Only T w W) (hT : T.contains 3 = false) : EachS B W u gs L := ⟨h.len, h.each.only hO hT, h.ap⟩
theorem EachS.grow {B : Nat} {w W : World} {u u' : Value} {gs : List (Nat × Nat)} {L : List (List Int)} (h : EachS B w u gs L) (hg : w.grownBy W u.ownBlock) (hl : u'.ownBlock = u.ownBlock ∨ u'.ownBlock = some w.heap.size) : EachS B W u' gs L :=
  ⟨h.len, fun i hi => (h.ap i hi).row (h.each i hi) hg, fun i hi => (h.ap i hi).grow (h.each i hi) hl⟩
theorem EachS.nil (B : Nat) (w : World) : EachS B w (.slice none 0 0) [] [] := ⟨rfl, fun i hi => absurd hi (Nat.not_lt_zero _), fun i hi => absurd hi (Nat.not_lt_zero _)⟩
theorem out_elem {w : World} {p : Option Addr} {n c q : Nat} {A : List Value} {x : Value} (h : Sl w (.slice p n c) n (A ++ [x])) (hA : A.length = q) : p.isSome = true ∧ w.cell? (elemAddr p (q * 1)) = some x := by
  rw [Nat.mul_one]; exact Sl.elem h (by subst hA; simp)
theorem out_set {q : Nat} {A : List Value} {x y : Value} (hA : A.length = q) : (A ++ [x]).set q y = A ++ [y] := by subst hA; simp
theorem out_neg {w : World} {B t n m : Nat} {v x : Value} {A : List Value} (hm : m ≠ 0) (h : w.ownsRow B t 1 v n (A ++ (if m = 0 then [] else [x]))) : w.ownsRow B t 1 v n (A ++ [x]) := by rwa [if_neg hm] at h
theorem ch_snoc {l : List Int} {i q m : Nat} (hq : i = q * 960 + m) (hi : i < l.length) {v : Int} (hv : mn3 (l.getD i 0) = v) : ((((smallL l).drop (q * 960)).take m).map (Value.int .i64)) ++ [.int .i64 v] = ((((smallL l).drop (q * 960)).take (m + 1)).map (Value.int .i64)) := by
  have h1 : q * 960 + m < (smallL l).length := by rw [smallL_len]; omega
  have h2 : ((smallL l).drop (q * 960)).take (m + 1) = ((smallL l).drop (q * 960)).take m ++ [v] := by
    rw [List.take_succ_eq_append_getElem (by simp; omega), List.getElem_drop]
    congr 2
    rw [← hv, hq]
    simp [smallL, List.getD]
    rw [List.getElem?_eq_getElem (by rw [smallL_len] at h1; exact h1)]
    rfl
  rw [h2, List.map_append]; rfl
theorem spl_full {B q m c n : Nat} {W : World} {l : List Int} {p : Option Addr} {v : Value} {gs : List (Nat × Nat)} (hm : 0 < m) (hch : (((smallL l).drop (q * 960)).take m) = chunkI (smallL l) q) (hcl : (chunkI (smallL l) q).length = m) (hn : n = q + 1) (hE : EachS B W (.slice p m c) gs (chunksI (smallL l) q))
    (hl : W.ownsRow B 3 1 (.slice p m c) m ((((smallL l).drop (q * 960)).take m).map (Value.int .i64))) (ho : W.ownsRow B 24 1 v n (((List.range q).map (lstV gs (chunksI (smallL l) q))) ++ [.slice p m c])) : ∃ gs2, gs2.length = q + 1 ∧ Lists W B v gs2 (chunksI (smallL l) (q + 1)) := by
  obtain ⟨g, rfl, hc⟩ := own_someN hl hm
  subst hn
  have hL := Lists.snoc (w := W) (base := B) (g := g) (c := c) (n := q + 1) (v := v) (gs := gs) (L := chunksI (smallL l) q) (ch := chunkI (smallL l) q) (by rw [chunksI_len]) (by rw [chunksI_len, hcl]; exact ho) hE.each (by rw [hcl, ← hch]; exact hl) (by rw [hE.len])
  exact ⟨gs ++ [(g, c)], by rw [List.length_append, hE.len, chunksI_len]; rfl, by rw [chunksI_succ]; exact hL⟩
theorem spl_next {B i q m c n : Nat} {W : World} {l : List Int} {p : Option Addr} {pb : Option Addr} {cb : Nat} {gs : List (Nat × Nat)} (hq : i = q * 960 + m) (hm : m < 960) (hi : i < l.length) (hn : n = q + 1) (hE : EachS B W (.slice p (m + 1) c) gs (chunksI (smallL l) q))
    (hl : W.ownsRow B 3 1 (.slice p (m + 1) c) (m + 1) ((((smallL l).drop (q * 960)).take (m + 1)).map (Value.int .i64))) (ho : W.ownsRow B 24 1 (.slice pb n cb) n (((List.range q).map (lstV gs (chunksI (smallL l) q))) ++ [.slice p (m + 1) c])) :
    ∃ q2 m2 pl2 cl2 gs2, i + 1 = q2 * 960 + m2 ∧ m2 < 960 ∧ ((m2 = 0 → n = q2 ∧ pl2 = none ∧ cl2 = 0) ∧ (m2 ≠ 0 → n = q2 + 1)) ∧ EachS B W (.slice pl2 m2 cl2) gs2 (chunksI (smallL l) q2) ∧ W.ownsRow B 3 1 (.slice pl2 m2 cl2) m2 ((((smallL l).drop (q2 * 960)).take m2).map (Value.int .i64)) ∧ W.ownsRow B 24 1 (.slice pb n cb) n (((List.range q2).map (lstV gs2 (chunksI (smallL l) q2))) ++ (if m2 = 0 then [] else [.slice pl2 m2 cl2])) := by
  by_cases h9 : m + 1 = 960
  · have hcl : (chunkI (smallL l) q).length = m + 1 := by rw [chunkI_len, smallL_len]; omega
    obtain ⟨gs2, h1, h2⟩ := spl_full (by omega) (by unfold chunkI; rw [h9]) hcl hn hE hl ho
    refine ⟨q + 1, 0, none, 0, gs2, by omega, by decide, ⟨fun _ => ⟨by omega, rfl, rfl⟩, fun q => absurd rfl q⟩, ⟨by rw [h1, chunksI_len], h2.each, fun _ _ => Apart.nil _⟩, World.ownsRow_nil _ _ _ _, ?_⟩
    have := h2.row
    rw [chunksI_len] at this
    subst hn
    simpa using this
  · exact ⟨q, m + 1, p, c, gs, by omega, by omega, ⟨fun h => absurd h (by omega), fun _ => by omega⟩, hE, hl, by rw [if_neg (by omega)]; exact ho⟩
def RSplitP (l : List Int) (w : World) (e : Ending) (w' : World) : Prop :=
  (splitE l ≠ 0 ∧ e = .returned (.tuple #[.slice none 0 0, .slice none 0 0, .int .i64 2]) ∧ Below w.heap.size w w') ∨
  (splitE l = 0 ∧ ∃ pb cb gs po co, e = .returned (.tuple #[.slice pb (bmN l.length) cb, .slice po (overK l l.length).length co, .int .i64 0]) ∧ Below w.heap.size w w' ∧ Lists w' w.heap.size (.slice pb (bmN l.length) cb) gs (chunksI (smallL l) (bmN l.length)) ∧ w'.ownsRow w.heap.size 74 3 (.slice po (overK l l.length).length co) (overK l l.length).length ((overK l l.length).flatMap entC))
theorem rsplit_bad {l : List Int} {i : Nat} (hl : l.length ≤ 65536) (hi : i < l.length) (h : ¬ cntOk (l.getD i 0)) : splitE l ≠ 0 := fun q => h ((splitE_ok q).2 i hi)
theorem spl_done {B q m c n : Nat} {W : World} {l : List Int} {p : Option Addr} {pb : Option Addr} {cb : Nat} {gs : List (Nat × Nat)} (hq : l.length = q * 960 + m) (hm : m < 960) (hn : (m = 0 → n = q ∧ p = none ∧ c = 0) ∧ (m ≠ 0 → n = q + 1)) (hE : EachS B W (.slice p m c) gs (chunksI (smallL l) q))
    (hl : W.ownsRow B 3 1 (.slice p m c) m ((((smallL l).drop (q * 960)).take m).map (Value.int .i64))) (ho : W.ownsRow B 24 1 (.slice pb n cb) n (((List.range q).map (lstV gs (chunksI (smallL l) q))) ++ (if m = 0 then [] else [.slice p m c]))) : n = bmN l.length ∧ ∃ gs2, Lists W B (.slice pb n cb) gs2 (chunksI (smallL l) (bmN l.length)) := by
  by_cases h0 : m = 0
  · obtain ⟨h1, _, _⟩ := hn.1 h0
    have hb : bmN l.length = q := by unfold bmN; omega
    rw [hb]
    refine ⟨h1, gs, ?_, hE.each⟩
    rw [chunksI_len]
    rw [if_pos h0, List.append_nil] at ho
    subst h1; exact ho
  · have h1 := hn.2 h0
    have hb : bmN l.length = q + 1 := by unfold bmN; omega
    rw [if_neg h0] at ho
    have hcl : (chunkI (smallL l) q).length = m := by rw [chunkI_len, smallL_len]; omega
    have hch : (((smallL l).drop (q * 960)).take m) = chunkI (smallL l) q := by
      unfold chunkI
      rw [List.take_of_length_le (i := m) (by simp [smallL_len]; omega), List.take_of_length_le (i := 960) (by simp [smallL_len]; omega)]
    obtain ⟨gs2, _, h2⟩ := spl_full (by omega) hch hcl h1 hE hl ho
    rw [hb]
    exact ⟨h1, gs2, h2⟩
end Go.Proofs.YtbhjgcokpmiopaaGreat
namespace Go.Proofs.YtbhjgcokpmiopaaGreat
open Go.RowKit Go.Extern.Stop Go.Stop Go.Extern
set_option linter.unusedVariables false
attribute [local irreducible] wpList wpAnyH Code.wp Oper.wp Go

end Go.Proofs.YtbhjgcokpmiopaaGreat
namespace Go.Proofs.YtbhjgcokpmiopaaGreat
open Go.RowKit Go.Extern.Stop Go.Stop Go.Extern
set_option linter.unusedVariables false
attribute [local irreducible] wpList wpAnyH Code.wp Oper.wp Go

theorem chunks_smallR {l : List Int} (h : ∀ k, k < l.length → cntOk (l.getD k 0)) (n : Nat) : ∀ i, i < (chunksI (smallL l) n).length → Small ((chunksI (smallL l) n).getD i []) ∧ ((chunksI (smallL l) n).getD i []).length ≤ 960 := fun i hi => by
  rw [chunksI_len] at hi
  rw [chunksI_get hi]
  exact ⟨chunk_small (small_ok h) i, by rw [chunkI_len]; omega⟩
/-- the slots as a list -/
def rsC (x : Nat × Nat × Nat) : List Value := [.int .i64 (x.1 : Int), .int .i64 (x.2.1 : Int), .int .i64 (x.2.2 : Int)]
theorem rsC_len (x : Nat × Nat × Nat) : (rsC x).length = 3 := rfl
def rsD : Nat × Nat × Nat := (0, 0, 0)
def Rs (L : List (List Int)) (q n : Nat) : List (Nat × Nat × Nat) := (List.range n).map fun i => (q + i, freeN (L.getD i []), firstN (L.getD i []))
theorem Rs_len (L : List (List Int)) (q n : Nat) : (Rs L q n).length = n := by simp [Rs]
theorem Rs_get {L : List (List Int)} {q n i : Nat} (h : i < n) : (Rs L q n).getD i rsD = (q + i, freeN (L.getD i []), firstN (L.getD i [])) := by simp [Rs, List.getD, List.getElem?_range h]
theorem rsL_Rs (L : List (List Int)) (q n : Nat) : rsL L q n = (Rs L q n).flatMap rsC := by simp [rsL, Rs, List.flatMap_map]; rfl
theorem ents_right {v : Nat} {l : List Ent} (E : EntsOk v l) : entsB v l = true := entsB_true fun i hi => ⟨E.last hi, (E.hk i hi).2, E.hw i hi⟩
theorem Rs_sts {L : List (List Int)} {q n c : Nat} {p : Option Addr} {w : World} (h : Sl w (.slice p n c) n (rsL L q n)) : Sts rsC w (.slice p (Rs L q n).length c) (Rs L q n) := by unfold Sts; rw [Rs_len, ← rsL_Rs]; exact h
theorem slot_row {L : List (List Int)} {q n i : Nat} (h : i < n) : (slotsE L q i).flatMap entC ++ [.int .i64 (i : Int), .string ⟨(leB ((((Rs L q n).getD i rsD).1 : Nat) : Int) 8 ++ leB ((((Rs L q n).getD i rsD).2.1 : Nat) : Int) 4 ++ leB ((((Rs L q n).getD i rsD).2.2 : Nat) : Int) 4).toArray⟩, .int .i64 0] = (slotsE L q (i + 1)).flatMap entC := by
  rw [slotsE_succ, List.flatMap_append, Rs_get h]; rfl
end Go.Proofs.YtbhjgcokpmiopaaGreat
namespace Go.Proofs.YtbhjgcokpmiopaaGreat
open Go.RowKit Go.Extern.Stop Go.Stop Go.Extern
set_option linter.unusedVariables false
attribute [local irreducible] wpList wpAnyH Code.wp Oper.wp Go

set_option maxRecDepth 100000 in
set_option maxHeartbeats 1000000 in
theorem value_count (w : World) :
    Calls Tryz.prog 55 #[] w (RetS (fun w' r => ∃ b, r = .slice (some ⟨b, 0, none⟩) 1 1 ∧ w.heap.size ≤ b ∧ Blk w' b [.int .i64 4, .int .i64 3, .int .i64 2147483647] 134) w) := by
 refine zin 3 Tryz.func55 ?_
 refine xbs 8 1 [.int .i64 4, .int .i64 3, .int .i64 2147483647] 134 fun b1 W1 n1 => ?_
 have g1 := n1.ge (Below.refl w.heap.size _)
 exact xe 4 (.slice (some ⟨b1, 0, none⟩) 1 1) ⟨_, rfl, n1.below, _, rfl, g1, n1.blk⟩
set_option maxRecDepth 100000 in
set_option maxHeartbeats 1000000 in
theorem value_put_count (gl gn : Nat) (n : Int) (h1 : 3 ≤ n) (h2 : n ≤ 2147483647) (w : World) (hl : Blk w gl [.int .i64 4, .int .i64 3, .int .i64 2147483647] 134) (hn : Blk w gn [.int .i64 n] 3) :
    Calls Tryz.prog 54 #[.slice (some ⟨gl, 0, none⟩) 1 1, .slice (some ⟨gn, 0, none⟩) 1 1] w (Ret (.string ⟨(leB n 4).toArray⟩) w) := by
 refine zin 51 Tryz.func54 ?_
 refine xu 19 2 ?_
 refine xlv 15 hl.rp ?_
 refine xa 0 [.int .i64 0, .int .i64 0, .int .i64 0] 134 fun b1 W1 n1 => ?_
 have d1_gl := n1.ne hl
 refine xsv 1 n1.blk [.int .i64 4, .int .i64 3, .int .i64 2147483647] fun W2 u2 k2 => ?_
 have g1 := n1.ge (Below.refl w.heap.size _)
 refine xd 4 .z ?_
 have hn'1 := (u2.blkT (hn.below n1.below) n1.blk (by decide)).below (below_drew W2)
 refine xb (.e [0, 1, 2] 3) 0 hn'1 ?_
 have k2'1 := k2.below (below_drew W2)
 refine xb (.e [4] 5) 1 k2'1 ?_
 refine xgk (.b [6, 7]) [23, 24] (show (decide (n < (3 : Int)) : Bool) = false from decide_eq_false (by omega)) ?_
 refine xb (.e [8, 9, 10] 11) 0 hn'1 ?_
 refine xb (.e [12] 13) 2 k2'1 ?_
 refine xk (.r [14, 15] 2) (show (decide (n > (2147483647 : Int)) : Bool) = false from decide_eq_false (by omega)) ?_
 refine xd 3 .z ?_
 have k2'2 := k2'1.below (below_drew W2.drew)
 refine xb (.e [0] 1) 0 k2'2 ?_
 have hn'2 := hn'1.below (below_drew W2.drew)
 refine xb (.e [2, 3, 4] 5) 0 hn'2 ?_
 refine xbs (.o [6] 7) 1 [.int .i64 4, .int .i64 n] 89 fun b4 W4 n4 => ?_
 refine yc (.o [] 8) (args := #[.slice (some ⟨b4, 0, none⟩) 1 1]) .z (Pack_4 b4 n (by omega) (by omega) _ n4.blk) ?_
 rintro _ W5 ⟨_, rfl, hb5, p2_0, c2_0, rfl, h2_0⟩
 have hs5 := (Bl.next (Bl.next (Bl.next (u2.below n1.below g1) (below_drew W2)) (below_drew W2.drew)) n4.below).size
 refine ⟨hb5, ?_⟩
 have o6 := World.ownsRow_nil W5 w.heap.size 5 1
 have h2_0'1 := own_mono h2_0 hs5
 have hB := Bl.next (Bl.next (Bl.next (Bl.next (u2.below n1.below g1) (below_drew W2)) (below_drew W2.drew)) n4.below) hb5
 refine xbi (.r [9, 10, 11, 12, 13] 5) fun _ _ _ _ zJ zQ zo zx zy zK => op_app (m := 4) (news := (leB n 4).map bv) (.int .u8 0) 1 1 (4) ((leB n 4).map bv) zo Tryz.underlying45 (by kernel_rfl) rfl (by decide) zx o6 zy (own_sl h2_0'1) (by simp [leB_len]) (bv_one _) (by unfold maxLen; omega) (by omega) hB.size (by rfl) (by simp) fun px7 cx7 W7 o7 hg7 hb7 => ?_
 refine zK _ _ ?_
 refine xcv0 24 (fun _ _ _ zo zx => run_bstr zo zx (bys_of (own_sl o7) (by simp [leB_len])) (by simp [leB_len]) Tryz.underlying45 Tryz.underlying5 Tryz.underlying9) ?_
 have hB'1 := hB.trans hb7
 exact xe 4 (.string ⟨(leB n 4).toArray⟩) ⟨rfl, hB'1⟩
set_option maxRecDepth 100000 in
set_option maxHeartbeats 1000000 in
theorem value_Count (n : Int) (h1 : 3 ≤ n) (h2 : n ≤ 2147483647) (w : World) :
    Calls Tryz.prog 32 #[.int .i64 n] w (Ret (.string ⟨(leB n 4).toArray⟩) w) := by
 refine zin 7 Tryz.func32 ?_
 refine xc 7 (args := #[]) (value_count _) ?_
 rintro _ W1 ⟨_, rfl, hb1, gl, rfl, gg, kl⟩
 refine xbs 1 1 [.int .i64 n] 3 fun b2 W2 n2 => ?_
 have kl'1 := kl.below n2.below
 refine xr 0 (args := #[.slice (some ⟨gl, 0, none⟩) 1 1, .slice (some ⟨b2, 0, none⟩) 1 1]) (value_put_count gl b2 n h1 h2 _ kl'1 n2.blk) fun W3 hb3 => ?_
 have hB := Bl.next (Bl.next hb1 n2.below) hb3
 exact xe 4 (.string ⟨(leB n 4).toArray⟩) ⟨rfl, hB⟩
set_option maxRecDepth 100000 in
set_option maxHeartbeats 1000000 in
theorem value_slot (w : World) :
    Calls Tryz.prog 68 #[] w (RetS (fun w' r => ∃ b, r = .slice (some ⟨b, 0, none⟩) 3 3 ∧ w.heap.size ≤ b ∧ Blk w' b [.int .i64 8, .int .i64 1, .int .i64 14399, .int .i64 4, .int .i64 0, .int .i64 960, .int .i64 4, .int .i64 0, .int .i64 960] 134) w) := by
 refine zin 5 Tryz.func68 ?_
 refine xbs 10 3 [.int .i64 8, .int .i64 1, .int .i64 14399, .int .i64 4, .int .i64 0, .int .i64 960, .int .i64 4, .int .i64 0, .int .i64 960] 134 fun b1 W1 n1 => ?_
 have g1 := n1.ge (Below.refl w.heap.size _)
 exact xe 4 (.slice (some ⟨b1, 0, none⟩) 3 3) ⟨_, rfl, n1.below, _, rfl, g1, n1.blk⟩
set_option maxRecDepth 100000 in
set_option maxHeartbeats 1000000 in
theorem value_put_slot (gl gn : Nat) (n f g : Int) (h1 : 1 ≤ n) (h2 : n ≤ 14399) (h3 : 0 ≤ f) (h4 : f ≤ 960) (h5 : 0 ≤ g) (h6 : g ≤ 960) (w : World) (hl : Blk w gl [.int .i64 8, .int .i64 1, .int .i64 14399, .int .i64 4, .int .i64 0, .int .i64 960, .int .i64 4, .int .i64 0, .int .i64 960] 134) (hn : Blk w gn [.int .i64 n, .int .i64 f, .int .i64 g] 3) :
    Calls Tryz.prog 54 #[.slice (some ⟨gl, 0, none⟩) 3 3, .slice (some ⟨gn, 0, none⟩) 3 3] w (Ret (.string ⟨(leB n 8 ++ leB f 4 ++ leB g 4).toArray⟩) w) := by
 refine zin 51 Tryz.func54 ?_
 refine xu 19 4 ?_
 refine xlv 15 (hl.rpp 0 3) ?_
 refine xa 0 [.int .i64 0, .int .i64 0, .int .i64 0] 134 fun b1 W1 n1 => ?_
 have d1_gl := n1.ne hl
 refine xsv 1 n1.blk [.int .i64 8, .int .i64 1, .int .i64 14399] fun W2 u2 k2 => ?_
 have g1 := n1.ge (Below.refl w.heap.size _)
 refine xd 4 .z ?_
 have hn'1 := (u2.blkT (hn.below n1.below) n1.blk (by decide)).below (below_drew W2)
 refine xb (.e [0, 1, 2] 3) 0 hn'1 ?_
 have k2'1 := k2.below (below_drew W2)
 refine xb (.e [4] 5) 1 k2'1 ?_
 refine xgk (.b [6, 7]) [23, 24] (show (decide (n < (1 : Int)) : Bool) = false from decide_eq_false (by omega)) ?_
 refine xb (.e [8, 9, 10] 11) 0 hn'1 ?_
 refine xb (.e [12] 13) 2 k2'1 ?_
 refine xk (.r [14, 15] 2) (show (decide (n > (14399 : Int)) : Bool) = false from decide_eq_false (by omega)) ?_
 refine xd 3 .z ?_
 have k2'2 := k2'1.below (below_drew W2.drew)
 refine xb (.e [0] 1) 0 k2'2 ?_
 have hn'2 := hn'1.below (below_drew W2.drew)
 refine xb (.e [2, 3, 4] 5) 0 hn'2 ?_
 refine xbs (.o [6] 7) 1 [.int .i64 8, .int .i64 n] 89 fun b4 W4 n4 => ?_
 refine yc (.o [] 8) (args := #[.slice (some ⟨b4, 0, none⟩) 1 1]) .z (Pack_8 b4 n (by omega) _ n4.blk) ?_
 rintro _ W5 ⟨_, rfl, hb5, p2_0, c2_0, rfl, h2_0⟩
 have hs5 := (Bl.next (Bl.next (Bl.next (u2.below n1.below g1) (below_drew W2)) (below_drew W2.drew)) n4.below).size
 refine ⟨hb5, ?_⟩
 have o6 := World.ownsRow_nil W5 w.heap.size 5 1
 have h2_0'1 := own_mono h2_0 hs5
 have hB := Bl.next (Bl.next (Bl.next (Bl.next (u2.below n1.below g1) (below_drew W2)) (below_drew W2.drew)) n4.below) hb5
 refine xbi (.r [9, 10, 11, 12, 13] 5) fun _ _ _ _ zJ zQ zo zx zy zK => op_app (m := 8) (news := (leB n 8).map bv) (.int .u8 0) 1 1 (8) ((leB n 8).map bv) zo Tryz.underlying45 (by kernel_rfl) rfl (by decide) zx o6 zy (own_sl h2_0'1) (by simp [leB_len]) (bv_one _) (by unfold maxLen; omega) (by omega) hB.size (by rfl) (by simp) fun px7 cx7 W7 o7 hg7 hb7 => ?_
 refine zK _ _ ?_
 have hl'1 := (((((u2.blk (hl.below n1.below) (Ne.symm (Ne.symm d1_gl))).below (below_drew W2)).below (below_drew W2.drew)).below n4.below).below hb5).grown hg7 o6 (by decide)
 refine xlv 24 (hl'1.rpp 3 3) ?_
 refine xa 0 [.int .i64 0, .int .i64 0, .int .i64 0] 134 fun b8 W8 n8 => ?_
 have d8_gl := n8.ne hl'1
 have k2'3 := ((k2'2.below n4.below).below hb5).grown hg7 o6 (by decide)
 have d8_b1 := n8.ne k2'3
 have hB'1 := hB.trans hb7
 have g8 := n8.ge hB'1
 refine xsv 1 n8.blk [.int .i64 4, .int .i64 0, .int .i64 960] fun W9 u9 k9 => ?_
 refine xd 4 .z ?_
 have hn'3 := (u9.blkT ((((hn'2.below n4.below).below hb5).grown hg7 o6 (by decide)).below n8.below) n8.blk (by decide)).below (below_drew W9)
 refine xb (.e [0, 1, 2] 3) 1 hn'3 ?_
 have k9'1 := k9.below (below_drew W9)
 refine xb (.e [4] 5) 1 k9'1 ?_
 refine xgk (.b [6, 7]) [23, 24] (show (decide (f < (0 : Int)) : Bool) = false from decide_eq_false (by omega)) ?_
 refine xb (.e [8, 9, 10] 11) 1 hn'3 ?_
 refine xb (.e [12] 13) 2 k9'1 ?_
 refine xk (.r [14, 15] 2) (show (decide (f > (960 : Int)) : Bool) = false from decide_eq_false (by omega)) ?_
 refine xd 3 .z ?_
 have k9'2 := k9'1.below (below_drew W9.drew)
 refine xb (.e [0] 1) 0 k9'2 ?_
 have hn'4 := hn'3.below (below_drew W9.drew)
 refine xb (.e [2, 3, 4] 5) 1 hn'4 ?_
 refine xbs (.o [6] 7) 1 [.int .i64 4, .int .i64 f] 89 fun b11 W11 n11 => ?_
 have k4'1 := ((u9.blkT (((n4.blk.below hb5).grown hg7 o6 (by decide)).below n8.below) n8.blk (by decide)).below (below_drew W9)).below (below_drew W9.drew)
 have d11_b4 := n11.ne k4'1
 have hB'2 := Bl.next (Bl.next (u9.below (Bl.next hB'1 n8.below) g8) (below_drew W9)) (below_drew W9.drew)
 have g11 := n11.ge hB'2
 refine yc (.o [] 8) (args := #[.slice (some ⟨b11, 0, none⟩) 1 1]) .z (Pack_4 b11 f (by omega) (by omega) _ n11.blk) ?_
 rintro _ W12 ⟨_, rfl, hb12, p2_1, c2_1, rfl, h2_1⟩
 have hs12 := (Bl.next hB'2 n11.below).size
 refine ⟨hb12, ?_⟩
 have o7'1 := own_below (own_below (own_below (own_below (u9.own2 (own_below o7 n8.below) n8.blk (by decide)) (below_drew W9)) (below_drew W9.drew)) n11.below) hb12
 have h2_1'1 := own_mono h2_1 hs12
 have hB'3 := Bl.next (Bl.next hB'2 n11.below) hb12
 refine xbi (.r [9, 10, 11, 12, 13] 5) fun _ _ _ _ zJ zQ zo zx zy zK => op_app (m := 4) (news := (leB f 4).map bv) (.int .u8 0) 1 1 (12) ((leB n 8 ++ leB f 4).map bv) zo Tryz.underlying45 (by kernel_rfl) rfl (by decide) zx o7'1 zy (own_sl h2_1'1) (by simp [leB_len]) (bv_one _) (by unfold maxLen; omega) (by omega) hB'3.size (by rfl) (by simp) fun px13 cx13 W13 o13 hg13 hb13 => ?_
 refine zK _ _ ?_
 have hl'2 := (((((u9.blk (hl'1.below n8.below) (Ne.symm (Ne.symm d8_gl))).below (below_drew W9)).below (below_drew W9.drew)).below n11.below).below hb12).grown hg13 o7'1 (by decide)
 refine xlv 24 (hl'2.rpp 6 3) ?_
 refine xa 0 [.int .i64 0, .int .i64 0, .int .i64 0] 134 fun b14 W14 n14 => ?_
 have d14_gl := n14.ne hl'2
 have k2'4 := (((((u9.blk (k2'3.below n8.below) (Ne.symm (Ne.symm d8_b1))).below (below_drew W9)).below (below_drew W9.drew)).below n11.below).below hb12).grown hg13 o7'1 (by decide)
 have d14_b1 := n14.ne k2'4
 have k9'3 := ((k9'2.below n11.below).below hb12).grown hg13 o7'1 (by decide)
 have d14_b8 := n14.ne k9'3
 have hB'4 := hB'3.trans hb13
 have g14 := n14.ge hB'4
 refine xsv 1 n14.blk [.int .i64 4, .int .i64 0, .int .i64 960] fun W15 u15 k15 => ?_
 refine xd 4 .z ?_
 have hn'5 := (u15.blkT ((((hn'4.below n11.below).below hb12).grown hg13 o7'1 (by decide)).below n14.below) n14.blk (by decide)).below (below_drew W15)
 refine xb (.e [0, 1, 2] 3) 2 hn'5 ?_
 have k15'1 := k15.below (below_drew W15)
 refine xb (.e [4] 5) 1 k15'1 ?_
 refine xgk (.b [6, 7]) [23, 24] (show (decide (g < (0 : Int)) : Bool) = false from decide_eq_false (by omega)) ?_
 refine xb (.e [8, 9, 10] 11) 2 hn'5 ?_
 refine xb (.e [12] 13) 2 k15'1 ?_
 refine xk (.r [14, 15] 2) (show (decide (g > (960 : Int)) : Bool) = false from decide_eq_false (by omega)) ?_
 refine xd 3 .z ?_
 have k15'2 := k15'1.below (below_drew W15.drew)
 refine xb (.e [0] 1) 0 k15'2 ?_
 have hn'6 := hn'5.below (below_drew W15.drew)
 refine xb (.e [2, 3, 4] 5) 2 hn'6 ?_
 refine xbs (.o [6] 7) 1 [.int .i64 4, .int .i64 g] 89 fun b17 W17 n17 => ?_
 have k4'2 := ((u15.blkT ((((k4'1.below n11.below).below hb12).grown hg13 o7'1 (by decide)).below n14.below) n14.blk (by decide)).below (below_drew W15)).below (below_drew W15.drew)
 have d17_b4 := n17.ne k4'2
 have k11'1 := ((u15.blkT (((n11.blk.below hb12).grown hg13 o7'1 (by decide)).below n14.below) n14.blk (by decide)).below (below_drew W15)).below (below_drew W15.drew)
 have d17_b11 := n17.ne k11'1
 have hB'5 := Bl.next (Bl.next (u15.below (Bl.next hB'4 n14.below) g14) (below_drew W15)) (below_drew W15.drew)
 have g17 := n17.ge hB'5
 refine yc (.o [] 8) (args := #[.slice (some ⟨b17, 0, none⟩) 1 1]) .z (Pack_4 b17 g (by omega) (by omega) _ n17.blk) ?_
 rintro _ W18 ⟨_, rfl, hb18, p2_2, c2_2, rfl, h2_2⟩
 have hs18 := (Bl.next hB'5 n17.below).size
 refine ⟨hb18, ?_⟩
 have o13'1 := own_below (own_below (own_below (own_below (u15.own2 (own_below o13 n14.below) n14.blk (by decide)) (below_drew W15)) (below_drew W15.drew)) n17.below) hb18
 have h2_2'1 := own_mono h2_2 hs18
 have hB'6 := Bl.next (Bl.next hB'5 n17.below) hb18
 refine xbi (.r [9, 10, 11, 12, 13] 5) fun _ _ _ _ zJ zQ zo zx zy zK => op_app (m := 4) (news := (leB g 4).map bv) (.int .u8 0) 1 1 (16) ((leB n 8 ++ leB f 4 ++ leB g 4).map bv) zo Tryz.underlying45 (by kernel_rfl) rfl (by decide) zx o13'1 zy (own_sl h2_2'1) (by simp [leB_len]) (bv_one _) (by unfold maxLen; omega) (by omega) hB'6.size (by rfl) (by simp) fun px19 cx19 W19 o19 hg19 hb19 => ?_
 refine zK _ _ ?_
 refine xcv0 24 (fun _ _ _ zo zx => run_bstr zo zx (bys_of (own_sl o19) (by simp [leB_len])) (by simp [leB_len]) Tryz.underlying45 Tryz.underlying5 Tryz.underlying9) ?_
 have hB'7 := hB'6.trans hb19
 exact xe 4 (.string ⟨(leB n 8 ++ leB f 4 ++ leB g 4).toArray⟩) ⟨rfl, hB'7⟩
set_option maxRecDepth 100000 in
set_option maxHeartbeats 1000000 in
theorem value_Slot (n f g : Int) (h1 : 1 ≤ n) (h2 : n ≤ 14399) (h3 : 0 ≤ f) (h4 : f ≤ 960) (h5 : 0 ≤ g) (h6 : g ≤ 960) (w : World) :
    Calls Tryz.prog 42 #[.agg #[.int .i64 n, .int .i64 f, .int .i64 g]] w (Ret (.string ⟨(leB n 8 ++ leB f 4 ++ leB g 4).toArray⟩) w) := by
 refine zin 12 Tryz.func42 ?_
 refine xa 2 [.int .i64 n, .int .i64 f, .int .i64 g] 39 fun b1 W1 n1 => ?_
 refine xd 4 .z ?_
 have k1 := n1.blk.below (below_drew W1)
 refine xb (.e [1] 2) 0 k1 ?_
 refine xb (.e [3] 4) 1 k1 ?_
 refine xb (.e [5] 6) 2 k1 ?_
 refine xm2 0 0 7 ?_ ?_
 · refine yc 0 (args := #[]) .z (value_slot _) ?_
   rintro _ W2 ⟨_, rfl, hb2, gl, rfl, gg, kl⟩
   refine ⟨hb2, ?_⟩
   refine xbs (.o [] 7) 3 [.int .i64 n, .int .i64 f, .int .i64 g] 3 fun b3 W3 n3 => ?_
   have kl'1 := kl.below n3.below
   refine xr (.o [] 8) (args := #[.slice (some ⟨gl, 0, none⟩) 3 3, .slice (some ⟨b3, 0, none⟩) 3 3]) (value_put_slot gl b3 n f g h1 h2 h3 h4 h5 h6 _ kl'1 n3.blk) fun W4 hb4 => ?_
   have hB := Bl.next (Bl.next (Bl.next (Bl.next n1.below (below_drew W1)) hb2) n3.below) hb4
   exact xe (.r [9] 3) (.string ⟨(leB n 8 ++ leB f 4 ++ leB g 4).toArray⟩) ⟨rfl, hB⟩
 refine xbs 0 3 [.int .i64 n, .int .i64 f, .int .i64 g] 3 fun b5 W5 n5 => ?_
 refine yc (.o [] 0) (args := #[]) .z (value_slot _) ?_
 rintro _ W6 ⟨_, rfl, hb6, gl, rfl, gg, kl⟩
 refine ⟨hb6, ?_⟩
 have k5 := n5.blk.below hb6
 refine xr (.o [] 8) (args := #[.slice (some ⟨gl, 0, none⟩) 3 3, .slice (some ⟨b5, 0, none⟩) 3 3]) (value_put_slot gl b5 n f g h1 h2 h3 h4 h5 h6 _ kl k5) fun W7 hb7 => ?_
 have hB := Bl.next (Bl.next (Bl.next (Bl.next n1.below (below_drew W1)) n5.below) hb6) hb7
 exact xe (.r [9] 3) (.string ⟨(leB n 8 ++ leB f 4 ++ leB g 4).toArray⟩) ⟨rfl, hB⟩
end Go.Proofs.YtbhjgcokpmiopaaGreat
namespace Go.Proofs.YtbhjgcokpmiopaaGreat
open Go.RowKit Go.Extern.Stop Go.Stop Go.Extern
set_option linter.unusedVariables false
attribute [local irreducible] wpList wpAnyH Code.wp Oper.wp Go

def slB (x : Nat × Nat × Nat) : List UInt8 := leB (x.1 : Int) 8 ++ leB (x.2.1 : Int) 4 ++ leB (x.2.2 : Int) 4
theorem slB_len (x : Nat × Nat × Nat) : (slB x).length = 16 := by simp [slB, leB_len]
def idxP (S : List (Nat × Nat × Nat)) (i : Nat) : List UInt8 := leB (S.length : Int) 4 ++ (List.range i).flatMap fun j => slB (S.getD j rsD)
theorem idxP_succ (S : List (Nat × Nat × Nat)) (i : Nat) : idxP S (i + 1) = idxP S i ++ slB (S.getD i rsD) := by simp [idxP, List.range_succ]
theorem idxP_len (S : List (Nat × Nat × Nat)) : ∀ i, (idxP S i).length = 4 + i * 16
  | 0 => by simp [idxP, leB_len]
  | i + 1 => by rw [idxP_succ, List.length_append, idxP_len S i, slB_len]; omega
def idxB (S : List (Nat × Nat × Nat)) : List UInt8 := idxP S S.length ++ List.replicate (244 - (4 + S.length * 16)) 0
theorem idxB_len {S : List (Nat × Nat × Nat)} (h : S.length ≤ 15) : (idxB S).length = 244 := by unfold idxB; rw [List.length_append, idxP_len, List.length_replicate]; omega
def SlotsOk (S : List (Nat × Nat × Nat)) : Prop := S.length ≤ 14 ∧ ∀ i, i < S.length → 1 ≤ (S.getD i rsD).1 ∧ (S.getD i rsD).1 ≤ 14399 ∧ (S.getD i rsD).2.1 ≤ 960 ∧ (S.getD i rsD).2.2 ≤ 960
theorem slB_ne (x : Nat × Nat × Nat) : ((⟨(leB (x.1 : Int) 8 ++ leB (x.2.1 : Int) 4 ++ leB (x.2.2 : Int) 4).toArray⟩ : ByteArray).toList == (⟨#[]⟩ : ByteArray).toList) = false := by
  rw [show (⟨#[]⟩ : ByteArray) = ⟨([] : List UInt8).toArray⟩ from rfl, str_beq]
  apply beq_false_of_ne
  intro q
  have h1 := congrArg List.length q
  simp [leB_len] at h1
set_option maxRecDepth 100000 in
set_option maxHeartbeats 4000000 in
theorem slots_Put (a : Option Addr) (c : Nat) (S : List (Nat × Nat × Nat)) (w : World) (hS : SlotsOk S) (h : Sts rsC w (.slice a S.length c) S) :
    Calls Tryz.prog 23 #[.slice a S.length c] w (RetS (fun w' r => ∃ p c, r = .tuple #[.slice p 244 c, .int .i64 0] ∧ w'.ownsRow w.heap.size 5 1 (.slice p 244 c) 244 ((idxB S).map bv)) w) := by
 have h15 := hS.1
 refine zin 39 Tryz.func23 ?_
 refine xk 14 (show (decide ((↑S.length : Int) > (15 : Int)) : Bool) = false from decide_eq_false (by omega)) ?_
 refine xbs 7 1 [.int .i64 4, .int .i64 (↑S.length : Int)] 89 fun b1 W1 n1 => ?_
 refine xc 0 (args := #[.slice (some ⟨b1, 0, none⟩) 1 1]) (Pack_4 b1 (↑S.length : Int) (by omega) (by omega) _ n1.blk) ?_
 rintro _ W2 ⟨_, rfl, hb2, p2, c2, rfl, h2⟩
 have h2'1 := own_mono h2 n1.below.size
 have hB := Bl.next n1.below hb2
 have k1'1 := n1.blk.below hb2
 refine zl 16 39 (fun zm zkv V => ∃ (i : Nat) (p4 : Option Addr) (c4 : Nat), zkv = [(4, .slice p4 (4 + i * 16) c4), (20, .slice a S.length c), (21, .int .i64 (↑S.length : Int)), (22, .int .i64 (↑i : Int))] ∧ zm = S.length - ((↑i : Int)).toNat ∧ Below w.heap.size w V ∧ Blk V b1 ([.int .i64 4, .int .i64 (↑S.length : Int)]) 89 ∧ V.ownsRow w.heap.size 5 1 (.slice p4 (4 + i * 16) c4) (4 + i * 16) ((idxP S i).map bv) ∧ i ≤ S.length) ⟨0, p2, c2, rfl, rfl, hB, k1'1, (by simpa [idxP] using h2'1), Nat.zero_le _⟩ ?_
 rintro _ _ W3 ⟨i, p4, c4, rfl, rfl, hB_3, k3_b1, ho, hi⟩ J3 hJ3 r3
 refine xid 6 ((↑i : Int) < (↑S.length : Int)) (fun hc4 => ?_) (fun hc4 => ?_)
 · refine xx 6 _ S.length i 3 (Sts.cell h rsC_len rsD (k := i) (i := 0) (by omega) rfl).1 ?_
   refine xlv 0 (Sts.rp (k := i) (h.below hB_3) rsC_len rsD (by omega) (by decide)) ?_
   refine xa 0 [.int .i64 0, .int .i64 0, .int .i64 0] 39 fun b5 W5 n5 => ?_
   have g5 := n5.ge hB_3
   refine xsv 0 n5.blk [.int .i64 (↑(S.getD i rsD).1 : Int), .int .i64 (↑(S.getD i rsD).2.1 : Int), .int .i64 (↑(S.getD i rsD).2.2 : Int)] fun W6 u6 k6 => ?_
   refine xlv 4 k6.rp ?_
   refine xr 0 (args := #[.agg #[.int .i64 (↑(S.getD i rsD).1 : Int), .int .i64 (↑(S.getD i rsD).2.1 : Int), .int .i64 (↑(S.getD i rsD).2.2 : Int)]]) (value_Slot (↑(S.getD i rsD).1 : Int) (↑(S.getD i rsD).2.1 : Int) (↑(S.getD i rsD).2.2 : Int) (by have := hS.2 i (by omega); omega) (by have := hS.2 i (by omega); omega) (by omega) (by have := hS.2 i (by omega); omega) (by omega) (by have := hS.2 i (by omega); omega) _) fun W7 hb7 => ?_
   refine xk 10 (show (((⟨(leB (↑(S.getD i rsD).1 : Int) 8 ++ leB (↑(S.getD i rsD).2.1 : Int) 4 ++ leB (↑(S.getD i rsD).2.2 : Int) 4).toArray⟩ : ByteArray).toList == (⟨#[]⟩ : ByteArray).toList) : Bool) = false from slB_ne _) ?_
   have ho'1 := own_below (u6.own2 (own_below ho n5.below) n5.blk (by decide)) hb7
   have hB'1 := Bl.next (u6.below (Bl.next hB_3 n5.below) g5) hb7
   refine xbi 5 (t2 := 9) fun _ _ _ _ zJ zQ zo zx zy zK => op_appS (leB (↑(S.getD i rsD).1 : Int) 8 ++ leB (↑(S.getD i rsD).2.1 : Int) 4 ++ leB (↑(S.getD i rsD).2.2 : Int) 4) ((4 + (i + 1) * 16)) ((idxP S (i + 1)).map bv) zo Tryz.underlying45 Tryz.underlying9 (by kernel_rfl) zx ho'1 zy (by simp [leB_len]; omega) hB'1.size (by simp [leB_len]; omega) (by simp [idxP_succ, slB]) fun px8 cx8 W8 o8 hg8 hb8 => ?_
   refine zK _ _ ?_
   refine xwm 5 ((↑i : Int) + 1) (↑(i + 1) : Int) ?_
   have hB'2 := hB'1.trans hb8
   have k3_b1'1 := ((u6.blkT (k3_b1.below n5.below) n5.blk (by decide)).below hb7).grown hg8 ho'1 (by decide)
   exact ze 2 (hJ3 _ _ _ ⟨i + 1, _, _, rfl, rfl, hB'2, k3_b1'1, o8, by omega⟩ (by omega))
 refine xwm 10 (244 - (↑(4 + i * 16) : Int)) (↑(244 - (4 + i * 16)) : Int) ?_
 refine xbi 0 (t2 := 3) fun _ _ _ _ zJ zQ zo zx zy zK => op_appZo (kq := .i64) (244 - (4 + i * 16)) (244) ((idxB S).map bv) zo Tryz.underlying45 Tryz.underlying3 (by kernel_rfl) zx ho zy (by omega) (by omega) hB_3.size (by omega) (by rw [show i = S.length by omega]; unfold idxB; rw [List.map_append, List.map_replicate]; rfl) fun px9 cx9 W9 o9 hg9 hb9 => ?_
 refine zK _ _ ?_
 have hB'3 := hB_3.trans hb9
 exact xe 5 (.tuple #[.slice px9 244 cx9, .int .i64 0]) ⟨_, rfl, hB'3, _, _, rfl, o9⟩
end Go.Proofs.YtbhjgcokpmiopaaGreat
namespace Go.Proofs.YtbhjgcokpmiopaaGreat
open Go.RowKit Go.Extern.Stop Go.Stop Go.Extern
set_option linter.unusedVariables false
attribute [local irreducible] wpList wpAnyH Code.wp Oper.wp Go

end Go.Proofs.YtbhjgcokpmiopaaGreat
namespace Go.Proofs.YtbhjgcokpmiopaaGreat
open Go.RowKit Go.Extern.Stop Go.Stop Go.Extern
set_option linter.unusedVariables false
attribute [local irreducible] wpList wpAnyH Code.wp Oper.wp Go

/-- bytes out of a string stand wherever blocks of their type are not written -/
def KeptB (W : World) (v : Value) (l : List UInt8) : Prop := ∀ T W', Only T W W' → T.contains 5 = false → Bys W' v l
theorem op_strKeep {P : Program} {a : Act} {w : World} {K : Act → World → Prop} {Q : Exit → Act → World → Prop} {o : Oper} {src dst : TypeId} {x : Operand} (l : List UInt8) (ho : o.op = .convert src dst x) (hx : a.eval x = .string ⟨l.toArray⟩)
    (hs : P.underlying src = some .string) (hd : P.underlying dst = some (.slice 5)) (he : P.underlying 5 = some (.int .u8)) (hl : l.length ≤ 1000000)
    (k : ∀ b c W, Below w.heap.size w W → KeptB W (.slice (some ⟨b, 0, none⟩) l.length c) l → K (a.put o.dst (.slice (some ⟨b, 0, none⟩) l.length c)) W) : o.wp P a w K Q := by
  have hr := run_bytes_of_string (P := P) w src dst 5 ⟨l.toArray⟩ hs hd he
  have hsz : (⟨l.toArray⟩ : ByteArray).size = l.length := by simp [ByteArray.size]
  rw [hsz] at hr
  obtain ⟨W1, hW1⟩ : ∃ W1, W1 = w.drew.alloc (.cells (bytesRow ⟨l.toArray⟩ (grownCap w l.length 0 5)) 5 ((bytesRow ⟨l.toArray⟩ (grownCap w l.length 0 5)).size, (bytesRow ⟨l.toArray⟩ (grownCap w l.length 0 5)).size + 1)) := ⟨_, rfl⟩
  rw [← hW1] at hr
  have h2 : (execOp a.eval o).run P w = .ok (.value (.slice (some ⟨w.heap.size, 0, none⟩) l.length (grownCap w l.length 0 5))) W1 := by
    simp only [execOp, ho, hx, Sem.run_bind, hr]; rfl
  refine op_val h2 (k _ _ _ (by rw [hW1]; exact (below_drew w).trans (show Below w.drew.heap.size w.drew _ from Bl.box w.drew _)) (fun T W' hO hT => .inr ⟨w.heap.size, 0, _, rfl, grownCap_ge w l.length 0 _, grownCap_le_maxLen w l.length 0 _ (by unfold maxLen; omega), fun j y hj => ?_⟩))
  have hjl : j < l.length := by have := (List.getElem?_eq_some_iff.1 hj).1; simpa using this
  have hb := bytesRow_at ⟨l.toArray⟩ (grownCap w l.length 0 5) j (by simpa using hjl)
  have hy : y = .int .u8 ((l.toArray[j]'(by simpa using hjl)).toNat : Int) := by
    rw [List.getElem?_map, List.getElem?_eq_getElem hjl] at hj
    simp only [Option.map_some, Option.some.injEq] at hj
    rw [← hj]; rfl
  have hh : W1.heap[w.heap.size]? = some (.cells (bytesRow ⟨l.toArray⟩ (grownCap w l.length 0 5)) 5 ((bytesRow ⟨l.toArray⟩ (grownCap w l.length 0 5)).size, (bytesRow ⟨l.toArray⟩ (grownCap w l.length 0 5)).size + 1)) := by rw [hW1]; exact heap_alloc_new w.drew _
  have hh' := hO _ _ _ _ hh hT
  rw [hy]
  simp [World.cell?, hh', hb]
end Go.Proofs.YtbhjgcokpmiopaaGreat
namespace Go.Proofs.YtbhjgcokpmiopaaGreat
open Go.RowKit Go.Extern.Stop Go.Stop Go.Extern
set_option linter.unusedVariables false
attribute [local irreducible] wpList wpAnyH Code.wp Oper.wp Go

/-- the first n numbers from f on counted once more -/
def bumpL (l : List Int) (f n : Nat) : List Int := (List.range l.length).map fun i => l.getD i 0 + (if f ≤ i ∧ i < f + n then 1 else 0)
theorem bumpL_len (l : List Int) (f n : Nat) : (bumpL l f n).length = l.length := by simp [bumpL]
theorem bumpL_get {l : List Int} {f n i : Nat} (h : i < l.length) : (bumpL l f n).getD i 0 = l.getD i 0 + (if f ≤ i ∧ i < f + n then 1 else 0) := by simp [bumpL, List.getD, List.getElem?_range h]
theorem bumpL_zero (l : List Int) (f : Nat) : bumpL l f 0 = l := by
  apply List.ext_getElem (by simp [bumpL])
  intro i h1 h2
  simp [bumpL, List.getD, h2]
  omega
theorem bumpL_set {l : List Int} {f j : Nat} (h : f + j < l.length) : ((bumpL l f j).map (Value.int .i64)).set (f + j) (.int .i64 (l.getD (f + j) 0 + 1)) = (bumpL l f (j + 1)).map (Value.int .i64) := by
  apply List.ext_getElem?
  intro i
  by_cases hi : i < l.length
  · by_cases e : f + j = i
    · subst e
      rw [List.getElem?_set_self (by simp [bumpL_len]; exact h)]
      simp [bumpL, List.getElem?_range h]
    · rw [List.getElem?_set_ne e]
      have hc : (f ≤ i ∧ i < f + j) ↔ (f ≤ i ∧ i < f + (j + 1)) := by omega
      simp only [bumpL, List.getElem?_map, List.getElem?_range hi, Option.map_some]
      by_cases q : f ≤ i ∧ i < f + j
      · rw [if_pos q, if_pos (hc.1 q)]
      · rw [if_neg q, if_neg (fun z => q (hc.2 z))]
  · rw [List.getElem?_eq_none (by simp [bumpL_len]; omega), List.getElem?_eq_none (by simp [bumpL_len]; omega)]
def FreeOk (l : List Int) (f : Int) : Prop := ∀ i, i < l.length → (f ≤ (i : Int) → l.getD i 0 = 0) ∧ l.getD i 0 ≤ 1073741824
theorem bumpL_ok {l : List Int} {f n : Nat} (h : FreeOk l (f : Int)) (hc : ∀ k, k < l.length → cntOk (l.getD k 0)) : ∀ k, k < (bumpL l f n).length → cntOk ((bumpL l f n).getD k 0) := by
  intro k hk
  rw [bumpL_len] at hk
  rw [bumpL_get hk]
  have h1 := (h k hk).2
  have h2 := hc k hk
  unfold cntOk at h2 ⊢
  split <;> omega
end Go.Proofs.YtbhjgcokpmiopaaGreat
namespace Go.Proofs.YtbhjgcokpmiopaaGreat
open Go.RowKit Go.Extern.Stop Go.Stop Go.Extern
set_option linter.unusedVariables false
attribute [local irreducible] wpList wpAnyH Code.wp Oper.wp Go

def needM (l : List Int) : Nat := nodN 5 (overK l l.length).length + bmN l.length + 1
theorem ahead_elem {w : World} {b : Option Addr} {n c f N k i : Nat} (h : Sl w (.slice b n c) n ((((rngJ f N).drop k).take n).map (Value.int .i64))) (hn : k + n ≤ N) (hi : i < n) : b.isSome = true ∧ w.cell? (elemAddr b (i * 1)) = some (.int .i64 ((f + k + i : Nat) : Int)) := by
  have hlen : (((rngJ f N).drop k).take n).length = n := by simp [rngJ]; omega
  have h1 := IntsN.elem h hlen hi
  have e : (((rngJ f N).drop k).take n).getD i 0 = ((f + k + i : Nat) : Int) := by
    have h2 := rngJ_get (f := f) (N := N) (k := k + i) (by omega)
    rw [← Nat.add_assoc] at h2
    rw [← h2]
    simp only [List.getD, List.getElem?_take, List.getElem?_drop, if_pos hi]
  rwa [e] at h1
/-- what Meta lays, and the two numbers -/
def metaB (l : List Int) (f k0 : Nat) (bs : List UInt8) : Int × Int × List UInt8 := (((f + k0 + (nodN 5 (overK l l.length).length) + (bmN (bumpL l (f + k0) (needM l)).length)) : Nat), (treeB 5 (overK l l.length) (f + k0) bs).1, putB (cntsB (chunksI (smallL (bumpL l (f + k0) (needM l))) (bmN (bumpL l (f + k0) (needM l)).length)) (f + k0 + (nodN 5 (overK l l.length).length)) (treeB 5 (overK l l.length) (f + k0) bs).2 (bmN (bumpL l (f + k0) (needM l)).length)) ((f + k0 + (nodN 5 (overK l l.length).length) + (bmN (bumpL l (f + k0) (needM l)).length)) * 256) (sealB 4 (((f + k0 + (nodN 5 (overK l l.length).length) + (bmN (bumpL l (f + k0) (needM l)).length)) : Nat) : Int) (idxB (Rs (chunksI (smallL (bumpL l (f + k0) (needM l))) (bmN (bumpL l (f + k0) (needM l)).length)) (f + k0 + (nodN 5 (overK l l.length).length)) (bmN (bumpL l (f + k0) (needM l)).length)))))
theorem needM_nb (l : List Int) (q n : Nat) : bmN (bumpL l q n).length = bmN l.length := by rw [bumpL_len]
theorem bump_elem {w : World} {b : Option Addr} {n c q i : Nat} {l : List Int} (h : Sl w (.slice b n c) n ((bumpL l q i).map (Value.int .i64))) (hn : l.length = n) (hi : q + i < n) : b.isSome = true ∧ w.cell? (elemAddr b ((q + i) * 1)) = some (.int .i64 (l.getD (q + i) 0)) := by
  have h1 := IntsN.elem h (by rw [bumpL_len]; exact hn) hi
  rw [bumpL_get (by omega), if_neg (by omega), Int.add_zero] at h1
  exact h1
end Go.Proofs.YtbhjgcokpmiopaaGreat
namespace Go.Proofs.YtbhjgcokpmiopaaGreat
open Go.RowKit Go.Extern.Stop Go.Stop Go.Extern
set_option linter.unusedVariables false
attribute [local irreducible] wpList wpAnyH Code.wp Oper.wp Go

section
variable {P : Program} {a : Act}
theorem shl_bd {n : Int} (h : 0 ≤ n ∧ n ≤ 3) {s : Nat} (hs : s ≤ 6) : 0 ≤ n * 2 ^ s ∧ n * 2 ^ s ≤ 192 := by
  obtain rfl | rfl | rfl | rfl : n = 0 ∨ n = 1 ∨ n = 2 ∨ n = 3 := by omega
  all_goals obtain rfl | rfl | rfl | rfl | rfl | rfl | rfl : s = 0 ∨ s = 1 ∨ s = 2 ∨ s = 3 ∨ s = 4 ∨ s = 5 ∨ s = 6 := by omega
  all_goals decide
theorem run_shlS {o : Oper} {t t2 : TypeId} {x y : Operand} {n : Int} {s : Nat} {j : Int} {kj : IntKind} (ho : o.op = .binOp .shl t x y t2) (hx : a.eval x = .int .i64 n) (hy : a.eval y = .int kj j) (hj : j = (s : Int)) (hn : 0 ≤ n ∧ n ≤ 3) (hs : s ≤ 6) (w : World) : (execOp a.eval o).run P w = .ok (.value (.int .i64 (n * 2 ^ s))) w := by
  subst hj
  have e := shift_shl .i64 kj n (s : Int) (Int.natCast_nonneg s) (by show (s : Int) ≤ 64; omega)
  rw [show ((s : Int)).toNat = s from by omega] at e
  have hb := shl_bd hn hs
  rw [IntWalk.i64_in _ (by omega)] at e
  simp only [execOp, ho, hx, hy, eqGuard_shl, binOp_shl, e]
  simp
end
section
variable {P : Program} {fn : Func} {R : Ending → World → Prop} {w : World} {s : Zs}
theorem xbot (q : Zq) {b : BinOp} {t t2 : TypeId} {u1 u2 v : Value} (hv : ∀ (a : Act) (o : Oper) (x y : Operand), o.op = .binOp b t x y t2 → a.eval x = u1 → a.eval y = u2 → ∀ V, True → (execOp a.eval o).run P V = .ok (.value v) V) (g : Go P fn R (znx (zq P q s) v) w) (h : zk (zq P q s) = some (.bn b t t2 u1 u2) := by kernel_rfl) : Go P fn R s w := by
  refine zq_sound q s ?_
  obtain ⟨o, ho, h⟩ := zop_of h
  exact zgov ho (fun V _ => by
    obtain ⟨x, y, h1, h2, h3⟩ := zkf_ok h
    exact hv _ o x y h1 h2 h3 V trivial) g
end
theorem u8_shl {n : Int} (h : 0 ≤ n ∧ n ≤ 3) {s : Nat} (hs : s ≤ 6) : IntKind.u8.wrap (n * 2 ^ s) = n * 2 ^ s := by
  have hb := shl_bd h hs
  generalize n * 2 ^ s = m at *
  simp [IntKind.wrap, IntKind.bits, IntKind.signed]; omega
theorem bitsT_at (l : List Int) (i : Nat) {k : Nat} (hk : k < 240) : (bitsT l i).getD (4 + k) 0 = g4B l i k := by
  unfold bitsT
  rw [List.getD, List.getElem?_append_right (by rw [leB_len]; omega), leB_len, Nat.add_sub_cancel_left]
  simp [hk]
theorem bits_or {l : List Int} (h : Small l) {i : Nat} (hi : i < 960) : IntKind.u8.wrap (↑(BitVec.ofInt 8 (↑((bitsT l i).getD (4 + (i / 4)) 0).toNat : Int) ||| BitVec.ofInt 8 (l.getD i 0 * 2 ^ ((i % 4) * 2))).toNat : Int) = ((g4B l (i + 1) (i / 4)).toNat : Int) := by
  rw [bitsT_at l i (by omega)]
  obtain ⟨h1, h2⟩ := g4B_at h (i := i)
  rw [h1]
  obtain ⟨n, hn⟩ : ∃ n : Nat, l.getD i 0 = n := ⟨(l.getD i 0).toNat, by have := (getI_bd h i).1; omega⟩
  have hb := getI_bd h i
  rw [hn] at hb ⊢
  generalize (g4B l i (i / 4)).toNat = o at *
  have hr : i % 4 < 4 := by omega
  generalize i % 4 = r at *
  have ho : o < 64 := Nat.lt_of_lt_of_le h2 (by obtain rfl | rfl | rfl | rfl : r = 0 ∨ r = 1 ∨ r = 2 ∨ r = 3 := by omega
                                                all_goals decide)
  have hs := or_step ⟨r, hr⟩ ⟨n, by omega⟩ ⟨o, ho⟩ h2
  simp only at hs
  have e4 : (4 : Nat) ^ r = 2 ^ (r * 2) := by rw [Nat.mul_comm, Nat.pow_mul]
  have e : ((n : Int) * 2 ^ (r * 2)) = ((n * 4 ^ r : Nat) : Int) := by rw [e4]; simp
  have e' : ((n : Int) * 4 ^ r) = ((n * 4 ^ r : Nat) : Int) := by simp
  have hm : n * 4 ^ r ≤ 192 := by
    have h3 : 4 ^ r ≤ 64 := by obtain rfl | rfl | rfl | rfl : r = 0 ∨ r = 1 ∨ r = 2 ∨ r = 3 := by omega
                               all_goals decide
    calc n * 4 ^ r ≤ 3 * 64 := Nat.mul_le_mul (by omega) h3
      _ = 192 := rfl
  rw [e, e', BitVec.ofInt_natCast, BitVec.ofInt_natCast, BitVec.toNat_or, BitVec.toNat_ofNat, BitVec.toNat_ofNat, Nat.mod_eq_of_lt (by omega), Nat.mod_eq_of_lt (by omega), hs]
  generalize n * 4 ^ r = m at *
  simp [IntKind.wrap, IntKind.bits, IntKind.signed]; omega
theorem bits_set {l : List Int} {i : Nat} (hi : i < 960) : ((bitsT l i).map bv).set (4 + (i / 4)) (.int .u8 ((g4B l (i + 1) (i / 4)).toNat : Int)) = (bitsT l (i + 1)).map bv := by
  rw [show Value.int .u8 ((g4B l (i + 1) (i / 4)).toNat : Int) = bv (g4B l (i + 1) (i / 4)) from rfl, ← List.map_set]
  congr 1
  unfold bitsT
  rw [List.set_append_right _ _ (by rw [leB_len]; omega), leB_len, Nat.add_sub_cancel_left]
  congr 1
  apply List.ext_getElem
  · simp
  · intro k h1 h2
    rw [List.getElem_set]
    split
    · rename_i e; subst e; simp
    · rename_i e; simp only [List.getElem_map, List.getElem_range]; unfold g4B; rw [g4_ne (by omega)]
set_option maxRecDepth 100000 in
theorem bits0 (l : List Int) : ((List.replicate 244 (0 : UInt8)).map bv).take 0 ++ (leB (↑l.length : Int) 4).map bv ++ ((List.replicate 244 (0 : UInt8)).map bv).drop (0 + 4) = (bitsT l 0).map bv := by
  unfold bitsT
  rw [List.map_append, List.take_zero, List.nil_append]
  congr 1
theorem BysN.elem {w : World} {b : Option Addr} {n c : Nat} {l : List UInt8} (h : Sl w (.slice b n c) n (l.map bv)) (hl : l.length = n) {k : Nat} (hk : k < n) : b.isSome = true ∧ w.cell? (elemAddr b (k * 1)) = some (.int .u8 ((l.getD k 0).toNat : Int)) := by
  subst hl; exact Bys.elem (bys_of h rfl) hk
set_option maxRecDepth 100000 in
set_option maxHeartbeats 1000000 in
theorem bits_put1 (n : Int) (w : World) (h0 : 0 ≤ n) (h3 : n ≤ 3) :
    Calls Tryz.prog 64 #[.int .i64 n] w (Ret (.bool false) w) := by
 refine zin 9 Tryz.func64 ?_
 refine xgk 10 [4, 5] (show (decide (n < (0 : Int)) : Bool) = false from decide_eq_false (by omega)) ?_
 refine xe 7 (.bool (decide (n > (3 : Int)))) ?_
 rw [show decide (n > (3 : Int)) = false from decide_eq_false (by omega)]; exact ⟨rfl, (Below.refl w.heap.size _)⟩
set_option maxRecDepth 100000 in
set_option maxHeartbeats 1000000 in
theorem indexSmall (a : Option Addr) (c : Nat) (l : List Int) (w : World) (hS : Small l) (hl : l.length ≤ 960) (h : Sl w (.slice a l.length c) l.length (l.map (Value.int .i64))) :
    Calls Tryz.prog 91 #[.slice a l.length c, .func (.func 64) #[] #[]] w (Ret (.int .i64 (-1)) w) := by
 refine zin 19 Tryz.func91 ?_
 have hB := Below.refl w.heap.size w
 refine zl 14 19 (fun zm zkv V => ∃ (i : Nat), zkv = [(0, .slice a l.length c), (1, .func (.func 64) #[] #[]), (7, .int .i64 (↑l.length : Int)), (8, .int .i64 (↑i : Int))] ∧ zm = l.length - ((↑i : Int)).toNat ∧ Below w.heap.size w V ∧ i ≤ l.length) ⟨0, rfl, rfl, hB, Nat.zero_le _⟩ ?_
 rintro _ _ W1 ⟨i, rfl, rfl, hB_1, hi⟩ J1 hJ1 r1
 refine xid 6 ((↑i : Int) < (↑l.length : Int)) (fun hc2 => ?_) (fun hc2 => ?_)
 · refine xx 15 _ l.length i 1 (Ints.elem h (k := i) (by omega)).1 ?_
   refine xl 0 ((Ints.elem (h.below hB_1) (k := i) (by omega)).2) ?_
   refine xr 0 (args := #[.int .i64 (l.getD i 0)]) (bits_put1 (l.getD i 0) _ (getI_bd hS i).1 (getI_bd hS i).2) fun W3 hb3 => ?_
   refine xwm 7 ((↑i : Int) + 1) (↑(i + 1) : Int) ?_
   have hB'1 := Bl.next hB_1 hb3
   exact ze 2 (hJ1 _ _ _ ⟨i + 1, rfl, rfl, hB'1, by omega⟩ (by omega))
 exact xe 11 (.int .i64 (-1)) ⟨rfl, hB_1⟩
set_option maxRecDepth 100000 in
set_option maxHeartbeats 1000000 in
theorem containsSmall (a : Option Addr) (c : Nat) (l : List Int) (w : World) (hS : Small l) (hl : l.length ≤ 960) (h : Sl w (.slice a l.length c) l.length (l.map (Value.int .i64))) :
    Calls Tryz.prog 63 #[.slice a l.length c, .func (.func 64) #[] #[]] w (Ret (.bool false) w) := by
 refine zin 9 Tryz.func63 ?_
 refine xr 9 (args := #[.slice a l.length c, .func (.func 64) #[] #[]]) (indexSmall a c l _ hS hl (h.below (Below.refl w.heap.size _))) fun W1 hb1 => ?_
 exact xe 5 (.bool false) ⟨rfl, hb1⟩
set_option maxRecDepth 100000 in
set_option maxHeartbeats 2000000 in
theorem bits_Free (a : Option Addr) (c : Nat) (l : List Int) (w : World) (hl : l.length ≤ 960) (h : Sl w (.slice a l.length c) l.length (l.map (Value.int .i64))) :
    Calls Tryz.prog 40 #[.slice a l.length c] w (Ret (.tuple #[.int .i64 (↑(freeN l) : Int), .int .i64 (↑(firstN l) : Int)]) w) := by
 refine zin 27 Tryz.func40 ?_
 have hB := Below.refl w.heap.size w
 refine zl 23 27 (fun zm zkv V => ∃ (i f g : Nat), zkv = [(2, .int .i64 0), (3, .int .i64 0), (4, .int .i64 (↑f : Int)), (5, .int .i64 (↑g : Int)), (10, .slice a l.length c), (11, .int .i64 (↑l.length : Int)), (12, .int .i64 (↑i : Int))] ∧ zm = l.length - ((↑i : Int)).toNat ∧ Below w.heap.size w V ∧ i ≤ l.length ∧ f = freeK l i ∧ ((f = 0 ∧ g = l.length ∧ ∀ j, j < i → l.getD j 0 ≠ 0) ∨ (0 < f ∧ g = firstN l))) ⟨0, 0, l.length, rfl, rfl, hB, Nat.zero_le _, rfl, ?_⟩ ?_
 · exact .inl ⟨rfl, rfl, fun j hj => absurd hj (by omega)⟩
 rintro _ _ W1 ⟨i, f, g, rfl, rfl, hB_1, hi, hf, hg⟩ J1 hJ1 r1
 have hfs := fun (q : i < l.length) => freeK_succ q
 have hfb := freeK_le l i
 refine xid 6 ((↑i : Int) < (↑l.length : Int)) (fun hc2 => ?_) (fun hc2 => ?_)
 · refine xx 7 _ l.length i 1 (Ints.elem h (k := i) (by omega)).1 ?_
   refine xl 0 ((Ints.elem (h.below hB_1) (k := i) (by omega)).2) ?_
   refine xin 11 (l.getD i 0) (0 : Int) (fun hc3 => ?_) (fun hc3 => ?_)
   · refine xwm 5 ((↑i : Int) + 1) (↑(i + 1) : Int) ?_
     exact ze 2 (hJ1 _ _ _ ⟨i + 1, f, g, rfl, rfl, hB_1, by omega, by rw [hfs (by omega), if_neg (by assumption)]; exact hf, hg.elim (fun ⟨h1, h2, h3⟩ => .inl ⟨h1, h2, fun j hj => (Nat.lt_or_ge j i).elim (fun q => h3 j q) (fun q => by obtain rfl : j = i := (by omega); assumption)⟩) .inr⟩ (by omega))
   refine xie 9 (↑f : Int) (0 : Int) (fun hc4 => ?_) (fun hc4 => ?_)
   · refine xwm 7 ((↑f : Int) + 1) (↑(f + 1) : Int) ?_
     refine xwm 5 ((↑i : Int) + 1) (↑(i + 1) : Int) ?_
     exact ze 2 (hJ1 _ _ _ ⟨i + 1, f + 1, i, rfl, rfl, hB_1, by omega, by rw [hfs (by omega), if_pos (by assumption), hf], .inr ⟨by omega, hg.elim (fun ⟨_, _, h3⟩ => (firstN_at (by omega) (by assumption) h3).symm) (fun q => absurd q.1 (by omega))⟩⟩ (by omega))
   refine xwm 4 ((↑f : Int) + 1) (↑(f + 1) : Int) ?_
   refine xwm 5 ((↑i : Int) + 1) (↑(i + 1) : Int) ?_
   exact ze 2 (hJ1 _ _ _ ⟨i + 1, f + 1, g, rfl, rfl, hB_1, by omega, by rw [hfs (by omega), if_pos (by assumption), hf], .inr ⟨by omega, hg.elim (fun ⟨h1, _, _⟩ => absurd h1 (by omega)) (fun q => q.2)⟩⟩ (by omega))
 refine xe 14 (.tuple #[.int .i64 (↑f : Int), .int .i64 (↑g : Int)]) ?_
 obtain rfl : i = l.length := by omega
 have hfin : f = freeN l := hf
 rcases hg with ⟨h1, h2, h3⟩ | ⟨h1, h2⟩
 · exact ⟨by rw [hfin, h2, firstN_none h3], hB_1⟩
 · exact ⟨by rw [hfin, h2], hB_1⟩
set_option maxRecDepth 100000 in
set_option maxHeartbeats 4000000 in
theorem bits_Put (a : Option Addr) (c : Nat) (l : List Int) (w : World) (hS : Small l) (hl : l.length ≤ 960) (h : Sl w (.slice a l.length c) l.length (l.map (Value.int .i64))) :
    Calls Tryz.prog 39 #[.slice a l.length c] w (RetS (fun w' r => ∃ g, r = .tuple #[.slice (some ⟨g, 0, none⟩) 244 244, .int .i64 0] ∧ w'.ownsRow w.heap.size 5 1 (.slice (some ⟨g, 0, none⟩) 244 244) 244 ((bitsB l).map bv)) w) := by
 refine zin 51 Tryz.func39 ?_
 refine xgk 13 [11, 12] (show (decide ((↑l.length : Int) > (960 : Int)) : Bool) = false from decide_eq_false (by omega)) ?_
 refine xr 1 (args := #[.slice a l.length c, .func (.func 64) #[] #[]]) (containsSmall a c l _ hS hl (h.below (Below.refl w.heap.size _))) fun W2 hb2 => ?_
 refine xbs 11 1 [.int .i64 4, .int .i64 (↑l.length : Int)] 89 fun b3 W3 n3 => ?_
 refine xc 0 (args := #[.slice (some ⟨b3, 0, none⟩) 1 1]) (Pack_4 b3 (↑l.length : Int) (by omega) (by omega) _ n3.blk) ?_
 rintro _ W4 ⟨_, rfl, hb4, p2, c2, rfl, h2⟩
 have hs4 := (Bl.next hb2 n3.below).size
 refine xmk 9 fun _ _ _ _ zJ zQ zo zx zy zK => op_make 244 (.int .u8 0) 1 1 ((List.replicate 244 (0 : UInt8)).map bv) zo zx zy Tryz.underlying45 (by kernel_rfl) rfl (by omega) (by omega) (zerosB 244) fun b5 W5 n5 => ?_
 have h2'1 := own_mono h2 hs4
 have r5_h2 := own_ne h2'1 n5
 refine zK _ _ ?_
 have o5 := own_of_blk (size := 1) (n := 244) n5.blk (n5.ge (Bl.next (Bl.next hb2 n3.below) hb4)) (by rw [List.length_map, List.length_replicate]) (by unfold maxLen; omega)
 have h2'2 := own_below h2'1 n5.below
 have hB := Bl.next (Bl.next (Bl.next hb2 n3.below) hb4) n5.below
 refine xbi 7 (t2 := 45) fun _ _ _ _ zJ zQ zo zx zy zK => op_copy (dLen := 244) (dCap := 244) (off := 0) 4 ((leB (↑l.length : Int) 4).map bv) ((bitsT l 0).map bv) zo Tryz.underlying45 (by kernel_rfl) zx zy (own_sl h2'2) o5 (by simp [leB_len]) (by omega) (by omega) (bv_one _) hB.size (bits0 l) fun W6 o6 hg6 hb6 => ?_
 refine zK _ _ ?_
 have hB'1 := hB.trans hb6
 have k3'1 := ((n3.blk.below hb4).below n5.below).grown hg6 o5 (by decide)
 refine zl 11 51 (fun zm zkv V => ∃ (i : Nat), zkv = [(2, .slice none 0 0), (3, .int .i64 0), (6, .slice (some ⟨b5, 0, none⟩) 244 244), (28, .slice a l.length c), (29, .int .i64 (↑l.length : Int)), (30, .int .i64 (↑i : Int))] ∧ zm = l.length - ((↑i : Int)).toNat ∧ Below w.heap.size w V ∧ Blk V b3 ([.int .i64 4, .int .i64 (↑l.length : Int)]) 89 ∧ V.ownsRow w.heap.size 5 1 (.slice (some ⟨b5, 0, none⟩) 244 244) 244 ((bitsT l i).map bv) ∧ i ≤ l.length) ⟨0, rfl, rfl, hB'1, k3'1, o6, Nat.zero_le _⟩ ?_
 rintro _ _ W7 ⟨i, rfl, rfl, hB_7, k7_b3, ho, hi⟩ J7 hJ7 r7
 refine xid 6 ((↑i : Int) < (↑l.length : Int)) (fun hc8 => ?_) (fun hc8 => ?_)
 · refine xx 7 _ l.length i 1 (Ints.elem h (k := i) (by omega)).1 ?_
   refine xl 0 ((Ints.elem (h.below hB_7) (k := i) (by omega)).2) ?_
   refine xd 4 (.t w.heap.size [5]) ?_
   refine xq (.e [0, 1] 2) (congrArg (Value.int .i64) (show (IntKind.i64.wrap (Int.tdiv (↑i : Int) 4) : Int) = (↑(i / 4) : Int) from quo_natB i 4 (by omega) (by decide))) ?_
   refine xwm (.e [] 3) (4 + (↑(i / 4) : Int)) (↑(4 + (i / 4)) : Int) ?_
   refine xx (.e [] 4) _ 244 (4 + (i / 4)) 1 (show (some (⟨b5, 0, none⟩ : Addr)).isSome = true from rfl) ?_
   refine xq (.e [6, 7] 8) (congrArg (Value.int .i64) (show (Int.tmod (↑i : Int) 4 : Int) = (↑(i % 4) : Int) from tmod_natB i 4)) ?_
   refine xwm (.e [] 9) ((↑(i % 4) : Int) * 2) (↑((i % 4) * 2) : Int) ?_
   refine xbot (.e [] 10) (t := 3) (t2 := 3) (fun _ _ _ _ zo zx zy V hV => run_shlS (n := (l.getD i 0)) (s := ((i % 4) * 2)) (kj := .i64) (j := (↑((i % 4) * 2) : Int)) zo zx zy rfl (getI_bd hS i) (by omega) V) ?_
   refine xq (.e [] 11) (congrArg (Value.int .u8) (show (IntKind.u8.wrap (l.getD i 0 * 2 ^ ((i % 4) * 2)) : Int) = l.getD i 0 * 2 ^ ((i % 4) * 2) from u8_shl (getI_bd hS i) (by omega))) ?_
   have ho'1 := own_below ho (below_drew W7)
   refine xl (.o [] 5) ((BysN.elem (own_sl ho'1) (bitsT_len l i) (k := (4 + (i / 4))) (by omega)).2) ?_
   refine xq (.e [] 12) (congrArg (Value.int .u8) (show (IntKind.u8.wrap (↑(BitVec.ofInt 8 (↑((bitsT l i).getD (4 + (i / 4)) 0).toNat : Int) ||| BitVec.ofInt 8 (l.getD i 0 * 2 ^ ((i % 4) * 2))).toNat : Int) : Int) = (↑(g4B l (i + 1) (i / 4)).toNat : Int) from bits_or hS (by omega))) ?_
   refine xx (.e [] 13) _ 244 (4 + (i / 4)) 1 (show (some (⟨b5, 0, none⟩ : Addr)).isSome = true from rfl) ?_
   refine yst (.o [] 14) (.t w.heap.size [5]) fun _ _ _ _ zJ zQ zo zx zy zK => op_storeRow (t := 5) (k := (4 + (i / 4))) (v := .int .u8 (↑(g4B l (i + 1) (i / 4)).toNat : Int)) zo zx zy (by kernel_rfl) rfl ho'1 (by omega) fun W9 u9 o9 => ?_
   rw [bits_set (l := l) (i := i) (by omega)] at o9
   have k7_b3'1 := k7_b3.below (below_drew W7)
   refine zK _ _ (sft_only (T := [5]) (u9.below (Below.refl _ _) (own_ge ho'1)) (Only.of_updRow u9 ho'1 (by decide))) ?_
   refine xwm 4 ((↑i : Int) + 1) (↑(i + 1) : Int) ?_
   have hB'2 := u9.below (Bl.next hB_7 (below_drew W7)) (own_ge ho'1)
   have k7_b3'2 := u9.blk k7_b3'1 (own_blk_ne k7_b3'1 ho'1 (by decide))
   exact ze 2 (hJ7 _ _ _ ⟨i + 1, rfl, rfl, hB'2, k7_b3'2, o9, by omega⟩ (by omega))
 refine xe 13 (.tuple #[.slice (some ⟨b5, 0, none⟩) 244 244, .int .i64 0]) ?_
 obtain rfl : i = l.length := by omega
 exact ⟨_, rfl, hB_7, _, rfl, ho⟩
set_option maxRecDepth 100000 in
set_option maxHeartbeats 1000000 in
theorem clone_cnt (p : Addr) (N c : Nat) (xs : List Value) (w : World) (h : Sl w (.slice (some p) N c) N xs) (hl : xs.length = N) (h1 : ∀ u ∈ xs, u.oneCell' = true) (hn : N ≤ 1000000) :
    Calls Tryz.prog 18 #[.slice (some p) N c] w (RetS (fun w' r => ∃ q c2, r = .slice q N c2 ∧ w'.ownsRow w.heap.size 3 1 (.slice q N c2) N xs) w) := by
 refine zin 8 Tryz.func18 ?_
 refine xb0 17 3 fun b1 W1 n1 => ?_
 have o1 := own_of_blk (size := 1) (n := 0) n1.blk (n1.ge (Below.refl w.heap.size _)) rfl (by decide)
 refine xbi 1 fun _ _ _ _ zJ zQ zo zx zy zK => op_app (m := N) (news := xs) (.int .i64 0) 1 8 (N) (xs) zo Tryz.underlying24 (by kernel_rfl) rfl (by decide) zx o1 zy (h.below n1.below) (by rw [hl, Nat.mul_one]) h1 (by unfold maxLen; omega) (by omega) n1.below.size (by omega) (by rfl) fun px2 cx2 W2 o2 hg2 hb2 => ?_
 refine zK _ _ ?_
 have hB'1 := n1.below.trans hb2
 exact xe 4 (.slice px2 N cx2) ⟨_, rfl, hB'1, _, _, rfl, o2⟩
end Go.Proofs.YtbhjgcokpmiopaaGreat
namespace Go.Proofs.YtbhjgcokpmiopaaGreat
open Go.RowKit Go.Extern.Stop Go.Stop Go.Extern
set_option linter.unusedVariables false
attribute [local irreducible] wpList wpAnyH Code.wp Oper.wp Go

def ClosP (B Bx bl : Nat) (L : List (List Int)) (q i : Nat) (w : World) (e : Ending) (w' : World) : Prop :=
  ∃ u p c, e = .returned u ∧ Below B w w' ∧ Only [48, 74] w w' ∧ Blk w' bl [.slice p (i + 1) c] 48 ∧ w'.ownsRow Bx 74 3 (.slice p (i + 1) c) (i + 1) ((slotsE L q (i + 1)).flatMap entC) ∧ FrB Bx [bl] w w'
theorem slots_row (L : List (List Int)) (q i : Nat) : (slotsE L q i).flatMap entC ++ [.int .i64 (i : Int), .string ⟨(leB ((q + i : Nat) : Int) 8 ++ leB (freeN (L.getD i []) : Int) 4 ++ leB (firstN (L.getD i []) : Int) 4).toArray⟩, .int .i64 0] = (slotsE L q (i + 1)).flatMap entC := by
  rw [slotsE_succ]; simp [entC, slotX, slotB]
structure FrZ (Bx : Nat) (S : List Nat) (a w : World) : Prop where
  fr : FrB Bx S a w
  le : Bx ≤ a.heap.size
theorem FrZ.refl {Bx : Nat} {S : List Nat} {w : World} (h : Bx ≤ w.heap.size) : FrZ Bx S w w := ⟨⟨Nat.le_refl _, fun _ _ _ => rfl⟩, h⟩
theorem FrZ.below {Bx : Nat} {S : List Nat} {a w W : World} (h : FrZ Bx S a w) (hb : Below w.heap.size w W) : FrZ Bx S a W := ⟨⟨Nat.le_trans h.fr.1 hb.size, fun k hk hn => (hb.block k (by have := h.fr.1; have := h.le; omega)).trans (h.fr.2 k hk hn)⟩, h.le⟩
theorem FrZ.upd {Bx b : Nat} {S : List Nat} {a w W : World} (h : FrZ Bx S a w) (u : Upd w b W) (hb : b ∈ S) : FrZ Bx S a W := ⟨⟨Nat.le_trans h.fr.1 (Nat.le_of_eq u.size.symm), fun k hk hn => (u.block k fun e => hn (e ▸ hb)).trans (h.fr.2 k hk hn)⟩, h.le⟩
theorem FrZ.grown {Bx : Nat} {S : List Nat} {a w W : World} {size n : Nat} {e : TypeId} {v : Value} {xs : List Value} (h : FrZ Bx S a w) (hg : w.grownBy W v.ownBlock) (hown : w.ownsRow Bx e size v n xs) : FrZ Bx S a W := ⟨⟨Nat.le_trans h.fr.1 hg.size, fun k hk hn => (hg.block k (by have := h.fr.1; have := h.le; omega) (fun e => by have := (hown.lt k e.symm).1; omega)).trans (h.fr.2 k hk hn)⟩, h.le⟩
set_option maxRecDepth 100000 in
set_option maxHeartbeats 4000000 in
theorem plot_data1 (B Bx bl : Nat) (p : Option Addr) (c : Nat) (L : List (List Int)) (q i : Nat) (w : World) (hBm : B ≤ Bx) (hBx : Bx ≤ w.heap.size) (hBw : B ≤ w.heap.size) (hBl : B ≤ bl) (kl : Blk w bl [.slice p i c] 48) (hup : w.ownsRow Bx 74 3 (.slice p i c) i ((slotsE L q i).flatMap entC)) (hq : 1 ≤ q + i) (hq2 : q + i ≤ 14399) (hi : i ≤ 100000) (hf : freeN (L.getD i []) ≤ 960) (hg : firstN (L.getD i []) ≤ 960) :
    Calls Tryz.prog 53 #[.agg #[.int .i64 (↑(q + i) : Int), .int .i64 (↑(freeN (L.getD i [])) : Int), .int .i64 (↑(firstN (L.getD i [])) : Int)], .pointer (some ⟨bl, 0, none⟩)] w (ClosP B Bx bl L q i w) := by
 have hZ : FrZ Bx [bl] w w := FrZ.refl hBx
 refine zin 11 Tryz.func53 ?_
 refine xa 2 [.int .i64 (↑(q + i) : Int), .int .i64 (↑(freeN (L.getD i [])) : Int), .int .i64 (↑(firstN (L.getD i [])) : Int)] 39 fun b1 W1 n1 => ?_
 refine xd 2 (.t B [48, 74]) ?_
 have k1 := n1.blk.below (below_drew W1)
 refine xlvt (.e [] 3) (.t B [48, 74]) (fun V hV => (k1.only hV.2 (by decide)).rp) ?_
 refine xm3 0 0 1 4 ?_ ?_ ?_
 · have kl'1 := (kl.below n1.below).below (below_drew W1)
   refine xb 0 0 kl'1 ?_
   refine xm2 0 1 4 ?_ ?_
   · refine xb 0 0 kl'1 ?_
     refine xr (.o [2] 4) (args := #[.agg #[.int .i64 (↑(q + i) : Int), .int .i64 (↑(freeN (L.getD i [])) : Int), .int .i64 (↑(firstN (L.getD i [])) : Int)]]) (value_Slot (↑(q + i) : Int) (↑(freeN (L.getD i [])) : Int) (↑(firstN (L.getD i [])) : Int) (by omega) (by omega) (by omega) (by omega) (by omega) (by omega) _) fun W2 hb2 => ?_
     refine xbs (.o [5] 6) 1 [.int .i64 (↑i : Int), .string ⟨(leB (↑(q + i) : Int) 8 ++ leB (↑(freeN (L.getD i [])) : Int) 4 ++ leB (↑(firstN (L.getD i [])) : Int) 4).toArray⟩, .int .i64 0] 74 fun b3 W3 n3 => ?_
     have hup'1 := own_below (own_below (own_below hup n1.below) (below_drew W1)) hb2
     have r3_hup := own_ne hup'1 n3
     have hup'2 := own_below hup'1 n3.below
     have hB := Bl.nextB (Bl.nextB (Bl.nextB (Bl.nextB (Below.refl B w) hBw n1.below) hBw (below_drew W1)) hBw hb2) hBw n3.below
     refine ybi (.o [] 7) (.t B [48, 74]) fun _ _ _ _ zJ zQ zo zx zy zK => op_app (m := 1) (news := [.int .i64 (↑i : Int), .string ⟨(leB (↑(q + i) : Int) 8 ++ leB (↑(freeN (L.getD i [])) : Int) 4 ++ leB (↑(firstN (L.getD i [])) : Int) 4).toArray⟩, .int .i64 0]) (.agg #[.int .i64 0, .string ⟨#[]⟩, .int .i64 0]) 3 32 (i + 1) ((slotsE L q (i + 1)).flatMap entC) zo Tryz.underlying48 (by kernel_rfl) rfl (by decide) zx hup'2 zy (n3.blk.sl 1 1 (by decide) (by decide)) rfl (by simp [Value.oneCell']) (by unfold maxLen; omega) (by omega) (Nat.le_trans hBx hB.size) (by rfl) (slots_row L q i) fun px4 cx4 W4 o4 hg4 hb4 => ?_
     refine zK _ _ (sft_grown (hb4.mono hBm) hg4 hup'2 (by decide)) ?_
     have kl'2 := ((kl'1.below hb2).below n3.below).grown hg4 hup'2 (by decide)
     refine ys (.o [] 8) kl'2 [.slice px4 (i + 1) cx4] (.t B [48, 74]) fun W5 u5 k5 => ⟨(sft_upd u5 kl'2 hBl (by decide)), ?_⟩
     have hB'1 := u5.below (hB.trans (hb4.mono hBm)) hBl
     have hO := (((((show Only [48, 74] w _ from (Only.of_below n1.below)).trans (Only.of_below (below_drew W1))).trans (Only.of_below hb2)).trans (Only.of_below n3.below)).trans (Only.of_grown hg4 hup'2 (by decide))).trans (Only.of_upd u5 kl'2 (by decide))
     have o4'1 := u5.own2 o4 kl'2 (by decide)
     have hZ'1 := (((((hZ.below n1.below).below (below_drew W1)).below hb2).below n3.below).grown hg4 hup'2).upd u5 (by simp)
     exact xe 1 (.tuple #[]) ⟨_, _, _, rfl, hB'1, hO, k5, o4'1, hZ'1.fr⟩
   refine xr 0 (args := #[.agg #[.int .i64 (↑(q + i) : Int), .int .i64 (↑(freeN (L.getD i [])) : Int), .int .i64 (↑(firstN (L.getD i [])) : Int)]]) (value_Slot (↑(q + i) : Int) (↑(freeN (L.getD i [])) : Int) (↑(firstN (L.getD i [])) : Int) (by omega) (by omega) (by omega) (by omega) (by omega) (by omega) _) fun W6 hb6 => ?_
   have kl'3 := kl'1.below hb6
   refine xb (.o [] 1) 0 kl'3 ?_
   refine xbs (.o [2, 5] 6) 1 [.int .i64 (↑i : Int), .string ⟨(leB (↑(q + i) : Int) 8 ++ leB (↑(freeN (L.getD i [])) : Int) 4 ++ leB (↑(firstN (L.getD i [])) : Int) 4).toArray⟩, .int .i64 0] 74 fun b7 W7 n7 => ?_
   have hup'3 := own_below (own_below (own_below hup n1.below) (below_drew W1)) hb6
   have r7_hup := own_ne hup'3 n7
   have hup'4 := own_below hup'3 n7.below
   have hB := Bl.nextB (Bl.nextB (Bl.nextB (Bl.nextB (Below.refl B w) hBw n1.below) hBw (below_drew W1)) hBw hb6) hBw n7.below
   refine ybi (.o [] 7) (.t B [48, 74]) fun _ _ _ _ zJ zQ zo zx zy zK => op_app (m := 1) (news := [.int .i64 (↑i : Int), .string ⟨(leB (↑(q + i) : Int) 8 ++ leB (↑(freeN (L.getD i [])) : Int) 4 ++ leB (↑(firstN (L.getD i [])) : Int) 4).toArray⟩, .int .i64 0]) (.agg #[.int .i64 0, .string ⟨#[]⟩, .int .i64 0]) 3 32 (i + 1) ((slotsE L q (i + 1)).flatMap entC) zo Tryz.underlying48 (by kernel_rfl) rfl (by decide) zx hup'4 zy (n7.blk.sl 1 1 (by decide) (by decide)) rfl (by simp [Value.oneCell']) (by unfold maxLen; omega) (by omega) (Nat.le_trans hBx hB.size) (by rfl) (slots_row L q i) fun px8 cx8 W8 o8 hg8 hb8 => ?_
   refine zK _ _ (sft_grown (hb8.mono hBm) hg8 hup'4 (by decide)) ?_
   have kl'4 := (kl'3.below n7.below).grown hg8 hup'4 (by decide)
   refine ys (.o [] 8) kl'4 [.slice px8 (i + 1) cx8] (.t B [48, 74]) fun W9 u9 k9 => ⟨(sft_upd u9 kl'4 hBl (by decide)), ?_⟩
   have hB'2 := u9.below (hB.trans (hb8.mono hBm)) hBl
   have hO := (((((show Only [48, 74] w _ from (Only.of_below n1.below)).trans (Only.of_below (below_drew W1))).trans (Only.of_below hb6)).trans (Only.of_below n7.below)).trans (Only.of_grown hg8 hup'4 (by decide))).trans (Only.of_upd u9 kl'4 (by decide))
   have o8'1 := u9.own2 o8 kl'4 (by decide)
   have hZ'2 := (((((hZ.below n1.below).below (below_drew W1)).below hb6).below n7.below).grown hg8 hup'4).upd u9 (by simp)
   exact xe 1 (.tuple #[]) ⟨_, _, _, rfl, hB'2, hO, k9, o8'1, hZ'2.fr⟩
 · have kl'5 := (kl.below n1.below).below (below_drew W1)
   refine xb 0 0 kl'5 ?_
   refine xm2 (.b [2]) 0 4 ?_ ?_
   · refine xb 0 0 kl'5 ?_
     refine xr (.o [] 4) (args := #[.agg #[.int .i64 (↑(q + i) : Int), .int .i64 (↑(freeN (L.getD i [])) : Int), .int .i64 (↑(firstN (L.getD i [])) : Int)]]) (value_Slot (↑(q + i) : Int) (↑(freeN (L.getD i [])) : Int) (↑(firstN (L.getD i [])) : Int) (by omega) (by omega) (by omega) (by omega) (by omega) (by omega) _) fun W10 hb10 => ?_
     refine xbs (.o [5] 6) 1 [.int .i64 (↑i : Int), .string ⟨(leB (↑(q + i) : Int) 8 ++ leB (↑(freeN (L.getD i [])) : Int) 4 ++ leB (↑(firstN (L.getD i [])) : Int) 4).toArray⟩, .int .i64 0] 74 fun b11 W11 n11 => ?_
     have hup'5 := own_below (own_below (own_below hup n1.below) (below_drew W1)) hb10
     have r11_hup := own_ne hup'5 n11
     have hup'6 := own_below hup'5 n11.below
     have hB := Bl.nextB (Bl.nextB (Bl.nextB (Bl.nextB (Below.refl B w) hBw n1.below) hBw (below_drew W1)) hBw hb10) hBw n11.below
     refine ybi (.o [] 7) (.t B [48, 74]) fun _ _ _ _ zJ zQ zo zx zy zK => op_app (m := 1) (news := [.int .i64 (↑i : Int), .string ⟨(leB (↑(q + i) : Int) 8 ++ leB (↑(freeN (L.getD i [])) : Int) 4 ++ leB (↑(firstN (L.getD i [])) : Int) 4).toArray⟩, .int .i64 0]) (.agg #[.int .i64 0, .string ⟨#[]⟩, .int .i64 0]) 3 32 (i + 1) ((slotsE L q (i + 1)).flatMap entC) zo Tryz.underlying48 (by kernel_rfl) rfl (by decide) zx hup'6 zy (n11.blk.sl 1 1 (by decide) (by decide)) rfl (by simp [Value.oneCell']) (by unfold maxLen; omega) (by omega) (Nat.le_trans hBx hB.size) (by rfl) (slots_row L q i) fun px12 cx12 W12 o12 hg12 hb12 => ?_
     refine zK _ _ (sft_grown (hb12.mono hBm) hg12 hup'6 (by decide)) ?_
     have kl'6 := ((kl'5.below hb10).below n11.below).grown hg12 hup'6 (by decide)
     refine ys (.o [] 8) kl'6 [.slice px12 (i + 1) cx12] (.t B [48, 74]) fun W13 u13 k13 => ⟨(sft_upd u13 kl'6 hBl (by decide)), ?_⟩
     have hB'3 := u13.below (hB.trans (hb12.mono hBm)) hBl
     have hO := (((((show Only [48, 74] w _ from (Only.of_below n1.below)).trans (Only.of_below (below_drew W1))).trans (Only.of_below hb10)).trans (Only.of_below n11.below)).trans (Only.of_grown hg12 hup'6 (by decide))).trans (Only.of_upd u13 kl'6 (by decide))
     have o12'1 := u13.own2 o12 kl'6 (by decide)
     have hZ'3 := (((((hZ.below n1.below).below (below_drew W1)).below hb10).below n11.below).grown hg12 hup'6).upd u13 (by simp)
     exact xe 1 (.tuple #[]) ⟨_, _, _, rfl, hB'3, hO, k13, o12'1, hZ'3.fr⟩
   refine xr 0 (args := #[.agg #[.int .i64 (↑(q + i) : Int), .int .i64 (↑(freeN (L.getD i [])) : Int), .int .i64 (↑(firstN (L.getD i [])) : Int)]]) (value_Slot (↑(q + i) : Int) (↑(freeN (L.getD i [])) : Int) (↑(firstN (L.getD i [])) : Int) (by omega) (by omega) (by omega) (by omega) (by omega) (by omega) _) fun W14 hb14 => ?_
   refine xm2 (.b [5]) 0 6 ?_ ?_
   · have kl'7 := kl'5.below hb14
     refine xb 0 0 kl'7 ?_
     refine xbs (.o [] 6) 1 [.int .i64 (↑i : Int), .string ⟨(leB (↑(q + i) : Int) 8 ++ leB (↑(freeN (L.getD i [])) : Int) 4 ++ leB (↑(firstN (L.getD i [])) : Int) 4).toArray⟩, .int .i64 0] 74 fun b15 W15 n15 => ?_
     have hup'7 := own_below (own_below (own_below hup n1.below) (below_drew W1)) hb14
     have r15_hup := own_ne hup'7 n15
     have hup'8 := own_below hup'7 n15.below
     have hB := Bl.nextB (Bl.nextB (Bl.nextB (Bl.nextB (Below.refl B w) hBw n1.below) hBw (below_drew W1)) hBw hb14) hBw n15.below
     refine ybi (.o [] 7) (.t B [48, 74]) fun _ _ _ _ zJ zQ zo zx zy zK => op_app (m := 1) (news := [.int .i64 (↑i : Int), .string ⟨(leB (↑(q + i) : Int) 8 ++ leB (↑(freeN (L.getD i [])) : Int) 4 ++ leB (↑(firstN (L.getD i [])) : Int) 4).toArray⟩, .int .i64 0]) (.agg #[.int .i64 0, .string ⟨#[]⟩, .int .i64 0]) 3 32 (i + 1) ((slotsE L q (i + 1)).flatMap entC) zo Tryz.underlying48 (by kernel_rfl) rfl (by decide) zx hup'8 zy (n15.blk.sl 1 1 (by decide) (by decide)) rfl (by simp [Value.oneCell']) (by unfold maxLen; omega) (by omega) (Nat.le_trans hBx hB.size) (by rfl) (slots_row L q i) fun px16 cx16 W16 o16 hg16 hb16 => ?_
     refine zK _ _ (sft_grown (hb16.mono hBm) hg16 hup'8 (by decide)) ?_
     have kl'8 := (kl'7.below n15.below).grown hg16 hup'8 (by decide)
     refine ys (.o [] 8) kl'8 [.slice px16 (i + 1) cx16] (.t B [48, 74]) fun W17 u17 k17 => ⟨(sft_upd u17 kl'8 hBl (by decide)), ?_⟩
     have hB'4 := u17.below (hB.trans (hb16.mono hBm)) hBl
     have hO := (((((show Only [48, 74] w _ from (Only.of_below n1.below)).trans (Only.of_below (below_drew W1))).trans (Only.of_below hb14)).trans (Only.of_below n15.below)).trans (Only.of_grown hg16 hup'8 (by decide))).trans (Only.of_upd u17 kl'8 (by decide))
     have o16'1 := u17.own2 o16 kl'8 (by decide)
     have hZ'4 := (((((hZ.below n1.below).below (below_drew W1)).below hb14).below n15.below).grown hg16 hup'8).upd u17 (by simp)
     exact xe 1 (.tuple #[]) ⟨_, _, _, rfl, hB'4, hO, k17, o16'1, hZ'4.fr⟩
   refine xbs 0 1 [.int .i64 (↑i : Int), .string ⟨(leB (↑(q + i) : Int) 8 ++ leB (↑(freeN (L.getD i [])) : Int) 4 ++ leB (↑(firstN (L.getD i [])) : Int) 4).toArray⟩, .int .i64 0] 74 fun b18 W18 n18 => ?_
   have hup'9 := own_below (own_below (own_below hup n1.below) (below_drew W1)) hb14
   have r18_hup := own_ne hup'9 n18
   have kl'9 := (kl'5.below hb14).below n18.below
   refine xb (.o [] 0) 0 kl'9 ?_
   have hup'10 := own_below hup'9 n18.below
   have hB := Bl.nextB (Bl.nextB (Bl.nextB (Bl.nextB (Below.refl B w) hBw n1.below) hBw (below_drew W1)) hBw hb14) hBw n18.below
   refine ybi (.o [] 7) (.t B [48, 74]) fun _ _ _ _ zJ zQ zo zx zy zK => op_app (m := 1) (news := [.int .i64 (↑i : Int), .string ⟨(leB (↑(q + i) : Int) 8 ++ leB (↑(freeN (L.getD i [])) : Int) 4 ++ leB (↑(firstN (L.getD i [])) : Int) 4).toArray⟩, .int .i64 0]) (.agg #[.int .i64 0, .string ⟨#[]⟩, .int .i64 0]) 3 32 (i + 1) ((slotsE L q (i + 1)).flatMap entC) zo Tryz.underlying48 (by kernel_rfl) rfl (by decide) zx hup'10 zy (n18.blk.sl 1 1 (by decide) (by decide)) rfl (by simp [Value.oneCell']) (by unfold maxLen; omega) (by omega) (Nat.le_trans hBx hB.size) (by rfl) (slots_row L q i) fun px19 cx19 W19 o19 hg19 hb19 => ?_
   refine zK _ _ (sft_grown (hb19.mono hBm) hg19 hup'10 (by decide)) ?_
   have kl'10 := kl'9.grown hg19 hup'10 (by decide)
   refine ys (.o [] 8) kl'10 [.slice px19 (i + 1) cx19] (.t B [48, 74]) fun W20 u20 k20 => ⟨(sft_upd u20 kl'10 hBl (by decide)), ?_⟩
   have hB'5 := u20.below (hB.trans (hb19.mono hBm)) hBl
   have hO := (((((show Only [48, 74] w _ from (Only.of_below n1.below)).trans (Only.of_below (below_drew W1))).trans (Only.of_below hb14)).trans (Only.of_below n18.below)).trans (Only.of_grown hg19 hup'10 (by decide))).trans (Only.of_upd u20 kl'10 (by decide))
   have o19'1 := u20.own2 o19 kl'10 (by decide)
   have hZ'5 := (((((hZ.below n1.below).below (below_drew W1)).below hb14).below n18.below).grown hg19 hup'10).upd u20 (by simp)
   exact xe 1 (.tuple #[]) ⟨_, _, _, rfl, hB'5, hO, k20, o19'1, hZ'5.fr⟩
 refine xr 0 (args := #[.agg #[.int .i64 (↑(q + i) : Int), .int .i64 (↑(freeN (L.getD i [])) : Int), .int .i64 (↑(firstN (L.getD i [])) : Int)]]) (value_Slot (↑(q + i) : Int) (↑(freeN (L.getD i [])) : Int) (↑(firstN (L.getD i [])) : Int) (by omega) (by omega) (by omega) (by omega) (by omega) (by omega) _) fun W21 hb21 => ?_
 refine xm2 0 0 1 ?_ ?_
 · have kl'11 := ((kl.below n1.below).below (below_drew W1)).below hb21
   refine xb 0 0 kl'11 ?_
   refine xb (.o [] 1) 0 kl'11 ?_
   refine xbs (.o [2, 5] 6) 1 [.int .i64 (↑i : Int), .string ⟨(leB (↑(q + i) : Int) 8 ++ leB (↑(freeN (L.getD i [])) : Int) 4 ++ leB (↑(firstN (L.getD i [])) : Int) 4).toArray⟩, .int .i64 0] 74 fun b22 W22 n22 => ?_
   have hup'11 := own_below (own_below (own_below hup n1.below) (below_drew W1)) hb21
   have r22_hup := own_ne hup'11 n22
   have hup'12 := own_below hup'11 n22.below
   have hB := Bl.nextB (Bl.nextB (Bl.nextB (Bl.nextB (Below.refl B w) hBw n1.below) hBw (below_drew W1)) hBw hb21) hBw n22.below
   refine ybi (.o [] 7) (.t B [48, 74]) fun _ _ _ _ zJ zQ zo zx zy zK => op_app (m := 1) (news := [.int .i64 (↑i : Int), .string ⟨(leB (↑(q + i) : Int) 8 ++ leB (↑(freeN (L.getD i [])) : Int) 4 ++ leB (↑(firstN (L.getD i [])) : Int) 4).toArray⟩, .int .i64 0]) (.agg #[.int .i64 0, .string ⟨#[]⟩, .int .i64 0]) 3 32 (i + 1) ((slotsE L q (i + 1)).flatMap entC) zo Tryz.underlying48 (by kernel_rfl) rfl (by decide) zx hup'12 zy (n22.blk.sl 1 1 (by decide) (by decide)) rfl (by simp [Value.oneCell']) (by unfold maxLen; omega) (by omega) (Nat.le_trans hBx hB.size) (by rfl) (slots_row L q i) fun px23 cx23 W23 o23 hg23 hb23 => ?_
   refine zK _ _ (sft_grown (hb23.mono hBm) hg23 hup'12 (by decide)) ?_
   have kl'12 := (kl'11.below n22.below).grown hg23 hup'12 (by decide)
   refine ys (.o [] 8) kl'12 [.slice px23 (i + 1) cx23] (.t B [48, 74]) fun W24 u24 k24 => ⟨(sft_upd u24 kl'12 hBl (by decide)), ?_⟩
   have hB'6 := u24.below (hB.trans (hb23.mono hBm)) hBl
   have hO := (((((show Only [48, 74] w _ from (Only.of_below n1.below)).trans (Only.of_below (below_drew W1))).trans (Only.of_below hb21)).trans (Only.of_below n22.below)).trans (Only.of_grown hg23 hup'12 (by decide))).trans (Only.of_upd u24 kl'12 (by decide))
   have o23'1 := u24.own2 o23 kl'12 (by decide)
   have hZ'6 := (((((hZ.below n1.below).below (below_drew W1)).below hb21).below n22.below).grown hg23 hup'12).upd u24 (by simp)
   exact xe 1 (.tuple #[]) ⟨_, _, _, rfl, hB'6, hO, k24, o23'1, hZ'6.fr⟩
 have kl'13 := ((kl.below n1.below).below (below_drew W1)).below hb21
 refine xb 0 0 kl'13 ?_
 refine xm2 (.b [2, 5]) 0 6 ?_ ?_
 · refine xb 0 0 kl'13 ?_
   refine xbs (.o [] 6) 1 [.int .i64 (↑i : Int), .string ⟨(leB (↑(q + i) : Int) 8 ++ leB (↑(freeN (L.getD i [])) : Int) 4 ++ leB (↑(firstN (L.getD i [])) : Int) 4).toArray⟩, .int .i64 0] 74 fun b25 W25 n25 => ?_
   have hup'13 := own_below (own_below (own_below hup n1.below) (below_drew W1)) hb21
   have r25_hup := own_ne hup'13 n25
   have hup'14 := own_below hup'13 n25.below
   have hB := Bl.nextB (Bl.nextB (Bl.nextB (Bl.nextB (Below.refl B w) hBw n1.below) hBw (below_drew W1)) hBw hb21) hBw n25.below
   refine ybi (.o [] 7) (.t B [48, 74]) fun _ _ _ _ zJ zQ zo zx zy zK => op_app (m := 1) (news := [.int .i64 (↑i : Int), .string ⟨(leB (↑(q + i) : Int) 8 ++ leB (↑(freeN (L.getD i [])) : Int) 4 ++ leB (↑(firstN (L.getD i [])) : Int) 4).toArray⟩, .int .i64 0]) (.agg #[.int .i64 0, .string ⟨#[]⟩, .int .i64 0]) 3 32 (i + 1) ((slotsE L q (i + 1)).flatMap entC) zo Tryz.underlying48 (by kernel_rfl) rfl (by decide) zx hup'14 zy (n25.blk.sl 1 1 (by decide) (by decide)) rfl (by simp [Value.oneCell']) (by unfold maxLen; omega) (by omega) (Nat.le_trans hBx hB.size) (by rfl) (slots_row L q i) fun px26 cx26 W26 o26 hg26 hb26 => ?_
   refine zK _ _ (sft_grown (hb26.mono hBm) hg26 hup'14 (by decide)) ?_
   have kl'14 := (kl'13.below n25.below).grown hg26 hup'14 (by decide)
   refine ys (.o [] 8) kl'14 [.slice px26 (i + 1) cx26] (.t B [48, 74]) fun W27 u27 k27 => ⟨(sft_upd u27 kl'14 hBl (by decide)), ?_⟩
   have hB'7 := u27.below (hB.trans (hb26.mono hBm)) hBl
   have hO := (((((show Only [48, 74] w _ from (Only.of_below n1.below)).trans (Only.of_below (below_drew W1))).trans (Only.of_below hb21)).trans (Only.of_below n25.below)).trans (Only.of_grown hg26 hup'14 (by decide))).trans (Only.of_upd u27 kl'14 (by decide))
   have o26'1 := u27.own2 o26 kl'14 (by decide)
   have hZ'7 := (((((hZ.below n1.below).below (below_drew W1)).below hb21).below n25.below).grown hg26 hup'14).upd u27 (by simp)
   exact xe 1 (.tuple #[]) ⟨_, _, _, rfl, hB'7, hO, k27, o26'1, hZ'7.fr⟩
 refine xbs 0 1 [.int .i64 (↑i : Int), .string ⟨(leB (↑(q + i) : Int) 8 ++ leB (↑(freeN (L.getD i [])) : Int) 4 ++ leB (↑(firstN (L.getD i [])) : Int) 4).toArray⟩, .int .i64 0] 74 fun b28 W28 n28 => ?_
 have hup'15 := own_below (own_below (own_below hup n1.below) (below_drew W1)) hb21
 have r28_hup := own_ne hup'15 n28
 have kl'15 := kl'13.below n28.below
 refine xb (.o [] 0) 0 kl'15 ?_
 have hup'16 := own_below hup'15 n28.below
 have hB := Bl.nextB (Bl.nextB (Bl.nextB (Bl.nextB (Below.refl B w) hBw n1.below) hBw (below_drew W1)) hBw hb21) hBw n28.below
 refine ybi (.o [] 7) (.t B [48, 74]) fun _ _ _ _ zJ zQ zo zx zy zK => op_app (m := 1) (news := [.int .i64 (↑i : Int), .string ⟨(leB (↑(q + i) : Int) 8 ++ leB (↑(freeN (L.getD i [])) : Int) 4 ++ leB (↑(firstN (L.getD i [])) : Int) 4).toArray⟩, .int .i64 0]) (.agg #[.int .i64 0, .string ⟨#[]⟩, .int .i64 0]) 3 32 (i + 1) ((slotsE L q (i + 1)).flatMap entC) zo Tryz.underlying48 (by kernel_rfl) rfl (by decide) zx hup'16 zy (n28.blk.sl 1 1 (by decide) (by decide)) rfl (by simp [Value.oneCell']) (by unfold maxLen; omega) (by omega) (Nat.le_trans hBx hB.size) (by rfl) (slots_row L q i) fun px29 cx29 W29 o29 hg29 hb29 => ?_
 refine zK _ _ (sft_grown (hb29.mono hBm) hg29 hup'16 (by decide)) ?_
 have kl'16 := kl'15.grown hg29 hup'16 (by decide)
 refine ys (.o [] 8) kl'16 [.slice px29 (i + 1) cx29] (.t B [48, 74]) fun W30 u30 k30 => ⟨(sft_upd u30 kl'16 hBl (by decide)), ?_⟩
 have hB'8 := u30.below (hB.trans (hb29.mono hBm)) hBl
 have hO := (((((show Only [48, 74] w _ from (Only.of_below n1.below)).trans (Only.of_below (below_drew W1))).trans (Only.of_below hb21)).trans (Only.of_below n28.below)).trans (Only.of_grown hg29 hup'16 (by decide))).trans (Only.of_upd u30 kl'16 (by decide))
 have o29'1 := u30.own2 o29 kl'16 (by decide)
 have hZ'8 := (((((hZ.below n1.below).below (below_drew W1)).below hb21).below n28.below).grown hg29 hup'16).upd u30 (by simp)
 exact xe 1 (.tuple #[]) ⟨_, _, _, rfl, hB'8, hO, k30, o29'1, hZ'8.fr⟩
end Go.Proofs.YtbhjgcokpmiopaaGreat
namespace Go.Proofs.YtbhjgcokpmiopaaGreat
open Go.RowKit Go.Extern.Stop Go.Stop Go.Extern
set_option linter.unusedVariables false
attribute [local irreducible] wpList wpAnyH Code.wp Oper.wp Go

def ClosM (B Bx bl : Nat) (L : List (List Int)) (q i : Nat) (w : World) (e : Ending) (w' : World) : Prop :=
  ∃ u p c, e = .returned u ∧ Below B w w' ∧ Only [31, 39] w w' ∧ Blk w' bl [.slice p (i + 1) c] 31 ∧ w'.ownsRow Bx 39 3 (.slice p (i + 1) c) (i + 1) (rsL L q (i + 1)) ∧ FrB Bx [bl] w w'
set_option maxRecDepth 100000 in
set_option maxHeartbeats 4000000 in
theorem plot_meta1 (B Bx bl : Nat) (p : Option Addr) (c : Nat) (L : List (List Int)) (q i : Nat) (w : World) (hBm : B ≤ Bx) (hBx : Bx ≤ w.heap.size) (hBw : B ≤ w.heap.size) (hBl : B ≤ bl) (kl : Blk w bl [.slice p i c] 31) (hup : w.ownsRow Bx 39 3 (.slice p i c) i (rsL L q i)) (hi : i ≤ 100000) :
    Calls Tryz.prog 22 #[.agg #[.int .i64 (↑(q + i) : Int), .int .i64 (↑(freeN (L.getD i [])) : Int), .int .i64 (↑(firstN (L.getD i [])) : Int)], .pointer (some ⟨bl, 0, none⟩)] w (ClosM B Bx bl L q i w) := by
 have hZ : FrZ Bx [bl] w w := FrZ.refl hBx
 refine zin 7 Tryz.func22 ?_
 refine xa 2 [.int .i64 (↑(q + i) : Int), .int .i64 (↑(freeN (L.getD i [])) : Int), .int .i64 (↑(firstN (L.getD i [])) : Int)] 39 fun b1 W1 n1 => ?_
 have r1_hup := own_ne hup n1
 have kl'1 := kl.below n1.below
 refine xb 3 0 kl'1 ?_
 refine xlv 0 n1.blk.rp ?_
 refine xbs 0 1 [.int .i64 (↑(q + i) : Int), .int .i64 (↑(freeN (L.getD i [])) : Int), .int .i64 (↑(firstN (L.getD i [])) : Int)] 39 fun b2 W2 n2 => ?_
 have d2_b1 := n2.ne n1.blk
 have hup'1 := own_below hup n1.below
 have r2_hup := own_ne hup'1 n2
 have hup'2 := own_below hup'1 n2.below
 have hB := Bl.nextB (Bl.nextB (Below.refl B w) hBw n1.below) hBw n2.below
 refine xbi 0 fun _ _ _ _ zJ zQ zo zx zy zK => op_app (m := 1) (news := [.int .i64 (↑(q + i) : Int), .int .i64 (↑(freeN (L.getD i [])) : Int), .int .i64 (↑(firstN (L.getD i [])) : Int)]) (.agg #[.int .i64 0, .int .i64 0, .int .i64 0]) 3 24 (i + 1) ((rsL L q (i + 1))) zo Tryz.underlying31 (by kernel_rfl) rfl (by decide) zx hup'2 zy (n2.blk.sl 1 1 (by decide) (by decide)) rfl (by simp [Value.oneCell']) (by unfold maxLen; omega) (by omega) (Nat.le_trans hBx hB.size) (by rfl) (by rw [rsL_succ]; rfl) fun px3 cx3 W3 o3 hg3 hb3 => ?_
 refine zK _ _ ?_
 have kl'2 := (kl'1.below n2.below).grown hg3 hup'2 (by decide)
 refine xs 0 kl'2 [.slice px3 (i + 1) cx3] fun W4 u4 k4 => ?_
 have hB'1 := u4.below (hB.trans (hb3.mono hBm)) hBl
 have hO := (((show Only [31, 39] w _ from (Only.of_below n1.below)).trans (Only.of_below n2.below)).trans (Only.of_grown hg3 hup'2 (by decide))).trans (Only.of_upd u4 kl'2 (by decide))
 have o3'1 := u4.own2 o3 kl'2 (by decide)
 have hZ'1 := (((hZ.below n1.below).below n2.below).grown hg3 hup'2).upd u4 (by simp)
 exact xe 1 (.tuple #[]) ⟨_, _, _, rfl, hB'1, hO, k4, o3'1, hZ'1.fr⟩
end Go.Proofs.YtbhjgcokpmiopaaGreat
namespace Go.Proofs.YtbhjgcokpmiopaaGreat
open Go.RowKit Go.Extern.Stop Go.Stop Go.Extern
set_option linter.unusedVariables false
attribute [local irreducible] wpList wpAnyH Code.wp Oper.wp Go

def LayPostM (B ba b g nn cc : Nat) (pa : Option Addr) (ca f N k0 : Nat) (bs : List UInt8) (bl : Nat) (L : List (List Int)) (w : World) (e : Ending) (w' : World) : Prop :=
  ∃ p c, e = .returned .nilIface ∧ Below B w w' ∧ Only [64, 5, 31, 39] w w' ∧ Fr [ba, g, bl] w w' ∧ Al B ba b g nn cc pa ca f N (k0 + L.length) (cntsB L (f + k0) bs L.length) w' ∧ Blk w' bl [.slice p L.length c] 31 ∧ w'.ownsRow w.heap.size 39 3 (.slice p L.length c) L.length (rsL L (f + k0) L.length)
set_option maxRecDepth 100000 in
set_option maxHeartbeats 8000000 in
theorem plot_layM (B ba b g nn cc : Nat) (pa : Option Addr) (ca f N k0 : Nat) (bs : List UInt8) (bl B2 : Nat) (pl : Option Addr) (cl : Nat) (gs : List (Nat × Nat)) (L : List (List Int)) (w : World) (hC : AlC B ba nn cc ca f N) (hA : Al B ba b g nn cc pa ca f N k0 bs w) (hL : Lists w B2 (.slice pl L.length cl) gs L) (hS : ∀ i, i < L.length → Small (L.getD i []) ∧ (L.getD i []).length ≤ 960) (hf1 : 1 ≤ f) (hk : k0 + L.length ≤ N) (kl : Blk w bl [.slice none 0 0] 31) (hBl : B ≤ bl) (hBw : B ≤ w.heap.size) :
    Calls Tryz.prog 21 #[.pointer (some ⟨ba, 0, none⟩), .slice pl L.length cl, .func (.func 22) #[] #[.pointer (some ⟨bl, 0, none⟩)]] w (LayPostM B ba b g nn cc pa ca f N k0 bs bl L w) := by
 have hcf := hC.hf
 have hcn := hC.hn
 refine zin 51 Tryz.func21 ?_
 have hB := Below.refl B w
 refine zl 14 51 (fun zm zkv V => ∃ (i : Nat) (p : Option Addr) (c : Nat), zkv = [(0, .pointer (some ⟨ba, 0, none⟩)), (2, .func (.func 22) #[] #[.pointer (some ⟨bl, 0, none⟩)]), (15, .slice pl L.length cl), (16, .int .i64 (↑L.length : Int)), (17, .int .i64 (↑i : Int))] ∧ zm = L.length - ((↑i : Int)).toNat ∧ Below B w V ∧ Fr [ba, g, bl] w V ∧ Only [64, 5, 31, 39] w V ∧ Blk V bl ([.slice p i c]) 31 ∧ Al B ba b g nn cc pa ca f N (k0 + i) (cntsB L (f + k0) bs i) V ∧ Lists V B2 (.slice pl L.length cl) gs L ∧ V.ownsRow w.heap.size 39 3 (.slice p i c) i (rsL L (f + k0) i) ∧ i ≤ L.length) ⟨0, none, 0, rfl, rfl, hB, (Fr.refl _ _), (Only.refl _ _), kl, hA, hL, World.ownsRow_nil _ _ _ _, Nat.zero_le _⟩ ?_
 rintro _ _ W1 ⟨i, p, c, rfl, rfl, hB_1, hX_1, hO_1, k1_bl, hA, hL, hup, hi⟩ J1 hJ1 r1
 refine xid 6 ((↑i : Int) < (↑L.length : Int)) (fun hc2 => ?_) (fun hc2 => ?_)
 · refine xx 6 _ L.length i 1 (Lists.elem hL rfl (k := i) (by omega)).1 ?_
   refine xl 0 ((Lists.elem hL rfl (k := i) (by omega)).2) ?_
   refine xc 6 (args := #[.slice (some ⟨(gs.getD i (0, 0)).1, 0, none⟩) ((L.getD i []).length) ((gs.getD i (0, 0)).2)]) (bits_Put _ _ (L.getD i []) _ (hS i (by omega)).1 (hS i (by omega)).2 (own_sl (hL.each i (by omega)))) ?_
   rintro _ W3 ⟨_, rfl, hb3, g6, rfl, h6⟩
   have hA'1 := hA.below hb3
   have hO'1 := hO_1.trans (Only.of_below hb3)
   have h6'1 := own_mono h6 hB_1.size
   have hB'1 := Bl.nextB hB_1 hBw hb3
   refine xc 21 (args := #[.pointer (some ⟨ba, 0, none⟩), .int .i64 3, .slice (some ⟨g6, 0, none⟩) 244 244]) (alloc_LayQ B ba b g nn cc pa ca f N (k0 + i) (cntsB L (f + k0) bs i) 3 (some ⟨g6, 0, none⟩) 244 (bitsB (L.getD i [])) (f + k0 + i) 244 _ (Nat.add_assoc _ _ _).symm (bitsT_len _ _) hC hA'1 (by omega) (by decide) (by decide) (fun W _ hO'1 => bys_of (own_sl (own_only h6'1 hO'1 (by decide))) (bitsT_len _ _)) (by decide) (Nat.le_trans hBw hB'1.size)) ?_
   rintro _ W4 ⟨rfl, hb4, hO4, hX4, hA⟩
   have hL'1 := (hL.below hb3).only hO4 (by decide)
   refine xr 20 (args := #[.slice (some ⟨(gs.getD i (0, 0)).1, 0, none⟩) ((L.getD i []).length) ((gs.getD i (0, 0)).2)]) (bits_Free _ _ (L.getD i []) _ (hS i (by omega)).2 (own_sl (hL'1.each i (by omega)))) fun W5 hb5 => ?_
   have hf9 : freeN (L.getD i []) ≤ 960 := Nat.le_trans (freeK_le _ _) (hS i (by omega)).2
   have hg9 : firstN (L.getD i []) ≤ 960 := Nat.le_trans (firstN_le _) (hS i (by omega)).2
   have hB'2 := Bl.nextB (hB'1.trans hb4) hBw hb5
   have k1_bl'1 := ((k1_bl.below hb3).only hO4 (by decide)).below hb5
   have hup'1 := own_below (own_only (own_below hup hb3) hO4 (by decide)) hb5
   refine xc 13 (args := #[.agg #[.int .i64 (↑(f + k0 + i) : Int), .int .i64 (↑(freeN (L.getD i [])) : Int), .int .i64 (↑(firstN (L.getD i [])) : Int)], .pointer (some ⟨bl, 0, none⟩)]) (plot_meta1 B w.heap.size bl p c L (f + k0) i _ hBw hB'2.size (Nat.le_trans hBw hB'2.size) hBl k1_bl'1 hup'1 (by omega)) ?_
   rintro _ W6 ⟨_, p9, c9, rfl, hb6, hO6, kln, hup, hX6⟩
   refine xwm 4 ((↑i : Int) + 1) (↑(i + 1) : Int) ?_
   have hA'2 := (hA.below hb5).only hO6 (by decide)
   have hL'2 := (hL'1.below hb5).only hO6 (by decide)
   have hB'3 := hB'2.trans hb6
   have hX'1 := (Fr.trans_B (((hX_1.trans (Fr.of_below hb3)).trans (hX4.mono (by simp))).trans (Fr.of_below hb5)) hX6 (by simp))
   have hO'2 := ((hO'1.trans (hO4.wide)).trans (Only.of_below hb5)).trans (hO6.wide)
   exact ze 2 (hJ1 _ _ _ ⟨i + 1, _, _, rfl, rfl, hB'3, hX'1, hO'2, kln, hA'2, hL'2, hup, by omega⟩ (by omega))
 refine xe 11 .nilIface ?_
 obtain rfl : i = L.length := by omega
 exact ⟨_, _, rfl, hB_1, hO_1, hX_1, hA, k1_bl, hup⟩
end Go.Proofs.YtbhjgcokpmiopaaGreat
namespace Go.Proofs.YtbhjgcokpmiopaaGreat
open Go.RowKit Go.Extern.Stop Go.Stop Go.Extern
set_option linter.unusedVariables false
attribute [local irreducible] wpList wpAnyH Code.wp Oper.wp Go

def SplitP (l : List Int) (w : World) (e : Ending) (w' : World) : Prop :=
  (splitE l ≠ 0 ∧ e = .returned (.tuple #[.slice none 0 0, .slice none 0 0, .int .i64 2]) ∧ Below w.heap.size w w') ∨
  (splitE l = 0 ∧ ∃ pb cb gs po co, e = .returned (.tuple #[.slice pb (bmN l.length) cb, .slice po (overK l l.length).length co, .int .i64 0]) ∧ Below w.heap.size w w' ∧ Lists w' w.heap.size (.slice pb (bmN l.length) cb) gs (chunksI (smallL l) (bmN l.length)) ∧ w'.ownsRow w.heap.size 74 3 (.slice po (overK l l.length).length co) (overK l l.length).length ((overK l l.length).flatMap entC))
theorem splitE_bad {l : List Int} {i : Nat} (hl : l.length ≤ 65536) (hi : i < l.length) (h : ¬ cntOk (l.getD i 0)) : splitE l ≠ 0 := fun q => h ((splitE_ok q).2 i hi)
theorem splitE_good {l : List Int} (hl : l.length ≤ 65536) (h : ∀ k, k < l.length → cntOk (l.getD k 0)) : splitE l = 0 := by
  unfold splitE; rw [if_neg (by omega), if_pos h]
attribute [local go_sem] Oper.semAt_some
theorem g_retM {P : Program} {fn : Func} {R : Ending → World → Prop} {a : Act} {w : World} (v : Value) (hd : a.defers = []) (hr : (results fn a.tmps).run P w = .ok v w) (h : R (.returned v) w) : bodyPostM Fence.wide 4 P fn R .ret a w := by
  show LeavesInM _ _ _ _ a.tmps R a.defers .returning w
  rw [hd]
  exact ⟨v, hr, h⟩
theorem Lists.put {W U : World} {D base : Nat} {v : Value} {gs : List (Nat × Nat)} {L : List (List Int)} (h : Lists W base v gs L) (u : Upd W D U) (hK : Dfr D W) : Lists U base v gs L := ⟨u.own3 h.row (hK.row h.row), fun i hi => u.own3 (h.each i hi) (hK.row (h.each i hi))⟩
theorem mn3_if (n : Int) : (if 3 < n then 3 else n) = mn3 n := by unfold mn3; split <;> split <;> omega
/-- the chunks of a prefix of the places -/
def preC (s : List Int) {n : Nat} (pre : List (Fin n)) : List (List Int) := pre.map fun j => chunkI s j.val
theorem preC_snoc (s : List Int) {n : Nat} (pre : List (Fin n)) (x : Fin n) : preC s (pre ++ [x]) = preC s pre ++ [chunkI s x.val] := by simp [preC]
theorem preC_all (s : List Int) (n : Nat) : preC s (List.finRange n) = chunksI s n := by
  unfold preC chunksI
  apply List.ext_getElem
  · simp
  · intro i h1 h2; simp
set_option maxRecDepth 100000 in
set_option maxHeartbeats 4000000 in
theorem tally_Split (a : Option Addr) (c : Nat) (l : List Int) (w : World) (h : Sl w (.slice a l.length c) l.length (l.map (Value.int .i64))) (hl : l.length ≤ 65536) :
    Calls Tryz.prog 15 #[.slice a l.length c] w (SplitP l w) := by
  refine calls_of_marks Tryz.func15 rfl ?_
  refine g_fr ⟨#[.slice a l.length c, undef, undef, undef, undef, undef, undef, undef, undef, undef, undef, undef, undef, undef, undef, undef, undef, undef, undef, undef, undef, undef, undef, undef, undef, undef, undef, undef, undef, undef, undef, undef, undef, undef, undef, undef, undef, undef, undef, undef, undef, undef, undef, undef, undef, undef, undef, undef, undef, undef, undef, undef], []⟩ (by kernel_rfl) ?_
  refine wp_seq ?_
  refine wp_region_lit ?_
  refine g_pv 3 [(2, .slice none 0 0), (3, .slice none 0 0), (4, .int .i64 0)] (by kernel_rfl) ?_
  refine wpList_nil ?_
  refine wp_seq ?_
  refine wp_seq ?_
  refine wp_region_lit ?_
  refine g_pv 3 [(11, .slice a l.length c), (12, .int .i64 (↑l.length : Int)), (13, .bool (decide ((↑l.length : Int) > (65536 : Int))))] (by kernel_rfl) ?_
  refine wpList_nil ?_
  refine wp_cond_split (t := decide ((↑l.length : Int) > (65536 : Int))) (by kernel_rfl) (fun hh => absurd (hh.symm.trans (show (decide ((↑l.length : Int) > (65536 : Int)) : Bool) = false from decide_eq_false (by omega))) (by decide)) (fun _ => ?_)
  refine wp_skip ?_
  refine wp_seq ?_
  refine wp_region_lit ?_
  refine g_pv 1 [(5, .slice none 0 0)] (by kernel_rfl) ?_
  refine wpList_nil ?_
  refine wp_seq ?_
  refine wp_region_lit ?_
  refine g_pv 1 [(6, .slice none 0 0)] (by kernel_rfl) ?_
  refine wpList_nil ?_
  refine wp_seq ?_
  refine wp_seq ?_
  refine wp_region_lit ?_
  refine g_pv 3 [(14, .slice a l.length c), (15, .int .i64 (↑l.length : Int)), (16, .int .i64 0)] (by kernel_rfl) ?_
  refine wpList_nil ?_
  refine wp_block ?_
  refine g_fr ⟨#[.slice a l.length c, undef, .slice none 0 0, .slice none 0 0, .int .i64 0, .slice none 0 0, .slice none 0 0, undef, undef, undef, undef, .slice a l.length c, .int .i64 (↑l.length : Int), .bool (decide ((↑l.length : Int) > (65536 : Int))), .slice a l.length c, .int .i64 (↑l.length : Int), .int .i64 0, undef, undef, undef, undef, undef, undef, undef, undef, undef, undef, undef, undef, undef, undef, undef, undef, undef, undef, undef, undef, undef, undef, undef, undef, undef, undef, undef, undef, undef, undef, undef, undef, undef, undef, undef], []⟩ (by kernel_rfl) ?_
  have hB := Below.refl w.heap.size w
  refine wp_loop (fun act V => ∃ (i : Nat) (ps : Option Addr) (cs : Nat) (po : Option Addr) (co : Nat) (x2 : Nat → Value), act = ⟨#[.slice a l.length c, undef, (x2 0), (x2 1), (x2 2), .slice ps i cs, .slice po ((overK l i).length) co, (x2 3), (x2 4), undef, undef, .slice a l.length c, .int .i64 (↑l.length : Int), .bool (decide ((↑l.length : Int) > (65536 : Int))), .slice a l.length c, .int .i64 (↑l.length : Int), .int .i64 (↑i : Int), (x2 5), (x2 6), (x2 7), (x2 8), (x2 9), (x2 10), (x2 11), (x2 12), (x2 13), (x2 14), (x2 15), (x2 16), (x2 17), (x2 18), (x2 19), (x2 20), (x2 21), (x2 22), (x2 23), (x2 24), (x2 25), (x2 26), (x2 27), (x2 28), (x2 29), undef, undef, undef, undef, undef, undef, undef, undef, undef, undef], []⟩ ∧ Below w.heap.size w V ∧ V.ownsRow w.heap.size 3 1 (.slice ps i cs) i ((smallL (l.take i)).map (Value.int .i64)) ∧ V.ownsRow w.heap.size 74 3 (.slice po (overK l i).length co) (overK l i).length ((overK l i).flatMap entC) ∧ i ≤ l.length ∧ ((∀ j, j < i → cntOk (l.getD j 0)))) (fun act V => l.length - ((intOf (act.tmps.getD 16 undef))).toNat) ⟨0, none, 0, none, 0, (pk [.slice none 0 0, .slice none 0 0, .int .i64 0, undef, undef, undef, undef, undef, undef, undef, undef, undef, undef, undef, undef, undef, undef, undef, undef, undef, undef, undef, undef, undef, undef, undef, undef, undef, undef, undef]), rfl, hB, World.ownsRow_nil _ _ _ _, World.ownsRow_nil _ _ _ _, Nat.zero_le _, ?_⟩ ?_
  · exact fun j hj => absurd hj (by omega)
  rintro _ W2 ⟨i, ps, cs, po, co, x2, rfl, hB, hs, ho, hi, hz⟩
  refine wp_seq ?_
  refine wp_region_lit ?_
  refine g_pv 1 [(17, .bool (decide ((↑i : Int) < (↑l.length : Int))))] (by kernel_rfl) ?_
  refine wpList_nil ?_
  refine wp_seq ?_
  refine wp_cond_split (t := decide ((↑i : Int) < (↑l.length : Int))) (by kernel_rfl) (fun hc3 => ?_) (fun hc3 => ?_)
  · have hc3 := of_decide_eq_true hc3
    refine wp_skip ?_
    refine wp_seq ?_
    refine wp_block ?_
    refine wp_seq ?_
    refine wp_region_lit ?_
    refine g_pv 1 [(18, .int .i64 (↑i : Int))] (by kernel_rfl) ?_
    refine g_op (by kernel_rfl) (op_val (run_indexA (size := 1) (k := i) (b := a) (n := l.length) (c := c) (i := (↑i : Int)) (ki := .i64) rfl (by kernel_rfl) (by kernel_rfl) rfl (by omega) (Ints.elem h (k := i) (by omega)).1 Tryz.underlying24 (by kernel_rfl) W2) ?_)
    refine g_op (by kernel_rfl) (op_load (elemAddr a (i * 1)) (.int .i64 (l.getD i 0)) rfl (by kernel_rfl) (by kernel_rfl) (Ints.elem (h.below hB) (k := i) (by omega)).2 ?_)
    refine g_pv 2 [(7, .int .i64 (↑i : Int)), (8, .int .i64 (l.getD i 0))] (by kernel_rfl) ?_
    refine wpList_nil ?_
    refine wp_seq ?_
    refine wp_seq ?_
    refine wp_region_lit ?_
    refine g_pv 3 [(21, .int .i64 (l.getD i 0)), (22, .bool (decide ((l.getD i 0) < (0 : Int)))), (23, .bool (decide ((l.getD i 0) < (0 : Int))))] (by kernel_rfl) ?_
    rcases Bool.eq_false_or_eq_true (decide ((l.getD i 0) < (0 : Int))) with hc4 | hc4
    · refine g_b [22, 23] _ _ hc4 (by kernel_rfl) ?_
      have hc4 := of_decide_eq_true hc4
      refine g_pv 3 [(24, undef), (25, undef), (26, .bool true)] (by kernel_rfl) ?_
      refine wpList_nil ?_
      refine wp_cond_true (by kernel_rfl) ?_
      refine wp_seq ?_
      refine wp_region_lit ?_
      refine g_pv 3 [(2, .slice none 0 0), (3, .slice none 0 0), (4, .int .i64 2)] (by kernel_rfl) ?_
      refine wpList_nil ?_
      refine wp_ret (then_ret (inBlock_ret (then_ret (then_ret (inBlock_ret (then_ret ?_))))))
      exact g_retM (.tuple #[.slice none 0 0, .slice none 0 0, .int .i64 2]) (by kernel_rfl) (by kernel_rfl) (.inl ⟨splitE_bad (i := i) hl (by omega) (fun q => by unfold cntOk at q; omega), rfl, hB⟩)
    · refine g_b [22, 23] _ _ hc4 (by kernel_rfl) ?_
      have hc4 := of_decide_eq_false hc4
      refine g_pv 3 [(24, .int .i64 (l.getD i 0)), (25, .bool (decide ((l.getD i 0) > (2147483647 : Int)))), (26, .bool (decide ((l.getD i 0) > (2147483647 : Int))))] (by kernel_rfl) ?_
      refine wpList_nil ?_
      refine wp_cond_split (t := decide ((l.getD i 0) > (2147483647 : Int))) (by kernel_rfl) (fun hc5 => ?_) (fun hc5 => ?_)
      · have hc5 := of_decide_eq_true hc5
        refine wp_seq ?_
        refine wp_region_lit ?_
        refine g_pv 3 [(2, .slice none 0 0), (3, .slice none 0 0), (4, .int .i64 2)] (by kernel_rfl) ?_
        refine wpList_nil ?_
        refine wp_ret (then_ret (inBlock_ret (then_ret (then_ret (inBlock_ret (then_ret ?_))))))
        exact g_retM (.tuple #[.slice none 0 0, .slice none 0 0, .int .i64 2]) (by kernel_rfl) (by kernel_rfl) (.inl ⟨splitE_bad (i := i) hl (by omega) (fun q => by unfold cntOk at q; omega), rfl, hB⟩)
      · have hc5 := of_decide_eq_false hc5
        refine wp_skip ?_
        refine wp_seq ?_
        refine wp_region_lit ?_
        refine g_pv 3 [(27, .slice ps i cs), (28, .int .i64 (l.getD i 0)), (29, .int .i64 (if (3 : Int) < (l.getD i 0) then (3 : Int) else (l.getD i 0)))] (by kernel_rfl) ?_
        refine g_op (by kernel_rfl) (op_buildSlice 3 [.int .i64 (if (3 : Int) < (l.getD i 0) then (3 : Int) else (l.getD i 0))] rfl (by kernel_rfl) ?_)
        intro b6 W6 n6
        have g6 := n6.ge hB
        have r6_hs := own_ne hs n6
        replace hB := Bl.next hB n6.below
        replace hs := own_below hs n6.below
        replace ho := own_below ho n6.below
        have k6 := n6.blk
        refine g_op (by kernel_rfl) (op_app (e := 3) (n := i) (xs := (smallL (l.take i)).map (Value.int .i64)) (m := 1) (news := [.int .i64 (if (3 : Int) < (l.getD i 0) then (3 : Int) else (l.getD i 0))]) (.int .i64 0) 1 8 (i + 1) ((smallL (l.take (i + 1))).map (Value.int .i64)) rfl Tryz.underlying24 (by kernel_rfl) rfl (by decide) (by kernel_rfl) hs (by kernel_rfl) (k6.sl 1 1 (by decide) (by decide)) rfl (by simp [Value.oneCell']) (by unfold maxLen; omega) (by omega) hB.size (by rfl) (by rw [mn3_if, small_snoc (by omega), List.map_append]; rfl) ?_)
        intro p7 c7 W7 o7 hg7 hb7
        replace ho := own_grown ho hg7 hs (by decide)
        replace hB := hB.trans hb7
        refine g_pv 1 [(5, .slice p7 (i + 1) c7)] (by kernel_rfl) ?_
        refine wpList_nil ?_
        refine wp_seq ?_
        refine wp_region_lit ?_
        refine g_pv 2 [(32, .int .i64 (l.getD i 0)), (33, .bool (decide ((l.getD i 0) ≥ (3 : Int))))] (by kernel_rfl) ?_
        refine wpList_nil ?_
        refine wp_cond_split (t := decide ((l.getD i 0) ≥ (3 : Int))) (by kernel_rfl) (fun hc8 => ?_) (fun hc8 => ?_)
        · have hc8 := of_decide_eq_true hc8
          refine wp_region_lit ?_
          refine g_pv 3 [(34, .slice po ((overK l i).length) co), (35, .int .i64 (↑i : Int)), (36, .int .i64 (l.getD i 0))] (by kernel_rfl) ?_
          refine g_op (by kernel_rfl) (op_call (lb := #[]) 32 #[.int .i64 (l.getD i 0)] rfl (by kernel_rfl) (fun _ _ => by kernel_rfl) (by kernel_rfl) ((value_Count (l.getD i 0) (by omega) (by omega) _).mono ?_))
          rintro e W9 ⟨rfl, hb9⟩
          refine ⟨_, rfl, ?_⟩
          replace hB := Bl.next hB hb9
          replace ho := own_below ho hb9
          replace o7 := own_below o7 hb9
          refine g_pv 1 [(38, .agg #[.int .i64 (↑i : Int), .string ⟨(leB (l.getD i 0) 4).toArray⟩, .int .i64 0])] (by kernel_rfl) ?_
          refine g_op (by kernel_rfl) (op_buildSlice 74 [.int .i64 (↑i : Int), .string ⟨(leB (l.getD i 0) 4).toArray⟩, .int .i64 0] rfl (by kernel_rfl) ?_)
          intro b10 W10 n10
          have g10 := n10.ge hB
          have r10_ho := own_ne ho n10
          replace hB := Bl.next hB n10.below
          replace ho := own_below ho n10.below
          replace o7 := own_below o7 n10.below
          have k10 := n10.blk
          refine g_op (by kernel_rfl) (op_app (e := 74) (n := (overK l i).length) (xs := (overK l i).flatMap entC) (m := 1) (news := [.int .i64 (↑i : Int), .string ⟨(leB (l.getD i 0) 4).toArray⟩, .int .i64 0]) (.agg #[.int .i64 0, .string ⟨#[]⟩, .int .i64 0]) 3 32 ((overK l (i + 1)).length) ((overK l (i + 1)).flatMap entC) rfl Tryz.underlying48 (by kernel_rfl) rfl (by decide) (by kernel_rfl) ho (by kernel_rfl) (k10.sl 1 1 (by decide) (by decide)) rfl (by simp [Value.oneCell']) (by have := overK_len l i; unfold maxLen; omega) (by have := overK_len l i; omega) hB.size (by rw [overK_yes (by omega)]; simp) (by rw [overK_yes (by omega)]; simp [entC]) ?_)
          intro p11 c11 W11 o11 hg11 hb11
          replace o7 := own_grown o7 hg11 ho (by decide)
          replace hB := hB.trans hb11
          refine g_pv 1 [(6, .slice p11 ((overK l (i + 1)).length) c11)] (by kernel_rfl) ?_
          refine wpList_nil ?_
          refine wp_region_lit ?_
          refine g_op (by kernel_rfl) (op_wrap .i64 ((↑i : Int) + 1) (↑(i + 1) : Int) (by kernel_rfl) ((show IntKind.i64.wrap ((↑i : Int) + 1) = ((↑i : Int) + 1) from by first | exact IntWalk.i64_in _ (by omega) | (simp only [IntKind.wrap]; omega)).trans (by omega)) ?_)
          refine g_pv 1 [(16, .int .i64 (↑(i + 1) : Int))] (by kernel_rfl) ?_
          refine wpList_nil ?_
          refine g_nfr ⟨#[.slice a l.length c, undef, (x2 0), (x2 1), (x2 2), .slice p7 (i + 1) c7, .slice p11 ((overK l (i + 1)).length) c11, .int .i64 (↑i : Int), .int .i64 (l.getD i 0), undef, undef, .slice a l.length c, .int .i64 (↑l.length : Int), .bool (decide ((↑l.length : Int) > (65536 : Int))), .slice a l.length c, .int .i64 (↑l.length : Int), .int .i64 (↑(i + 1) : Int), .bool (decide ((↑i : Int) < (↑l.length : Int))), .int .i64 (↑i : Int), .pointer (some (elemAddr a (i * 1))), .int .i64 (l.getD i 0), .int .i64 (l.getD i 0), .bool false, .bool false, .int .i64 (l.getD i 0), .bool (decide ((l.getD i 0) > (2147483647 : Int))), .bool (decide ((l.getD i 0) > (2147483647 : Int))), .slice ps i cs, .int .i64 (l.getD i 0), .int .i64 (if (3 : Int) < (l.getD i 0) then (3 : Int) else (l.getD i 0)), .slice (some ⟨b6, 0, none⟩) 1 1, .slice p7 (i + 1) c7, .int .i64 (l.getD i 0), .bool (decide ((l.getD i 0) ≥ (3 : Int))), .slice po ((overK l i).length) co, .int .i64 (↑i : Int), .int .i64 (l.getD i 0), .string ⟨(leB (l.getD i 0) 4).toArray⟩, .agg #[.int .i64 (↑i : Int), .string ⟨(leB (l.getD i 0) 4).toArray⟩, .int .i64 0], .slice (some ⟨b10, 0, none⟩) 1 1, .slice p11 ((overK l (i + 1)).length) c11, .int .i64 (↑(i + 1) : Int), undef, undef, undef, undef, undef, undef, undef, undef, undef, undef], []⟩ (by kernel_rfl) ?_
          refine ⟨⟨i + 1, _, _, _, _, (pk [(x2 0), (x2 1), (x2 2), .int .i64 (↑i : Int), .int .i64 (l.getD i 0), .bool (decide ((↑i : Int) < (↑l.length : Int))), .int .i64 (↑i : Int), .pointer (some (elemAddr a (i * 1))), .int .i64 (l.getD i 0), .int .i64 (l.getD i 0), .bool false, .bool false, .int .i64 (l.getD i 0), .bool (decide ((l.getD i 0) > (2147483647 : Int))), .bool (decide ((l.getD i 0) > (2147483647 : Int))), .slice ps i cs, .int .i64 (l.getD i 0), .int .i64 (if (3 : Int) < (l.getD i 0) then (3 : Int) else (l.getD i 0)), .slice (some ⟨b6, 0, none⟩) 1 1, .slice p7 (i + 1) c7, .int .i64 (l.getD i 0), .bool (decide ((l.getD i 0) ≥ (3 : Int))), .slice po ((overK l i).length) co, .int .i64 (↑i : Int), .int .i64 (l.getD i 0), .string ⟨(leB (l.getD i 0) 4).toArray⟩, .agg #[.int .i64 (↑i : Int), .string ⟨(leB (l.getD i 0) 4).toArray⟩, .int .i64 0], .slice (some ⟨b10, 0, none⟩) 1 1, .slice p11 ((overK l (i + 1)).length) c11, .int .i64 (↑(i + 1) : Int)]), rfl, hB, o7, o11, by omega, fun j hj => (Nat.lt_or_ge j i).elim (hz j) (fun q => by obtain rfl : j = i := (by omega); exact ⟨by omega, by omega⟩)⟩, ?_⟩
          show l.length - ((↑(i + 1) : Int)).toNat < l.length - ((↑i : Int)).toNat
          omega
        · have hc8 := of_decide_eq_false hc8
          refine wp_skip ?_
          refine wp_region_lit ?_
          refine g_op (by kernel_rfl) (op_wrap .i64 ((↑i : Int) + 1) (↑(i + 1) : Int) (by kernel_rfl) ((show IntKind.i64.wrap ((↑i : Int) + 1) = ((↑i : Int) + 1) from by first | exact IntWalk.i64_in _ (by omega) | (simp only [IntKind.wrap]; omega)).trans (by omega)) ?_)
          refine g_pv 1 [(16, .int .i64 (↑(i + 1) : Int))] (by kernel_rfl) ?_
          refine wpList_nil ?_
          refine g_nfr ⟨#[.slice a l.length c, undef, (x2 0), (x2 1), (x2 2), .slice p7 (i + 1) c7, .slice po ((overK l i).length) co, .int .i64 (↑i : Int), .int .i64 (l.getD i 0), undef, undef, .slice a l.length c, .int .i64 (↑l.length : Int), .bool (decide ((↑l.length : Int) > (65536 : Int))), .slice a l.length c, .int .i64 (↑l.length : Int), .int .i64 (↑(i + 1) : Int), .bool (decide ((↑i : Int) < (↑l.length : Int))), .int .i64 (↑i : Int), .pointer (some (elemAddr a (i * 1))), .int .i64 (l.getD i 0), .int .i64 (l.getD i 0), .bool false, .bool false, .int .i64 (l.getD i 0), .bool (decide ((l.getD i 0) > (2147483647 : Int))), .bool (decide ((l.getD i 0) > (2147483647 : Int))), .slice ps i cs, .int .i64 (l.getD i 0), .int .i64 (if (3 : Int) < (l.getD i 0) then (3 : Int) else (l.getD i 0)), .slice (some ⟨b6, 0, none⟩) 1 1, .slice p7 (i + 1) c7, .int .i64 (l.getD i 0), .bool (decide ((l.getD i 0) ≥ (3 : Int))), (x2 22), (x2 23), (x2 24), (x2 25), (x2 26), (x2 27), (x2 28), .int .i64 (↑(i + 1) : Int), undef, undef, undef, undef, undef, undef, undef, undef, undef, undef], []⟩ (by kernel_rfl) ?_
          refine g_nfr ⟨#[.slice a l.length c, undef, (x2 0), (x2 1), (x2 2), .slice p7 (i + 1) c7, .slice po ((overK l (i + 1)).length) co, .int .i64 (↑i : Int), .int .i64 (l.getD i 0), undef, undef, .slice a l.length c, .int .i64 (↑l.length : Int), .bool (decide ((↑l.length : Int) > (65536 : Int))), .slice a l.length c, .int .i64 (↑l.length : Int), .int .i64 (↑(i + 1) : Int), .bool (decide ((↑i : Int) < (↑l.length : Int))), .int .i64 (↑i : Int), .pointer (some (elemAddr a (i * 1))), .int .i64 (l.getD i 0), .int .i64 (l.getD i 0), .bool false, .bool false, .int .i64 (l.getD i 0), .bool (decide ((l.getD i 0) > (2147483647 : Int))), .bool (decide ((l.getD i 0) > (2147483647 : Int))), .slice ps i cs, .int .i64 (l.getD i 0), .int .i64 (if (3 : Int) < (l.getD i 0) then (3 : Int) else (l.getD i 0)), .slice (some ⟨b6, 0, none⟩) 1 1, .slice p7 (i + 1) c7, .int .i64 (l.getD i 0), .bool (decide ((l.getD i 0) ≥ (3 : Int))), (x2 22), (x2 23), (x2 24), (x2 25), (x2 26), (x2 27), (x2 28), .int .i64 (↑(i + 1) : Int), undef, undef, undef, undef, undef, undef, undef, undef, undef, undef], []⟩ (by rw [overK_no (by omega)]) ?_
          refine ⟨⟨i + 1, _, _, _, _, (pk [(x2 0), (x2 1), (x2 2), .int .i64 (↑i : Int), .int .i64 (l.getD i 0), .bool (decide ((↑i : Int) < (↑l.length : Int))), .int .i64 (↑i : Int), .pointer (some (elemAddr a (i * 1))), .int .i64 (l.getD i 0), .int .i64 (l.getD i 0), .bool false, .bool false, .int .i64 (l.getD i 0), .bool (decide ((l.getD i 0) > (2147483647 : Int))), .bool (decide ((l.getD i 0) > (2147483647 : Int))), .slice ps i cs, .int .i64 (l.getD i 0), .int .i64 (if (3 : Int) < (l.getD i 0) then (3 : Int) else (l.getD i 0)), .slice (some ⟨b6, 0, none⟩) 1 1, .slice p7 (i + 1) c7, .int .i64 (l.getD i 0), .bool (decide ((l.getD i 0) ≥ (3 : Int))), (x2 22), (x2 23), (x2 24), (x2 25), (x2 26), (x2 27), (x2 28), .int .i64 (↑(i + 1) : Int)]), rfl, hB, o7, (by rw [overK_no (by omega)]; exact ho), by omega, fun j hj => (Nat.lt_or_ge j i).elim (hz j) (fun q => by obtain rfl : j = i := (by omega); exact ⟨by omega, by omega⟩)⟩, ?_⟩
          show l.length - ((↑(i + 1) : Int)).toNat < l.length - ((↑i : Int)).toNat
          omega
  · have hc3 := of_decide_eq_false hc3
    refine wp_exit ?_
    refine then_exit ?_
    refine then_exit ?_
    refine inBlock_hit ?_
    refine wp_seq ?_
    refine wp_region_lit ?_
    refine g_op (by kernel_rfl) (op_alloc [.slice none 0 0] rfl (by kernel_rfl) ?_)
    intro b12 W12 n12
    have g12 := n12.ge hB
    replace hB := Bl.next hB n12.below
    replace hs := own_below hs n12.below
    replace ho := own_below ho n12.below
    have k12 := n12.blk
    refine wpList_nil ?_
    refine wp_seq ?_
    refine wp_seq ?_
    refine wp_region_lit ?_
    refine g_pv 1 [(42, .slice ps i cs)] (by kernel_rfl) ?_
    refine g_op (by kernel_rfl) (op_call (lb := #[]) 33 #[.slice ps i cs, .int .i64 960] rfl (by kernel_rfl) (fun _ _ => by kernel_rfl) (by kernel_rfl) ((slices_Chunk ps i cs _).mono ?_))
    rintro e W13 ⟨b1, b2, rfl, hb13, ga1, ga2, gn12, kkb1, kkb2⟩
    refine ⟨_, rfl, ?_⟩
    replace hB := Bl.next hB hb13
    replace k12 := k12.below hb13
    replace hs := own_below hs hb13
    replace ho := own_below ho hb13
    refine wpList_nil ?_
    refine wp_block ?_
    have hin : i = l.length := by omega
    obtain ⟨g, hv⟩ := row_or hs
    have hst := chunk_stops b1 b2 (fun b => b < W13.heap.size ∧ b ≠ b12) g 0 i cs (.slice ps i cs) W13 (fun b h => h.1) ⟨kkb1.lt, (by rintro rfl; exact absurd (kkb1.ty k12) (by decide))⟩ ⟨kkb2.lt, (by rintro rfl; exact absurd (kkb2.ty k12) (by decide))⟩ (by omega) hv (kkb1.cell (i := 0) rfl) (kkb2.cell (i := 0) rfl)
    refine g_fr ⟨#[.slice a l.length c, undef, (x2 0), (x2 1), (x2 2), .slice ps i cs, .slice po ((overK l i).length) co, (x2 3), (x2 4), .pointer (some ⟨b12, 0, none⟩), undef, .slice a l.length c, .int .i64 (↑l.length : Int), .bool (decide ((↑l.length : Int) > (65536 : Int))), .slice a l.length c, .int .i64 (↑l.length : Int), .int .i64 (↑i : Int), .bool (decide ((↑i : Int) < (↑l.length : Int))), (x2 6), (x2 7), (x2 8), (x2 9), (x2 10), (x2 11), (x2 12), (x2 13), (x2 14), (x2 15), (x2 16), (x2 17), (x2 18), (x2 19), (x2 20), (x2 21), (x2 22), (x2 23), (x2 24), (x2 25), (x2 26), (x2 27), (x2 28), (x2 29), .slice ps i cs, .func (.func 56) #[] #[.pointer (some ⟨b1, 0, none⟩), .pointer (some ⟨b2, 0, none⟩)], undef, undef, undef, undef, undef, undef, undef, undef], []⟩ (by kernel_rfl) ?_
    refine wp_range (g := .tmp 43) (gf := 56) (lb := #[.pointer (some ⟨b1, 0, none⟩), .pointer (some ⟨b2, 0, none⟩)]) rfl (enters_of Tryz.func56 (by kernel_rfl) rfl) _ (fun b h => h.1) hst (fun _ => rfl)
      (fun pre W => (∃ pb cb gs, gs.length = pre.length ∧ Blk W b12 [.slice pb (preC (smallL (l.take i)) pre).length cb] 47 ∧ Lists W W13.heap.size (.slice pb (preC (smallL (l.take i)) pre).length cb) gs (preC (smallL (l.take i)) pre)) ∧ BelowBut W13 b12 W)
      (fun _ _ _ => False) ?own (fun _ _ _ _ _ h _ _ => h) ⟨⟨none, 0, [], rfl, k12, ⟨World.ownsRow_nil _ _ _ _, fun i hi => absurd hi (Nat.not_lt_zero _)⟩⟩, (Below.refl _ _).but _⟩
      (fun x a' _ => a' = { tmps := #[.slice a l.length c, undef, (x2 0), (x2 1), (x2 2), .slice ps i cs, .slice po ((overK l i).length) co, (x2 3), (x2 4), .pointer (some ⟨b12, 0, none⟩), .slice (some ⟨g, 0 + x.val * 960, none⟩) (min 960 (i - x.val * 960)) (min 960 (i - x.val * 960)), .slice a l.length c, .int .i64 (↑l.length : Int), .bool (decide ((↑l.length : Int) > (65536 : Int))), .slice a l.length c, .int .i64 (↑l.length : Int), .int .i64 (↑i : Int), .bool (decide ((↑i : Int) < (↑l.length : Int))), (x2 6), (x2 7), (x2 8), (x2 9), (x2 10), (x2 11), (x2 12), (x2 13), (x2 14), (x2 15), (x2 16), (x2 17), (x2 18), (x2 19), (x2 20), (x2 21), (x2 22), (x2 23), (x2 24), (x2 25), (x2 26), (x2 27), (x2 28), (x2 29), .slice ps i cs, .func (.func 56) #[] #[.pointer (some ⟨b1, 0, none⟩), .pointer (some ⟨b2, 0, none⟩)], .slice (some ⟨g, 0 + x.val * 960, none⟩) (min 960 (i - x.val * 960)) (min 960 (i - x.val * 960)), undef, undef, undef, undef, undef, undef, undef], defers := [] }) (fun _ _ _ _ _ _ h _ _ => h) ?assign ?body ?done (fun _ _ _ _ _ _ h _ => h.elim)
    case own => exact OwnFrom.and (Own.from (fun s A B row hs hg hr => by obtain ⟨pb, cb, gs, h0, h1, h2⟩ := hs; exact ⟨pb, cb, gs, h0, h1.turn hg hr, h2.turn hg hr⟩) _) (ownFrom_but (Nat.le_refl _))
    case assign =>
      rintro lr pre x W K hI hK
      unfold encK
      gi_wp2
      refine hK _ _ (KeepsFrom.refl _ _) (Keeps.refl _ _) hI ?_
      simp only [hin, Nat.zero_add, decide_eq_false (show ¬ ((l.length : Int) > 65536) by omega), Int.lt_irrefl, decide_false]
    case body =>
      rintro lr pre x a' W hlr ⟨⟨pb, cb, gs, hgl, m9, hL⟩, hbb⟩ rfl hlt
      have hx := bmN_lt x.isLt
      have hvs := hv.resolve_left (fun q => by omega)
      have hsW := hbb.own2 hs k12 (by decide)
      rw [hvs.1] at hsW
      obtain ⟨m, hm⟩ : ∃ m, min 960 (i - x.val * 960) = m := ⟨_, rfl⟩
      rw [hm]
      have hm0 : 0 < m := by omega
      have hmk : x.val * 960 + m ≤ i := by omega
      have hsl : (smallL (l.take i)).length = i := by simp [smallL]; omega
      have hcl : (chunkI (smallL (l.take i)) x.val).length = m := by rw [chunkI_len, hsl]; exact hm
      have hpt : (((smallL (l.take i)).map (Value.int .i64)).drop (x.val * 960)).take m = (chunkI (smallL (l.take i)) x.val).map (Value.int .i64) := by rw [← List.map_drop, ← List.map_take]; unfold chunkI; rw [show ((smallL (l.take i)).drop (x.val * 960)).take m = ((smallL (l.take i)).drop (x.val * 960)).take 960 from by rw [List.take_eq_take_iff, List.length_drop, hsl]; omega]
      have hpl : (preC (smallL (l.take i)) pre).length = pre.length := by simp [preC]
      have hbl : pre.length ≤ 69 := by have : bmN i ≤ 69 := (by unfold bmN; omega); omega
      have hrw := hL.row
      have hE : Each W W13.heap.size gs (preC (smallL (l.take i)) pre) := hL.each
      have hZ : RdZ W13 b12 W W := RdZ.refl hbb
      have hW1 : W13.heap.size ≤ W.heap.size := hbb.size
      have hBW : w.heap.size ≤ W13.heap.size := hB.size
      have hb9 := g12
      refine wpIn_block ?_
      have hB := Bl.nextB (Below.refl w.heap.size W) (Nat.le_trans hBW hW1) (below_drew W)
      replace m9 := m9.below (below_drew W)
      replace hsW := own_below hsW (below_drew W)
      replace hrw := own_below hrw (below_drew W)
      replace hE := hE.below (below_drew W)
      replace hZ := hZ.below (below_drew W)
      refine h_regIn (fun V => Below w.heap.size (W.drew) V ∧ Only [47, 24] (W.drew) V) 6 rfl #[false, false, false, false, false, false] rfl (by kernel_rfl) (fun ⟨_, _, q⟩ => q) (by simp) ⟨Below.refl _ _, Only.refl _ _⟩ ?_
      intro hS14
      have hBd16 := hB
      have kd16_b12 := m9
      have fd_hrw := hrw
      refine h_pv [1] 5 rfl #[false, true, false, false, false, false] [(46, .slice (some ⟨g, 0 + x.val * 960, none⟩) m m)] (by kernel_rfl) (fun _ _ _ _ _ h => h) (by kernel_rfl) hS14 ?_
      refine h_two 0 2 4 rfl (by kernel_rfl) rfl rfl (by kernel_rfl) (by kernel_rfl) ?_ ?_
      · refine op_load ⟨b12, 0, none⟩ (.slice pb ((preC (smallL (l.take i)) pre).length) cb) rfl (by kernel_rfl) (by kernel_rfl) (m9.cell (i := 0) rfl) ?_
        have hS17 : Below w.heap.size (W.drew) (W.drew) ∧ Only [47, 24] (W.drew) (W.drew) := hS14
        refine ⟨hS17, ?_⟩
        have hs18 : W.heap.size ≤ (W.drew).heap.size := hB.size
        refine h_one 2 3 rfl (by kernel_rfl) rfl (by kernel_rfl) (op_call (lb := #[]) 18 #[.slice (some ⟨g, 0 + x.val * 960, none⟩) m m] rfl (by kernel_rfl) (fun _ _ => by kernel_rfl) (by kernel_rfl) ((clone_cnt ⟨g, 0 + x.val * 960, none⟩ m m ((chunkI (smallL (l.take i)) x.val).map (Value.int .i64)) _ (hpt ▸ Sl.midI (own_sl hsW) (by rw [List.length_map]; exact hsl) (x.val * 960) m hm0 hmk) (by rw [List.length_map]; exact hcl) (fun u hu => by obtain ⟨y, _, rfl⟩ := List.mem_map.1 hu; rfl) (by omega)).mono ?_))
        rintro e W18 ⟨_, rfl, hb18, q, c2, rfl, hq⟩
        refine ⟨_, rfl, ?_⟩
        replace hB := Bl.nextB hB (Nat.le_trans hBW hW1) hb18
        replace m9 := m9.below hb18
        replace hsW := own_below hsW hb18
        replace hrw := own_below hrw hb18
        replace hE := hE.below hb18
        replace hZ := hZ.below hb18
        replace hq := own_mono hq hs18
        have hS19 : Below w.heap.size (W.drew) (W18) ∧ Only [47, 24] (W.drew) (W18) := ⟨Bl.nextB hS17.1 (Nat.le_trans (Nat.le_trans hBW hW1) hBd16.size) hb18, hS17.2.trans (Only.of_below hb18)⟩
        refine ⟨hS19, ?_⟩
        refine h_one 3 2 rfl (by kernel_rfl) rfl (by kernel_rfl) (op_buildSlice 24 [.slice q m c2] rfl (by kernel_rfl) ?_)
        intro b20 W20 n20
        have d20_b12 := n20.ne m9
        have g20 := n20.ge0 hB
        have r20_hrw := own_ne hrw n20
        have gd_b20 : (W.drew).heap.size ≤ b20 := by have := hS19.1.size; have := n20.at_; omega
        replace hB := Bl.nextB hB (Nat.le_trans hBW hW1) n20.below
        replace m9 := m9.below n20.below
        replace hsW := own_below hsW n20.below
        replace hrw := own_below hrw n20.below
        replace hE := hE.below n20.below
        replace hZ := hZ.below n20.below
        replace hq := own_below hq n20.below
        have k20 := n20.blk
        have hS21 : Below w.heap.size (W.drew) (W20) ∧ Only [47, 24] (W.drew) (W20) := ⟨Bl.nextB hS19.1 (Nat.le_trans (Nat.le_trans hBW hW1) hBd16.size) n20.below, hS19.2.trans (Only.of_below n20.below)⟩
        refine ⟨hS21, ?_⟩
        refine h_one 4 1 rfl (by kernel_rfl) rfl (by kernel_rfl) (op_app (e := 24) (n := (preC (smallL (l.take i)) pre).length) (xs := (List.range (preC (smallL (l.take i)) pre).length).map (lstV gs (preC (smallL (l.take i)) pre))) (m := 1) (news := [.slice q m c2]) (.slice none 0 0) 1 24 ((preC (smallL (l.take i)) pre).length + 1) ((List.range (preC (smallL (l.take i)) pre).length).map (lstV gs (preC (smallL (l.take i)) pre)) ++ [.slice q m c2]) rfl Tryz.underlying47 (by kernel_rfl) rfl (by decide) (by kernel_rfl) hrw (by kernel_rfl) (k20.sl 1 1 (by decide) (by decide)) rfl (by simp [Value.oneCell']) (by unfold maxLen; omega) (by omega) (Nat.le_trans hW1 hZ.le) (by simp) (by simp) ?_)
        intro p22 c22 W22 o22 hg22 hb22
        replace m9 := m9.grown hg22 hrw (by decide)
        replace hsW := own_grown hsW hg22 hrw (by decide)
        replace hE := hE.only (Only.of_grown (T := [24]) hg22 hrw (by decide)) (by decide)
        replace hZ := hZ.grown hg22 hrw
        replace hq := own_grown hq hg22 hrw (by decide)
        replace hB := hB.trans (hb22.mono hBW)
        have hS23 : Below w.heap.size (W.drew) (W22) ∧ Only [47, 24] (W.drew) (W22) := ⟨hS21.1.trans (hb22.mono hBW), hS21.2.trans (Only.of_grown hg22 hrw (by decide))⟩
        refine ⟨hS23, ?_⟩
        refine h_one 5 0 rfl (by kernel_rfl) rfl (by kernel_rfl) (op_store (v := .slice p22 ((preC (smallL (l.take i)) pre).length + 1) c22) (b := b12) (off := 0) rfl (by kernel_rfl) (by kernel_rfl) (by kernel_rfl) rfl m9 (by first | decide | simp) ?_)
        intro W24 u24 k24
        change Blk _ _ [.slice p22 ((preC (smallL (l.take i)) pre).length + 1) c22] _ at k24
        replace hB := u24.below hB hb9
        replace hsW := u24.own2 hsW m9 (by decide)
        replace hE := hE.only (Only.of_upd (T := [47]) u24 m9 (by decide)) (by decide)
        replace hZ := hZ.upd u24 m9
        replace hq := u24.own2 hq m9 (by decide)
        replace o22 := u24.own2 o22 m9 (by decide)
        have hS25 : Below w.heap.size (W.drew) (W24) ∧ Only [47, 24] (W.drew) (W24) := ⟨u24.below hS23.1 hb9, hS23.2.trans (Only.of_upd u24 m9 (by decide))⟩
        refine ⟨hS25, ?_⟩
        refine h_done _ (by kernel_rfl) ?_
        obtain ⟨g2, rfl, hc2⟩ := own_someN hq hm0
        rw [← hcl] at hq
        have hrw2 := o22
        rw [← hcl] at hrw2
        have hS := Lists.snoc (n := (preC (smallL (l.take i)) pre).length + 1) rfl hrw2 hE (own_mono hq hW1) (by rw [hgl, hpl])
        exact ⟨hZ.ko.from _, ⟨hZ.le, fun b hb => hZ.fr b hb.1 hb.2⟩, ⟨_, _, gs ++ [(g2, _)], by simp [hgl], by rw [preC_snoc, List.length_append]; exact k24, by rw [preC_snoc, List.length_append]; exact hS⟩, hZ.bb⟩
      · have hs26 : W.heap.size ≤ (W.drew).heap.size := hB.size
        refine op_call (lb := #[]) 18 #[.slice (some ⟨g, 0 + x.val * 960, none⟩) m m] rfl (by kernel_rfl) (fun _ _ => by kernel_rfl) (by kernel_rfl) ((clone_cnt ⟨g, 0 + x.val * 960, none⟩ m m ((chunkI (smallL (l.take i)) x.val).map (Value.int .i64)) _ (hpt ▸ Sl.midI (own_sl hsW) (by rw [List.length_map]; exact hsl) (x.val * 960) m hm0 hmk) (by rw [List.length_map]; exact hcl) (fun u hu => by obtain ⟨y, _, rfl⟩ := List.mem_map.1 hu; rfl) (by omega)).mono ?_)
        rintro e W26 ⟨_, rfl, hb26, q, c2, rfl, hq⟩
        refine ⟨_, rfl, ?_⟩
        replace hB := Bl.nextB hB (Nat.le_trans hBW hW1) hb26
        replace m9 := m9.below hb26
        replace hsW := own_below hsW hb26
        replace hrw := own_below hrw hb26
        replace hE := hE.below hb26
        replace hZ := hZ.below hb26
        replace hq := own_mono hq hs26
        have hS27 : Below w.heap.size (W.drew) (W26) ∧ Only [47, 24] (W.drew) (W26) := ⟨Bl.nextB hS14.1 (Nat.le_trans (Nat.le_trans hBW hW1) hBd16.size) hb26, hS14.2.trans (Only.of_below hb26)⟩
        refine ⟨hS27, ?_⟩
        refine h_two 0 3 3 rfl (by kernel_rfl) rfl rfl (by kernel_rfl) (by kernel_rfl) ?_ ?_
        · refine op_load ⟨b12, 0, none⟩ (.slice pb ((preC (smallL (l.take i)) pre).length) cb) rfl (by kernel_rfl) (by kernel_rfl) (m9.cell (i := 0) rfl) ?_
          have hS28 : Below w.heap.size (W.drew) (W26) ∧ Only [47, 24] (W.drew) (W26) := hS27
          refine ⟨hS28, ?_⟩
          refine h_one 3 2 rfl (by kernel_rfl) rfl (by kernel_rfl) (op_buildSlice 24 [.slice q m c2] rfl (by kernel_rfl) ?_)
          intro b29 W29 n29
          have d29_b12 := n29.ne m9
          have g29 := n29.ge0 hB
          have r29_hrw := own_ne hrw n29
          have gd_b29 : (W.drew).heap.size ≤ b29 := by have := hS28.1.size; have := n29.at_; omega
          replace hB := Bl.nextB hB (Nat.le_trans hBW hW1) n29.below
          replace m9 := m9.below n29.below
          replace hsW := own_below hsW n29.below
          replace hrw := own_below hrw n29.below
          replace hE := hE.below n29.below
          replace hZ := hZ.below n29.below
          replace hq := own_below hq n29.below
          have k29 := n29.blk
          have hS30 : Below w.heap.size (W.drew) (W29) ∧ Only [47, 24] (W.drew) (W29) := ⟨Bl.nextB hS28.1 (Nat.le_trans (Nat.le_trans hBW hW1) hBd16.size) n29.below, hS28.2.trans (Only.of_below n29.below)⟩
          refine ⟨hS30, ?_⟩
          refine h_one 4 1 rfl (by kernel_rfl) rfl (by kernel_rfl) (op_app (e := 24) (n := (preC (smallL (l.take i)) pre).length) (xs := (List.range (preC (smallL (l.take i)) pre).length).map (lstV gs (preC (smallL (l.take i)) pre))) (m := 1) (news := [.slice q m c2]) (.slice none 0 0) 1 24 ((preC (smallL (l.take i)) pre).length + 1) ((List.range (preC (smallL (l.take i)) pre).length).map (lstV gs (preC (smallL (l.take i)) pre)) ++ [.slice q m c2]) rfl Tryz.underlying47 (by kernel_rfl) rfl (by decide) (by kernel_rfl) hrw (by kernel_rfl) (k29.sl 1 1 (by decide) (by decide)) rfl (by simp [Value.oneCell']) (by unfold maxLen; omega) (by omega) (Nat.le_trans hW1 hZ.le) (by simp) (by simp) ?_)
          intro p31 c31 W31 o31 hg31 hb31
          replace m9 := m9.grown hg31 hrw (by decide)
          replace hsW := own_grown hsW hg31 hrw (by decide)
          replace hE := hE.only (Only.of_grown (T := [24]) hg31 hrw (by decide)) (by decide)
          replace hZ := hZ.grown hg31 hrw
          replace hq := own_grown hq hg31 hrw (by decide)
          replace hB := hB.trans (hb31.mono hBW)
          have hS32 : Below w.heap.size (W.drew) (W31) ∧ Only [47, 24] (W.drew) (W31) := ⟨hS30.1.trans (hb31.mono hBW), hS30.2.trans (Only.of_grown hg31 hrw (by decide))⟩
          refine ⟨hS32, ?_⟩
          refine h_one 5 0 rfl (by kernel_rfl) rfl (by kernel_rfl) (op_store (v := .slice p31 ((preC (smallL (l.take i)) pre).length + 1) c31) (b := b12) (off := 0) rfl (by kernel_rfl) (by kernel_rfl) (by kernel_rfl) rfl m9 (by first | decide | simp) ?_)
          intro W33 u33 k33
          change Blk _ _ [.slice p31 ((preC (smallL (l.take i)) pre).length + 1) c31] _ at k33
          replace hB := u33.below hB hb9
          replace hsW := u33.own2 hsW m9 (by decide)
          replace hE := hE.only (Only.of_upd (T := [47]) u33 m9 (by decide)) (by decide)
          replace hZ := hZ.upd u33 m9
          replace hq := u33.own2 hq m9 (by decide)
          replace o31 := u33.own2 o31 m9 (by decide)
          have hS34 : Below w.heap.size (W.drew) (W33) ∧ Only [47, 24] (W.drew) (W33) := ⟨u33.below hS32.1 hb9, hS32.2.trans (Only.of_upd u33 m9 (by decide))⟩
          refine ⟨hS34, ?_⟩
          refine h_done _ (by kernel_rfl) ?_
          obtain ⟨g2, rfl, hc2⟩ := own_someN hq hm0
          rw [← hcl] at hq
          have hrw2 := o31
          rw [← hcl] at hrw2
          have hS := Lists.snoc (n := (preC (smallL (l.take i)) pre).length + 1) rfl hrw2 hE (own_mono hq hW1) (by rw [hgl, hpl])
          exact ⟨hZ.ko.from _, ⟨hZ.le, fun b hb => hZ.fr b hb.1 hb.2⟩, ⟨_, _, gs ++ [(g2, _)], by simp [hgl], by rw [preC_snoc, List.length_append]; exact k33, by rw [preC_snoc, List.length_append]; exact hS⟩, hZ.bb⟩
        · refine op_buildSlice 24 [.slice q m c2] rfl (by kernel_rfl) ?_
          intro b35 W35 n35
          have d35_b12 := n35.ne m9
          have g35 := n35.ge0 hB
          have r35_hrw := own_ne hrw n35
          have gd_b35 : (W.drew).heap.size ≤ b35 := by have := hS27.1.size; have := n35.at_; omega
          replace hB := Bl.nextB hB (Nat.le_trans hBW hW1) n35.below
          replace m9 := m9.below n35.below
          replace hsW := own_below hsW n35.below
          replace hrw := own_below hrw n35.below
          replace hE := hE.below n35.below
          replace hZ := hZ.below n35.below
          replace hq := own_below hq n35.below
          have k35 := n35.blk
          have hS36 : Below w.heap.size (W.drew) (W35) ∧ Only [47, 24] (W.drew) (W35) := ⟨Bl.nextB hS27.1 (Nat.le_trans (Nat.le_trans hBW hW1) hBd16.size) n35.below, hS27.2.trans (Only.of_below n35.below)⟩
          refine ⟨hS36, ?_⟩
          refine h_one 0 2 rfl (by kernel_rfl) rfl (by kernel_rfl) (op_load ⟨b12, 0, none⟩ (.slice pb ((preC (smallL (l.take i)) pre).length) cb) rfl (by kernel_rfl) (by kernel_rfl) (m9.cell (i := 0) rfl) ?_)
          have hS37 : Below w.heap.size (W.drew) (W35) ∧ Only [47, 24] (W.drew) (W35) := hS36
          refine ⟨hS37, ?_⟩
          refine h_one 4 1 rfl (by kernel_rfl) rfl (by kernel_rfl) (op_app (e := 24) (n := (preC (smallL (l.take i)) pre).length) (xs := (List.range (preC (smallL (l.take i)) pre).length).map (lstV gs (preC (smallL (l.take i)) pre))) (m := 1) (news := [.slice q m c2]) (.slice none 0 0) 1 24 ((preC (smallL (l.take i)) pre).length + 1) ((List.range (preC (smallL (l.take i)) pre).length).map (lstV gs (preC (smallL (l.take i)) pre)) ++ [.slice q m c2]) rfl Tryz.underlying47 (by kernel_rfl) rfl (by decide) (by kernel_rfl) hrw (by kernel_rfl) (k35.sl 1 1 (by decide) (by decide)) rfl (by simp [Value.oneCell']) (by unfold maxLen; omega) (by omega) (Nat.le_trans hW1 hZ.le) (by simp) (by simp) ?_)
          intro p38 c38 W38 o38 hg38 hb38
          replace m9 := m9.grown hg38 hrw (by decide)
          replace hsW := own_grown hsW hg38 hrw (by decide)
          replace hE := hE.only (Only.of_grown (T := [24]) hg38 hrw (by decide)) (by decide)
          replace hZ := hZ.grown hg38 hrw
          replace hq := own_grown hq hg38 hrw (by decide)
          replace hB := hB.trans (hb38.mono hBW)
          have hS39 : Below w.heap.size (W.drew) (W38) ∧ Only [47, 24] (W.drew) (W38) := ⟨hS37.1.trans (hb38.mono hBW), hS37.2.trans (Only.of_grown hg38 hrw (by decide))⟩
          refine ⟨hS39, ?_⟩
          refine h_one 5 0 rfl (by kernel_rfl) rfl (by kernel_rfl) (op_store (v := .slice p38 ((preC (smallL (l.take i)) pre).length + 1) c38) (b := b12) (off := 0) rfl (by kernel_rfl) (by kernel_rfl) (by kernel_rfl) rfl m9 (by first | decide | simp) ?_)
          intro W40 u40 k40
          change Blk _ _ [.slice p38 ((preC (smallL (l.take i)) pre).length + 1) c38] _ at k40
          replace hB := u40.below hB hb9
          replace hsW := u40.own2 hsW m9 (by decide)
          replace hE := hE.only (Only.of_upd (T := [47]) u40 m9 (by decide)) (by decide)
          replace hZ := hZ.upd u40 m9
          replace hq := u40.own2 hq m9 (by decide)
          replace o38 := u40.own2 o38 m9 (by decide)
          have hS41 : Below w.heap.size (W.drew) (W40) ∧ Only [47, 24] (W.drew) (W40) := ⟨u40.below hS39.1 hb9, hS39.2.trans (Only.of_upd u40 m9 (by decide))⟩
          refine ⟨hS41, ?_⟩
          refine h_done _ (by kernel_rfl) ?_
          obtain ⟨g2, rfl, hc2⟩ := own_someN hq hm0
          rw [← hcl] at hq
          have hrw2 := o38
          rw [← hcl] at hrw2
          have hS := Lists.snoc (n := (preC (smallL (l.take i)) pre).length + 1) rfl hrw2 hE (own_mono hq hW1) (by rw [hgl, hpl])
          exact ⟨hZ.ko.from _, ⟨hZ.le, fun b hb => hZ.fr b hb.1 hb.2⟩, ⟨_, _, gs ++ [(g2, _)], by simp [hgl], by rw [preC_snoc, List.length_append]; exact k40, by rw [preC_snoc, List.length_append]; exact hS⟩, hZ.bb⟩
    case done =>
      rintro D xs W hD rfl ⟨⟨pb, cb, gs, hgl, m9, hL⟩, hbb⟩ hK0
      rw [preC_all] at m9 hL
      have hK : Dfr D W := hK0; clear hK0
      subst hin
      rw [List.take_length] at m9 hL
      rw [chunksI_len] at m9 hL
      refine g_nopan ?_
      have hB1 := hB
      replace hB := hbb.below hB g12 hB.size
      have ho2 := hbb.own2 ho k12 (by decide)
      have hBW := hB1.size
      replace k12 := m9
      refine wp_seq ?_
      refine wp_region_lit ?_
      refine g_op (by kernel_rfl) (op_load ⟨b12, 0, none⟩ (.slice pb (bmN l.length) cb) rfl (by kernel_rfl) (by kernel_rfl) (k12.cell (i := 0) rfl) ?_)
      refine g_pv 4 [(51, .slice po ((overK l l.length).length) co), (2, .slice pb (bmN l.length) cb), (3, .slice po ((overK l l.length).length) co), (4, .int .i64 0)] (by kernel_rfl) ?_
      refine wpList_nil ?_
      refine wp_ret ?_
      exact g_endM hK (.tuple #[.slice pb (bmN l.length) cb, .slice po ((overK l l.length).length) co, .int .i64 0]) (by kernel_rfl) (by kernel_rfl) (.inr ⟨splitE_good hl (fun k hk => hz k (by omega)), _, _, gs, _, _, rfl, (Upd.of_put _ _ _).below hB (Nat.le_trans hBW hD), (hL.mono hBW).put (Upd.of_put _ _ _) hK, (Upd.of_put _ _ _).own3 ho2 (hK.row ho2)⟩)
end Go.Proofs.YtbhjgcokpmiopaaGreat
namespace Go.Proofs.YtbhjgcokpmiopaaGreat
open Go.RowKit Go.Extern.Stop Go.Stop Go.Extern
set_option linter.unusedVariables false
attribute [local irreducible] wpList wpAnyH Code.wp Oper.wp Go

def LayPost (B ba b g nn cc : Nat) (pa : Option Addr) (ca f N k0 : Nat) (bs : List UInt8) (bl : Nat) (L : List (List Int)) (w : World) (e : Ending) (w' : World) : Prop :=
  ∃ p c, e = .returned .nilIface ∧ Below B w w' ∧ Only [64, 5, 48, 74] w w' ∧ Fr [ba, g, bl] w w' ∧ Al B ba b g nn cc pa ca f N (k0 + L.length) (cntsB L (f + k0) bs L.length) w' ∧ Blk w' bl [.slice p L.length c] 48 ∧ w'.ownsRow w.heap.size 74 3 (.slice p L.length c) L.length ((slotsE L (f + k0) L.length).flatMap entC)
set_option maxRecDepth 100000 in
set_option maxHeartbeats 8000000 in
theorem plot_layD (B ba b g nn cc : Nat) (pa : Option Addr) (ca f N k0 : Nat) (bs : List UInt8) (bl B2 : Nat) (pl : Option Addr) (cl : Nat) (gs : List (Nat × Nat)) (L : List (List Int)) (w : World) (hC : AlC B ba nn cc ca f N) (hA : Al B ba b g nn cc pa ca f N k0 bs w) (hL : Lists w B2 (.slice pl L.length cl) gs L) (hS : ∀ i, i < L.length → Small (L.getD i []) ∧ (L.getD i []).length ≤ 960) (hf1 : 1 ≤ f) (hk : k0 + L.length ≤ N) (kl : Blk w bl [.slice none 0 0] 48) (hBl : B ≤ bl) (hBw : B ≤ w.heap.size) :
    Calls Tryz.prog 21 #[.pointer (some ⟨ba, 0, none⟩), .slice pl L.length cl, .func (.func 53) #[] #[.pointer (some ⟨bl, 0, none⟩)]] w (LayPost B ba b g nn cc pa ca f N k0 bs bl L w) := by
 have hcf := hC.hf
 have hcn := hC.hn
 refine zin 51 Tryz.func21 ?_
 have hB := Below.refl B w
 refine zl 14 51 (fun zm zkv V => ∃ (i : Nat) (p : Option Addr) (c : Nat), zkv = [(0, .pointer (some ⟨ba, 0, none⟩)), (2, .func (.func 53) #[] #[.pointer (some ⟨bl, 0, none⟩)]), (15, .slice pl L.length cl), (16, .int .i64 (↑L.length : Int)), (17, .int .i64 (↑i : Int))] ∧ zm = L.length - ((↑i : Int)).toNat ∧ Below B w V ∧ Fr [ba, g, bl] w V ∧ Only [64, 5, 48, 74] w V ∧ Blk V bl ([.slice p i c]) 48 ∧ Al B ba b g nn cc pa ca f N (k0 + i) (cntsB L (f + k0) bs i) V ∧ Lists V B2 (.slice pl L.length cl) gs L ∧ V.ownsRow w.heap.size 74 3 (.slice p i c) i ((slotsE L (f + k0) i).flatMap entC) ∧ i ≤ L.length) ⟨0, none, 0, rfl, rfl, hB, (Fr.refl _ _), (Only.refl _ _), kl, hA, hL, World.ownsRow_nil _ _ _ _, Nat.zero_le _⟩ ?_
 rintro _ _ W1 ⟨i, p, c, rfl, rfl, hB_1, hX_1, hO_1, k1_bl, hA, hL, hup, hi⟩ J1 hJ1 r1
 refine xid 6 ((↑i : Int) < (↑L.length : Int)) (fun hc2 => ?_) (fun hc2 => ?_)
 · refine xx 6 _ L.length i 1 (Lists.elem hL rfl (k := i) (by omega)).1 ?_
   refine xl 0 ((Lists.elem hL rfl (k := i) (by omega)).2) ?_
   refine xc 6 (args := #[.slice (some ⟨(gs.getD i (0, 0)).1, 0, none⟩) ((L.getD i []).length) ((gs.getD i (0, 0)).2)]) (bits_Put _ _ (L.getD i []) _ (hS i (by omega)).1 (hS i (by omega)).2 (own_sl (hL.each i (by omega)))) ?_
   rintro _ W3 ⟨_, rfl, hb3, g6, rfl, h6⟩
   have hA'1 := hA.below hb3
   have hO'1 := hO_1.trans (Only.of_below hb3)
   have h6'1 := own_mono h6 hB_1.size
   have hB'1 := Bl.nextB hB_1 hBw hb3
   refine xc 21 (args := #[.pointer (some ⟨ba, 0, none⟩), .int .i64 3, .slice (some ⟨g6, 0, none⟩) 244 244]) (alloc_LayQ B ba b g nn cc pa ca f N (k0 + i) (cntsB L (f + k0) bs i) 3 (some ⟨g6, 0, none⟩) 244 (bitsB (L.getD i [])) (f + k0 + i) 244 _ (Nat.add_assoc _ _ _).symm (bitsT_len _ _) hC hA'1 (by omega) (by decide) (by decide) (fun W _ hO'1 => bys_of (own_sl (own_only h6'1 hO'1 (by decide))) (bitsT_len _ _)) (by decide) (Nat.le_trans hBw hB'1.size)) ?_
   rintro _ W4 ⟨rfl, hb4, hO4, hX4, hA⟩
   have hL'1 := (hL.below hb3).only hO4 (by decide)
   refine xr 20 (args := #[.slice (some ⟨(gs.getD i (0, 0)).1, 0, none⟩) ((L.getD i []).length) ((gs.getD i (0, 0)).2)]) (bits_Free _ _ (L.getD i []) _ (hS i (by omega)).2 (own_sl (hL'1.each i (by omega)))) fun W5 hb5 => ?_
   have hf9 : freeN (L.getD i []) ≤ 960 := Nat.le_trans (freeK_le _ _) (hS i (by omega)).2
   have hg9 : firstN (L.getD i []) ≤ 960 := Nat.le_trans (firstN_le _) (hS i (by omega)).2
   have hB'2 := Bl.nextB (hB'1.trans hb4) hBw hb5
   have k1_bl'1 := ((k1_bl.below hb3).only hO4 (by decide)).below hb5
   have hup'1 := own_below (own_only (own_below hup hb3) hO4 (by decide)) hb5
   refine xc 13 (args := #[.agg #[.int .i64 (↑(f + k0 + i) : Int), .int .i64 (↑(freeN (L.getD i [])) : Int), .int .i64 (↑(firstN (L.getD i [])) : Int)], .pointer (some ⟨bl, 0, none⟩)]) (plot_data1 B w.heap.size bl p c L (f + k0) i _ hBw hB'2.size (Nat.le_trans hBw hB'2.size) hBl k1_bl'1 hup'1 (by omega) (by omega) (by omega) hf9 hg9) ?_
   rintro _ W6 ⟨_, p9, c9, rfl, hb6, hO6, kln, hup, hX6⟩
   refine xwm 4 ((↑i : Int) + 1) (↑(i + 1) : Int) ?_
   have hA'2 := (hA.below hb5).only hO6 (by decide)
   have hL'2 := (hL'1.below hb5).only hO6 (by decide)
   have hB'3 := hB'2.trans hb6
   have hX'1 := (Fr.trans_B (((hX_1.trans (Fr.of_below hb3)).trans (hX4.mono (by simp))).trans (Fr.of_below hb5)) hX6 (by simp))
   have hO'2 := ((hO'1.trans (hO4.wide)).trans (Only.of_below hb5)).trans (hO6.wide)
   exact ze 2 (hJ1 _ _ _ ⟨i + 1, _, _, rfl, rfl, hB'3, hX'1, hO'2, kln, hA'2, hL'2, hup, by omega⟩ (by omega))
 refine xe 11 .nilIface ?_
 obtain rfl : i = L.length := by omega
 exact ⟨_, _, rfl, hB_1, hO_1, hX_1, hA, k1_bl, hup⟩
end Go.Proofs.YtbhjgcokpmiopaaGreat
namespace Go.Proofs.YtbhjgcokpmiopaaGreat
open Go.RowKit Go.Extern.Stop Go.Stop Go.Extern
set_option linter.unusedVariables false
attribute [local irreducible] wpList wpAnyH Code.wp Oper.wp Go

/-- the law's entries: keys 0, 3, 6 .., values of v zero bytes -/
def someE (v N : Nat) : List Ent := (List.range N).map fun i => (((3 * i : Nat) : Int), List.replicate v 0, 0)
theorem someE_len (v N : Nat) : (someE v N).length = N := by simp [someE]
theorem someE_get {v N i : Nat} (h : i < N) : (someE v N).getD i entD = (((3 * i : Nat) : Int), List.replicate v 0, 0) := by simp [someE, List.getD, List.getElem?_range h]
theorem someE_succ (v j : Nat) : (someE v (j + 1)).flatMap entC = (someE v j).flatMap entC ++ [.int .i64 ((3 * j : Nat) : Int), .string ⟨(List.replicate v (0 : UInt8)).toArray⟩, .int .i64 0] := by
  simp [someE, List.range_succ, entC]
theorem someE_ok {v N : Nat} (h : N ≤ 100000) : EntsOk v (someE v N) where
  hk i hi := by rw [someE_len] at hi; rw [someE_get hi]; constructor <;> (simp only; omega)
  hs j hj := by rw [someE_len] at hj; rw [someE_get (by omega), someE_get hj]; simp only; omega
  hw i hi := by rw [someE_len] at hi; rw [someE_get hi]; simp
end Go.Proofs.YtbhjgcokpmiopaaGreat
namespace Go.Proofs.YtbhjgcokpmiopaaGreat
open Go.RowKit Go.Extern.Stop Go.Stop Go.Extern
set_option linter.unusedVariables false
attribute [local irreducible] wpList wpAnyH Code.wp Oper.wp Go

theorem Al.mono {B B' ba b g n c : Nat} {pa : Option Addr} {ca f N k : Nat} {l : List UInt8} {w : World} (h : Al B' ba b g n c pa ca f N k l w) (hB : B ≤ B') : Al B ba b g n c pa ca f N k l w := ⟨h.blkA, h.blkI, own_mono h.data hB, own_mono h.nums hB⟩
theorem AlC.mono {B B' ba n c ca f N : Nat} (h : AlC B' ba n c ca f N) (hB : B ≤ B') : AlC B ba n c ca f N := ⟨h.hn, h.hc, h.hca, h.hf, Nat.le_trans hB h.hB⟩
theorem row_at {w : World} {base g n c size : Nat} {e : TypeId} {xs : List Value} (h : w.ownsRow base e size (.slice (some ⟨g, 0, none⟩) n c) n xs) : ∃ cur, w.heap[g]? = some (.cells cur e (0, 0)) := by
  rcases h.2 with ⟨hv, _⟩ | ⟨g2, cap, cur, hv, _, hh, _⟩
  · cases hv
  · simp only [Value.slice.injEq, Option.some.injEq, Addr.mk.injEq] at hv
    obtain ⟨⟨rfl, _, _⟩, _⟩ := hv
    exact ⟨cur, hh⟩
theorem row_lt {w : World} {base g n c size : Nat} {e : TypeId} {xs : List Value} (h : w.ownsRow base e size (.slice (some ⟨g, 0, none⟩) n c) n xs) : g < w.heap.size := by
  obtain ⟨cur, hh⟩ := row_at h
  exact (Array.getElem?_eq_some_iff.1 hh).1
/-- the image of one allocator is no block that another one writes -/
theorem Al.ne {B ba b g n c : Nat} {pa : Option Addr} {ca f N k : Nat} {l : List UInt8} {B2 ba2 b2 g2 n2 c2 : Nat} {pa2 : Option Addr} {ca2 f2 N2 k2 : Nat} {l2 : List UInt8} {w : World} (h : Al B ba b g n c pa ca f N k l w) (h2 : Al B2 ba2 b2 g2 n2 c2 pa2 ca2 f2 N2 k2 l2 w) : b2 ≠ ba ∧ b2 ≠ g := by
  constructor
  · rintro rfl
    exact absurd (h.blkA.ty h2.blkI) (by decide)
  · rintro rfl
    obtain ⟨cur, hh⟩ := row_at h.data
    have h3 : w.heap[b2]? = some (.cells [.slice (some ⟨g2, 0, none⟩) n2 c2].toArray 71 (0, 0)) := h2.blkI
    rw [hh] at h3
    simp only [Option.some.injEq, Obj.cells.injEq] at h3
    exact absurd h3.2.1 (by decide)
theorem Al.apart {B2 ba2 b2 g2 n2 c2 : Nat} {pa2 : Option Addr} {ca2 f2 N2 k2 : Nat} {l2 : List UInt8} {w W : World} {ba g : Nat} (h : Al B2 ba2 b2 g2 n2 c2 pa2 ca2 f2 N2 k2 l2 w) (hC : AlC B2 ba2 n2 c2 ca2 f2 N2) (h1 : ba < B2) (h2 : g < B2) (hne : b2 ≠ ba ∧ b2 ≠ g) (hX : Fr [ba, g] w W) : Al B2 ba2 b2 g2 n2 c2 pa2 ca2 f2 N2 k2 l2 W := by
  have hB := hC.hB
  refine ⟨h.blkA.fr hX (by simp; omega), h.blkI.fr hX (by simp; exact hne), own_fr h.data hX fun k hk => ?_, own_fr h.nums hX fun k hk => ?_⟩
  · have := (h.data.lt k hk).1; simp; omega
  · have := (h.nums.lt k hk).1; simp; omega
theorem build_TreeN (B ba b g nn cc : Nat) (pa : Option Addr) (ca f N k0 : Nat) (bs : List UInt8) (t : Int) (a : Option Addr) (c : Nat) (l : List Ent) (n : Nat) (w : World) (hl : l.length = n) (hC : AlC B ba nn cc ca f N) (hA : Al B ba b g nn cc pa ca f N k0 bs w) (ht1 : 1 ≤ t) (ht2 : t ≤ 5) (E : EntsOk (widN t true) l) (hn : n ≤ 32768) (hf1 : 1 ≤ f) (hkN : k0 ≤ N) (hk : k0 + nodN t n ≤ N) (hin : ∀ W, Below B w W → Only [64, 5, 26] w W → Sts entC W (.slice a l.length c) l) (hBw : B ≤ w.heap.size) :
    Calls Tryz.prog 20 #[.pointer (some ⟨ba, 0, none⟩), .int .i64 t, .slice a n c] w (TreePost B ba b g nn cc pa ca f N k0 bs t l w) := by
  subst hl; exact build_Tree B ba b g nn cc pa ca f N k0 bs t a c l w hC hA ht1 ht2 E hn hf1 hkN hk hin hBw
theorem build_Tree_noneN (B ba b g nn cc : Nat) (pa : Option Addr) (ca f N k0 : Nat) (bs : List UInt8) (t : Int) (a : Option Addr) (c : Nat) (l : List Ent) (n : Nat) (w : World) (hl : l.length = n) (hA : Al B ba b g nn cc pa ca f N k0 bs w) (ht1 : 1 ≤ t) (ht2 : t ≤ 5) (E : EntsOk (widN t true) l) (hn : n ≤ 32768) (hkN : k0 ≤ N) (hk : N < k0 + nodN t n) (h : Sts entC w (.slice a l.length c) l) :
    Calls Tryz.prog 20 #[.pointer (some ⟨ba, 0, none⟩), .int .i64 t, .slice a n c] w (Ret (.tuple #[.int .i64 0, .iface 46 (.int .i64 14)]) w) := by
  subst hl; exact build_Tree_none B ba b g nn cc pa ca f N k0 bs t a c l w hA ht1 ht2 E hn hkN hk h
theorem treeB_root {t : Int} {l : List Ent} {q : Nat} {bs : List UInt8} (hq : 1 ≤ q) : (treeB t l q bs).1 = ((q + nodN t l.length - 1 : Nat) : Int) := by
  have hp := ovN_pos l.length (maxN t true)
  have hg := levs_ge (ovN l.length (maxN t true))
  unfold treeB
  rw [treeUp_root (by rw [upE_len]; exact hp) (by rw [upE_len, upE_get (by omega)]; simp only [upX]; congr 1; omega) (by omega), upE_len]
  unfold nodN levL
  congr 1; omega
theorem ovN_6 {n m : Nat} (hm : 6 ≤ m) (hn : n ≤ 511) : ovN n m ≤ 86 := by
  unfold ovN
  have : (n + m - 1) / m ≤ 86 := by
    rw [Nat.div_le_iff_le_mul_add_pred (by omega)]
    have : 6 * 86 ≤ m * 86 := Nat.mul_le_mul_right 86 hm
    omega
  omega
theorem nodN_511 {t : Int} {n : Nat} (hn : n ≤ 511) : nodN t n ≤ 200 := by
  have hm : 6 ≤ maxN t true := by unfold maxN; repeat' split
                                  all_goals first | decide | simp_all
  have h1 := ovN_6 (m := maxN t true) hm hn
  have h2 := levs_sum (ovN_pos n (maxN t true))
  unfold nodN levL; omega
theorem and511 (x : Int) : ∃ n : Nat, IntKind.i64.wrap (↑(BitVec.ofInt 64 x &&& BitVec.ofInt 64 (511 : Int)).toNat : Int) = (n : Int) ∧ n ≤ 511 := by
  refine ⟨(BitVec.ofInt 64 x &&& BitVec.ofInt 64 (511 : Int)).toNat, ?_, ?_⟩
  · have h : (BitVec.ofInt 64 x &&& BitVec.ofInt 64 (511 : Int)).toNat ≤ 511 := by rw [BitVec.toNat_and]; exact Nat.and_le_right
    exact i64_nat (by omega)
  · rw [BitVec.toNat_and]; exact Nat.and_le_right
theorem nodN_2_13 : nodN 2 13 = 3 := by
  unfold nodN levL
  rw [show ovN 13 (maxN 2 true) = 2 from rfl, levs_more (by decide), show ovN 2 18 = 1 from rfl, levs_one (by decide)]; rfl
end Go.Proofs.YtbhjgcokpmiopaaGreat
