/- image.Of and block.Write at an image in a row of its own. block.Write of anything, and the statement BlockWrites, walked. Package alloc at any numbers: New and From with their errors, Next, Lay, Left, Used, Ahead. Package alloc at any numbers: Next, Lay, Ahead. The document's answer for layer 16: From, New, Take, Lay, Ahead; Same of two lists. The document's answer for layer 17: Right and Tree. The document's answer for layers 9 and 22: Free, bad, lay. A region that draws its order, inside a round of a range over a function: walked as everywhere. No program is named here. What package span computes: All, Has, Right and Fits return the plain functions below, for any span and any slice of keys, and change nothing that lay there. What package span's iterator 'each' hands over: the spans of the children from the last one to the first, for any span and any keys; and that Child and Split return the plain functions below. What the iterator of slices.Chunk hands over: chunks of 960 of a slice of ints. slices.Chunk of counts. What the iterator of slices.Backward hands over: the elements of a slice of ints from the last one to the first. block.Node, whatever lies in the image. slices.Backward of ints. (*walker).note: an error noted at the blocks of the way. What a round of a range over chunks keeps. slices.Contains of ints. Child and Split of package span return the plain functions below, for any span and any slice of keys. (*walker).look. (*walker).leaf. append onto one of two rows of the same type: where the new row lies. The document's answer for layer 21: Split. The document's answer for layer 21: Split, walked. -/
import Derived.RangeFuncNested
import Derived.RangeFuncBound
import Derived.RangeFuncCalls
import Derived.RangeFuncLeaves
import Derived.OwnWalkIn
import Derived.OrdersIn
import Derived.Test.YtcjpomibhbakdaaGreatDoorRows
import Derived.Shelf.Abstract
import Derived.Shelf.RegionOpen
import Derived.TacticsInMore
import Derived.LoopNIn
import Derived.LoopIn
import Derived.Sort.BigQuietIn
import Derived.Test.YtcjpomibhbakdaaGreatDoorMg3
namespace Go.Proofs.YtcjpomibhbakdaaGreatDoor
open Go.RowKit Go.Extern.Stop Go.Stop Go.Extern
set_option linter.unusedVariables false
attribute [local irreducible] wpList wpAnyH Code.wp Oper.wp Go

theorem ImgR.mono {B B' b : Nat} {p : Option Addr} {n c : Nat} {l : List UInt8} {w : World} (h : ImgR B b p n c l w) (hB : B' ≤ B) : ImgR B' b p n c l w := ⟨h.blk, own_mono h.row hB, h.hn⟩
theorem image_OfR (a : Option Addr) (c n m : Nat) (l : List UInt8) (w : World) (hn : l.length = n) (hm : min (n / 256) 14400 * 256 = m) (h : Bys w (.slice a n c) l) (hl : n ≤ 100000000) (hc : n ≤ c) :
    Calls Tryz.prog 23 #[.slice a n c] w (RetS (fun w' r => ∃ b p c2, r = .pointer (some ⟨b, 0, none⟩) ∧ w.heap.size ≤ b ∧ ImgR w.heap.size b p m c2 (l.take m) w') w) := by
  subst hn hm
  refine (image_Of a c l w h hl hc).mono ?_
  rintro e W ⟨_, rfl, hb, b, p, c2, rfl, h1, h2, h3⟩
  exact ⟨_, rfl, hb, b, p, c2, rfl, h1, h2, h3, by omega⟩
def WroteR (B b : Nat) (p : Option Addr) (n c : Nat) (l : List UInt8) (w : World) (e : Ending) (w' : World) : Prop :=
  e = .returned .nilIface ∧ Below B w w' ∧ Only [5] w w' ∧ ImgR B b p n c l w'
theorem block_WriteR (B b : Nat) (p : Option Addr) (n c k : Nat) (ki : Int) (l : List UInt8) (kind : Int) (a : Option Addr) (ca m : Nat) (li : List UInt8) (w : World) (hki : ki = (k : Int)) (hm : li.length = m) (hI : ImgR B b p n c l w) (hk : k < n / 256) (h1 : 1 ≤ kind) (h2 : kind ≤ 4) (hin : Bys w (.slice a m ca) li) (hl : m ≤ 244) (hBw : B ≤ w.heap.size) :
    Calls Tryz.prog 80 #[.pointer (some ⟨b, 0, none⟩), .int .i64 ki, .int .i64 kind, .slice a m ca] w (WroteR B b p n c (putB l (k * 256) (sealB kind k li)) w) := by
  subst hki hm
  obtain ⟨g, rfl, hc⟩ := hI.base (by omega)
  refine (block_Write B b g n c k l kind a ca li w hI.blk hI.row hI.hn hc hk h1 h2 hin hl hBw).mono ?_
  rintro e W ⟨rfl, hb, hO, _, ho⟩
  exact ⟨rfl, hb, hO, hI.blk.only hO (by decide), ho, hI.hn⟩
end Go.Proofs.YtcjpomibhbakdaaGreatDoor
namespace Go.Proofs.YtcjpomibhbakdaaGreatDoor
open Go.RowKit Go.Extern.Stop Go.Stop Go.Extern
set_option linter.unusedVariables false
attribute [local irreducible] wpList wpAnyH Code.wp Oper.wp Go

theorem seal_Seal_err (kind no : Int) (a : Option Addr) (c : Nat) (li : List UInt8) (w : World) (h : Bys w (.slice a li.length c) li) (hs : sealE kind no li ≠ 0) :
    Calls Tryz.prog 104 #[.int .i64 kind, .int .i64 no, .slice a li.length c] w (Ret (.tuple #[.slice none 0 0, .int .i64 (sealE kind no li)]) w) := by
  refine (seal_SealG kind no a c li w h).mono ?_
  rintro e W (⟨_, rfl, hb⟩ | ⟨h0, _⟩)
  · exact ⟨rfl, hb⟩
  · exact absurd h0 hs
theorem seal_Seal_yes (kind no : Int) (a : Option Addr) (c : Nat) (li : List UInt8) (w : World) (h : Bys w (.slice a li.length c) li) (hs : sealE kind no li = 0) :
    Calls Tryz.prog 104 #[.int .i64 kind, .int .i64 no, .slice a li.length c] w (fun e w' => li.length ≤ 244 ∧ ∃ p c, e = .returned (.tuple #[.slice p 256 c, .int .i64 0]) ∧ Below w.heap.size w w') := by
  refine (seal_SealG kind no a c li w h).mono ?_
  rintro e W (⟨h0, _⟩ | ⟨_, _, hl, p, c2, rfl, hb, ho⟩)
  · exact absurd hs h0
  · exact ⟨hl, p, c2, rfl, hb⟩
theorem sealE_zero {kind no : Int} {li : List UInt8} (h : sealE kind no li = 0) : knownB kind no = true ∧ li.length ≤ 244 := by
  unfold sealE at h
  split at h
  · split at h
    · exact ⟨by assumption, by assumption⟩
    · cases h
  · cases h
set_option maxRecDepth 100000 in
set_option maxHeartbeats 1000000 in
theorem image_Write_out (b : Nat) (p : Option Addr) (n c : Nat) (k : Int) (x : Value) (w : World) (hk : Blk w b [.slice p n c] 90) (hn : n ≤ 100000000) (ho : ¬ (0 ≤ k ∧ k < (n / 256 : Nat))) :
    Calls Tryz.prog 105 #[.pointer (some ⟨b, 0, none⟩), .int .i64 k, x] w (Ret (.int .i64 3) w) := by
 refine zin 24 Tryz.func105 ?_
 refine xr 9 (args := #[.pointer (some ⟨b, 0, none⟩), .int .i64 k]) (image_block_out b p n c k _ (hk.below (Below.refl w.heap.size _)) hn ho) fun W1 hb1 => ?_
 exact xe 23 (.int .i64 3) ⟨rfl, hb1⟩
set_option maxRecDepth 100000 in
set_option maxHeartbeats 1000000 in
theorem blkW_bad (B b : Nat) (p : Option Addr) (n c : Nat) (l : List UInt8) (no kind : Int) (a : Option Addr) (ca : Nat) (li : List UInt8) (w : World) (hI : ImgR B b p n c l w) (hin : Bys w (.slice a li.length ca) li) (hs : sealE kind no li ≠ 0) :
    Calls Tryz.prog 80 #[.pointer (some ⟨b, 0, none⟩), .int .i64 no, .int .i64 kind, .slice a li.length ca] w (RetS (fun w' r => ErrV w' [some no] (some (sealE kind no li)) r) w) := by
 refine zin 28 Tryz.func80 ?_
 refine xr 10 (args := #[.int .i64 kind, .int .i64 no, .slice a li.length ca]) (seal_Seal_err kind no a ca li _ (hin.below (Below.refl w.heap.size _)) hs) fun W1 hb1 => ?_
 refine xk 14 (show (((sealE kind no li) == (0 : Int)) : Bool) = false from beq_false_of_ne hs) ?_
 refine xc 7 (args := #[.int .i64 no, .iface 38 (.int .i64 (sealE kind no li))]) (block_told no (sealE kind no li) _) ?_
 rintro _ W2 ⟨_, rfl, hb2, hv2⟩
 rw [if_neg hs, if_neg hs] at hv2
 have hq2 := hv2
 obtain ⟨bf2, vf2, rfl, _, _⟩ := hq2
 have hB := Bl.next hb1 hb2
 exact xe 4 (.iface 135 (.pointer (some ⟨bf2, 0, none⟩))) ⟨_, rfl, hB, hv2⟩
set_option maxRecDepth 100000 in
set_option maxHeartbeats 1000000 in
theorem blkW_out (B b : Nat) (p : Option Addr) (n c : Nat) (l : List UInt8) (no kind : Int) (a : Option Addr) (ca : Nat) (li : List UInt8) (w : World) (hI : ImgR B b p n c l w) (hin : Bys w (.slice a li.length ca) li) (hs : sealE kind no li = 0) (ho : ¬ (0 ≤ no ∧ no < (n / 256 : Nat))) :
    Calls Tryz.prog 80 #[.pointer (some ⟨b, 0, none⟩), .int .i64 no, .int .i64 kind, .slice a li.length ca] w (RetS (fun w' r => ErrV w' [some no] (some 3) r) w) := by
 refine zin 28 Tryz.func80 ?_
 refine xc 10 (args := #[.int .i64 kind, .int .i64 no, .slice a li.length ca]) (seal_Seal_yes kind no a ca li _ (hin.below (Below.refl w.heap.size _)) hs) ?_
 rintro _ W1 ⟨_, p2, c2, rfl, hb1⟩
 refine xr 19 (args := #[.pointer (some ⟨b, 0, none⟩), .int .i64 no, .slice p2 256 c2]) (image_Write_out b p n c no _ _ (hI.below hb1).blk (by have := hI.hn; omega) ho) fun W2 hb2 => ?_
 refine xc 8 (args := #[.int .i64 no, .iface 38 (.int .i64 3)]) (block_told no 3 _) ?_
 rintro _ W3 ⟨_, rfl, hb3, hv3⟩
 rw [if_neg (by decide), if_neg (by decide)] at hv3
 have hq3 := hv3
 obtain ⟨bf3, vf3, rfl, _, _⟩ := hq3
 have hB'1 := Bl.next (Bl.next hb1 hb2) hb3
 exact xe 4 (.iface 135 (.pointer (some ⟨bf3, 0, none⟩))) ⟨_, rfl, hB'1, hv3⟩
def erL (no er : Int) : List (Option Int) := if er = 0 then [] else [some no]
def erT (er : Int) : Option Int := if er = 0 then none else some er
theorem erL_blocks (no er : Int) : blocksOf (erL no er) = fltL no er := by unfold erL fltL; split <;> rfl
theorem erL_code (no er : Int) : codeOf (erL no er) (erT er) = er := by
  unfold erL erT
  split
  · rename_i h; rw [h]; rfl
  · rfl
theorem erL_len (no er : Int) : (erL no er).length ≤ 1000000 := by unfold erL; split <;> simp
def WroteG (B b : Nat) (p : Option Addr) (n c : Nat) (l : List UInt8) (no er : Int) (w : World) (e : Ending) (w' : World) : Prop :=
  ∃ v, e = .returned v ∧ Below B w w' ∧ Only [5] w w' ∧ ImgR B b p n c l w' ∧ ErrV w' (erL no er) (erT er) v
theorem block_WriteG (B b : Nat) (p : Option Addr) (k n c : Nat) (l : List UInt8) (no kind : Int) (a : Option Addr) (ca : Nat) (li : List UInt8) (w : World) (hn : n = k * 256) (hI : ImgR B b p n c l w) (hin : Bys w (.slice a li.length ca) li) (hBw : B ≤ w.heap.size) :
    Calls Tryz.prog 80 #[.pointer (some ⟨b, 0, none⟩), .int .i64 no, .int .i64 kind, .slice a li.length ca] w (WroteG B b p n c (wrL kind no k li l) no (wrE kind no k li) w) := by
  have hk : n / 256 = k := by omega
  by_cases hs : sealE kind no li = 0
  · obtain ⟨hkb, hl4⟩ := sealE_zero hs
    obtain ⟨h1, h2, h3, h4⟩ := knownB_all hkb
    by_cases ho : 0 ≤ no ∧ no < (k : Int)
    · have he : wrE kind no k li = 0 := by unfold wrE; rw [if_pos hs, if_pos ho]
      obtain ⟨j, rfl⟩ : ∃ j : Nat, no = j := ⟨no.toNat, by omega⟩
      rw [wrL, if_pos he, he]
      refine (block_WriteR B b p n c j (j : Int) l kind a ca li.length li w rfl rfl hI (by omega) h1 h2 hin hl4 hBw).mono ?_
      rintro e W ⟨rfl, hb, hO, hI2⟩
      exact ⟨_, rfl, hb, hO, hI2, rfl⟩
    · have he : wrE kind no k li = 3 := by unfold wrE; rw [if_pos hs, if_neg ho]
      rw [wrL, if_neg (by rw [he]; decide), he]
      refine (blkW_out B b p n c l no kind a ca li w hI hin hs (by rw [hk]; exact ho)).mono ?_
      rintro e W ⟨v, rfl, hb, hv⟩
      exact ⟨_, rfl, hb.mono hBw, Only.of_below hb, hI.below hb, hv⟩
  · have he : wrE kind no k li = sealE kind no li := by unfold wrE; rw [if_neg hs]
    rw [wrL, if_neg (by rw [he]; exact hs), he]
    refine (blkW_bad B b p n c l no kind a ca li w hI hin hs).mono ?_
    rintro e W ⟨v, rfl, hb, hv⟩
    exact ⟨_, rfl, hb.mono hBw, Only.of_below hb, hI.below hb, by rw [erL, erT, if_neg hs, if_neg hs]; exact hv⟩
theorem ref_OfN (a : Option Addr) (c n k : Nat) (l : List UInt8) (w : World) (hn : l.length = n) (hk : min (n / 256) 14400 = k) (h : Bys w (.slice a n c) l) (hl : n ≤ 100000000) :
    Calls Tryz.prog 7 #[.slice a n c] w (RetS (fun w' r => ∃ bm p c2, r = .pointer (some ⟨bm, 0, none⟩) ∧ w.heap.size ≤ bm ∧ RefI w.heap.size bm p k c2 (l.take (k * 256)) w') w) := by
  subst hn hk; exact ref_Of a c l w h hl
end Go.Proofs.YtcjpomibhbakdaaGreatDoor
namespace Go.Proofs.YtcjpomibhbakdaaGreatDoor
open Go.RowKit Go.Extern.Stop Go.Stop Go.Extern
set_option linter.unusedVariables false
attribute [local irreducible] wpList wpAnyH Code.wp Oper.wp Go

/-- an allocator of the numbers L, k of them handed out, of the image at b -/
structure AlG (B ba b : Nat) (pa : Option Addr) (N ca k : Nat) (L : List Int) (w : World) : Prop where
  blk : Blk w ba [.slice pa N ca, .int .i64 (k : Int), .pointer (some ⟨b, 0, none⟩)] 87
  nums : w.ownsRow B 3 1 (.slice pa N ca) N (L.map (Value.int .i64))
  hL : L.length = N
  hB : B ≤ ba
  hN : N ≤ 1000000
  hk : k ≤ N
theorem AlG.below {B ba b : Nat} {pa : Option Addr} {N ca k : Nat} {L : List Int} {w W : World} (h : AlG B ba b pa N ca k L w) (hb : Below w.heap.size w W) : AlG B ba b pa N ca k L W := ⟨h.blk.below hb, own_below h.nums hb, h.hL, h.hB, h.hN, h.hk⟩
theorem AlG.only {B ba b : Nat} {pa : Option Addr} {N ca k : Nat} {L : List Int} {w W : World} {T : List TypeId} (h : AlG B ba b pa N ca k L w) (hO : Only T w W) (hT : T.contains 87 = false ∧ T.contains 3 = false) : AlG B ba b pa N ca k L W := ⟨h.blk.only hO hT.1, own_only h.nums hO hT.2, h.hL, h.hB, h.hN, h.hk⟩
theorem AlG.mono {B B' ba b : Nat} {pa : Option Addr} {N ca k : Nat} {L : List Int} {w : World} (h : AlG B ba b pa N ca k L w) (hB : B' ≤ B) : AlG B' ba b pa N ca k L w := ⟨h.blk, own_mono h.nums hB, h.hL, Nat.le_trans hB h.hB, h.hN, h.hk⟩
def goodB (K : Nat) (L : List Int) : Bool := L.all fun x => decide (1 ≤ x ∧ x < (K : Int))
def riseB (L : List Int) : Bool := (List.range (L.length - 1)).all fun i => decide (L.getD i 0 < L.getD (i + 1) 0)
/-- the number of From's error -/
def fromE (K : Nat) (L : List Int) : Int := if goodB K L then (if riseB L then 0 else 8) else 1
theorem goodB_true {K : Nat} {L : List Int} (h : ∀ j, j < L.length → 1 ≤ L.getD j 0 ∧ L.getD j 0 < (K : Int)) : goodB K L = true := by
  unfold goodB
  rw [List.all_eq_true]
  intro x hx
  obtain ⟨j, hj, rfl⟩ := List.mem_iff_getElem.1 hx
  have := h j hj
  simpa [List.getD, hj] using this
theorem goodB_get {K : Nat} {L : List Int} (h : goodB K L = true) {j : Nat} (hj : j < L.length) : 1 ≤ L.getD j 0 ∧ L.getD j 0 < (K : Int) := by
  unfold goodB at h
  rw [List.all_eq_true] at h
  have := h L[j] (List.getElem_mem hj)
  simpa [List.getD, hj] using this
theorem goodB_false {K : Nat} {L : List Int} {j : Nat} (hj : j < L.length) (h : ¬ (1 ≤ L.getD j 0 ∧ L.getD j 0 < (K : Int))) : goodB K L = false := by
  cases hg : goodB K L with
  | false => rfl
  | true => exact absurd (goodB_get hg hj) h
theorem riseB_true {L : List Int} (h : ∀ j, j + 1 < L.length → L.getD j 0 < L.getD (j + 1) 0) : riseB L = true := by
  unfold riseB
  rw [List.all_eq_true]
  intro j hj
  exact decide_eq_true (h j (by have := List.mem_range.1 hj; omega))
theorem riseB_false {L : List Int} {j : Nat} (hj : j + 1 < L.length) (h : ¬ L.getD j 0 < L.getD (j + 1) 0) : riseB L = false := by
  unfold riseB
  rw [List.all_eq_false]
  exact ⟨j, List.mem_range.2 (by omega), by simpa using h⟩
theorem ints_one (l : List Int) : ∀ u ∈ l.map (Value.int .i64), u.oneCell' = true := by
  intro u hu
  obtain ⟨x, _, rfl⟩ := List.mem_map.1 hu
  rfl
set_option maxRecDepth 100000 in
set_option maxHeartbeats 1000000 in
theorem alloc_New_bad (b : Nat) (p0 : Option Addr) (n c : Nat) (f : Int) (w : World) (hk : Blk w b [.slice p0 n c] 90) (hn : n ≤ 100000000) (hf : ¬ (1 ≤ f ∧ f ≤ (n / 256 : Nat))) :
    Calls Tryz.prog 22 #[.pointer (some ⟨b, 0, none⟩), .int .i64 f] w (Ret (.tuple #[.pointer none, .iface 38 (.int .i64 1)]) w) := by
 refine zin 37 Tryz.func22 ?_
 refine xg 16 [12, 13, 14] (decide (f < (1 : Int))) (fun hc1 => ?_) (fun hc1 => ?_)
 · have hc1 := of_decide_eq_true hc1
   exact xe 17 (.tuple #[.pointer none, .iface 38 (.int .i64 1)]) ⟨rfl, (Below.refl w.heap.size _)⟩
 have hc1 := of_decide_eq_false hc1
 refine xr 2 (args := #[.pointer (some ⟨b, 0, none⟩)]) (image_Blocks b _ n c _ (hk.below (Below.refl w.heap.size _)) hn) fun W2 hb2 => ?_
 refine xk 4 (show (decide (f > (↑(n / 256) : Int)) : Bool) = true from decide_eq_true (by omega)) ?_
 exact xe 9 (.tuple #[.pointer none, .iface 38 (.int .i64 1)]) ⟨rfl, hb2⟩
set_option maxRecDepth 100000 in
set_option maxHeartbeats 1000000 in
theorem clone_ints (p : Addr) (N c : Nat) (xs : List Value) (w : World) (h : Sl w (.slice (some p) N c) N xs) (hl : xs.length = N) (h1 : ∀ u ∈ xs, u.oneCell' = true) (hn : N ≤ 1000000) :
    Calls Tryz.prog 44 #[.slice (some p) N c] w (RetS (fun w' r => ∃ q c2, r = .slice q N c2 ∧ w'.ownsRow w.heap.size 3 1 (.slice q N c2) N xs) w) := by
 refine zin 8 Tryz.func44 ?_
 refine xb0 17 3 fun b1 W1 n1 => ?_
 have o1 := own_of_blk (size := 1) (n := 0) n1.blk (n1.ge (Below.refl w.heap.size _)) rfl (by decide)
 refine xbi 1 fun _ _ _ _ zJ zQ zo zx zy zK => op_app (m := N) (news := xs) (.int .i64 0) 1 8 (N) (xs) zo Tryz.underlying22 (by kernel_rfl) rfl (by decide) zx o1 zy (h.below n1.below) (by rw [hl, Nat.mul_one]) h1 (by unfold maxLen; omega) (by omega) n1.below.size (by omega) (by rfl) fun p2 c2 W2 o2 hg2 hb2 => ?_
 refine zK _ _ ?_
 have hB'1 := n1.below.trans hb2
 exact xe 4 (.slice p2 N c2) ⟨_, rfl, hB'1, _, _, rfl, o2⟩
set_option maxRecDepth 100000 in
set_option maxHeartbeats 1000000 in
theorem clone_ints_nil (w : World) :
    Calls Tryz.prog 44 #[.slice none 0 0] w (Ret (.slice none 0 0) w) := by
 refine zin 8 Tryz.func44 ?_
 exact xe 20 (.slice none 0 0) ⟨rfl, (Below.refl w.heap.size _)⟩
theorem clone_intsG (a : Option Addr) (N c : Nat) (xs : List Value) (w : World) (h : Sl w (.slice a N c) N xs) (hc : a = none → c = 0) (hl : xs.length = N) (h1 : ∀ u ∈ xs, u.oneCell' = true) (hn : N ≤ 1000000) :
    Calls Tryz.prog 44 #[.slice a N c] w (RetS (fun w' r => ∃ q c2, r = .slice q N c2 ∧ w'.ownsRow w.heap.size 3 1 (.slice q N c2) N xs) w) := by
  cases a with
  | some p => exact clone_ints p N c xs w h hl h1 hn
  | none =>
    have hN : N = 0 ∧ xs = [] := by
      rcases h with ⟨a', c', h2, h3, h4⟩ | ⟨b', off, cap, h2, _⟩
      · simp only [Value.slice.injEq] at h2; exact ⟨h2.2.1, h4⟩
      · cases h2
    obtain ⟨rfl, rfl⟩ := hN
    obtain rfl := hc rfl
    refine (clone_ints_nil w).mono ?_
    rintro e W ⟨rfl, hb⟩
    exact ⟨_, rfl, hb, none, 0, rfl, World.ownsRow_nil _ _ _ _⟩
def FromP (b : Nat) (K : Nat) (L : List Int) (w : World) (e : Ending) (w' : World) : Prop :=
  (fromE K L ≠ 0 ∧ e = .returned (.tuple #[.pointer none, .iface 38 (.int .i64 (fromE K L))]) ∧ Below w.heap.size w w') ∨
  (fromE K L = 0 ∧ ∃ ba pa ca, e = .returned (.tuple #[.pointer (some ⟨ba, 0, none⟩), .nilIface]) ∧ Below w.heap.size w w' ∧ AlG w.heap.size ba b pa L.length ca 0 L w')
end Go.Proofs.YtcjpomibhbakdaaGreatDoor
namespace Go.Proofs.YtcjpomibhbakdaaGreatDoor
open Go.RowKit Go.Extern.Stop Go.Stop Go.Extern
set_option linter.unusedVariables false
attribute [local irreducible] wpList wpAnyH Code.wp Oper.wp Go

theorem sl_cut {w : World} {b : Option Addr} {n c : Nat} {xs : List Value} (h : Sl w (.slice b n c) n xs) (hl : xs.length = n) (k : Nat) (hk : k ≤ n) : Sl w (.slice (cutA b k c 1) (n - k) (c - k)) (n - k) (xs.drop k) := by
  rcases h with ⟨a', c', h1, h2, h3⟩ | ⟨g, off, cap, h1, h2, h3, h4⟩
  · obtain rfl : k = 0 := by omega
    subst h3 h2
    exact .inl ⟨cutA b 0 c 1, c - 0, rfl, rfl, rfl⟩
  · simp only [Value.slice.injEq] at h1
    obtain ⟨rfl, _, rfl⟩ := h1
    by_cases hz : n - k = 0
    · refine .inl ⟨cutA (some ⟨g, off, none⟩) k c 1, c - k, by rw [hz], by omega, ?_⟩
      exact List.drop_eq_nil_of_le (by omega)
    · refine .inr ⟨g, off + k * 1, c - k, ?_, by omega, by omega, fun j x hj => ?_⟩
      · rw [cutA, if_neg (by omega)]; simp [Addr.add]
      · rw [List.getElem?_drop] at hj
        have := h4 (k + j) x hj
        rwa [Nat.mul_one, Nat.add_assoc]
theorem sl_take {w : World} {b : Option Addr} {n c : Nat} {xs : List Value} (h : Sl w (.slice b n c) n xs) (hl : xs.length = n) (m : Nat) (hm : m ≤ n) : Sl w (.slice b m c) m (xs.take m) := Sl.head h hl m hm
def nxV (k N : Nat) (L : List Int) : Int := if k < N then L.getD k 0 else 0
def nxE (k N : Nat) : Int := if k < N then 0 else 14
def nxK (k N : Nat) : Nat := if k < N then k + 1 else k
def NextG (B ba b : Nat) (pa : Option Addr) (N ca k : Nat) (L : List Int) (w : World) (e : Ending) (w' : World) : Prop :=
  ∃ v, e = .returned (.tuple #[.int .i64 (nxV k N L), v]) ∧ Below B w w' ∧ Only [87] w w' ∧ AlG B ba b pa N ca (nxK k N) L w' ∧ ErrV w' [] (erT (nxE k N)) v
theorem alloc_NextG (B ba b : Nat) (pa : Option Addr) (N ca k : Nat) (L : List Int) (w : World) (hA : AlG B ba b pa N ca k L w) (hg : k < N → 0 ≤ L.getD k 0) (hBw : B ≤ w.heap.size) :
    Calls Tryz.prog 79 #[.pointer (some ⟨ba, 0, none⟩)] w (NextG B ba b pa N ca k L w) := by
  by_cases hk : k < N
  · obtain ⟨q, hq⟩ : ∃ q : Nat, L.getD k 0 = q := ⟨(L.getD k 0).toNat, by have := hg hk; omega⟩
    refine (alloc_Next B ba pa N ca k L hA.hL b q hq w hA.blk hA.nums hA.hB hBw hA.hN hk).mono ?_
    rintro e W ⟨rfl, hb, hO, _, hk2, hn2⟩
    have e1 : nxV k N L = (q : Int) := by unfold nxV; rw [if_pos hk, hq]
    have e2 : nxE k N = 0 := if_pos hk
    have e3 : nxK k N = k + 1 := if_pos hk
    exact ⟨_, by rw [e1], hb, hO, by rw [e3]; exact ⟨hk2, hn2, hA.hL, hA.hB, hA.hN, hk⟩, by rw [e2]; exact rfl⟩
  · refine (alloc_Next_none ba b pa N ca k w hA.blk (by omega)).mono ?_
    rintro e W ⟨rfl, hb⟩
    have e1 : nxV k N L = 0 := by unfold nxV; rw [if_neg hk]
    have e2 : nxE k N = 14 := if_neg hk
    have e3 : nxK k N = k := if_neg hk
    exact ⟨_, by rw [e1], hb.mono hBw, Only.of_below hb, by rw [e3]; exact hA.below hb, by rw [e2]; exact rfl⟩
/-- Write, by its two ends -/
def WroteA (B b : Nat) (p : Option Addr) (k n c : Nat) (l : List UInt8) (no kind : Int) (li : List UInt8) (w : World) (e : Ending) (w' : World) : Prop :=
  (wrE kind no k li = 0 ∧ e = .returned .nilIface ∧ Below B w w' ∧ Only [5] w w' ∧ ImgR B b p n c (wrL kind no k li l) w') ∨
  (wrE kind no k li ≠ 0 ∧ ∃ bf, e = .returned (.iface 135 (.pointer (some ⟨bf, 0, none⟩))) ∧ Below B w w' ∧ Only [5] w w' ∧ ImgR B b p n c (wrL kind no k li l) w' ∧ ErrV w' [some no] (some (wrE kind no k li)) (.iface 135 (.pointer (some ⟨bf, 0, none⟩))))
theorem block_WriteA (B b : Nat) (p : Option Addr) (k n c : Nat) (l : List UInt8) (no kind : Int) (a : Option Addr) (ca : Nat) (li : List UInt8) (w : World) (hn : n = k * 256) (hI : ImgR B b p n c l w) (hin : Bys w (.slice a li.length ca) li) (hBw : B ≤ w.heap.size) :
    Calls Tryz.prog 80 #[.pointer (some ⟨b, 0, none⟩), .int .i64 no, .int .i64 kind, .slice a li.length ca] w (WroteA B b p k n c l no kind li w) := by
  refine (block_WriteG B b p k n c l no kind a ca li w hn hI hin hBw).mono ?_
  rintro e W ⟨v, rfl, hb, hO, hI2, hv⟩
  by_cases he : wrE kind no k li = 0
  · rw [he] at hv
    obtain rfl : v = .nilIface := hv
    exact .inl ⟨he, rfl, hb, hO, hI2⟩
  · rw [erL, erT, if_neg he, if_neg he] at hv
    have hq := hv
    obtain ⟨bf, vf, rfl, _, _⟩ := hq
    exact .inr ⟨he, bf, rfl, hb, hO, hI2, hv⟩
def lyE (k N K : Nat) (L : List Int) (kind : Int) (li : List UInt8) : Int := if k < N then wrE kind (L.getD k 0) K li else 14
def lyB (k N K : Nat) (L : List Int) (kind : Int) (li : List UInt8) : List Int := if k < N then fltL (L.getD k 0) (wrE kind (L.getD k 0) K li) else []
def lyV (k N K : Nat) (L : List Int) (kind : Int) (li : List UInt8) : Int := if k < N ∧ wrE kind (L.getD k 0) K li = 0 then L.getD k 0 else 0
def lyK (k N K : Nat) (L : List Int) (kind : Int) (li : List UInt8) : Nat := if k < N ∧ wrE kind (L.getD k 0) K li = 0 then k + 1 else k
def lyL (k N K : Nat) (L : List Int) (kind : Int) (li l : List UInt8) : List UInt8 := if k < N then wrL kind (L.getD k 0) K li l else l
def LayG (B ba b : Nat) (pa : Option Addr) (N ca k : Nat) (L : List Int) (p : Option Addr) (K n c : Nat) (l : List UInt8) (kind : Int) (li : List UInt8) (w : World) (e : Ending) (w' : World) : Prop :=
  ∃ v, e = .returned (.tuple #[.int .i64 (lyV k N K L kind li), v]) ∧ Below B w w' ∧ Only [87, 5] w w' ∧ AlG B ba b pa N ca (lyK k N K L kind li) L w' ∧ ImgR B b p n c (lyL k N K L kind li l) w' ∧ ErrV w' ((lyB k N K L kind li).map some) (erT (lyE k N K L kind li)) v
set_option maxRecDepth 100000 in
set_option maxHeartbeats 1000000 in
theorem alloc_back (B ba : Nat) (v m : Value) (k : Nat) (w : World) (hk : Blk w ba [v, .int .i64 ((k + 1 : Nat) : Int), m] 87) (hB0 : B ≤ ba) (hBw : B ≤ w.heap.size) (hk2 : k ≤ 1000000) :
    Calls Tryz.prog 81 #[.pointer (some ⟨ba, 0, none⟩)] w ((fun e w' => e = .returned (.tuple #[]) ∧ Below B w w' ∧ Only [87] w w' ∧ Blk w' ba [v, .int .i64 (k : Int), m] 87)) := by
 refine zin 9 Tryz.func81 ?_
 refine xb 4 1 hk ?_
 refine xq 0 (congrArg (Value.int .i64) (show IntKind.i64.wrap ((↑(k + 1) : Int) - 1) = (↑k : Int) from (show IntKind.i64.wrap ((↑(k + 1) : Int) - 1) = ((↑(k + 1) : Int) - 1) from by first | exact IntWalk.i64_in _ (by omega) | (simp only [IntKind.wrap]; omega)).trans (by omega))) ?_
 refine xs 2 hk [v, .int .i64 (↑k : Int), m] fun W1 u1 k1 => ?_
 have hB := u1.below (Below.refl B w) hB0
 have hO := (show Only [87] w _ from (Only.of_upd u1 hk (by decide)))
 exact xe 1 (.tuple #[]) ⟨rfl, hB, hO, k1⟩
set_option maxRecDepth 100000 in
set_option maxHeartbeats 4000000 in
theorem alloc_Lay_g (B ba b : Nat) (p0 : Option Addr) (N ca k q : Nat) (L : List Int) (p : Option Addr) (K n c : Nat) (l : List UInt8) (kind : Int) (a : Option Addr) (ci : Nat) (li : List UInt8) (w : World) (hk : Blk w ba [.slice p0 N ca, .int .i64 (k : Int), .pointer (some ⟨b, 0, none⟩)] 87) (ho : w.ownsRow B 3 1 (.slice p0 N ca) N (L.map (Value.int .i64))) (hL : L.length = N) (hB0 : B ≤ ba) (hN : N ≤ 1000000) (hkN : k < N) (hq : L.getD k 0 = (q : Int)) (hn : n = K * 256) (hI : ImgR B b p n c l w) (hin : ∀ W, Below B w W → Bys W (.slice a li.length ci) li) (hBw : B ≤ w.heap.size) :
    Calls Tryz.prog 48 #[.pointer (some ⟨ba, 0, none⟩), .int .i64 kind, .slice a li.length ci] w (LayG B ba b p0 N ca k L p K n c l kind li w) := by
 refine zin 35 Tryz.func48 ?_
 refine xc 9 (args := #[.pointer (some ⟨ba, 0, none⟩)]) (alloc_Next B ba p0 N ca k L hL b q hq _ hk ho hB0 (Nat.le_trans hBw (Below.refl B _).size) hN hkN) ?_
 rintro _ W1 ⟨rfl, hb1, hO1, _, kA, ho⟩
 refine xb 23 2 kA ?_
 have hI'1 := hI.only hO1 (by decide)
 refine xc 3 (args := #[.pointer (some ⟨b, 0, none⟩), .int .i64 (↑q : Int), .int .i64 kind, .slice a li.length ci]) (block_WriteA B b p K n c l (↑q : Int) kind a ci li _ hn hI'1 (hin _ hb1) (Nat.le_trans hBw hb1.size)) ?_
 rintro e W2 hq2
 rcases hq2 with ⟨he, rfl, hb2, hO2, hI⟩ | ⟨he, bf, rfl, hb2, hO2, hI, hv⟩
 · have hB'1 := hb1.trans hb2
   have hO := (show Only [87, 5] w _ from (only_aa hO1)).trans (only_ab hO2)
   have kA'1 := kA.only hO2 (by decide)
   have ho'1 := own_only ho hO2 (by decide)
   refine xe 20 (.tuple #[.int .i64 (↑q : Int), .nilIface]) ?_
   have h2 : k < N ∧ wrE kind (L.getD k 0) K li = 0 := ⟨hkN, by rw [hq]; exact he⟩
   exact ⟨_, by rw [lyV, if_pos h2, hq], hB'1, hO, by rw [lyK, if_pos h2]; exact ⟨kA'1, ho'1, hL, hB0, hN, hkN⟩, by rw [lyL, if_pos hkN, hq]; exact hI, by rw [lyB, lyE, if_pos hkN, if_pos hkN, h2.2]; exact rfl⟩
 have kA'2 := kA.only hO2 (by decide)
 have hB'2 := hb1.trans hb2
 refine xc 15 (args := #[.pointer (some ⟨ba, 0, none⟩)]) (alloc_back B ba _ _ k _ kA'2 hB0 (Nat.le_trans hBw hB'2.size) (by omega)) ?_
 rintro _ W3 ⟨rfl, hb3, hO3, kA2⟩
 have hB'3 := hB'2.trans hb3
 have hO := ((show Only [87, 5] w _ from (only_aa hO1)).trans (only_ab hO2)).trans (only_aa hO3)
 have ho'2 := own_only (own_only ho hO2 (by decide)) hO3 (by decide)
 have hI'2 := hI.only hO3 (by decide)
 have hv'1 := hv.only hO3 (by decide)
 refine xe 11 (.tuple #[.int .i64 0, .iface 135 (.pointer (some ⟨bf, 0, none⟩))]) ?_
 have h2 : ¬ (k < N ∧ wrE kind (L.getD k 0) K li = 0) := fun h => he (by rw [← hq]; exact h.2)
 exact ⟨_, by rw [lyV, if_neg h2], hB'3, hO, by rw [lyK, if_neg h2]; exact ⟨kA2, ho'2, hL, hB0, hN, by omega⟩, by rw [lyL, if_pos hkN, hq]; exact hI'2, by rw [lyB, lyE, if_pos hkN, if_pos hkN, hq, fltL_nz he, erT, if_neg he]; exact hv'1⟩
theorem alloc_LayG (B ba b : Nat) (pa : Option Addr) (N ca k : Nat) (L : List Int) (p : Option Addr) (K n c : Nat) (l : List UInt8) (kind : Int) (a : Option Addr) (ci : Nat) (li : List UInt8) (w : World) (hA : AlG B ba b pa N ca k L w) (hg : k < N → 0 ≤ L.getD k 0) (hn : n = K * 256) (hI : ImgR B b p n c l w) (hin : ∀ W, Below B w W → Bys W (.slice a li.length ci) li) (hBw : B ≤ w.heap.size) :
    Calls Tryz.prog 48 #[.pointer (some ⟨ba, 0, none⟩), .int .i64 kind, .slice a li.length ci] w (LayG B ba b pa N ca k L p K n c l kind li w) := by
  by_cases hk : k < N
  · obtain ⟨q, hq⟩ : ∃ q : Nat, L.getD k 0 = q := ⟨(L.getD k 0).toNat, by have := hg hk; omega⟩
    exact alloc_Lay_g B ba b pa N ca k q L p K n c l kind a ci li w hA.blk hA.nums hA.hL hA.hB hA.hN hk hq hn hI hin hBw
  · refine (alloc_Lay_none ba b pa N ca k _ _ w hA.blk (by omega)).mono ?_
    rintro e W ⟨rfl, hb⟩
    have h2 : ¬ (k < N ∧ wrE kind (L.getD k 0) K li = 0) := fun h => hk h.1
    exact ⟨_, by rw [lyV, if_neg h2], hb.mono hBw, Only.of_below hb, by rw [lyK, if_neg h2]; exact hA.below hb, by rw [lyL, if_neg hk]; exact hI.below hb, by rw [lyB, lyE, if_neg hk, if_neg hk]; exact rfl⟩
theorem aheadSl {w : World} {b : Option Addr} {n c k i : Nat} {L : List Int} (h : Sl w (.slice b n c) n (L.map (Value.int .i64))) (hl : L.length = n) (hk : k ≤ n) : Sl w (.slice (cutA b k c 1) (min i (n - k)) (c - k)) (min i (n - k)) (((L.drop k).take i).map (Value.int .i64)) := by
  have h1 := sl_cut h (by simpa using hl) k hk
  have h2 := sl_take h1 (by simp [hl]) (min i (n - k)) (by omega)
  rw [← List.map_drop, ← List.map_take] at h2
  have e : (L.drop k).take (min i (n - k)) = (L.drop k).take i := by
    rcases Nat.le_total i (n - k) with q | q
    · rw [Nat.min_eq_left q]
    · rw [Nat.min_eq_right q, List.take_of_length_le (by simp [hl]), List.take_of_length_le (by simp [hl]; omega)]
  rw [e] at h2
  exact h2
theorem aheadN {w : World} {B : Nat} {b : Option Addr} {n c k : Nat} {xs : List Value} {e size : Nat} (h : w.ownsRow B e size (.slice b n c) n xs) : cutA b k c 1 = none → c - k = 0 := by
  intro hn
  have hb : b = none := by
    unfold cutA at hn
    split at hn
    · exact hn
    · simpa using hn
  subst hb
  rcases h.2 with ⟨h2, _⟩ | ⟨g, cap, cur, h2, _⟩
  · simp only [Value.slice.injEq] at h2; omega
  · cases h2
set_option maxRecDepth 100000 in
set_option maxHeartbeats 1000000 in
theorem alloc_Ahead (B ba b : Nat) (p0 : Option Addr) (N ca k i : Nat) (L : List Int) (w : World) (hA : AlG B ba b p0 N ca k L w) (hi : i ≤ 1000000) :
    Calls Tryz.prog 45 #[.pointer (some ⟨ba, 0, none⟩), .int .i64 (↑i : Int)] w (RetS (fun w' r => ∃ q c2, r = .slice q (min i (N - k)) c2 ∧ w'.ownsRow w.heap.size 3 1 (.slice q (min i (N - k)) c2) (min i (N - k)) (((L.drop k).take i).map (Value.int .i64))) w) := by
 have hk := hA.blk
 have hkN := hA.hk
 have hL := hA.hL
 have hN := hA.hN
 have hca : N ≤ ca := by
   rcases Nat.eq_zero_or_pos N with q | q
   · omega
   · exact own_cap hA.nums q
 refine zin 23 Tryz.func45 ?_
 refine xr 9 (args := #[.pointer (some ⟨ba, 0, none⟩)]) (alloc_nobody ba b _ _ _ hk) fun W1 hb1 => ?_
 refine xid 6 ((↑i : Int) < (1 : Int)) (fun hc2 => ?_) (fun hc2 => ?_)
 · refine xe 7 (.slice none 0 0) ?_
   obtain rfl : i = 0 := by omega
   exact ⟨_, rfl, hb1, none, 0, by rw [Nat.zero_min], by rw [Nat.zero_min, List.take_zero]; exact World.ownsRow_nil _ _ _ _⟩
 have hk'1 := hk.below hb1
 refine xr 7 (args := #[.pointer (some ⟨ba, 0, none⟩)]) (alloc_left ba p0 N ca k _ _ hk'1 hkN) fun W3 hb3 => ?_
 refine xq 9 (congrArg (Value.int .i64) (show (if (↑(N - k) : Int) < (↑i : Int) then (↑(N - k) : Int) else (↑i : Int) : Int) = (↑(min i (N - k)) : Int) from min_cast i (N - k))) ?_
 refine xsH 0 (fun _ _ _ _ zo zx zy V => run_sliceH (k := (min i (N - k))) (b := (cutA p0 k ca 1)) (n := (N - k)) (c := (ca - k)) (i := (↑(min i (N - k)) : Int)) (ki := .i64) zo zx zy rfl (by omega) Tryz.underlying22 (by kernel_rfl) V) ?_
 have hB := Bl.next hb1 hb3
 refine xc 0 (args := #[.slice (cutA p0 k ca 1) (min i (N - k)) (ca - k)]) (clone_intsG (cutA p0 k ca 1) (min i (N - k)) (ca - k) (((L.drop k).take i).map (Value.int .i64)) _ (aheadSl (own_sl (own_below hA.nums hB)) hL hkN) (aheadN hA.nums) (by simp; omega) (ints_one _) (by omega)) ?_
 rintro _ W4 ⟨_, rfl, hb4, pq, cq, rfl, hq⟩
 have hs4 := (Bl.next hb1 hb3).size
 have hB'1 := Bl.next hB hb4
 have hq'1 := own_mono hq hs4
 exact xe 4 (.slice pq (min i (N - k)) cq) ⟨_, rfl, hB'1, _, _, rfl, hq'1⟩
set_option maxRecDepth 100000 in
set_option maxHeartbeats 1000000 in
theorem allocG_Image (B ba b : Nat) (p0 : Option Addr) (N ca k : Nat) (L : List Int) (w : World) (hA : AlG B ba b p0 N ca k L w) :
    Calls Tryz.prog 15 #[.pointer (some ⟨ba, 0, none⟩)] w (Ret (.pointer (some ⟨b, 0, none⟩)) w) := by
 have hk := hA.blk
 refine zin 9 Tryz.func15 ?_
 refine xr 9 (args := #[.pointer (some ⟨ba, 0, none⟩)]) (alloc_nobody ba b _ _ _ hk) fun W1 hb1 => ?_
 have hk'1 := hk.below hb1
 refine xb 10 2 hk'1 ?_
 exact xe 4 (.pointer (some ⟨b, 0, none⟩)) ⟨rfl, hb1⟩
/-- New, whatever the first block -/
def NewP (b : Nat) (K : Nat) (f : Int) (w : World) (e : Ending) (w' : World) : Prop :=
  (¬ (1 ≤ f ∧ f ≤ (K : Int)) ∧ e = .returned (.tuple #[.pointer none, .iface 38 (.int .i64 1)]) ∧ Below w.heap.size w w') ∨
  ((1 ≤ f ∧ f ≤ (K : Int)) ∧ ∃ ba pa ca, e = .returned (.tuple #[.pointer (some ⟨ba, 0, none⟩), .nilIface]) ∧ Below w.heap.size w w' ∧ AlG w.heap.size ba b pa (K - f.toNat) ca 0 (rngJ f.toNat (K - f.toNat)) w')
theorem alloc_NewP (b : Nat) (p0 : Option Addr) (n c K : Nat) (f : Int) (w : World) (hk : Blk w b [.slice p0 n c] 90) (hn : n ≤ 3686400) (hK : n = K * 256) :
    Calls Tryz.prog 22 #[.pointer (some ⟨b, 0, none⟩), .int .i64 f] w (NewP b K f w) := by
  have e : n / 256 = K := by omega
  by_cases hf : 1 ≤ f ∧ f ≤ (K : Int)
  · refine (alloc_NewN b p0 n c f.toNat (K - f.toNat) f (by omega) (by rw [e]) w hk hn (by omega) (by omega)).mono ?_
    rintro q W ⟨_, rfl, hb, ba, pa, ca, rfl, h1, h2, h3⟩
    exact .inr ⟨hf, ba, pa, ca, rfl, hb, h2, h3, rngJ_len _ _, h1, by omega, Nat.zero_le _⟩
  · refine (alloc_New_bad b p0 n c f w hk (by omega) (by rw [e]; exact hf)).mono ?_
    rintro q W ⟨rfl, hb⟩
    exact .inl ⟨hf, rfl, hb⟩
end Go.Proofs.YtcjpomibhbakdaaGreatDoor
namespace Go.Proofs.YtcjpomibhbakdaaGreatDoor
open Go.RowKit Go.Extern.Stop Go.Stop Go.Extern
set_option linter.unusedVariables false
attribute [local irreducible] wpList wpAnyH Code.wp Oper.wp Go

structure RAl (B bc bm : Nat) (pg : Option Addr) (N cg : Nat) (fa : Option Addr) (m fc k : Nat) (L : List Int) (w : World) : Prop where
  blk : Blk w bc [.pointer (some ⟨bm, 0, none⟩), .slice fa m fc, .int .i64 (k : Int)] 46
  nums : w.ownsRow B 3 1 (.slice pg N cg) N (L.map (Value.int .i64))
  hfree : 0 < m → fa = cutA pg k cg 1 ∧ fc = cg - k
  hm : m + k = N
  hL : L.length = N
  hB : B ≤ bc
  hN : N ≤ 1000000
theorem RAl.below {B bc bm : Nat} {pg : Option Addr} {N cg : Nat} {fa : Option Addr} {m fc k : Nat} {L : List Int} {w W : World} (h : RAl B bc bm pg N cg fa m fc k L w) (hb : Below w.heap.size w W) : RAl B bc bm pg N cg fa m fc k L W := ⟨h.blk.below hb, own_below h.nums hb, h.hfree, h.hm, h.hL, h.hB, h.hN⟩
theorem RAl.only {B bc bm : Nat} {pg : Option Addr} {N cg : Nat} {fa : Option Addr} {m fc k : Nat} {L : List Int} {w W : World} {T : List TypeId} (h : RAl B bc bm pg N cg fa m fc k L w) (hO : Only T w W) (hT : T.contains 46 = false ∧ T.contains 3 = false) : RAl B bc bm pg N cg fa m fc k L W := ⟨h.blk.only hO hT.1, own_only h.nums hO hT.2, h.hfree, h.hm, h.hL, h.hB, h.hN⟩
theorem RAl.mono {B B' bc bm : Nat} {pg : Option Addr} {N cg : Nat} {fa : Option Addr} {m fc k : Nat} {L : List Int} {w : World} (h : RAl B bc bm pg N cg fa m fc k L w) (hB : B' ≤ B) : RAl B' bc bm pg N cg fa m fc k L w := ⟨h.blk, own_mono h.nums hB, h.hfree, h.hm, h.hL, Nat.le_trans hB h.hB, h.hN⟩
theorem free_sl {w : World} {pg : Option Addr} {N cg : Nat} {fa : Option Addr} {m fc k : Nat} {L : List Int} (h : Sl w (.slice pg N cg) N (L.map (Value.int .i64))) (hf : 0 < m → fa = cutA pg k cg 1 ∧ fc = cg - k) (hm : m + k = N) (hL : L.length = N) : Sl w (.slice fa m fc) m ((L.drop k).map (Value.int .i64)) := by
  rcases Nat.eq_zero_or_pos m with rfl | hp
  · rw [List.drop_eq_nil_of_le (by omega)]; exact .inl ⟨fa, fc, rfl, rfl, rfl⟩
  · obtain ⟨rfl, rfl⟩ := hf hp
    have := sl_cut h (by simpa using hL) k (by omega)
    rw [show N - k = m by omega, ← List.map_drop] at this
    exact this
theorem free_elem {w : World} {fa : Option Addr} {m fc k : Nat} {L : List Int} (h : Sl w (.slice fa m fc) m ((L.drop k).map (Value.int .i64))) (hL : L.length = m + k) {i : Nat} (hi : i < m) : fa.isSome = true ∧ w.cell? (elemAddr fa (i * 1)) = some (.int .i64 (L.getD (k + i) 0)) := by
  have := IntsN.elem h (by simp; omega) hi
  rwa [show (L.drop k).getD i 0 = L.getD (k + i) 0 by simp [List.getD, List.getElem?_drop]] at this
theorem cutA_zero (g c : Nat) : cutA (some ⟨g, 0, none⟩) 0 c 1 = some ⟨g, 0, none⟩ := by
  unfold cutA; split
  · rfl
  · simp [Addr.add]
theorem cutA_step {w : World} {B N cg k : Nat} {pg : Option Addr} {xs : List Value} {e size : Nat} (h : w.ownsRow B e size (.slice pg N cg) N xs) (hk : k + 1 < N) : cutA (cutA pg k cg 1) 1 (cg - k) 1 = cutA pg (k + 1) cg 1 ∧ cg - k - 1 = cg - (k + 1) := by
  have hc := own_cap h (by omega)
  obtain ⟨g, rfl, _⟩ := own_someN h (by omega)
  refine ⟨?_, by omega⟩
  unfold cutA
  rw [if_neg (by omega), if_neg (by omega), if_neg (by omega)]
  by_cases h0 : k = 0
  · subst h0; simp [Addr.add]
  · simp [Addr.add, h0]
set_option maxRecDepth 100000 in
set_option maxHeartbeats 1000000 in
theorem ref_Take_none (B bc bm : Nat) (pg : Option Addr) (N cg : Nat) (fa : Option Addr) (m fc k : Nat) (L : List Int) (w : World) (hA : RAl B bc bm pg N cg fa m fc k L w) (hBw : B ≤ w.heap.size) (h0 : m = 0) :
    Calls Tryz.prog 83 #[.pointer (some ⟨bc, 0, none⟩)] w (Ret (.tuple #[.int .i64 0, .agg #[.slice none 0 0, .int .i64 14]]) w) := by
 have hk := hA.blk
 have hr := hA.nums
 have hm := hA.hm
 have hL := hA.hL
 have hN := hA.hN
 refine zin 35 Tryz.func83 ?_
 refine xa 3 [.slice none 0 0, .int .i64 0] 31 fun b1 W1 n1 => ?_
 have hk'1 := hk.below n1.below
 refine xb 8 1 hk'1 ?_
 refine xk 4 (show (((↑m : Int) == (0 : Int)) : Bool) = true from by subst h0; rfl) ?_
 refine xsv 4 n1.blk [.slice none 0 0, .int .i64 14] fun W2 u2 k2 => ?_
 have g1 := n1.ge (Below.refl w.heap.size _)
 have hB := u2.below n1.below g1
 exact xec 4 k2 (.tuple #[.int .i64 0, .agg #[.slice none 0 0, .int .i64 14]]) ⟨rfl, hB⟩
def Took16 (B bc bm : Nat) (pg : Option Addr) (N cg k : Nat) (L : List Int) (v : Value) (w : World) (e : Ending) (w' : World) : Prop :=
  ∃ fa m fc, e = .returned v ∧ Below B w w' ∧ Only [46] w w' ∧ RAl B bc bm pg N cg fa m fc k L w'
set_option maxRecDepth 100000 in
set_option maxHeartbeats 2000000 in
theorem ref_Take_some (B bc bm : Nat) (pg : Option Addr) (N cg : Nat) (fa : Option Addr) (m fc k : Nat) (L : List Int) (w : World) (hA : RAl B bc bm pg N cg fa m fc k L w) (hBw : B ≤ w.heap.size) (h0 : 0 < m) :
    Calls Tryz.prog 83 #[.pointer (some ⟨bc, 0, none⟩)] w (Took16 B bc bm pg N cg (k + 1) L (.tuple #[.int .i64 (L.getD (k + 0) 0), .agg #[.slice none 0 0, .int .i64 0]]) w) := by
 have hk := hA.blk
 have hr := hA.nums
 have hm := hA.hm
 have hL := hA.hL
 have hN := hA.hN
 refine zin 35 Tryz.func83 ?_
 refine xa 3 [.slice none 0 0, .int .i64 0] 31 fun b1 W1 n1 => ?_
 have hk'1 := hk.below n1.below
 refine xb 8 1 hk'1 ?_
 refine xk 4 (show (((↑m : Int) == (0 : Int)) : Bool) = false from by simp; omega) ?_
 refine xb 7 1 hk'1 ?_
 have hr'1 := own_below hr n1.below
 refine xx 0 _ m 0 1 (free_elem (free_sl (own_sl hr'1) hA.hfree hm hL) (by omega) (i := 0) (by omega)).1 ?_
 refine xl 0 ((free_elem (free_sl (own_sl hr'1) hA.hfree hm hL) (by omega) (i := 0) (by omega)).2) ?_
 refine xb 9 1 hk'1 ?_
 refine xsL 0 (fun _ _ _ _ zo zx zy V => run_sliceLA (k := 1) (b := fa) (n := m) (c := fc) (i := 1) (ki := .i64) 1 zo zx zy rfl (by omega) Tryz.underlying22 (by kernel_rfl) V) ?_
 refine xs 2 hk'1 [.pointer (some ⟨bm, 0, none⟩), .slice (cutA fa 1 fc 1) (m - 1) (fc - 1), .int .i64 (↑k : Int)] fun W2 u2 k2 => ?_
 refine xb 7 2 k2 ?_
 refine xwm 0 ((↑k : Int) + 1) (↑(k + 1) : Int) ?_
 refine xs 2 k2 [.pointer (some ⟨bm, 0, none⟩), .slice (cutA fa 1 fc 1) (m - 1) (fc - 1), .int .i64 (↑(k + 1) : Int)] fun W3 u3 k3 => ?_
 have k1 := u3.blkT (u2.blkT n1.blk hk'1 (by decide)) k2 (by decide)
 refine xsv 7 k1 [.slice none 0 0, .int .i64 0] fun W4 u4 k4 => ?_
 have g1 := n1.ge0 (Below.refl B _)
 have hB := u4.below (u3.below (u2.below (Bl.nextB (Below.refl B w) hBw n1.below) hA.hB) hA.hB) (Nat.le_trans hBw g1)
 have hO := (Only.upd_new (((show Only [46] w _ from (Only.of_below n1.below)).trans (Only.of_upd u2 hk'1 (by decide))).trans (Only.of_upd u3 k2 (by decide))) u4 g1)
 have k3'1 := u4.blkT k3 k1 (by decide)
 have hr'2 := u4.own2 (u3.own2 (u2.own2 hr'1 hk'1 (by decide)) k2 (by decide)) k1 (by decide)
 exact xec 3 k4 (.tuple #[.int .i64 (L.getD (k + 0) 0), .agg #[.slice none 0 0, .int .i64 0]]) ⟨_, _, _, rfl, hB, hO, k3'1, hr'2, fun hp => by rw [(hA.hfree h0).1, (hA.hfree h0).2]; exact cutA_step hr'2 (by omega), by omega, hL, hA.hB, hN⟩
theorem ref_Take (B bc bm : Nat) (pg : Option Addr) (N cg : Nat) (fa : Option Addr) (m fc k : Nat) (L : List Int) (w : World) (hA : RAl B bc bm pg N cg fa m fc k L w) (hBw : B ≤ w.heap.size) :
    Calls Tryz.prog 83 #[.pointer (some ⟨bc, 0, none⟩)] w (Took16 B bc bm pg N cg (nxK k N) L (.tuple #[.int .i64 (nxV k N L), .agg #[.slice none 0 0, .int .i64 (nxE k N)]]) w) := by
  have hm := hA.hm
  rcases Nat.eq_zero_or_pos m with h0 | h0
  · refine (ref_Take_none B bc bm pg N cg fa m fc k L w hA hBw h0).mono ?_
    rintro e W ⟨rfl, hb⟩
    rw [nxV, nxE, nxK, if_neg (by omega), if_neg (by omega), if_neg (by omega)]
    exact ⟨_, _, _, rfl, hb.mono hBw, Only.of_below hb, hA.below hb⟩
  · rw [nxV, nxE, nxK, if_pos (by omega), if_pos (by omega), if_pos (by omega)]
    exact ref_Take_some B bc bm pg N cg fa m fc k L w hA hBw h0
theorem only_r1 {w w' : World} (h : Only [46] w w') : Only [46, 9] w w' := h.mono fun t ht => by simp at ht ⊢; exact ht.1
theorem only_r2 {w w' : World} (h : Only [9] w w') : Only [46, 9] w w' := h.mono fun t ht => by simp at ht ⊢; exact ht.2
def RLayG (B bc bm : Nat) (pg : Option Addr) (N cg k : Nat) (L : List Int) (p : Option Addr) (K c : Nat) (l : List UInt8) (kind : Int) (li : List UInt8) (w : World) (e : Ending) (w' : World) : Prop :=
  ∃ a c2 fa m fc, e = .returned (.tuple #[.int .i64 (lyV k N K L kind li), .agg #[.slice a (lyB k N K L kind li).length c2, .int .i64 (lyE k N K L kind li)]]) ∧ Below B w w' ∧ Only [46, 9] w w' ∧ RAl B bc bm pg N cg fa m fc (lyK k N K L kind li) L w' ∧ RefI B bm p K c (lyL k N K L kind li l) w' ∧
    w'.ownsRow B 3 1 (.slice a (lyB k N K L kind li).length c2) (lyB k N K L kind li).length ((lyB k N K L kind li).map (Value.int .i64))
set_option maxRecDepth 100000 in
set_option maxHeartbeats 1000000 in
theorem ref_Lay_none (B bc bm : Nat) (pg : Option Addr) (N cg : Nat) (fa : Option Addr) (m fc k : Nat) (L : List Int) (p : Option Addr) (K c : Nat) (l : List UInt8) (kind : Int) (a : Option Addr) (ci : Nat) (li : List UInt8) (w : World) (hA : RAl B bc bm pg N cg fa m fc k L w) (hI : RefI B bm p K c l w) (hin : ∀ W, Below B w W → Only [46, 9] w W → Bys W (.slice a li.length ci) li) (hBw : B ≤ w.heap.size) (h0 : m = 0) :
    Calls Tryz.prog 52 #[.pointer (some ⟨bc, 0, none⟩), .int .i64 kind, .slice a li.length ci] w (Ret (.tuple #[.int .i64 0, .agg #[.slice none 0 0, .int .i64 14]]) w) := by
 have hk := hA.blk
 refine zin 37 Tryz.func52 ?_
 refine xa 3 [.slice none 0 0, .int .i64 0] 31 fun b1 W1 n1 => ?_
 have hk'1 := hk.below n1.below
 refine xb 8 1 hk'1 ?_
 refine xk 4 (show (((↑m : Int) == (0 : Int)) : Bool) = true from by subst h0; rfl) ?_
 refine xsv 4 n1.blk [.slice none 0 0, .int .i64 14] fun W2 u2 k2 => ?_
 have g1 := n1.ge (Below.refl w.heap.size _)
 have hB := u2.below n1.below g1
 exact xec 4 k2 (.tuple #[.int .i64 0, .agg #[.slice none 0 0, .int .i64 14]]) ⟨rfl, hB⟩
set_option maxRecDepth 100000 in
set_option maxHeartbeats 4000000 in
theorem ref_Lay_some (B bc bm : Nat) (pg : Option Addr) (N cg : Nat) (fa : Option Addr) (m fc k : Nat) (L : List Int) (p : Option Addr) (K c : Nat) (l : List UInt8) (kind : Int) (a : Option Addr) (ci : Nat) (li : List UInt8) (w : World) (hA : RAl B bc bm pg N cg fa m fc k L w) (hI : RefI B bm p K c l w) (hin : ∀ W, Below B w W → Only [46, 9] w W → Bys W (.slice a li.length ci) li) (hBw : B ≤ w.heap.size) (h0 : 0 < m) :
    Calls Tryz.prog 52 #[.pointer (some ⟨bc, 0, none⟩), .int .i64 kind, .slice a li.length ci] w (RLayG B bc bm pg N cg k L p K c l kind li w) := by
 have hk := hA.blk
 have hr := hA.nums
 have hm := hA.hm
 have hL := hA.hL
 have hN := hA.hN
 have hkN : k < N := by omega
 refine zin 37 Tryz.func52 ?_
 refine xa 3 [.slice none 0 0, .int .i64 0] 31 fun b1 W1 n1 => ?_
 have hk'1 := hk.below n1.below
 refine xb 8 1 hk'1 ?_
 refine xk 4 (show (((↑m : Int) == (0 : Int)) : Bool) = false from by simp; omega) ?_
 refine xd 3 (.t B [9, 31]) ?_
 have hk'2 := hk'1.below (below_drew W1)
 refine xbt (.e [0, 1, 2] 3) 0 B [9, 31] hk'2 ?_
 refine xbt (.e [4, 5, 6] 7) 1 B [9, 31] hk'2 ?_
 have hr'1 := own_below (own_below hr n1.below) (below_drew W1)
 refine xx (.e [] 8) _ m 0 1 (free_elem (free_sl (own_sl hr'1) hA.hfree hm hL) (by omega) (i := 0) (by omega)).1 ?_
 refine xlt (.e [] 9) (.t B [9, 31]) (fun V hV => (free_elem (free_sl (own_sl (own_only hr'1 hV.2 (by decide))) hA.hfree hm hL) (by omega) (i := 0) (by omega)).2) ?_
 refine xm2 (.b [10, 11]) 12 13 ?_ ?_
 · have hB := Bl.nextB (Bl.nextB (Below.refl B w) hBw n1.below) hBw (below_drew W1)
   have hs7 : B ≤ (W1.drew).heap.size := Nat.le_trans hBw hB.size
   have hI'1 := (hI.below n1.below).below (below_drew W1)
   have hO := (show Only [46, 9] w _ from (Only.of_below n1.below)).trans (Only.of_below (below_drew W1))
   refine yc 0 (args := #[.pointer (some ⟨bm, 0, none⟩), .int .i64 (L.getD (k + 0) 0), .int .i64 kind, .slice a li.length ci]) (.t B [9, 31]) (ref11_Write B bm p K c l (L.getD (k + 0) 0) kind a ci li _ hI'1 (hin _ hB hO) (Nat.le_trans hBw hB.size)) ?_
   rintro _ W2 ⟨a5, c5, rfl, hb2, hO2, hI, h5⟩
   refine ⟨(sft_only hb2 hO2), ?_⟩
   replace h5 := own_mono h5 hs7
   refine xa (.o [] 13) [.slice none 0 0, .int .i64 0] 31 fun b3 W3 n3 => ?_
   have k1 := (n1.blk.below (below_drew W1)).only hO2 (by decide)
   have d3_b1 := n3.ne k1
   have g3 := n3.ge0 (hB.trans hb2)
   refine ysv (.o [] 14) n3.blk [.slice a5 ((fltL (L.getD (k + 0) 0) (wrE kind (L.getD (k + 0) 0) K li)).length) c5, .int .i64 (wrE kind (L.getD (k + 0) 0) K li)] (.t B [9, 31]) fun W4 u4 k4 => ⟨(sft_upd u4 n3.blk (Nat.le_trans hBw g3) (by decide)), ?_⟩
   refine xb 6 1 k4 ?_
   refine xin 3 (wrE kind (L.getD (k + 0) 0) K li) (0 : Int) (fun hc5 => ?_) (fun hc5 => ?_)
   · have hne : wrE kind (L.getD k 0) K li ≠ 0 := hc5
     refine xd 1 (.t B [31]) ?_
     have k4'1 := k4.below (below_drew W4)
     refine xlv (.o [1] 0) k4'1.rp ?_
     have k1'1 := (u4.blk (k1.below n3.below) (Ne.symm (Ne.symm d3_b1))).below (below_drew W4)
     have g1 := n1.ge0 (Below.refl B _)
     refine ysv (.o [] 2) k1'1 [.slice a5 ((fltL (L.getD (k + 0) 0) (wrE kind (L.getD (k + 0) 0) K li)).length) c5, .int .i64 (wrE kind (L.getD (k + 0) 0) K li)] (.t B [31]) fun W6 u6 k6 => ⟨(sft_upd u6 k1'1 (Nat.le_trans hBw g1) (by decide)), ?_⟩
     have hB'1 := u6.below (Bl.nextB (u4.below (Bl.nextB (hB.trans hb2) hBw n3.below) (Nat.le_trans hBw g3)) hBw (below_drew W4)) (Nat.le_trans hBw g1)
     have hO'1 := (Only.upd_new ((Only.upd_new ((hO.trans (only_r2 hO2)).trans (Only.of_below n3.below)) u4 g3).trans (Only.of_below (below_drew W4))) u6 g1)
     have hk'3 := u6.blkT ((u4.blkT ((hk'2.only hO2 (by decide)).below n3.below) n3.blk (by decide)).below (below_drew W4)) k1'1 (by decide)
     have hr'2 := u6.own2 (own_below (u4.own2 (own_below (own_only hr'1 hO2 (by decide)) n3.below) n3.blk (by decide)) (below_drew W4)) k1'1 (by decide)
     have hI'2 := (((hI.below n3.below).only (Only.of_upd (T := [31]) u4 n3.blk (by decide)) (by decide)).below (below_drew W4)).only (Only.of_upd (T := [31]) u6 k1'1 (by decide)) (by decide)
     have h5'1 := u6.own2 (own_below (u4.own2 (own_below h5 n3.below) n3.blk (by decide)) (below_drew W4)) k1'1 (by decide)
     refine xec 4 k6 (.tuple #[.int .i64 0, .agg #[.slice a5 ((fltL (L.getD (k + 0) 0) (wrE kind (L.getD (k + 0) 0) K li)).length) c5, .int .i64 (wrE kind (L.getD (k + 0) 0) K li)]]) ?_
     have h2 : ¬ (k < N ∧ wrE kind (L.getD k 0) K li = 0) := fun h => hne h.2
     exact ⟨a5, c5, _, _, _, by rw [lyV, if_neg h2, lyE, if_pos hkN, lyB, if_pos hkN]; rfl, hB'1, hO'1, by rw [lyK, if_neg h2]; exact ⟨hk'3, hr'2, hA.hfree, hm, hL, hA.hB, hN⟩, by rw [lyL, if_pos hkN]; exact hI'2, by rw [lyB, if_pos hkN]; exact h5'1⟩
   have heq : wrE kind (L.getD k 0) K li = 0 := hc5
   have hk'4 := u4.blkT ((hk'2.only hO2 (by decide)).below n3.below) n3.blk (by decide)
   have hr'3 := u4.own2 (own_below (own_only hr'1 hO2 (by decide)) n3.below) n3.blk (by decide)
   have hB'2 := u4.below (Bl.nextB (hB.trans hb2) hBw n3.below) (Nat.le_trans hBw g3)
   refine xc 5 (args := #[.pointer (some ⟨bc, 0, none⟩)]) (ref_Take_some B bc bm pg N cg fa m fc k L _ ⟨hk'4, hr'3, hA.hfree, hm, hL, hA.hB, hN⟩ (Nat.le_trans hBw hB'2.size) (by omega)) ?_
   rintro _ W7 ⟨fa2, m2, fc2, rfl, hb7, hO7, hA2⟩
   have k1'2 := (u4.blk (k1.below n3.below) (Ne.symm (Ne.symm d3_b1))).only hO7 (by decide)
   refine xsv 3 k1'2 [.slice none 0 0, .int .i64 0] fun W8 u8 k8 => ?_
   have g1 := n1.ge0 (Below.refl B _)
   have hB'3 := u8.below (hB'2.trans hb7) (Nat.le_trans hBw g1)
   have hO'2 := (Only.upd_new ((Only.upd_new ((hO.trans (only_r2 hO2)).trans (Only.of_below n3.below)) u4 g3).trans (only_r1 hO7)) u8 g1)
   have hA2'1 := hA2.only (Only.of_upd (T := [31]) u8 k1'2 (by decide)) (by decide)
   have hI'3 := (((hI.below n3.below).only (Only.of_upd (T := [31]) u4 n3.blk (by decide)) (by decide)).only hO7 (by decide)).only (Only.of_upd (T := [31]) u8 k1'2 (by decide)) (by decide)
   refine xec 3 k8 (.tuple #[.int .i64 (L.getD (k + 0) 0), .agg #[.slice none 0 0, .int .i64 0]]) ?_
   have h2 : k < N ∧ wrE kind (L.getD k 0) K li = 0 := ⟨hkN, heq⟩
   have h3 : fltL (L.getD k 0) (wrE kind (L.getD k 0) K li) = [] := by rw [h2.2]; rfl
   exact ⟨none, 0, _, _, _, by rw [lyV, if_pos h2, lyE, if_pos hkN, lyB, if_pos hkN, h3, h2.2]; rfl, hB'3, hO'2, by rw [lyK, if_pos h2]; exact hA2'1, by rw [lyL, if_pos hkN]; exact hI'3, by rw [lyB, if_pos hkN, h3]; exact World.ownsRow_nil _ _ _ _⟩
 refine xa 0 [.slice none 0 0, .int .i64 0] 31 fun b9 W9 n9 => ?_
 have k1 := n1.blk.below (below_drew W1)
 have d9_b1 := n9.ne k1
 have hB := Bl.nextB (Bl.nextB (Bl.nextB (Below.refl B w) hBw n1.below) hBw (below_drew W1)) hBw n9.below
 have hs7 : B ≤ (W9).heap.size := Nat.le_trans hBw hB.size
 have hI'4 := ((hI.below n1.below).below (below_drew W1)).below n9.below
 have hO := ((show Only [46, 9] w _ from (Only.of_below n1.below)).trans (Only.of_below (below_drew W1))).trans (Only.of_below n9.below)
 refine yc (.o [] 12) (args := #[.pointer (some ⟨bm, 0, none⟩), .int .i64 (L.getD (k + 0) 0), .int .i64 kind, .slice a li.length ci]) (.t B [9, 31]) (ref11_Write B bm p K c l (L.getD (k + 0) 0) kind a ci li _ hI'4 (hin _ hB hO) (Nat.le_trans hBw hB.size)) ?_
 rintro _ W10 ⟨a5, c5, rfl, hb10, hO10, hI, h5⟩
 refine ⟨(sft_only hb10 hO10), ?_⟩
 replace h5 := own_mono h5 hs7
 have k9 := n9.blk.only hO10 (by decide)
 have g9 := n9.ge0 (Bl.nextB (Bl.nextB (Below.refl B w) hBw n1.below) hBw (below_drew W1))
 refine ysv (.o [] 14) k9 [.slice a5 ((fltL (L.getD (k + 0) 0) (wrE kind (L.getD (k + 0) 0) K li)).length) c5, .int .i64 (wrE kind (L.getD (k + 0) 0) K li)] (.t B [9, 31]) fun W11 u11 k11 => ⟨(sft_upd u11 k9 (Nat.le_trans hBw g9) (by decide)), ?_⟩
 refine xb 6 1 k11 ?_
 refine xin 3 (wrE kind (L.getD (k + 0) 0) K li) (0 : Int) (fun hc12 => ?_) (fun hc12 => ?_)
 · have hne : wrE kind (L.getD k 0) K li ≠ 0 := hc12
   refine xd 1 (.t B [31]) ?_
   have k11'1 := k11.below (below_drew W11)
   refine xlv (.o [1] 0) k11'1.rp ?_
   have k1'3 := (u11.blk ((k1.below n9.below).only hO10 (by decide)) (Ne.symm (Ne.symm d9_b1))).below (below_drew W11)
   have g1 := n1.ge0 (Below.refl B _)
   refine ysv (.o [] 2) k1'3 [.slice a5 ((fltL (L.getD (k + 0) 0) (wrE kind (L.getD (k + 0) 0) K li)).length) c5, .int .i64 (wrE kind (L.getD (k + 0) 0) K li)] (.t B [31]) fun W13 u13 k13 => ⟨(sft_upd u13 k1'3 (Nat.le_trans hBw g1) (by decide)), ?_⟩
   have hB'4 := u13.below (Bl.nextB (u11.below (hB.trans hb10) (Nat.le_trans hBw g9)) hBw (below_drew W11)) (Nat.le_trans hBw g1)
   have hO'3 := (Only.upd_new ((Only.upd_new (hO.trans (only_r2 hO10)) u11 g9).trans (Only.of_below (below_drew W11))) u13 g1)
   have hk'5 := u13.blkT ((u11.blkT ((hk'2.below n9.below).only hO10 (by decide)) k9 (by decide)).below (below_drew W11)) k1'3 (by decide)
   have hr'4 := u13.own2 (own_below (u11.own2 (own_only (own_below hr'1 n9.below) hO10 (by decide)) k9 (by decide)) (below_drew W11)) k1'3 (by decide)
   have hI'5 := ((hI.only (Only.of_upd (T := [31]) u11 k9 (by decide)) (by decide)).below (below_drew W11)).only (Only.of_upd (T := [31]) u13 k1'3 (by decide)) (by decide)
   have h5'2 := u13.own2 (own_below (u11.own2 h5 k9 (by decide)) (below_drew W11)) k1'3 (by decide)
   refine xec 4 k13 (.tuple #[.int .i64 0, .agg #[.slice a5 ((fltL (L.getD (k + 0) 0) (wrE kind (L.getD (k + 0) 0) K li)).length) c5, .int .i64 (wrE kind (L.getD (k + 0) 0) K li)]]) ?_
   have h2 : ¬ (k < N ∧ wrE kind (L.getD k 0) K li = 0) := fun h => hne h.2
   exact ⟨a5, c5, _, _, _, by rw [lyV, if_neg h2, lyE, if_pos hkN, lyB, if_pos hkN]; rfl, hB'4, hO'3, by rw [lyK, if_neg h2]; exact ⟨hk'5, hr'4, hA.hfree, hm, hL, hA.hB, hN⟩, by rw [lyL, if_pos hkN]; exact hI'5, by rw [lyB, if_pos hkN]; exact h5'2⟩
 have heq : wrE kind (L.getD k 0) K li = 0 := hc12
 have hk'6 := u11.blkT ((hk'2.below n9.below).only hO10 (by decide)) k9 (by decide)
 have hr'5 := u11.own2 (own_only (own_below hr'1 n9.below) hO10 (by decide)) k9 (by decide)
 have hB'5 := u11.below (hB.trans hb10) (Nat.le_trans hBw g9)
 refine xc 5 (args := #[.pointer (some ⟨bc, 0, none⟩)]) (ref_Take_some B bc bm pg N cg fa m fc k L _ ⟨hk'6, hr'5, hA.hfree, hm, hL, hA.hB, hN⟩ (Nat.le_trans hBw hB'5.size) (by omega)) ?_
 rintro _ W14 ⟨fa2, m2, fc2, rfl, hb14, hO14, hA2⟩
 have k1'4 := (u11.blk ((k1.below n9.below).only hO10 (by decide)) (Ne.symm (Ne.symm d9_b1))).only hO14 (by decide)
 refine xsv 3 k1'4 [.slice none 0 0, .int .i64 0] fun W15 u15 k15 => ?_
 have g1 := n1.ge0 (Below.refl B _)
 have hB'6 := u15.below (hB'5.trans hb14) (Nat.le_trans hBw g1)
 have hO'4 := (Only.upd_new ((Only.upd_new (hO.trans (only_r2 hO10)) u11 g9).trans (only_r1 hO14)) u15 g1)
 have hA2'2 := hA2.only (Only.of_upd (T := [31]) u15 k1'4 (by decide)) (by decide)
 have hI'6 := ((hI.only (Only.of_upd (T := [31]) u11 k9 (by decide)) (by decide)).only hO14 (by decide)).only (Only.of_upd (T := [31]) u15 k1'4 (by decide)) (by decide)
 refine xec 3 k15 (.tuple #[.int .i64 (L.getD (k + 0) 0), .agg #[.slice none 0 0, .int .i64 0]]) ?_
 have h2 : k < N ∧ wrE kind (L.getD k 0) K li = 0 := ⟨hkN, heq⟩
 have h3 : fltL (L.getD k 0) (wrE kind (L.getD k 0) K li) = [] := by rw [h2.2]; rfl
 exact ⟨none, 0, _, _, _, by rw [lyV, if_pos h2, lyE, if_pos hkN, lyB, if_pos hkN, h3, h2.2]; rfl, hB'6, hO'4, by rw [lyK, if_pos h2]; exact hA2'2, by rw [lyL, if_pos hkN]; exact hI'6, by rw [lyB, if_pos hkN, h3]; exact World.ownsRow_nil _ _ _ _⟩
theorem ref_Lay (B bc bm : Nat) (pg : Option Addr) (N cg : Nat) (fa : Option Addr) (m fc k : Nat) (L : List Int) (p : Option Addr) (K c : Nat) (l : List UInt8) (kind : Int) (a : Option Addr) (ci : Nat) (li : List UInt8) (w : World) (hA : RAl B bc bm pg N cg fa m fc k L w) (hI : RefI B bm p K c l w) (hin : ∀ W, Below B w W → Only [46, 9] w W → Bys W (.slice a li.length ci) li) (hBw : B ≤ w.heap.size) :
    Calls Tryz.prog 52 #[.pointer (some ⟨bc, 0, none⟩), .int .i64 kind, .slice a li.length ci] w (RLayG B bc bm pg N cg k L p K c l kind li w) := by
  have hm := hA.hm
  rcases Nat.eq_zero_or_pos m with h0 | h0
  · refine (ref_Lay_none B bc bm pg N cg fa m fc k L p K c l kind a ci li w hA hI hin hBw h0).mono ?_
    rintro e W ⟨rfl, hb⟩
    have hk : ¬ k < N := by omega
    have h2 : ¬ (k < N ∧ wrE kind (L.getD k 0) K li = 0) := fun h => hk h.1
    exact ⟨none, 0, _, _, _, by rw [lyV, if_neg h2, lyE, if_neg hk, lyB, if_neg hk]; rfl, hb.mono hBw, Only.of_below hb, by rw [lyK, if_neg h2]; exact hA.below hb, by rw [lyL, if_neg hk]; exact hI.below hb, by rw [lyB, if_neg hk]; exact World.ownsRow_nil _ _ _ _⟩
  · exact ref_Lay_some B bc bm pg N cg fa m fc k L p K c l kind a ci li w hA hI hin hBw h0
set_option maxRecDepth 100000 in
set_option maxHeartbeats 1000000 in
theorem ref_Ahead (B bc bm : Nat) (pg : Option Addr) (N cg : Nat) (fa : Option Addr) (m fc k j : Nat) (L : List Int) (w : World) (hA : RAl B bc bm pg N cg fa m fc k L w) (hj : j ≤ 1000000) :
    Calls Tryz.prog 50 #[.pointer (some ⟨bc, 0, none⟩), .int .i64 (↑j : Int)] w (RetS (fun w' r => ∃ q c2, r = .slice q (min j (N - k)) c2 ∧ w'.ownsRow w.heap.size 3 1 (.slice q (min j (N - k)) c2) (min j (N - k)) (((L.drop k).take j).map (Value.int .i64))) w) := by
 have hk := hA.blk
 have hm := hA.hm
 have hL := hA.hL
 have hN := hA.hN
 have hf := free_sl (own_sl hA.nums) hA.hfree hA.hm hA.hL
 refine zin 32 Tryz.func50 ?_
 have hB := Below.refl w.heap.size w
 refine zl 17 32 (fun zm zkv V => ∃ (i : Nat) (pq : Option Addr) (cq : Nat), zkv = [(0, .pointer (some ⟨bc, 0, none⟩)), (1, .int .i64 (↑j : Int)), (4, .slice none 0 0), (5, .slice pq i cq), (6, .int .i64 (↑i : Int))] ∧ zm = j - ((↑i : Int)).toNat ∧ Below w.heap.size w V ∧ Blk V bc ([.pointer (some ⟨bm, 0, none⟩), .slice fa m fc, .int .i64 (↑k : Int)]) 46 ∧ V.ownsRow w.heap.size 3 1 (.slice pq i cq) i (((L.drop k).take i).map (Value.int .i64)) ∧ i ≤ min j m) ⟨0, _, _, rfl, rfl, hB, hk, World.ownsRow_nil _ _ _ _, Nat.zero_le _⟩ ?_
 rintro _ _ W1 ⟨i, pq, cq, rfl, rfl, hB_1, k1_bc, hq, hi⟩ J1 hJ1 r1
 refine xg 7 [9, 10] (decide ((↑i : Int) < (↑j : Int))) (fun hc2 => ?_) (fun hc2 => ?_)
 · have hc2 := of_decide_eq_true hc2
   refine xb 4 1 k1_bc ?_
   refine xid 5 ((↑i : Int) < (↑m : Int)) (fun hc3 => ?_) (fun hc3 => ?_)
   · refine xb 9 1 k1_bc ?_
     refine xx 1 _ m i 1 (free_elem hf (by omega) (i := i) (by omega)).1 ?_
     refine xl 0 ((free_elem (hf.below hB_1) (by omega) (i := i) (by omega)).2) ?_
     refine xbs 0 1 [.int .i64 (L.getD (k + i) 0)] 3 fun b4 W4 n4 => ?_
     have r4_hq := own_ne hq n4
     have hq'1 := own_below hq n4.below
     have hB'1 := Bl.next hB_1 n4.below
     refine xbi 0 fun _ _ _ _ zJ zQ zo zx zy zK => op_app (m := 1) (news := [.int .i64 (L.getD (k + i) 0)]) (.int .i64 0) 1 8 (i + 1) (((L.drop k).take (i + 1)).map (Value.int .i64)) zo Tryz.underlying22 (by kernel_rfl) rfl (by decide) zx hq'1 zy (n4.blk.sl 1 1 (by decide) (by decide)) rfl (by simp [Value.oneCell']) (by unfold maxLen; omega) (by omega) hB'1.size (by rfl) (by rw [List.take_succ_eq_append_getElem (by simp; omega), List.map_append]; simp [List.getD, List.getElem?_eq_getElem (show k + i < L.length by omega)]) fun p5 c5 W5 o5 hg5 hb5 => ?_
     refine zK _ _ ?_
     refine xwm 6 ((↑i : Int) + 1) (↑(i + 1) : Int) ?_
     have hB'2 := hB'1.trans hb5
     have k1_bc'1 := (k1_bc.below n4.below).grown hg5 hq'1 (by decide)
     exact ze 2 (hJ1 _ _ _ ⟨i + 1, _, _, rfl, rfl, hB'2, k1_bc'1, o5, by omega⟩ (by omega))
   refine xe 12 (.slice pq i cq) ?_
   have hi2 : i = min j m := by omega
   have e1 : min j (N - k) = i := by omega
   have e2 : (L.drop k).take j = (L.drop k).take i := by
     rcases Nat.le_total j m with q | q
     · rw [hi2, Nat.min_eq_left q]
     · rw [List.take_of_length_le (by simp; omega), List.take_of_length_le (by simp; omega)]
   rw [e1, e2]
   exact ⟨_, rfl, hB_1, _, _, rfl, hq⟩
 have hc2 := of_decide_eq_false hc2
 refine xe 23 (.slice pq i cq) ?_
 have hi2 : i = min j m := by omega
 have e1 : min j (N - k) = i := by omega
 have e2 : (L.drop k).take j = (L.drop k).take i := by
   rcases Nat.le_total j m with q | q
   · rw [hi2, Nat.min_eq_left q]
   · rw [List.take_of_length_le (by simp; omega), List.take_of_length_le (by simp; omega)]
 rw [e1, e2]
 exact ⟨_, rfl, hB_1, _, _, rfl, hq⟩
end Go.Proofs.YtcjpomibhbakdaaGreatDoor
namespace Go.Proofs.YtcjpomibhbakdaaGreatDoor
open Go.RowKit Go.Extern.Stop Go.Stop Go.Extern
set_option linter.unusedVariables false
attribute [local irreducible] wpList wpAnyH Code.wp Oper.wp Go

set_option maxRecDepth 100000 in
set_option maxHeartbeats 1000000 in
theorem ref17_Right_o (t : Int) (x : Value) (w : World) (h : ¬ (1 ≤ t ∧ t ≤ 5)) :
    Calls Tryz.prog 73 #[.int .i64 t, x] w (Ret (.bool false) w) := by
 refine zin 63 Tryz.func73 ?_
 refine xr 9 (args := #[.int .i64 t, .bool true]) (ref07_Max_o t true _ h) fun W1 hb1 => ?_
 exact xe 16 (.bool false) ⟨rfl, hb1⟩
set_option maxRecDepth 100000 in
set_option maxHeartbeats 4000000 in
theorem ref17_Right_i (t : Int) (v : Nat) (a : Option Addr) (c : Nat) (l : List Ent) (w : World) (ht1 : 1 ≤ t) (ht2 : t ≤ 5) (hv : widN t true = v) (h : Sts entC w (.slice a l.length c) l) (hn : l.length ≤ 32768) :
    Calls Tryz.prog 73 #[.int .i64 t, .slice a l.length c] w (Ret (.bool (entsB v l)) w) := by
 have hmb := maxN_pos t true
 refine zin 63 Tryz.func73 ?_
 refine xr 9 (args := #[.int .i64 t, .bool true]) (ref07_Max t true _ rfl ht1 ht2 _) fun W1 hb1 => ?_
 refine xgk 2 [8, 9] (show (((↑(maxN t true) : Int) == (0 : Int)) : Bool) = false from by simp; omega) ?_
 refine xk 6 (show (decide ((↑l.length : Int) > (32768 : Int)) : Bool) = false from decide_eq_false (by omega)) ?_
 refine zl 9 63 (fun zm zkv V => ∃ (i : Nat), zkv = [(0, .int .i64 t), (1, .slice a l.length c), (5, .int .i64 (↑i : Int))] ∧ zm = l.length - ((↑i : Int)).toNat ∧ Below w.heap.size w V ∧ i ≤ l.length ∧ (∀ j, j < i → entE v l j)) ⟨0, rfl, rfl, hb1, Nat.zero_le _, ?_⟩ ?_
 · exact fun j hj => absurd hj (by omega)
 rintro _ _ W3 ⟨i, rfl, rfl, hB_3, hi, hz⟩ J3 hJ3 r3
 have hl0 := lastK_ge hz
 have hlp : 0 < i → lastK l i = (l.getD (i - 1) entD).1 := lastK_pos
 have hlz : i = 0 → lastK l i = -1 := lastK_zero
 refine xid 9 ((↑i : Int) < (↑l.length : Int)) (fun hc4 => ?_) (fun hc4 => ?_)
 · refine xd 5 .z ?_
   refine xx (.e [0, 1] 2) _ l.length i 3 (Sts.cell h entC_len entD (k := i) (i := 0) (by omega) rfl).1 ?_
   have hB'1 := Bl.next hB_3 (below_drew W3)
   refine xl (.e [3] 4) ((Sts.cell (h.below hB'1) entC_len entD (k := i) (i := 0) (by omega) rfl).2) ?_
   refine xg (.b [5, 6]) [25, 26] (decide ((l.getD i entD).1 < (0 : Int))) (fun hc5 => ?_) (fun hc5 => ?_)
   · have hc5 := of_decide_eq_true hc5
     exact xe (.r [7, 8, 9, 10, 11, 12, 13, 14, 15, 16, 17, 18, 19, 20, 21, 22, 23, 24, 25, 26, 27, 28, 29, 30, 31, 32, 33, 34, 35, 36, 37, 38, 39, 40, 41, 42] 14) (.bool false) ⟨by rw [entsB_false (i := i) (by omega) (fun hz9 => by unfold entE at hz9; omega)], hB'1⟩
   have hc5 := of_decide_eq_false hc5
   refine xx (.e [7, 8] 9) _ l.length i 3 (Sts.cell h entC_len entD (k := i) (i := 0) (by omega) rfl).1 ?_
   refine xl (.e [10] 11) ((Sts.cell (h.below hB'1) entC_len entD (k := i) (i := 0) (by omega) rfl).2) ?_
   refine xg (.b [12, 13, 14]) [32, 33, 34] (decide ((l.getD i entD).1 > (281474976710655 : Int))) (fun hc6 => ?_) (fun hc6 => ?_)
   · have hc6 := of_decide_eq_true hc6
     exact xe (.r [15, 16, 17, 18, 19, 20, 21, 22, 23, 24, 25, 26, 27, 28, 29, 30, 31, 32, 33, 34, 35, 36, 37, 38, 39, 40, 41, 42] 14) (.bool false) ⟨by rw [entsB_false (i := i) (by omega) (fun hz9 => by unfold entE at hz9; omega)], hB'1⟩
   have hc6 := of_decide_eq_false hc6
   refine xg (.b [15, 16, 17]) [36, 37] (decide ((↑i : Int) > (0 : Int))) (fun hc7 => ?_) (fun hc7 => ?_)
   · have hc7 := of_decide_eq_true hc7
     refine xx (.e [18, 19] 20) _ l.length i 3 (Sts.cell h entC_len entD (k := i) (i := 0) (by omega) rfl).1 ?_
     refine xl (.e [21] 22) ((Sts.cell (h.below hB'1) entC_len entD (k := i) (i := 0) (by omega) rfl).2) ?_
     refine xwm (.e [23, 24] 25) ((↑i : Int) - 1) (↑(i - 1) : Int) ?_
     refine xx (.e [] 26) _ l.length (i - 1) 3 (Sts.cell h entC_len entD (k := (i - 1)) (i := 0) (by omega) rfl).1 ?_
     refine xl (.e [27] 28) ((Sts.cell (h.below hB'1) entC_len entD (k := (i - 1)) (i := 0) (by omega) rfl).2) ?_
     refine xg (.b [29, 30, 31, 32]) [49, 50, 51, 52] (decide ((l.getD i entD).1 ≤ (l.getD (i - 1) entD).1)) (fun hc8 => ?_) (fun hc8 => ?_)
     · have hc8 := of_decide_eq_true hc8
       exact xe (.r [33, 34, 35, 36, 37, 38, 39, 40, 41, 42] 14) (.bool false) ⟨by rw [entsB_false (i := i) (by omega) (fun hz9 => by unfold entE at hz9; omega)], hB'1⟩
     have hc8 := of_decide_eq_false hc8
     refine xx (.e [33, 34] 35) _ l.length i 3 (Sts.cell h entC_len entD (k := i) (i := 0) (by omega) rfl).1 ?_
     refine xl (.e [36] 37) ((Sts.cell (h.below hB'1) entC_len entD (k := i) (i := 1) (by omega) rfl).2) ?_
     refine xr (.o [38, 39] 40) (args := #[.int .i64 t, .bool true]) (ref07_Width t true v hv ht1 ht2 _) fun W9 hb9 => ?_
     refine xin (.r [41, 42] 2) (↑((l.getD i entD).2.1).length : Int) (↑v : Int) (fun hc10 => ?_) (fun hc10 => ?_)
     · have hB'2 := Bl.next hB'1 hb9
       exact xe 11 (.bool false) ⟨by rw [entsB_false (i := i) (by omega) (fun hz9 => by unfold entE at hz9; omega)], hB'2⟩
     refine xwm 5 ((↑i : Int) + 1) (↑(i + 1) : Int) ?_
     have hB'3 := Bl.next hB'1 hb9
     exact ze 2 (hJ3 _ _ _ ⟨i + 1, rfl, rfl, hB'3, by omega, fun j hj => (Nat.lt_or_ge j i).elim (hz j) (fun q => by obtain rfl : j = i := (by omega); unfold entE; omega)⟩ (by omega))
   have hc7 := of_decide_eq_false hc7
   refine xx (.e [18, 19, 20, 21, 22, 23, 24, 25, 26, 27, 28, 29, 30, 31, 32, 33, 34] 35) _ l.length i 3 (Sts.cell h entC_len entD (k := i) (i := 0) (by omega) rfl).1 ?_
   refine xl (.e [36] 37) ((Sts.cell (h.below hB'1) entC_len entD (k := i) (i := 1) (by omega) rfl).2) ?_
   refine xr (.o [38, 39] 40) (args := #[.int .i64 t, .bool true]) (ref07_Width t true v hv ht1 ht2 _) fun W11 hb11 => ?_
   refine xin (.r [41, 42] 2) (↑((l.getD i entD).2.1).length : Int) (↑v : Int) (fun hc12 => ?_) (fun hc12 => ?_)
   · have hB'4 := Bl.next hB'1 hb11
     exact xe 11 (.bool false) ⟨by rw [entsB_false (i := i) (by omega) (fun hz9 => by unfold entE at hz9; omega)], hB'4⟩
   refine xwm 5 ((↑i : Int) + 1) (↑(i + 1) : Int) ?_
   have hB'5 := Bl.next hB'1 hb11
   exact ze 2 (hJ3 _ _ _ ⟨i + 1, rfl, rfl, hB'5, by omega, fun j hj => (Nat.lt_or_ge j i).elim (hz j) (fun q => by obtain rfl : j = i := (by omega); unfold entE; omega)⟩ (by omega))
 exact xe 11 (.bool true) ⟨by rw [entsB_true (fun j hj => hz j (by omega))], hB_3⟩
theorem ref17_Right (t : Int) (a : Option Addr) (c : Nat) (l : List Ent) (w : World) (h : Sts entC w (.slice a l.length c) l) (hn : l.length ≤ 32768) :
    Calls Tryz.prog 73 #[.int .i64 t, .slice a l.length c] w (Ret (.bool (decide (1 ≤ t ∧ t ≤ 5 ∧ entsB (widN t true) l = true))) w) := by
  by_cases ht : 1 ≤ t ∧ t ≤ 5
  · rw [show decide (1 ≤ t ∧ t ≤ 5 ∧ entsB (widN t true) l = true) = entsB (widN t true) l by simp [ht.1, ht.2]]
    exact ref17_Right_i t _ a c l w ht.1 ht.2 rfl h hn
  · rw [show decide (1 ≤ t ∧ t ≤ 5 ∧ entsB (widN t true) l = true) = false from decide_eq_false fun h => ht ⟨h.1, h.2.1⟩]
    exact ref17_Right_o t _ w ht
/-- a node laid by the document's allocator -/
def RLaidQ (B bc bm : Nat) (pg : Option Addr) (N cg f k : Nat) (p : Option Addr) (K c : Nat) (l : List UInt8) (li : List UInt8) (q : Nat) (w : World) (e : Ending) (w' : World) : Prop :=
  ∃ a c2 fa m fc, e = .returned (.tuple #[.int .i64 (q : Int), .agg #[.slice a 0 c2, .int .i64 0]]) ∧ Below B w w' ∧ Only [46, 9] w w' ∧ RAl B bc bm pg N cg fa m fc (k + 1) (rngJ f N) w' ∧ RefI B bm p K c (putB l (q * 256) (sealB 2 (q : Int) li)) w'
theorem ref_LayQ (B bc bm : Nat) (pg : Option Addr) (N cg : Nat) (fa : Option Addr) (m fc f k : Nat) (p : Option Addr) (K c : Nat) (l : List UInt8) (a : Option Addr) (ci n' : Nat) (li : List UInt8) (q : Nat) (w : World) (hq : f + k = q) (hn' : li.length = n') (hl : n' ≤ 244) (hkN : k < N) (hf : f + N ≤ K) (hA : RAl B bc bm pg N cg fa m fc k (rngJ f N) w) (hI : RefI B bm p K c l w) (hin : ∀ W, Below B w W → Only [46, 9] w W → Bys W (.slice a n' ci) li) (hBw : B ≤ w.heap.size) :
    Calls Tryz.prog 52 #[.pointer (some ⟨bc, 0, none⟩), .int .i64 2, .slice a n' ci] w (RLaidQ B bc bm pg N cg f k p K c l li q w) := by
  subst hq hn'
  have hK := hI.hk
  have hL : (rngJ f N).getD k 0 = ((f + k : Nat) : Int) := rngJ_get hkN
  have hs : sealE 2 ((f + k : Nat) : Int) li = 0 := by
    unfold sealE
    rw [if_pos (show knownB 2 ((f + k : Nat) : Int) = true from decide_eq_true (by omega)), if_pos hl]
  have hw : wrE 2 ((rngJ f N).getD k 0) K li = 0 := by
    rw [hL]; unfold wrE; rw [if_pos hs, if_pos (by omega)]
  refine (ref_Lay B bc bm pg N cg fa m fc k (rngJ f N) p K c l 2 a ci li w hA hI hin hBw).mono ?_
  rintro e W ⟨a2, c2, fa2, m2, fc2, rfl, hb, hO, hA2, hI2, h5⟩
  have e1 : lyV k N K (rngJ f N) 2 li = ((f + k : Nat) : Int) := by rw [lyV, if_pos ⟨hkN, hw⟩, hL]
  have e2 : lyE k N K (rngJ f N) 2 li = 0 := by rw [lyE, if_pos hkN, hw]
  have e3 : lyB k N K (rngJ f N) 2 li = [] := by rw [lyB, if_pos hkN, hw]; rfl
  have e4 : lyK k N K (rngJ f N) 2 li = k + 1 := by rw [lyK, if_pos ⟨hkN, hw⟩]
  have e5 : lyL k N K (rngJ f N) 2 li l = putB l ((f + k) * 256) (sealB 2 ((f + k : Nat) : Int) li) := by rw [lyL, if_pos hkN, wrL, if_pos hw, hL]; rfl
  rw [e4] at hA2
  rw [e5] at hI2
  exact ⟨a2, c2, fa2, m2, fc2, by rw [e1, e2, e3]; rfl, hb, hO, hA2, hI2⟩
/-- the levels from one on -/
def treeL (t : Int) (leaf : Bool) (m v : Nat) (l : List Ent) (q : Nat) (bs : List UInt8) : Int × List UInt8 := treeUp t (upE l m q (ovN l.length m)) (q + ovN l.length m) (levB t leaf m v l q bs (ovN l.length m))
theorem from_lt {n m i : Nat} (hm : 1 ≤ m) (h : i * m < n ∨ i = 0) : i < ovN n m := by
  have hp := ovN_pos n m
  rcases h with h | h
  · unfold ovN
    have : i < (n + m - 1) / m := by
      rw [Nat.lt_div_iff_mul_lt (by omega)]; omega
    omega
  · omega
theorem from_end {n m i : Nat} (hm : 1 ≤ m) (hi : i ≤ ovN n m) (h : ¬ i * m < n) (h0 : i * m ≠ 0) : i = ovN n m := by
  rcases Nat.lt_or_ge i (ovN n m) with q | q
  · rcases Nat.eq_zero_or_pos n with hn | hn
    · subst hn
      rw [ovN_small hm (Nat.zero_le _)] at q
      obtain rfl : i = 0 := by omega
      simp at h0
    · exact absurd (siz_lt hm hn q) h
  · omega
def RTreeP (B bc bm : Nat) (pg : Option Addr) (N cg f k0 : Nat) (p : Option Addr) (K c : Nat) (bs : List UInt8) (t : Int) (l : List Ent) (w : World) (e : Ending) (w' : World) : Prop :=
  ∃ fa m fc, e = .returned (.tuple #[.int .i64 (treeB t l (f + k0) bs).1, .agg #[.slice none 0 0, .int .i64 0]]) ∧ Below B w w' ∧ Only [46, 9] w w' ∧ RAl B bc bm pg N cg fa m fc (k0 + nodN t l.length) (rngJ f N) w' ∧ RefI B bm p K c (treeB t l (f + k0) bs).2 w'
set_option maxRecDepth 100000 in
set_option maxHeartbeats 1000000 in
theorem ref17_Tree_w (B bc bm : Nat) (pg : Option Addr) (N cg : Nat) (fa : Option Addr) (mf fc f k0 : Nat) (p : Option Addr) (K cI : Nat) (bs : List UInt8) (t : Int) (a : Option Addr) (c : Nat) (l : List Ent) (w : World) (hR : RAl B bc bm pg N cg fa mf fc k0 (rngJ f N) w) (hn : l.length ≤ 32768) (h : Sts entC w (.slice a l.length c) l) (hr : ¬ (1 ≤ t ∧ t ≤ 5 ∧ entsB (widN t true) l = true)) :
    Calls Tryz.prog 37 #[.pointer (some ⟨bc, 0, none⟩), .int .i64 t, .slice a l.length c] w (Ret (.tuple #[.int .i64 0, .agg #[.slice none 0 0, .int .i64 1]]) w) := by
 refine zin 128 Tryz.func37 ?_
 refine xa 3 [.slice none 0 0, .int .i64 0] 31 fun b1 W1 n1 => ?_
 refine xr 7 (args := #[.int .i64 t, .slice a l.length c]) (ref17_Right t a c l _ (h.below n1.below) hn) fun W2 hb2 => ?_
 refine xk 3 (show (!(decide (1 ≤ t ∧ t ≤ 5 ∧ entsB (widN t true) l = true)) : Bool) = true from by rw [decide_eq_false hr]; rfl) ?_
 have k1 := n1.blk.below hb2
 refine xsv 4 k1 [.slice none 0 0, .int .i64 1] fun W3 u3 k3 => ?_
 have g1 := n1.ge (Below.refl w.heap.size _)
 have hB'1 := u3.below (Bl.next n1.below hb2) g1
 exact xec 4 k3 (.tuple #[.int .i64 0, .agg #[.slice none 0 0, .int .i64 1]]) ⟨rfl, hB'1⟩
set_option maxRecDepth 100000 in
set_option maxHeartbeats 1000000 in
theorem ref17_Tree_n (B bc bm : Nat) (pg : Option Addr) (N cg : Nat) (fa : Option Addr) (mf fc f k0 : Nat) (p : Option Addr) (K cI : Nat) (bs : List UInt8) (t : Int) (a : Option Addr) (c : Nat) (l : List Ent) (w : World) (hR : RAl B bc bm pg N cg fa mf fc k0 (rngJ f N) w) (hn : l.length ≤ 32768) (h : Sts entC w (.slice a l.length c) l) (hr : 1 ≤ t ∧ t ≤ 5 ∧ entsB (widN t true) l = true) (hs : N - k0 < nodN t l.length) :
    Calls Tryz.prog 37 #[.pointer (some ⟨bc, 0, none⟩), .int .i64 t, .slice a l.length c] w (Ret (.tuple #[.int .i64 0, .agg #[.slice none 0 0, .int .i64 14]]) w) := by
 have ht1 := hr.1
 have ht2 := hr.2.1
 have hRm := hR.hm
 refine zin 128 Tryz.func37 ?_
 refine xa 3 [.slice none 0 0, .int .i64 0] 31 fun b1 W1 n1 => ?_
 refine xr 7 (args := #[.int .i64 t, .slice a l.length c]) (ref17_Right t a c l _ (h.below n1.below) hn) fun W2 hb2 => ?_
 refine xk 3 (show (!(decide (1 ≤ t ∧ t ≤ 5 ∧ entsB (widN t true) l = true)) : Bool) = false from by rw [decide_eq_true hr]; rfl) ?_
 refine xd 4 .z ?_
 have hR'1 := ((hR.below n1.below).below hb2).below (below_drew W2)
 refine xl (.e [0, 1, 2] 3) (hR'1.blk.cell (i := 1) rfl) ?_
 refine xr (.o [4, 5, 6, 7] 8) (args := #[.int .i64 t, .int .i64 (↑l.length : Int)]) (ref15_Nodes t l.length _ ht1 ht2 hn) fun W3 hb3 => ?_
 refine xk (.r [9] 2) (show (decide ((↑mf : Int) < (↑(nodN t l.length) : Int)) : Bool) = true from decide_eq_true (by omega)) ?_
 have k1 := ((n1.blk.below hb2).below (below_drew W2)).below hb3
 refine xsv 4 k1 [.slice none 0 0, .int .i64 14] fun W4 u4 k4 => ?_
 have g1 := n1.ge (Below.refl w.heap.size _)
 have hB'1 := u4.below (Bl.next (Bl.next (Bl.next n1.below hb2) (below_drew W2)) hb3) g1
 exact xec 4 k4 (.tuple #[.int .i64 0, .agg #[.slice none 0 0, .int .i64 14]]) ⟨rfl, hB'1⟩
theorem up_at {w : World} {p : Option Addr} {i c m q : Nat} {u : List Ent} (h : Sl w (.slice p i c) i ((upE u m q i).flatMap entC)) (hi : 0 < i) : p.isSome = true ∧ w.cell? ((elemAddr p (0 * 3)).add 2) = some (.int .i64 (upX u m q 0).2.2) := by
  have h2 : Sts entC w (.slice p (upE u m q i).length c) (upE u m q i) := by unfold Sts; rw [upE_len]; exact h
  have := Sts.cell h2 entC_len entD (k := 0) (i := 2) (by rw [upE_len]; exact hi) rfl
  rw [upE_get hi] at this
  exact this
set_option maxRecDepth 100000 in
set_option maxHeartbeats 8000000 in
theorem ref17_Tree_y (B bc bm : Nat) (pg : Option Addr) (N cg : Nat) (fa : Option Addr) (mf fc f k0 : Nat) (p : Option Addr) (K cI : Nat) (bs : List UInt8) (t : Int) (a : Option Addr) (c : Nat) (l : List Ent) (w : World) (hR : RAl B bc bm pg N cg fa mf fc k0 (rngJ f N) w) (hn : l.length ≤ 32768) (hr : 1 ≤ t ∧ t ≤ 5 ∧ entsB (widN t true) l = true) (hs : k0 + nodN t l.length ≤ N) (hf : f + N ≤ K) (hJ : RefI B bm p K cI bs w) (hin : ∀ W, Below B w W → Only [46, 9] w W → Sts entC W (.slice a l.length c) l) (hBw : B ≤ w.heap.size) :
    Calls Tryz.prog 37 #[.pointer (some ⟨bc, 0, none⟩), .int .i64 t, .slice a l.length c] w (RTreeP B bc bm pg N cg f k0 p K cI bs t l w) := by
 have ht1 := hr.1
 have ht2 := hr.2.1
 have hRm := hR.hm
 have hKb := hJ.hk
 have hN := hR.hN
 refine zin 128 Tryz.func37 ?_
 refine xa 3 [.slice none 0 0, .int .i64 0] 31 fun b1 W1 n1 => ?_
 have hB := Bl.nextB (Below.refl B w) hBw n1.below
 have hO := (show Only [46, 9] w _ from (Only.of_below n1.below))
 refine xr 7 (args := #[.int .i64 t, .slice a l.length c]) (ref17_Right t a c l _ (hin _ hB hO) hn) fun W2 hb2 => ?_
 refine xk 3 (show (!(decide (1 ≤ t ∧ t ≤ 5 ∧ entsB (widN t true) l = true)) : Bool) = false from by rw [decide_eq_true hr]; rfl) ?_
 refine xd 4 .z ?_
 have hR'1 := ((hR.below n1.below).below hb2).below (below_drew W2)
 refine xl (.e [0, 1, 2] 3) (hR'1.blk.cell (i := 1) rfl) ?_
 refine xr (.o [4, 5, 6, 7] 8) (args := #[.int .i64 t, .int .i64 (↑l.length : Int)]) (ref15_Nodes t l.length _ ht1 ht2 hn) fun W3 hb3 => ?_
 refine xk (.r [9] 2) (show (decide ((↑mf : Int) < (↑(nodN t l.length) : Int)) : Bool) = false from decide_eq_false (by omega)) ?_
 have hR'2 := hR'1.below hb3
 have hJ'1 := (((hJ.below n1.below).below hb2).below (below_drew W2)).below hb3
 have hB'1 := Bl.nextB (Bl.nextB (Bl.nextB hB hBw hb2) hBw (below_drew W2)) hBw hb3
 have hO'1 := ((hO.trans (Only.of_below hb2)).trans (Only.of_below (below_drew W2))).trans (Only.of_below hb3)
 have k1 := ((n1.blk.below hb2).below (below_drew W2)).below hb3
 refine zl 8 128 (fun zm zkv V => ∃ (u : List Ent) (k m v : Nat) (leaf : Bool) (b2 : List UInt8) (a2 : Option Addr) (c2 : Nat), zkv = [(0, .pointer (some ⟨bc, 0, none⟩)), (1, .int .i64 t), (2, .slice a2 u.length c2), (7, .pointer (some ⟨b1, 0, none⟩)), (8, .bool leaf)] ∧ zm = (if leaf = true then 40000 else u.length) ∧ Below B w V ∧ Only [46, 9] w V ∧ Blk V b1 ([.slice none 0 0, .int .i64 0]) 31 ∧ (∃ fa mf fc, RAl B bc bm pg N cg fa mf fc k (rngJ f N) V) ∧ RefI B bm p K cI b2 V ∧ (∀ W, Below B V W → Only [46, 9] V W → Sts entC W (.slice a2 u.length c2) u) ∧ maxN t leaf = m ∧ widN t leaf = v ∧ EntsOk v u ∧ k + (levs (ovN u.length m)).sum = k0 + nodN t l.length ∧ (leaf = false → 2 ≤ u.length) ∧ u.length ≤ 32768 ∧ treeL t leaf m v u (f + k) b2 = treeB t l (f + k0) bs) ⟨l, k0, (maxN t true), (widN t true), true, bs, a, c, rfl, rfl, hB'1, hO'1, k1, ⟨_, _, _, hR'2⟩, hJ'1, ?_, rfl, rfl, entsB_ok hr.2.2, rfl, (fun h => by cases h), hn, rfl⟩ ?_
 · exact fun W h1 h2 => hin W (hB'1.trans h1) (Only.trans (by first | exact hO'1 | exact Only.refl _ _) h2)
 rintro _ _ W4 ⟨u, k, m, v, leaf, b2, a2, c2, rfl, rfl, hB_4, hO_4, k4_b1, hRx, hJ, hen, hm, hv, hE, hk, hlu, hun, htr⟩ J4 hJ4 r4
 have hs_r4 : B ≤ W4.heap.size := Nat.le_trans hBw hB_4.size
 obtain ⟨fa, mf, fc, hR⟩ := hRx
 have hmb := maxN_pos t leaf
 rw [hm] at hmb
 have hlg := levs_ge (ovN u.length m)
 have hov := ovN_le u.length m hmb.1
 have hop := ovN_pos u.length m
 refine xr 15 (args := #[.int .i64 t, .bool leaf]) (ref07_Max t leaf m hm ht1 ht2 _) fun W5 hb5 => ?_
 refine xv1 5 10 (show (.int .i64 0 : Value) = .int .i64 (↑(0 * m) : Int) from by rw [Nat.zero_mul]; rfl) ?_
 have hR'3 := hR.below hb5
 have hJ'2 := hJ.below hb5
 have hB := Bl.nextB (Below.refl B W4) hs_r4 hb5
 have hO := (show Only [46, 9] W4 _ from (Only.of_below hb5))
 have k4_b1'1 := k4_b1.below hb5
 refine zl 0 128 (fun zm zkv V => ∃ (i : Nat) (p4 : Option Addr) (c4 : Nat) (fa : Option Addr) (mf fc : Nat), zkv = [(0, .pointer (some ⟨bc, 0, none⟩)), (1, .int .i64 t), (2, .slice a2 u.length c2), (7, .pointer (some ⟨b1, 0, none⟩)), (8, .bool leaf), (9, .slice p4 i c4), (10, .int .i64 (↑(i * m) : Int)), (11, .int .i64 (↑m : Int))] ∧ zm = (ovN u.length m) - i ∧ Below B W4 V ∧ Only [46, 9] W4 V ∧ Blk V b1 ([.slice none 0 0, .int .i64 0]) 31 ∧ V.ownsRow W4.heap.size 69 3 (.slice p4 i c4) i ((upE u m (f + k) i).flatMap entC) ∧ RAl B bc bm pg N cg fa mf fc (k + i) (rngJ f N) V ∧ RefI B bm p K cI (levB t leaf m v u (f + k) b2 i) V ∧ i ≤ (ovN u.length m)) ⟨0, none, 0, fa, mf, fc, rfl, rfl, hB, hO, k4_b1'1, World.ownsRow_nil _ _ _ _, hR'3, hJ'2, Nat.zero_le _⟩ ?_
 rintro _ _ W6 ⟨i, p4, c4, fa, mf, fc, rfl, rfl, hB_6, hO_6, k6_b1, hup, hR, hJ, hi⟩ J6 hJ6 r6
 have hlt : (i * m < u.length ∨ i = 0) → i < (ovN u.length m) := from_lt hmb.1
 have him : i * m = 0 → i = 0 := fun h => (Nat.mul_eq_zero.1 h).elim id (fun h => by omega)
 refine xg 8 [41, 42] (decide ((↑(i * m) : Int) < (↑u.length : Int))) (fun hc7 => ?_) (fun hc7 => ?_)
 · have hc7 := of_decide_eq_true hc7
   have hF8 := hB_6
   have hOhF8 := hO_6
   refine xa 14 [.int .i64 0, .bool false, .slice none 0 0, .slice none 0 0] 132 fun b9 W9 n9 => ?_
   refine xsv 0 n9.blk [.int .i64 t, .bool leaf, .slice none 0 0, .slice none 0 0] fun W10 u10 k10 => ?_
   have g9 := n9.ge (Below.refl W6.heap.size _)
   have hB := u10.below n9.below g9
   refine zl 10 128 (fun zm zkv V => ∃ (j : Nat) (kp : Option Addr) (kc : Nat) (vp : Option Addr) (vc : Nat), zkv = [(0, .pointer (some ⟨bc, 0, none⟩)), (1, .int .i64 t), (2, .slice a2 u.length c2), (7, .pointer (some ⟨b1, 0, none⟩)), (8, .bool leaf), (9, .slice p4 i c4), (10, .int .i64 (↑(i * m) : Int)), (11, .int .i64 (↑m : Int)), (12, .pointer (some ⟨b9, 0, none⟩)), (13, .int .i64 (↑(i * m + j) : Int))] ∧ zm = m - j ∧ Below W6.heap.size W6 V ∧ Blk V b9 ([.int .i64 t, .bool leaf, .slice kp j kc, .slice vp j vc]) 132 ∧ V.ownsRow W6.heap.size 3 1 (.slice kp j kc) j (((keysE (chunkE u m i)).take j).map (Value.int .i64)) ∧ V.ownsRow W6.heap.size 9 1 (.slice vp j vc) j (((valsE (chunkE u m i)).take j).map sv) ∧ j ≤ sizN u.length m i) ⟨0, none, 0, none, 0, rfl, rfl, hB, k10, World.ownsRow_nil _ _ _ _, World.ownsRow_nil _ _ _ _, Nat.zero_le _⟩ ?_
   rintro _ _ W11 ⟨j, kp, kc, vp, vc, rfl, rfl, hB_11, k11_b9, hK, hV, hj⟩ J11 hJ11 r11
   have hsz : sizN u.length m i = min m (u.length - i * m) := rfl
   have hcl0 := chunk_len u m i
   have hcg : j < sizN u.length m i → (chunkE u m i).getD j entD = u.getD (i * m + j) entD := chunk_get
   refine xg 8 [53, 54] (decide ((↑(i * m + j) : Int) < (↑u.length : Int))) (fun hc12 => ?_) (fun hc12 => ?_)
   · have hc12 := of_decide_eq_true hc12
     refine xwm 3 ((↑(i * m) : Int) + (↑m : Int)) (↑((i * m) + m) : Int) ?_
     refine xid 4 ((↑(i * m + j) : Int) < (↑((i * m) + m) : Int)) (fun hc13 => ?_) (fun hc13 => ?_)
     · refine xd 5 (.t W6.heap.size [3, 132]) ?_
       have hen_hF8 := hen _ hF8 hOhF8
       refine xx (.e [0, 2, 3] 4) _ u.length (i * m + j) 3 (Sts.cell hen_hF8 entC_len entD (k := (i * m + j)) (i := 0) (by omega) rfl).1 ?_
       have hV'1 := own_below hV (below_drew W11)
       have hB'2 := Bl.next hB_11 (below_drew W11)
       refine xlt (.e [5] 6) (.t W6.heap.size [3, 132]) (fun V hV'1 => (Sts.cell (hen_hF8.below (sft_keep hB'2 hV'1 (Nat.le_refl _))) entC_len entD (k := (i * m + j)) (i := 0) (by omega) rfl).2) ?_
       refine xm2 0 1 7 ?_ ?_
       · have k11_b9'1 := k11_b9.below (below_drew W11)
         refine xb 0 2 k11_b9'1 ?_
         refine xbs (.o [] 7) 1 [.int .i64 ((u.getD (i * m + j) entD).1)] 3 fun b14 W14 n14 => ?_
         have hK'1 := own_below hK (below_drew W11)
         have r14_hK := own_ne hK'1 n14
         have hK'2 := own_below hK'1 n14.below
         have hB'3 := Bl.next hB'2 n14.below
         refine ybi (.o [] 8) (.t W6.heap.size [3, 132]) fun _ _ _ _ zJ zQ zo zx zy zK => op_app (m := 1) (news := [.int .i64 ((u.getD (i * m + j) entD).1)]) (.int .i64 0) 1 8 (j + 1) (((keysE (chunkE u m i)).take (j + 1)).map (Value.int .i64)) zo Tryz.underlying22 (by kernel_rfl) rfl (by decide) zx hK'2 zy (n14.blk.sl 1 1 (by decide) (by decide)) rfl (by simp [Value.oneCell']) (by unfold maxLen; omega) (by omega) hB'3.size (by rfl) (by rw [keys_take (by omega), hcg (by omega)]) fun p15 c15 W15 o15 hg15 hb15 => ?_
         refine zK _ _ (sft_grown hb15 hg15 hK'2 (by decide)) ?_
         have k11_b9'2 := (k11_b9'1.below n14.below).grown hg15 hK'2 (by decide)
         refine ys (.o [9] 10) k11_b9'2 [.int .i64 t, .bool leaf, .slice p15 (j + 1) c15, .slice vp j vc] (.t W6.heap.size [3, 132]) fun W16 u16 k16 => ⟨(sft_upd u16 k11_b9'2 g9 (by decide)), ?_⟩
         refine xd 2 (.t W6.heap.size [9, 132]) ?_
         refine xx (.e [0, 2, 3] 4) _ u.length (i * m + j) 3 (Sts.cell hen_hF8 entC_len entD (k := (i * m + j)) (i := 0) (by omega) rfl).1 ?_
         have hV'2 := own_below (u16.own2 (own_grown (own_below hV'1 n14.below) hg15 hK'2 (by decide)) k11_b9'2 (by decide)) (below_drew W16)
         have hB'4 := Bl.next (u16.below (hB'3.trans hb15) g9) (below_drew W16)
         refine xlt (.e [5] 6) (.t W6.heap.size [9, 132]) (fun V hV'2 => (Sts.cell (hen_hF8.below (sft_keep hB'4 hV'2 (Nat.le_refl _))) entC_len entD (k := (i * m + j)) (i := 1) (by omega) rfl).2) ?_
         refine xm2 0 1 7 ?_ ?_
         · have k16'1 := k16.below (below_drew W16)
           refine xb 0 3 k16'1 ?_
           refine xbs (.o [] 7) 1 [.string ⟨((u.getD (i * m + j) entD).2.1).toArray⟩] 9 fun b17 W17 n17 => ?_
           have r17_hV := own_ne hV'2 n17
           have hV'3 := own_below hV'2 n17.below
           have hB'5 := Bl.next hB'4 n17.below
           refine ybi (.o [] 8) (.t W6.heap.size [9, 132]) fun _ _ _ _ zJ zQ zo zx zy zK => op_app (m := 1) (news := [.string ⟨((u.getD (i * m + j) entD).2.1).toArray⟩]) (.string ⟨#[]⟩) 1 16 (j + 1) (((valsE (chunkE u m i)).take (j + 1)).map sv) zo Tryz.underlying55 (by kernel_rfl) rfl (by decide) zx hV'3 zy (n17.blk.sl 1 1 (by decide) (by decide)) rfl (by simp [Value.oneCell']) (by unfold maxLen; omega) (by omega) hB'5.size (by rfl) (by rw [vals_take (by omega), hcg (by omega)]) fun p18 c18 W18 o18 hg18 hb18 => ?_
           refine zK _ _ (sft_grown hb18 hg18 hV'3 (by decide)) ?_
           have k16'2 := (k16'1.below n17.below).grown hg18 hV'3 (by decide)
           refine ys (.o [9] 10) k16'2 [.int .i64 t, .bool leaf, .slice p15 (j + 1) c15, .slice p18 (j + 1) c18] (.t W6.heap.size [9, 132]) fun W19 u19 k19 => ⟨(sft_upd u19 k16'2 g9 (by decide)), ?_⟩
           refine xwm 5 ((↑(i * m + j) : Int) + 1) (↑((i * m + j) + 1) : Int) ?_
           have hB'6 := u19.below (hB'5.trans hb18) g9
           have o15'1 := u19.own2 (own_grown (own_below (own_below (u16.own2 o15 k11_b9'2 (by decide)) (below_drew W16)) n17.below) hg18 hV'3 (by decide)) k16'2 (by decide)
           have o18'1 := u19.own2 o18 k16'2 (by decide)
           exact ze 2 (hJ11 _ _ _ ⟨j + 1, _, _, _, _, rfl, rfl, hB'6, k19, o15'1, o18'1, by omega⟩ (by omega))
         refine xbs 0 1 [.string ⟨((u.getD (i * m + j) entD).2.1).toArray⟩] 9 fun b20 W20 n20 => ?_
         have r20_hV := own_ne hV'2 n20
         have k16'3 := (k16.below (below_drew W16)).below n20.below
         refine xb (.o [] 1) 3 k16'3 ?_
         have hV'4 := own_below hV'2 n20.below
         have hB'7 := Bl.next hB'4 n20.below
         refine ybi (.o [] 8) (.t W6.heap.size [9, 132]) fun _ _ _ _ zJ zQ zo zx zy zK => op_app (m := 1) (news := [.string ⟨((u.getD (i * m + j) entD).2.1).toArray⟩]) (.string ⟨#[]⟩) 1 16 (j + 1) (((valsE (chunkE u m i)).take (j + 1)).map sv) zo Tryz.underlying55 (by kernel_rfl) rfl (by decide) zx hV'4 zy (n20.blk.sl 1 1 (by decide) (by decide)) rfl (by simp [Value.oneCell']) (by unfold maxLen; omega) (by omega) hB'7.size (by rfl) (by rw [vals_take (by omega), hcg (by omega)]) fun p21 c21 W21 o21 hg21 hb21 => ?_
         refine zK _ _ (sft_grown hb21 hg21 hV'4 (by decide)) ?_
         have k16'4 := k16'3.grown hg21 hV'4 (by decide)
         refine ys (.o [9] 10) k16'4 [.int .i64 t, .bool leaf, .slice p15 (j + 1) c15, .slice p21 (j + 1) c21] (.t W6.heap.size [9, 132]) fun W22 u22 k22 => ⟨(sft_upd u22 k16'4 g9 (by decide)), ?_⟩
         refine xwm 5 ((↑(i * m + j) : Int) + 1) (↑((i * m + j) + 1) : Int) ?_
         have hB'8 := u22.below (hB'7.trans hb21) g9
         have o15'2 := u22.own2 (own_grown (own_below (own_below (u16.own2 o15 k11_b9'2 (by decide)) (below_drew W16)) n20.below) hg21 hV'4 (by decide)) k16'4 (by decide)
         have o21'1 := u22.own2 o21 k16'4 (by decide)
         exact ze 2 (hJ11 _ _ _ ⟨j + 1, _, _, _, _, rfl, rfl, hB'8, k22, o15'2, o21'1, by omega⟩ (by omega))
       refine xbs 0 1 [.int .i64 ((u.getD (i * m + j) entD).1)] 3 fun b23 W23 n23 => ?_
       have hK'3 := own_below hK (below_drew W11)
       have r23_hK := own_ne hK'3 n23
       have k11_b9'3 := (k11_b9.below (below_drew W11)).below n23.below
       refine xb (.o [] 1) 2 k11_b9'3 ?_
       have hK'4 := own_below hK'3 n23.below
       have hB'9 := Bl.next hB'2 n23.below
       refine ybi (.o [] 8) (.t W6.heap.size [3, 132]) fun _ _ _ _ zJ zQ zo zx zy zK => op_app (m := 1) (news := [.int .i64 ((u.getD (i * m + j) entD).1)]) (.int .i64 0) 1 8 (j + 1) (((keysE (chunkE u m i)).take (j + 1)).map (Value.int .i64)) zo Tryz.underlying22 (by kernel_rfl) rfl (by decide) zx hK'4 zy (n23.blk.sl 1 1 (by decide) (by decide)) rfl (by simp [Value.oneCell']) (by unfold maxLen; omega) (by omega) hB'9.size (by rfl) (by rw [keys_take (by omega), hcg (by omega)]) fun p24 c24 W24 o24 hg24 hb24 => ?_
       refine zK _ _ (sft_grown hb24 hg24 hK'4 (by decide)) ?_
       have k11_b9'4 := k11_b9'3.grown hg24 hK'4 (by decide)
       refine ys (.o [9] 10) k11_b9'4 [.int .i64 t, .bool leaf, .slice p24 (j + 1) c24, .slice vp j vc] (.t W6.heap.size [3, 132]) fun W25 u25 k25 => ⟨(sft_upd u25 k11_b9'4 g9 (by decide)), ?_⟩
       refine xd 2 (.t W6.heap.size [9, 132]) ?_
       refine xx (.e [0, 2, 3] 4) _ u.length (i * m + j) 3 (Sts.cell hen_hF8 entC_len entD (k := (i * m + j)) (i := 0) (by omega) rfl).1 ?_
       have hV'5 := own_below (u25.own2 (own_grown (own_below hV'1 n23.below) hg24 hK'4 (by decide)) k11_b9'4 (by decide)) (below_drew W25)
       have hB'10 := Bl.next (u25.below (hB'9.trans hb24) g9) (below_drew W25)
       refine xlt (.e [5] 6) (.t W6.heap.size [9, 132]) (fun V hV'5 => (Sts.cell (hen_hF8.below (sft_keep hB'10 hV'5 (Nat.le_refl _))) entC_len entD (k := (i * m + j)) (i := 1) (by omega) rfl).2) ?_
       refine xm2 0 1 7 ?_ ?_
       · have k25'1 := k25.below (below_drew W25)
         refine xb 0 3 k25'1 ?_
         refine xbs (.o [] 7) 1 [.string ⟨((u.getD (i * m + j) entD).2.1).toArray⟩] 9 fun b26 W26 n26 => ?_
         have r26_hV := own_ne hV'5 n26
         have hV'6 := own_below hV'5 n26.below
         have hB'11 := Bl.next hB'10 n26.below
         refine ybi (.o [] 8) (.t W6.heap.size [9, 132]) fun _ _ _ _ zJ zQ zo zx zy zK => op_app (m := 1) (news := [.string ⟨((u.getD (i * m + j) entD).2.1).toArray⟩]) (.string ⟨#[]⟩) 1 16 (j + 1) (((valsE (chunkE u m i)).take (j + 1)).map sv) zo Tryz.underlying55 (by kernel_rfl) rfl (by decide) zx hV'6 zy (n26.blk.sl 1 1 (by decide) (by decide)) rfl (by simp [Value.oneCell']) (by unfold maxLen; omega) (by omega) hB'11.size (by rfl) (by rw [vals_take (by omega), hcg (by omega)]) fun p27 c27 W27 o27 hg27 hb27 => ?_
         refine zK _ _ (sft_grown hb27 hg27 hV'6 (by decide)) ?_
         have k25'2 := (k25'1.below n26.below).grown hg27 hV'6 (by decide)
         refine ys (.o [9] 10) k25'2 [.int .i64 t, .bool leaf, .slice p24 (j + 1) c24, .slice p27 (j + 1) c27] (.t W6.heap.size [9, 132]) fun W28 u28 k28 => ⟨(sft_upd u28 k25'2 g9 (by decide)), ?_⟩
         refine xwm 5 ((↑(i * m + j) : Int) + 1) (↑((i * m + j) + 1) : Int) ?_
         have hB'12 := u28.below (hB'11.trans hb27) g9
         have o24'1 := u28.own2 (own_grown (own_below (own_below (u25.own2 o24 k11_b9'4 (by decide)) (below_drew W25)) n26.below) hg27 hV'6 (by decide)) k25'2 (by decide)
         have o27'1 := u28.own2 o27 k25'2 (by decide)
         exact ze 2 (hJ11 _ _ _ ⟨j + 1, _, _, _, _, rfl, rfl, hB'12, k28, o24'1, o27'1, by omega⟩ (by omega))
       refine xbs 0 1 [.string ⟨((u.getD (i * m + j) entD).2.1).toArray⟩] 9 fun b29 W29 n29 => ?_
       have r29_hV := own_ne hV'5 n29
       have k25'3 := (k25.below (below_drew W25)).below n29.below
       refine xb (.o [] 1) 3 k25'3 ?_
       have hV'7 := own_below hV'5 n29.below
       have hB'13 := Bl.next hB'10 n29.below
       refine ybi (.o [] 8) (.t W6.heap.size [9, 132]) fun _ _ _ _ zJ zQ zo zx zy zK => op_app (m := 1) (news := [.string ⟨((u.getD (i * m + j) entD).2.1).toArray⟩]) (.string ⟨#[]⟩) 1 16 (j + 1) (((valsE (chunkE u m i)).take (j + 1)).map sv) zo Tryz.underlying55 (by kernel_rfl) rfl (by decide) zx hV'7 zy (n29.blk.sl 1 1 (by decide) (by decide)) rfl (by simp [Value.oneCell']) (by unfold maxLen; omega) (by omega) hB'13.size (by rfl) (by rw [vals_take (by omega), hcg (by omega)]) fun p30 c30 W30 o30 hg30 hb30 => ?_
       refine zK _ _ (sft_grown hb30 hg30 hV'7 (by decide)) ?_
       have k25'4 := k25'3.grown hg30 hV'7 (by decide)
       refine ys (.o [9] 10) k25'4 [.int .i64 t, .bool leaf, .slice p24 (j + 1) c24, .slice p30 (j + 1) c30] (.t W6.heap.size [9, 132]) fun W31 u31 k31 => ⟨(sft_upd u31 k25'4 g9 (by decide)), ?_⟩
       refine xwm 5 ((↑(i * m + j) : Int) + 1) (↑((i * m + j) + 1) : Int) ?_
       have hB'14 := u31.below (hB'13.trans hb30) g9
       have o24'2 := u31.own2 (own_grown (own_below (own_below (u25.own2 o24 k11_b9'4 (by decide)) (below_drew W25)) n29.below) hg30 hV'7 (by decide)) k25'4 (by decide)
       have o30'1 := u31.own2 o30 k25'4 (by decide)
       exact ze 2 (hJ11 _ _ _ ⟨j + 1, _, _, _, _, rfl, rfl, hB'14, k31, o24'2, o30'1, by omega⟩ (by omega))
     refine xlv 7 k11_b9.rp ?_
     have hT32 : Below W6.heap.size W6 W11 := hB_11
     have hs32 : W4.heap.size ≤ W6.heap.size := hF8.size
     have hK'5 := own_mono hK hs32
     have hV'8 := own_mono hV hs32
     have hjs : sizN u.length m i = j := by omega
     have hcl : (chunkE u m i).length = j := by rw [chunk_len, hjs]
     have hck : (keysE (chunkE u m i)).take j = keysE (chunkE u m i) := List.take_of_length_le (by rw [keysE_len]; omega)
     have hcv : (valsE (chunkE u m i)).take j = valsE (chunkE u m i) := List.take_of_length_le (by rw [valsE_len]; omega)
     rw [hck] at hK'5
     rw [hcv] at hV'8
     have hN := chunk_ok hE ht1 ht2 hm hv (fun h => by have := hlu h; omega) (show i < (ovN u.length m) by omega)
     have hlen := nodB_len hN
     rw [hcl] at hN
     have hnd : nodeP m v (headB t leaf j m v) (keysE (chunkE u m i)) (valsE (chunkE u m i)) j = nodB t leaf m v (chunkE u m i) := by rw [← hcl]; rfl
     refine xc 0 (args := #[.agg #[.int .i64 t, .bool leaf, .slice kp j kc, .slice vp j vc]]) (ref07_Put t leaf j m v (keysE (chunkE u m i)) (valsE (chunkE u m i)) kp vp kc vc _ hN (own_sl hK'5) (own_sl hV'8)) ?_
     rintro _ W33 ⟨_, rfl, hb33, p6, c6, rfl, h6⟩
     have hs33 := (Bl.nextB hF8 hs_r4 hT32).size
     have h6'1 := own_mono h6 hs33
     rw [hnd] at h6'1
     have hR'4 := (hR.below hT32).below hb33
     have hJ'3 := (hJ.below hT32).below hb33
     have hO := (hOhF8.trans (Only.of_below hT32)).trans (Only.of_below hb33)
     have hB := Bl.nextB (Bl.nextB hF8 hs_r4 hT32) hs_r4 hb33
     refine xc 11 (args := #[.pointer (some ⟨bc, 0, none⟩), .int .i64 2, .slice p6 244 c6]) (ref_LayQ B bc bm pg N cg fa mf fc f (k + i) p K cI (levB t leaf m v u (f + k) b2 i) p6 c6 244 (nodB t leaf m v (chunkE u m i)) (f + k + i) _ (Nat.add_assoc _ _ _).symm hlen (by decide) (by omega) hf hR'4 hJ'3 (fun W _ hO => bys_of (own_sl (own_only h6'1 hO (by decide))) hlen) (Nat.le_trans hs_r4 hB.size)) ?_
     rintro _ W34 ⟨a9, c9, fa3, mf3, fc3, rfl, hb34, hO34, hR, hJ⟩
     refine xa 3 [.slice none 0 0, .int .i64 0] 31 fun b35 W35 n35 => ?_
     have k6_b1'1 := ((k6_b1.below hT32).below hb33).only hO34 (by decide)
     have d35_b1 := n35.ne k6_b1'1
     refine xsv 1 n35.blk [.slice a9 0 c9, .int .i64 0] fun W36 u36 k36 => ?_
     have g35 := n35.ge0 (hB.trans hb34)
     refine xb 6 1 k36 ?_
     refine xc 9 (args := #[.int .i64 (↑(f + k + i) : Int), .int .i64 4]) (ref_BytesN ((f + k + i : Nat) : Int) 4 4 _ (by omega) (by omega) rfl (by decide)) ?_
     rintro _ W37 ⟨_, rfl, hb37, pk, ck, rfl, h8b⟩
     have hs37 := (u36.below (Bl.nextB (hB.trans hb34) hs_r4 n35.below) (Nat.le_trans hs_r4 g35)).size
     have h8b'1 := own_mono h8b hs37
     refine xcv0 0 (fun _ _ _ zo zx => run_bstr zo zx (bys_of (own_sl h8b'1) (leB_len _ _)) (leB_len _ _) Tryz.underlying28 Tryz.underlying5 Tryz.underlying9) ?_
     refine xa 2 [.int .i64 0, .string ⟨#[]⟩, .int .i64 0] 69 fun b38 W38 n38 => ?_
     have hup'1 := own_below (u36.own2 (own_below (own_only (own_below (own_below hup hT32) hb33) hO34 (by decide)) n35.below) n35.blk (by decide)) hb37
     have r38_hup := own_ne hup'1 n38
     refine xsv 0 n38.blk [.int .i64 0, .string ⟨(leB (↑(f + k + i) : Int) 4).toArray⟩, .int .i64 (↑(f + k + i) : Int)] fun W39 u39 k39 => ?_
     have g38 := n38.ge0 (Bl.nextB (u36.below (Bl.nextB (hB.trans hb34) hs_r4 n35.below) (Nat.le_trans hs_r4 g35)) hs_r4 hb37)
     have k11_b9'5 := u39.blkT (((u36.blkT (((k11_b9.below hb33).only hO34 (by decide)).below n35.below) n35.blk (by decide)).below hb37).below n38.below) n38.blk (by decide)
     refine xb 6 2 k11_b9'5 ?_
     refine xid 4 ((↑j : Int) > (0 : Int)) (fun hc40 => ?_) (fun hc40 => ?_)
     · have hkey : ((keysE (chunkE u m i))).getD 0 0 = ((chunkE u m i).getD 0 entD).1 := chunk_key hjs (by omega)
       refine xb 2 2 k11_b9'5 ?_
       have hK'6 := u39.own2 (own_below (own_below (u36.own2 (own_below (own_only (own_below hK'5 hb33) hO34 (by decide)) n35.below) n35.blk (by decide)) hb37) n38.below) n38.blk (by decide)
       refine xx 0 _ j 0 1 (IntsN.elem (own_sl hK'6) (by rw [keysE_len, hcl]) (k := 0) (by omega)).1 ?_
       refine xl 0 ((IntsN.elem (own_sl hK'6) (by rw [keysE_len, hcl]) (k := 0) (by omega)).2) ?_
       refine xs 1 k39 [.int .i64 ((keysE (chunkE u m i)).getD 0 0), .string ⟨(leB (↑(f + k + i) : Int) 4).toArray⟩, .int .i64 (↑(f + k + i) : Int)] fun W41 u41 k41 => ?_
       refine xlv 5 k41.rp ?_
       refine xbs 0 1 [.int .i64 ((keysE (chunkE u m i)).getD 0 0), .string ⟨(leB (↑(f + k + i) : Int) 4).toArray⟩, .int .i64 (↑(f + k + i) : Int)] 69 fun b42 W42 n42 => ?_
       have d42_b38 := n42.ne k41
       have hB'15 := u41.below (u39.below (Bl.nextB (Bl.nextB (u36.below (Bl.nextB (hB.trans hb34) hs_r4 n35.below) (Nat.le_trans hs_r4 g35)) hs_r4 hb37) hs_r4 n38.below) (Nat.le_trans hs_r4 g38)) (Nat.le_trans hs_r4 g38)
       have hup'2 := u41.own3 (u39.own3 (own_below hup'1 n38.below) r38_hup) r38_hup
       have r42_hup := own_ne hup'2 n42
       have hup'3 := own_below hup'2 n42.below
       have hB'16 := Bl.nextB hB'15 hs_r4 n42.below
       refine xbi 0 fun _ _ _ _ zJ zQ zo zx zy zK => op_app (m := 1) (news := [.int .i64 ((keysE (chunkE u m i)).getD 0 0), .string ⟨(leB (↑(f + k + i) : Int) 4).toArray⟩, .int .i64 (↑(f + k + i) : Int)]) (.agg #[.int .i64 0, .string ⟨#[]⟩, .int .i64 0]) 3 32 (i + 1) ((upE u m (f + k) (i + 1)).flatMap entC) zo Tryz.underlying60 (by kernel_rfl) rfl (by decide) zx hup'3 zy (n42.blk.sl 1 1 (by decide) (by decide)) rfl (by simp [Value.oneCell']) (by unfold maxLen; omega) (by omega) hB'16.size (by rfl) (up_row (by first | exact hkey | exact hkey0)) fun p43 c43 W43 o43 hg43 hb43 => ?_
       refine zK _ _ ?_
       refine xwm 6 ((↑(i * m) : Int) + (↑m : Int)) (↑((i * m) + m) : Int) ?_
       refine xv1 3 10 (show (.int .i64 (↑((i * m) + m) : Int) : Value) = .int .i64 (↑((i + 1) * m) : Int) from by rw [Nat.add_mul, Nat.one_mul]) ?_
       have hR'5 := (((((((hR.below n35.below).only (Only.of_upd (T := [31]) u36 n35.blk (by decide)) (by decide)).below hb37).below n38.below).only (Only.of_upd (T := [69]) u39 n38.blk (by decide)) (by decide)).only (Only.of_upd (T := [69]) u41 k39 (by decide)) (by decide)).below n42.below).only (Only.of_grown (T := [69]) hg43 hup'3 (by decide)) (by decide)
       have hJ'4 := (((((((hJ.below n35.below).only (Only.of_upd (T := [31]) u36 n35.blk (by decide)) (by decide)).below hb37).below n38.below).only (Only.of_upd (T := [69]) u39 n38.blk (by decide)) (by decide)).only (Only.of_upd (T := [69]) u41 k39 (by decide)) (by decide)).below n42.below).only (Only.of_grown (T := [69]) hg43 hup'3 (by decide)) (by decide)
       have hB'17 := hB'16.trans (hb43.mono hs_r4)
       have hO'2 := (Only.grown_new ((Only.upd_new (Only.upd_new (((Only.upd_new ((hO.trans hO34).trans (Only.of_below n35.below)) u36 g35).trans (Only.of_below hb37)).trans (Only.of_below n38.below)) u39 g38) u41 g38).trans (Only.of_below n42.below)) hg43 hup'3)
       have k6_b1'2 := ((u41.blkT (u39.blkT (((u36.blk (k6_b1'1.below n35.below) (Ne.symm (Ne.symm d35_b1))).below hb37).below n38.below) n38.blk (by decide)) k39 (by decide)).below n42.below).grown hg43 hup'3 (by decide)
       exact ze 0 (hJ6 _ _ _ ⟨i + 1, _, _, _, _, _, rfl, rfl, hB'17, hO'2, k6_b1'2, o43, hR'5, hJ'4, by omega⟩ (by omega))
     have hkey0 : (0 : Int) = ((chunkE u m i).getD 0 entD).1 := chunk_nokey hjs (by omega)
     refine xlv 5 k39.rp ?_
     refine xbs 0 1 [.int .i64 0, .string ⟨(leB (↑(f + k + i) : Int) 4).toArray⟩, .int .i64 (↑(f + k + i) : Int)] 69 fun b44 W44 n44 => ?_
     have d44_b38 := n44.ne k39
     have hB'18 := u39.below (Bl.nextB (Bl.nextB (u36.below (Bl.nextB (hB.trans hb34) hs_r4 n35.below) (Nat.le_trans hs_r4 g35)) hs_r4 hb37) hs_r4 n38.below) (Nat.le_trans hs_r4 g38)
     have hup'4 := u39.own3 (own_below hup'1 n38.below) r38_hup
     have r44_hup := own_ne hup'4 n44
     have hup'5 := own_below hup'4 n44.below
     have hB'19 := Bl.nextB hB'18 hs_r4 n44.below
     refine xbi 0 fun _ _ _ _ zJ zQ zo zx zy zK => op_app (m := 1) (news := [.int .i64 0, .string ⟨(leB (↑(f + k + i) : Int) 4).toArray⟩, .int .i64 (↑(f + k + i) : Int)]) (.agg #[.int .i64 0, .string ⟨#[]⟩, .int .i64 0]) 3 32 (i + 1) ((upE u m (f + k) (i + 1)).flatMap entC) zo Tryz.underlying60 (by kernel_rfl) rfl (by decide) zx hup'5 zy (n44.blk.sl 1 1 (by decide) (by decide)) rfl (by simp [Value.oneCell']) (by unfold maxLen; omega) (by omega) hB'19.size (by rfl) (up_row (by first | exact hkey | exact hkey0)) fun p45 c45 W45 o45 hg45 hb45 => ?_
     refine zK _ _ ?_
     refine xwm 6 ((↑(i * m) : Int) + (↑m : Int)) (↑((i * m) + m) : Int) ?_
     refine xv1 3 10 (show (.int .i64 (↑((i * m) + m) : Int) : Value) = .int .i64 (↑((i + 1) * m) : Int) from by rw [Nat.add_mul, Nat.one_mul]) ?_
     have hR'6 := ((((((hR.below n35.below).only (Only.of_upd (T := [31]) u36 n35.blk (by decide)) (by decide)).below hb37).below n38.below).only (Only.of_upd (T := [69]) u39 n38.blk (by decide)) (by decide)).below n44.below).only (Only.of_grown (T := [69]) hg45 hup'5 (by decide)) (by decide)
     have hJ'5 := ((((((hJ.below n35.below).only (Only.of_upd (T := [31]) u36 n35.blk (by decide)) (by decide)).below hb37).below n38.below).only (Only.of_upd (T := [69]) u39 n38.blk (by decide)) (by decide)).below n44.below).only (Only.of_grown (T := [69]) hg45 hup'5 (by decide)) (by decide)
     have hB'20 := hB'19.trans (hb45.mono hs_r4)
     have hO'3 := (Only.grown_new ((Only.upd_new (((Only.upd_new ((hO.trans hO34).trans (Only.of_below n35.below)) u36 g35).trans (Only.of_below hb37)).trans (Only.of_below n38.below)) u39 g38).trans (Only.of_below n44.below)) hg45 hup'5)
     have k6_b1'3 := ((u39.blkT (((u36.blk (k6_b1'1.below n35.below) (Ne.symm (Ne.symm d35_b1))).below hb37).below n38.below) n38.blk (by decide)).below n44.below).grown hg45 hup'5 (by decide)
     exact ze 0 (hJ6 _ _ _ ⟨i + 1, _, _, _, _, _, rfl, rfl, hB'20, hO'3, k6_b1'3, o45, hR'6, hJ'5, by omega⟩ (by omega))
   have hc12 := of_decide_eq_false hc12
   refine xlv 16 k11_b9.rp ?_
   have hT46 : Below W6.heap.size W6 W11 := hB_11
   have hs46 : W4.heap.size ≤ W6.heap.size := hF8.size
   have hK'7 := own_mono hK hs46
   have hV'9 := own_mono hV hs46
   have hjs : sizN u.length m i = j := by omega
   have hcl : (chunkE u m i).length = j := by rw [chunk_len, hjs]
   have hck : (keysE (chunkE u m i)).take j = keysE (chunkE u m i) := List.take_of_length_le (by rw [keysE_len]; omega)
   have hcv : (valsE (chunkE u m i)).take j = valsE (chunkE u m i) := List.take_of_length_le (by rw [valsE_len]; omega)
   rw [hck] at hK'7
   rw [hcv] at hV'9
   have hN := chunk_ok hE ht1 ht2 hm hv (fun h => by have := hlu h; omega) (show i < (ovN u.length m) by omega)
   have hlen := nodB_len hN
   rw [hcl] at hN
   have hnd : nodeP m v (headB t leaf j m v) (keysE (chunkE u m i)) (valsE (chunkE u m i)) j = nodB t leaf m v (chunkE u m i) := by rw [← hcl]; rfl
   refine xc 0 (args := #[.agg #[.int .i64 t, .bool leaf, .slice kp j kc, .slice vp j vc]]) (ref07_Put t leaf j m v (keysE (chunkE u m i)) (valsE (chunkE u m i)) kp vp kc vc _ hN (own_sl hK'7) (own_sl hV'9)) ?_
   rintro _ W47 ⟨_, rfl, hb47, p6, c6, rfl, h6⟩
   have hs47 := (Bl.nextB hF8 hs_r4 hT46).size
   have h6'2 := own_mono h6 hs47
   rw [hnd] at h6'2
   have hR'7 := (hR.below hT46).below hb47
   have hJ'6 := (hJ.below hT46).below hb47
   have hO := (hOhF8.trans (Only.of_below hT46)).trans (Only.of_below hb47)
   have hB := Bl.nextB (Bl.nextB hF8 hs_r4 hT46) hs_r4 hb47
   refine xc 11 (args := #[.pointer (some ⟨bc, 0, none⟩), .int .i64 2, .slice p6 244 c6]) (ref_LayQ B bc bm pg N cg fa mf fc f (k + i) p K cI (levB t leaf m v u (f + k) b2 i) p6 c6 244 (nodB t leaf m v (chunkE u m i)) (f + k + i) _ (Nat.add_assoc _ _ _).symm hlen (by decide) (by omega) hf hR'7 hJ'6 (fun W _ hO => bys_of (own_sl (own_only h6'2 hO (by decide))) hlen) (Nat.le_trans hs_r4 hB.size)) ?_
   rintro _ W48 ⟨a9, c9, fa3, mf3, fc3, rfl, hb48, hO48, hR, hJ⟩
   refine xa 3 [.slice none 0 0, .int .i64 0] 31 fun b49 W49 n49 => ?_
   have k6_b1'4 := ((k6_b1.below hT46).below hb47).only hO48 (by decide)
   have d49_b1 := n49.ne k6_b1'4
   refine xsv 1 n49.blk [.slice a9 0 c9, .int .i64 0] fun W50 u50 k50 => ?_
   have g49 := n49.ge0 (hB.trans hb48)
   refine xb 6 1 k50 ?_
   refine xc 9 (args := #[.int .i64 (↑(f + k + i) : Int), .int .i64 4]) (ref_BytesN ((f + k + i : Nat) : Int) 4 4 _ (by omega) (by omega) rfl (by decide)) ?_
   rintro _ W51 ⟨_, rfl, hb51, pk, ck, rfl, h8b⟩
   have hs51 := (u50.below (Bl.nextB (hB.trans hb48) hs_r4 n49.below) (Nat.le_trans hs_r4 g49)).size
   have h8b'2 := own_mono h8b hs51
   refine xcv0 0 (fun _ _ _ zo zx => run_bstr zo zx (bys_of (own_sl h8b'2) (leB_len _ _)) (leB_len _ _) Tryz.underlying28 Tryz.underlying5 Tryz.underlying9) ?_
   refine xa 2 [.int .i64 0, .string ⟨#[]⟩, .int .i64 0] 69 fun b52 W52 n52 => ?_
   have hup'6 := own_below (u50.own2 (own_below (own_only (own_below (own_below hup hT46) hb47) hO48 (by decide)) n49.below) n49.blk (by decide)) hb51
   have r52_hup := own_ne hup'6 n52
   refine xsv 0 n52.blk [.int .i64 0, .string ⟨(leB (↑(f + k + i) : Int) 4).toArray⟩, .int .i64 (↑(f + k + i) : Int)] fun W53 u53 k53 => ?_
   have g52 := n52.ge0 (Bl.nextB (u50.below (Bl.nextB (hB.trans hb48) hs_r4 n49.below) (Nat.le_trans hs_r4 g49)) hs_r4 hb51)
   have k11_b9'6 := u53.blkT (((u50.blkT (((k11_b9.below hb47).only hO48 (by decide)).below n49.below) n49.blk (by decide)).below hb51).below n52.below) n52.blk (by decide)
   refine xb 6 2 k11_b9'6 ?_
   refine xid 4 ((↑j : Int) > (0 : Int)) (fun hc54 => ?_) (fun hc54 => ?_)
   · have hkey : ((keysE (chunkE u m i))).getD 0 0 = ((chunkE u m i).getD 0 entD).1 := chunk_key hjs (by omega)
     refine xb 2 2 k11_b9'6 ?_
     have hK'8 := u53.own2 (own_below (own_below (u50.own2 (own_below (own_only (own_below hK'7 hb47) hO48 (by decide)) n49.below) n49.blk (by decide)) hb51) n52.below) n52.blk (by decide)
     refine xx 0 _ j 0 1 (IntsN.elem (own_sl hK'8) (by rw [keysE_len, hcl]) (k := 0) (by omega)).1 ?_
     refine xl 0 ((IntsN.elem (own_sl hK'8) (by rw [keysE_len, hcl]) (k := 0) (by omega)).2) ?_
     refine xs 1 k53 [.int .i64 ((keysE (chunkE u m i)).getD 0 0), .string ⟨(leB (↑(f + k + i) : Int) 4).toArray⟩, .int .i64 (↑(f + k + i) : Int)] fun W55 u55 k55 => ?_
     refine xlv 5 k55.rp ?_
     refine xbs 0 1 [.int .i64 ((keysE (chunkE u m i)).getD 0 0), .string ⟨(leB (↑(f + k + i) : Int) 4).toArray⟩, .int .i64 (↑(f + k + i) : Int)] 69 fun b56 W56 n56 => ?_
     have d56_b52 := n56.ne k55
     have hB'21 := u55.below (u53.below (Bl.nextB (Bl.nextB (u50.below (Bl.nextB (hB.trans hb48) hs_r4 n49.below) (Nat.le_trans hs_r4 g49)) hs_r4 hb51) hs_r4 n52.below) (Nat.le_trans hs_r4 g52)) (Nat.le_trans hs_r4 g52)
     have hup'7 := u55.own3 (u53.own3 (own_below hup'6 n52.below) r52_hup) r52_hup
     have r56_hup := own_ne hup'7 n56
     have hup'8 := own_below hup'7 n56.below
     have hB'22 := Bl.nextB hB'21 hs_r4 n56.below
     refine xbi 0 fun _ _ _ _ zJ zQ zo zx zy zK => op_app (m := 1) (news := [.int .i64 ((keysE (chunkE u m i)).getD 0 0), .string ⟨(leB (↑(f + k + i) : Int) 4).toArray⟩, .int .i64 (↑(f + k + i) : Int)]) (.agg #[.int .i64 0, .string ⟨#[]⟩, .int .i64 0]) 3 32 (i + 1) ((upE u m (f + k) (i + 1)).flatMap entC) zo Tryz.underlying60 (by kernel_rfl) rfl (by decide) zx hup'8 zy (n56.blk.sl 1 1 (by decide) (by decide)) rfl (by simp [Value.oneCell']) (by unfold maxLen; omega) (by omega) hB'22.size (by rfl) (up_row (by first | exact hkey | exact hkey0)) fun p57 c57 W57 o57 hg57 hb57 => ?_
     refine zK _ _ ?_
     refine xwm 6 ((↑(i * m) : Int) + (↑m : Int)) (↑((i * m) + m) : Int) ?_
     refine xv1 3 10 (show (.int .i64 (↑((i * m) + m) : Int) : Value) = .int .i64 (↑((i + 1) * m) : Int) from by rw [Nat.add_mul, Nat.one_mul]) ?_
     have hR'8 := (((((((hR.below n49.below).only (Only.of_upd (T := [31]) u50 n49.blk (by decide)) (by decide)).below hb51).below n52.below).only (Only.of_upd (T := [69]) u53 n52.blk (by decide)) (by decide)).only (Only.of_upd (T := [69]) u55 k53 (by decide)) (by decide)).below n56.below).only (Only.of_grown (T := [69]) hg57 hup'8 (by decide)) (by decide)
     have hJ'7 := (((((((hJ.below n49.below).only (Only.of_upd (T := [31]) u50 n49.blk (by decide)) (by decide)).below hb51).below n52.below).only (Only.of_upd (T := [69]) u53 n52.blk (by decide)) (by decide)).only (Only.of_upd (T := [69]) u55 k53 (by decide)) (by decide)).below n56.below).only (Only.of_grown (T := [69]) hg57 hup'8 (by decide)) (by decide)
     have hB'23 := hB'22.trans (hb57.mono hs_r4)
     have hO'4 := (Only.grown_new ((Only.upd_new (Only.upd_new (((Only.upd_new ((hO.trans hO48).trans (Only.of_below n49.below)) u50 g49).trans (Only.of_below hb51)).trans (Only.of_below n52.below)) u53 g52) u55 g52).trans (Only.of_below n56.below)) hg57 hup'8)
     have k6_b1'5 := ((u55.blkT (u53.blkT (((u50.blk (k6_b1'4.below n49.below) (Ne.symm (Ne.symm d49_b1))).below hb51).below n52.below) n52.blk (by decide)) k53 (by decide)).below n56.below).grown hg57 hup'8 (by decide)
     exact ze 0 (hJ6 _ _ _ ⟨i + 1, _, _, _, _, _, rfl, rfl, hB'23, hO'4, k6_b1'5, o57, hR'8, hJ'7, by omega⟩ (by omega))
   have hkey0 : (0 : Int) = ((chunkE u m i).getD 0 entD).1 := chunk_nokey hjs (by omega)
   refine xlv 5 k53.rp ?_
   refine xbs 0 1 [.int .i64 0, .string ⟨(leB (↑(f + k + i) : Int) 4).toArray⟩, .int .i64 (↑(f + k + i) : Int)] 69 fun b58 W58 n58 => ?_
   have d58_b52 := n58.ne k53
   have hB'24 := u53.below (Bl.nextB (Bl.nextB (u50.below (Bl.nextB (hB.trans hb48) hs_r4 n49.below) (Nat.le_trans hs_r4 g49)) hs_r4 hb51) hs_r4 n52.below) (Nat.le_trans hs_r4 g52)
   have hup'9 := u53.own3 (own_below hup'6 n52.below) r52_hup
   have r58_hup := own_ne hup'9 n58
   have hup'10 := own_below hup'9 n58.below
   have hB'25 := Bl.nextB hB'24 hs_r4 n58.below
   refine xbi 0 fun _ _ _ _ zJ zQ zo zx zy zK => op_app (m := 1) (news := [.int .i64 0, .string ⟨(leB (↑(f + k + i) : Int) 4).toArray⟩, .int .i64 (↑(f + k + i) : Int)]) (.agg #[.int .i64 0, .string ⟨#[]⟩, .int .i64 0]) 3 32 (i + 1) ((upE u m (f + k) (i + 1)).flatMap entC) zo Tryz.underlying60 (by kernel_rfl) rfl (by decide) zx hup'10 zy (n58.blk.sl 1 1 (by decide) (by decide)) rfl (by simp [Value.oneCell']) (by unfold maxLen; omega) (by omega) hB'25.size (by rfl) (up_row (by first | exact hkey | exact hkey0)) fun p59 c59 W59 o59 hg59 hb59 => ?_
   refine zK _ _ ?_
   refine xwm 6 ((↑(i * m) : Int) + (↑m : Int)) (↑((i * m) + m) : Int) ?_
   refine xv1 3 10 (show (.int .i64 (↑((i * m) + m) : Int) : Value) = .int .i64 (↑((i + 1) * m) : Int) from by rw [Nat.add_mul, Nat.one_mul]) ?_
   have hR'9 := ((((((hR.below n49.below).only (Only.of_upd (T := [31]) u50 n49.blk (by decide)) (by decide)).below hb51).below n52.below).only (Only.of_upd (T := [69]) u53 n52.blk (by decide)) (by decide)).below n58.below).only (Only.of_grown (T := [69]) hg59 hup'10 (by decide)) (by decide)
   have hJ'8 := ((((((hJ.below n49.below).only (Only.of_upd (T := [31]) u50 n49.blk (by decide)) (by decide)).below hb51).below n52.below).only (Only.of_upd (T := [69]) u53 n52.blk (by decide)) (by decide)).below n58.below).only (Only.of_grown (T := [69]) hg59 hup'10 (by decide)) (by decide)
   have hB'26 := hB'25.trans (hb59.mono hs_r4)
   have hO'5 := (Only.grown_new ((Only.upd_new (((Only.upd_new ((hO.trans hO48).trans (Only.of_below n49.below)) u50 g49).trans (Only.of_below hb51)).trans (Only.of_below n52.below)) u53 g52).trans (Only.of_below n58.below)) hg59 hup'10)
   have k6_b1'6 := ((u53.blkT (((u50.blk (k6_b1'4.below n49.below) (Ne.symm (Ne.symm d49_b1))).below hb51).below n52.below) n52.blk (by decide)).below n58.below).grown hg59 hup'10 (by decide)
   exact ze 0 (hJ6 _ _ _ ⟨i + 1, _, _, _, _, _, rfl, rfl, hB'26, hO'5, k6_b1'6, o59, hR'9, hJ'8, by omega⟩ (by omega))
 have hc7 := of_decide_eq_false hc7
 refine xie 5 (↑(i * m) : Int) (0 : Int) (fun hc60 => ?_) (fun hc60 => ?_)
 · have hF61 := hB_6
   have hOhF61 := hO_6
   refine xa 8 [.int .i64 0, .bool false, .slice none 0 0, .slice none 0 0] 132 fun b62 W62 n62 => ?_
   refine xsv 0 n62.blk [.int .i64 t, .bool leaf, .slice none 0 0, .slice none 0 0] fun W63 u63 k63 => ?_
   have g62 := n62.ge (Below.refl W6.heap.size _)
   have hB := u63.below n62.below g62
   refine zl 10 128 (fun zm zkv V => ∃ (j : Nat) (kp : Option Addr) (kc : Nat) (vp : Option Addr) (vc : Nat), zkv = [(0, .pointer (some ⟨bc, 0, none⟩)), (1, .int .i64 t), (2, .slice a2 u.length c2), (7, .pointer (some ⟨b1, 0, none⟩)), (8, .bool leaf), (9, .slice p4 i c4), (10, .int .i64 (↑(i * m) : Int)), (11, .int .i64 (↑m : Int)), (12, .pointer (some ⟨b62, 0, none⟩)), (13, .int .i64 (↑(i * m + j) : Int))] ∧ zm = m - j ∧ Below W6.heap.size W6 V ∧ Blk V b62 ([.int .i64 t, .bool leaf, .slice kp j kc, .slice vp j vc]) 132 ∧ V.ownsRow W6.heap.size 3 1 (.slice kp j kc) j (((keysE (chunkE u m i)).take j).map (Value.int .i64)) ∧ V.ownsRow W6.heap.size 9 1 (.slice vp j vc) j (((valsE (chunkE u m i)).take j).map sv) ∧ j ≤ sizN u.length m i) ⟨0, none, 0, none, 0, rfl, rfl, hB, k63, World.ownsRow_nil _ _ _ _, World.ownsRow_nil _ _ _ _, Nat.zero_le _⟩ ?_
   rintro _ _ W64 ⟨j, kp, kc, vp, vc, rfl, rfl, hB_64, k64_b62, hK, hV, hj⟩ J64 hJ64 r64
   have hsz : sizN u.length m i = min m (u.length - i * m) := rfl
   have hcl0 := chunk_len u m i
   have hcg : j < sizN u.length m i → (chunkE u m i).getD j entD = u.getD (i * m + j) entD := chunk_get
   refine xg 8 [53, 54] (decide ((↑(i * m + j) : Int) < (↑u.length : Int))) (fun hc65 => ?_) (fun hc65 => ?_)
   · have hc65 := of_decide_eq_true hc65
     refine xwm 3 ((↑(i * m) : Int) + (↑m : Int)) (↑((i * m) + m) : Int) ?_
     refine xid 4 ((↑(i * m + j) : Int) < (↑((i * m) + m) : Int)) (fun hc66 => ?_) (fun hc66 => ?_)
     · refine xd 5 (.t W6.heap.size [3, 132]) ?_
       have hen_hF61 := hen _ hF61 hOhF61
       refine xx (.e [0, 2, 3] 4) _ u.length (i * m + j) 3 (Sts.cell hen_hF61 entC_len entD (k := (i * m + j)) (i := 0) (by omega) rfl).1 ?_
       have hV'10 := own_below hV (below_drew W64)
       have hB'27 := Bl.next hB_64 (below_drew W64)
       refine xlt (.e [5] 6) (.t W6.heap.size [3, 132]) (fun V hV'10 => (Sts.cell (hen_hF61.below (sft_keep hB'27 hV'10 (Nat.le_refl _))) entC_len entD (k := (i * m + j)) (i := 0) (by omega) rfl).2) ?_
       refine xm2 0 1 7 ?_ ?_
       · have k64_b62'1 := k64_b62.below (below_drew W64)
         refine xb 0 2 k64_b62'1 ?_
         refine xbs (.o [] 7) 1 [.int .i64 ((u.getD (i * m + j) entD).1)] 3 fun b67 W67 n67 => ?_
         have hK'9 := own_below hK (below_drew W64)
         have r67_hK := own_ne hK'9 n67
         have hK'10 := own_below hK'9 n67.below
         have hB'28 := Bl.next hB'27 n67.below
         refine ybi (.o [] 8) (.t W6.heap.size [3, 132]) fun _ _ _ _ zJ zQ zo zx zy zK => op_app (m := 1) (news := [.int .i64 ((u.getD (i * m + j) entD).1)]) (.int .i64 0) 1 8 (j + 1) (((keysE (chunkE u m i)).take (j + 1)).map (Value.int .i64)) zo Tryz.underlying22 (by kernel_rfl) rfl (by decide) zx hK'10 zy (n67.blk.sl 1 1 (by decide) (by decide)) rfl (by simp [Value.oneCell']) (by unfold maxLen; omega) (by omega) hB'28.size (by rfl) (by rw [keys_take (by omega), hcg (by omega)]) fun p68 c68 W68 o68 hg68 hb68 => ?_
         refine zK _ _ (sft_grown hb68 hg68 hK'10 (by decide)) ?_
         have k64_b62'2 := (k64_b62'1.below n67.below).grown hg68 hK'10 (by decide)
         refine ys (.o [9] 10) k64_b62'2 [.int .i64 t, .bool leaf, .slice p68 (j + 1) c68, .slice vp j vc] (.t W6.heap.size [3, 132]) fun W69 u69 k69 => ⟨(sft_upd u69 k64_b62'2 g62 (by decide)), ?_⟩
         refine xd 2 (.t W6.heap.size [9, 132]) ?_
         refine xx (.e [0, 2, 3] 4) _ u.length (i * m + j) 3 (Sts.cell hen_hF61 entC_len entD (k := (i * m + j)) (i := 0) (by omega) rfl).1 ?_
         have hV'11 := own_below (u69.own2 (own_grown (own_below hV'10 n67.below) hg68 hK'10 (by decide)) k64_b62'2 (by decide)) (below_drew W69)
         have hB'29 := Bl.next (u69.below (hB'28.trans hb68) g62) (below_drew W69)
         refine xlt (.e [5] 6) (.t W6.heap.size [9, 132]) (fun V hV'11 => (Sts.cell (hen_hF61.below (sft_keep hB'29 hV'11 (Nat.le_refl _))) entC_len entD (k := (i * m + j)) (i := 1) (by omega) rfl).2) ?_
         refine xm2 0 1 7 ?_ ?_
         · have k69'1 := k69.below (below_drew W69)
           refine xb 0 3 k69'1 ?_
           refine xbs (.o [] 7) 1 [.string ⟨((u.getD (i * m + j) entD).2.1).toArray⟩] 9 fun b70 W70 n70 => ?_
           have r70_hV := own_ne hV'11 n70
           have hV'12 := own_below hV'11 n70.below
           have hB'30 := Bl.next hB'29 n70.below
           refine ybi (.o [] 8) (.t W6.heap.size [9, 132]) fun _ _ _ _ zJ zQ zo zx zy zK => op_app (m := 1) (news := [.string ⟨((u.getD (i * m + j) entD).2.1).toArray⟩]) (.string ⟨#[]⟩) 1 16 (j + 1) (((valsE (chunkE u m i)).take (j + 1)).map sv) zo Tryz.underlying55 (by kernel_rfl) rfl (by decide) zx hV'12 zy (n70.blk.sl 1 1 (by decide) (by decide)) rfl (by simp [Value.oneCell']) (by unfold maxLen; omega) (by omega) hB'30.size (by rfl) (by rw [vals_take (by omega), hcg (by omega)]) fun p71 c71 W71 o71 hg71 hb71 => ?_
           refine zK _ _ (sft_grown hb71 hg71 hV'12 (by decide)) ?_
           have k69'2 := (k69'1.below n70.below).grown hg71 hV'12 (by decide)
           refine ys (.o [9] 10) k69'2 [.int .i64 t, .bool leaf, .slice p68 (j + 1) c68, .slice p71 (j + 1) c71] (.t W6.heap.size [9, 132]) fun W72 u72 k72 => ⟨(sft_upd u72 k69'2 g62 (by decide)), ?_⟩
           refine xwm 5 ((↑(i * m + j) : Int) + 1) (↑((i * m + j) + 1) : Int) ?_
           have hB'31 := u72.below (hB'30.trans hb71) g62
           have o68'1 := u72.own2 (own_grown (own_below (own_below (u69.own2 o68 k64_b62'2 (by decide)) (below_drew W69)) n70.below) hg71 hV'12 (by decide)) k69'2 (by decide)
           have o71'1 := u72.own2 o71 k69'2 (by decide)
           exact ze 2 (hJ64 _ _ _ ⟨j + 1, _, _, _, _, rfl, rfl, hB'31, k72, o68'1, o71'1, by omega⟩ (by omega))
         refine xbs 0 1 [.string ⟨((u.getD (i * m + j) entD).2.1).toArray⟩] 9 fun b73 W73 n73 => ?_
         have r73_hV := own_ne hV'11 n73
         have k69'3 := (k69.below (below_drew W69)).below n73.below
         refine xb (.o [] 1) 3 k69'3 ?_
         have hV'13 := own_below hV'11 n73.below
         have hB'32 := Bl.next hB'29 n73.below
         refine ybi (.o [] 8) (.t W6.heap.size [9, 132]) fun _ _ _ _ zJ zQ zo zx zy zK => op_app (m := 1) (news := [.string ⟨((u.getD (i * m + j) entD).2.1).toArray⟩]) (.string ⟨#[]⟩) 1 16 (j + 1) (((valsE (chunkE u m i)).take (j + 1)).map sv) zo Tryz.underlying55 (by kernel_rfl) rfl (by decide) zx hV'13 zy (n73.blk.sl 1 1 (by decide) (by decide)) rfl (by simp [Value.oneCell']) (by unfold maxLen; omega) (by omega) hB'32.size (by rfl) (by rw [vals_take (by omega), hcg (by omega)]) fun p74 c74 W74 o74 hg74 hb74 => ?_
         refine zK _ _ (sft_grown hb74 hg74 hV'13 (by decide)) ?_
         have k69'4 := k69'3.grown hg74 hV'13 (by decide)
         refine ys (.o [9] 10) k69'4 [.int .i64 t, .bool leaf, .slice p68 (j + 1) c68, .slice p74 (j + 1) c74] (.t W6.heap.size [9, 132]) fun W75 u75 k75 => ⟨(sft_upd u75 k69'4 g62 (by decide)), ?_⟩
         refine xwm 5 ((↑(i * m + j) : Int) + 1) (↑((i * m + j) + 1) : Int) ?_
         have hB'33 := u75.below (hB'32.trans hb74) g62
         have o68'2 := u75.own2 (own_grown (own_below (own_below (u69.own2 o68 k64_b62'2 (by decide)) (below_drew W69)) n73.below) hg74 hV'13 (by decide)) k69'4 (by decide)
         have o74'1 := u75.own2 o74 k69'4 (by decide)
         exact ze 2 (hJ64 _ _ _ ⟨j + 1, _, _, _, _, rfl, rfl, hB'33, k75, o68'2, o74'1, by omega⟩ (by omega))
       refine xbs 0 1 [.int .i64 ((u.getD (i * m + j) entD).1)] 3 fun b76 W76 n76 => ?_
       have hK'11 := own_below hK (below_drew W64)
       have r76_hK := own_ne hK'11 n76
       have k64_b62'3 := (k64_b62.below (below_drew W64)).below n76.below
       refine xb (.o [] 1) 2 k64_b62'3 ?_
       have hK'12 := own_below hK'11 n76.below
       have hB'34 := Bl.next hB'27 n76.below
       refine ybi (.o [] 8) (.t W6.heap.size [3, 132]) fun _ _ _ _ zJ zQ zo zx zy zK => op_app (m := 1) (news := [.int .i64 ((u.getD (i * m + j) entD).1)]) (.int .i64 0) 1 8 (j + 1) (((keysE (chunkE u m i)).take (j + 1)).map (Value.int .i64)) zo Tryz.underlying22 (by kernel_rfl) rfl (by decide) zx hK'12 zy (n76.blk.sl 1 1 (by decide) (by decide)) rfl (by simp [Value.oneCell']) (by unfold maxLen; omega) (by omega) hB'34.size (by rfl) (by rw [keys_take (by omega), hcg (by omega)]) fun p77 c77 W77 o77 hg77 hb77 => ?_
       refine zK _ _ (sft_grown hb77 hg77 hK'12 (by decide)) ?_
       have k64_b62'4 := k64_b62'3.grown hg77 hK'12 (by decide)
       refine ys (.o [9] 10) k64_b62'4 [.int .i64 t, .bool leaf, .slice p77 (j + 1) c77, .slice vp j vc] (.t W6.heap.size [3, 132]) fun W78 u78 k78 => ⟨(sft_upd u78 k64_b62'4 g62 (by decide)), ?_⟩
       refine xd 2 (.t W6.heap.size [9, 132]) ?_
       refine xx (.e [0, 2, 3] 4) _ u.length (i * m + j) 3 (Sts.cell hen_hF61 entC_len entD (k := (i * m + j)) (i := 0) (by omega) rfl).1 ?_
       have hV'14 := own_below (u78.own2 (own_grown (own_below hV'10 n76.below) hg77 hK'12 (by decide)) k64_b62'4 (by decide)) (below_drew W78)
       have hB'35 := Bl.next (u78.below (hB'34.trans hb77) g62) (below_drew W78)
       refine xlt (.e [5] 6) (.t W6.heap.size [9, 132]) (fun V hV'14 => (Sts.cell (hen_hF61.below (sft_keep hB'35 hV'14 (Nat.le_refl _))) entC_len entD (k := (i * m + j)) (i := 1) (by omega) rfl).2) ?_
       refine xm2 0 1 7 ?_ ?_
       · have k78'1 := k78.below (below_drew W78)
         refine xb 0 3 k78'1 ?_
         refine xbs (.o [] 7) 1 [.string ⟨((u.getD (i * m + j) entD).2.1).toArray⟩] 9 fun b79 W79 n79 => ?_
         have r79_hV := own_ne hV'14 n79
         have hV'15 := own_below hV'14 n79.below
         have hB'36 := Bl.next hB'35 n79.below
         refine ybi (.o [] 8) (.t W6.heap.size [9, 132]) fun _ _ _ _ zJ zQ zo zx zy zK => op_app (m := 1) (news := [.string ⟨((u.getD (i * m + j) entD).2.1).toArray⟩]) (.string ⟨#[]⟩) 1 16 (j + 1) (((valsE (chunkE u m i)).take (j + 1)).map sv) zo Tryz.underlying55 (by kernel_rfl) rfl (by decide) zx hV'15 zy (n79.blk.sl 1 1 (by decide) (by decide)) rfl (by simp [Value.oneCell']) (by unfold maxLen; omega) (by omega) hB'36.size (by rfl) (by rw [vals_take (by omega), hcg (by omega)]) fun p80 c80 W80 o80 hg80 hb80 => ?_
         refine zK _ _ (sft_grown hb80 hg80 hV'15 (by decide)) ?_
         have k78'2 := (k78'1.below n79.below).grown hg80 hV'15 (by decide)
         refine ys (.o [9] 10) k78'2 [.int .i64 t, .bool leaf, .slice p77 (j + 1) c77, .slice p80 (j + 1) c80] (.t W6.heap.size [9, 132]) fun W81 u81 k81 => ⟨(sft_upd u81 k78'2 g62 (by decide)), ?_⟩
         refine xwm 5 ((↑(i * m + j) : Int) + 1) (↑((i * m + j) + 1) : Int) ?_
         have hB'37 := u81.below (hB'36.trans hb80) g62
         have o77'1 := u81.own2 (own_grown (own_below (own_below (u78.own2 o77 k64_b62'4 (by decide)) (below_drew W78)) n79.below) hg80 hV'15 (by decide)) k78'2 (by decide)
         have o80'1 := u81.own2 o80 k78'2 (by decide)
         exact ze 2 (hJ64 _ _ _ ⟨j + 1, _, _, _, _, rfl, rfl, hB'37, k81, o77'1, o80'1, by omega⟩ (by omega))
       refine xbs 0 1 [.string ⟨((u.getD (i * m + j) entD).2.1).toArray⟩] 9 fun b82 W82 n82 => ?_
       have r82_hV := own_ne hV'14 n82
       have k78'3 := (k78.below (below_drew W78)).below n82.below
       refine xb (.o [] 1) 3 k78'3 ?_
       have hV'16 := own_below hV'14 n82.below
       have hB'38 := Bl.next hB'35 n82.below
       refine ybi (.o [] 8) (.t W6.heap.size [9, 132]) fun _ _ _ _ zJ zQ zo zx zy zK => op_app (m := 1) (news := [.string ⟨((u.getD (i * m + j) entD).2.1).toArray⟩]) (.string ⟨#[]⟩) 1 16 (j + 1) (((valsE (chunkE u m i)).take (j + 1)).map sv) zo Tryz.underlying55 (by kernel_rfl) rfl (by decide) zx hV'16 zy (n82.blk.sl 1 1 (by decide) (by decide)) rfl (by simp [Value.oneCell']) (by unfold maxLen; omega) (by omega) hB'38.size (by rfl) (by rw [vals_take (by omega), hcg (by omega)]) fun p83 c83 W83 o83 hg83 hb83 => ?_
       refine zK _ _ (sft_grown hb83 hg83 hV'16 (by decide)) ?_
       have k78'4 := k78'3.grown hg83 hV'16 (by decide)
       refine ys (.o [9] 10) k78'4 [.int .i64 t, .bool leaf, .slice p77 (j + 1) c77, .slice p83 (j + 1) c83] (.t W6.heap.size [9, 132]) fun W84 u84 k84 => ⟨(sft_upd u84 k78'4 g62 (by decide)), ?_⟩
       refine xwm 5 ((↑(i * m + j) : Int) + 1) (↑((i * m + j) + 1) : Int) ?_
       have hB'39 := u84.below (hB'38.trans hb83) g62
       have o77'2 := u84.own2 (own_grown (own_below (own_below (u78.own2 o77 k64_b62'4 (by decide)) (below_drew W78)) n82.below) hg83 hV'16 (by decide)) k78'4 (by decide)
       have o83'1 := u84.own2 o83 k78'4 (by decide)
       exact ze 2 (hJ64 _ _ _ ⟨j + 1, _, _, _, _, rfl, rfl, hB'39, k84, o77'2, o83'1, by omega⟩ (by omega))
     refine xlv 7 k64_b62.rp ?_
     have hT85 : Below W6.heap.size W6 W64 := hB_64
     have hs85 : W4.heap.size ≤ W6.heap.size := hF61.size
     have hK'13 := own_mono hK hs85
     have hV'17 := own_mono hV hs85
     have hjs : sizN u.length m i = j := by omega
     have hcl : (chunkE u m i).length = j := by rw [chunk_len, hjs]
     have hck : (keysE (chunkE u m i)).take j = keysE (chunkE u m i) := List.take_of_length_le (by rw [keysE_len]; omega)
     have hcv : (valsE (chunkE u m i)).take j = valsE (chunkE u m i) := List.take_of_length_le (by rw [valsE_len]; omega)
     rw [hck] at hK'13
     rw [hcv] at hV'17
     have hN := chunk_ok hE ht1 ht2 hm hv (fun h => by have := hlu h; omega) (show i < (ovN u.length m) by omega)
     have hlen := nodB_len hN
     rw [hcl] at hN
     have hnd : nodeP m v (headB t leaf j m v) (keysE (chunkE u m i)) (valsE (chunkE u m i)) j = nodB t leaf m v (chunkE u m i) := by rw [← hcl]; rfl
     refine xc 0 (args := #[.agg #[.int .i64 t, .bool leaf, .slice kp j kc, .slice vp j vc]]) (ref07_Put t leaf j m v (keysE (chunkE u m i)) (valsE (chunkE u m i)) kp vp kc vc _ hN (own_sl hK'13) (own_sl hV'17)) ?_
     rintro _ W86 ⟨_, rfl, hb86, p6, c6, rfl, h6⟩
     have hs86 := (Bl.nextB hF61 hs_r4 hT85).size
     have h6'3 := own_mono h6 hs86
     rw [hnd] at h6'3
     have hR'10 := (hR.below hT85).below hb86
     have hJ'9 := (hJ.below hT85).below hb86
     have hO := (hOhF61.trans (Only.of_below hT85)).trans (Only.of_below hb86)
     have hB := Bl.nextB (Bl.nextB hF61 hs_r4 hT85) hs_r4 hb86
     refine xc 11 (args := #[.pointer (some ⟨bc, 0, none⟩), .int .i64 2, .slice p6 244 c6]) (ref_LayQ B bc bm pg N cg fa mf fc f (k + i) p K cI (levB t leaf m v u (f + k) b2 i) p6 c6 244 (nodB t leaf m v (chunkE u m i)) (f + k + i) _ (Nat.add_assoc _ _ _).symm hlen (by decide) (by omega) hf hR'10 hJ'9 (fun W _ hO => bys_of (own_sl (own_only h6'3 hO (by decide))) hlen) (Nat.le_trans hs_r4 hB.size)) ?_
     rintro _ W87 ⟨a9, c9, fa3, mf3, fc3, rfl, hb87, hO87, hR, hJ⟩
     refine xa 3 [.slice none 0 0, .int .i64 0] 31 fun b88 W88 n88 => ?_
     have k6_b1'7 := ((k6_b1.below hT85).below hb86).only hO87 (by decide)
     have d88_b1 := n88.ne k6_b1'7
     refine xsv 1 n88.blk [.slice a9 0 c9, .int .i64 0] fun W89 u89 k89 => ?_
     have g88 := n88.ge0 (hB.trans hb87)
     refine xb 6 1 k89 ?_
     refine xc 9 (args := #[.int .i64 (↑(f + k + i) : Int), .int .i64 4]) (ref_BytesN ((f + k + i : Nat) : Int) 4 4 _ (by omega) (by omega) rfl (by decide)) ?_
     rintro _ W90 ⟨_, rfl, hb90, pk, ck, rfl, h8b⟩
     have hs90 := (u89.below (Bl.nextB (hB.trans hb87) hs_r4 n88.below) (Nat.le_trans hs_r4 g88)).size
     have h8b'3 := own_mono h8b hs90
     refine xcv0 0 (fun _ _ _ zo zx => run_bstr zo zx (bys_of (own_sl h8b'3) (leB_len _ _)) (leB_len _ _) Tryz.underlying28 Tryz.underlying5 Tryz.underlying9) ?_
     refine xa 2 [.int .i64 0, .string ⟨#[]⟩, .int .i64 0] 69 fun b91 W91 n91 => ?_
     have hup'11 := own_below (u89.own2 (own_below (own_only (own_below (own_below hup hT85) hb86) hO87 (by decide)) n88.below) n88.blk (by decide)) hb90
     have r91_hup := own_ne hup'11 n91
     refine xsv 0 n91.blk [.int .i64 0, .string ⟨(leB (↑(f + k + i) : Int) 4).toArray⟩, .int .i64 (↑(f + k + i) : Int)] fun W92 u92 k92 => ?_
     have g91 := n91.ge0 (Bl.nextB (u89.below (Bl.nextB (hB.trans hb87) hs_r4 n88.below) (Nat.le_trans hs_r4 g88)) hs_r4 hb90)
     have k64_b62'5 := u92.blkT (((u89.blkT (((k64_b62.below hb86).only hO87 (by decide)).below n88.below) n88.blk (by decide)).below hb90).below n91.below) n91.blk (by decide)
     refine xb 6 2 k64_b62'5 ?_
     refine xid 4 ((↑j : Int) > (0 : Int)) (fun hc93 => ?_) (fun hc93 => ?_)
     · have hkey : ((keysE (chunkE u m i))).getD 0 0 = ((chunkE u m i).getD 0 entD).1 := chunk_key hjs (by omega)
       refine xb 2 2 k64_b62'5 ?_
       have hK'14 := u92.own2 (own_below (own_below (u89.own2 (own_below (own_only (own_below hK'13 hb86) hO87 (by decide)) n88.below) n88.blk (by decide)) hb90) n91.below) n91.blk (by decide)
       refine xx 0 _ j 0 1 (IntsN.elem (own_sl hK'14) (by rw [keysE_len, hcl]) (k := 0) (by omega)).1 ?_
       refine xl 0 ((IntsN.elem (own_sl hK'14) (by rw [keysE_len, hcl]) (k := 0) (by omega)).2) ?_
       refine xs 1 k92 [.int .i64 ((keysE (chunkE u m i)).getD 0 0), .string ⟨(leB (↑(f + k + i) : Int) 4).toArray⟩, .int .i64 (↑(f + k + i) : Int)] fun W94 u94 k94 => ?_
       refine xlv 5 k94.rp ?_
       refine xbs 0 1 [.int .i64 ((keysE (chunkE u m i)).getD 0 0), .string ⟨(leB (↑(f + k + i) : Int) 4).toArray⟩, .int .i64 (↑(f + k + i) : Int)] 69 fun b95 W95 n95 => ?_
       have d95_b91 := n95.ne k94
       have hB'40 := u94.below (u92.below (Bl.nextB (Bl.nextB (u89.below (Bl.nextB (hB.trans hb87) hs_r4 n88.below) (Nat.le_trans hs_r4 g88)) hs_r4 hb90) hs_r4 n91.below) (Nat.le_trans hs_r4 g91)) (Nat.le_trans hs_r4 g91)
       have hup'12 := u94.own3 (u92.own3 (own_below hup'11 n91.below) r91_hup) r91_hup
       have r95_hup := own_ne hup'12 n95
       have hup'13 := own_below hup'12 n95.below
       have hB'41 := Bl.nextB hB'40 hs_r4 n95.below
       refine xbi 0 fun _ _ _ _ zJ zQ zo zx zy zK => op_app (m := 1) (news := [.int .i64 ((keysE (chunkE u m i)).getD 0 0), .string ⟨(leB (↑(f + k + i) : Int) 4).toArray⟩, .int .i64 (↑(f + k + i) : Int)]) (.agg #[.int .i64 0, .string ⟨#[]⟩, .int .i64 0]) 3 32 (i + 1) ((upE u m (f + k) (i + 1)).flatMap entC) zo Tryz.underlying60 (by kernel_rfl) rfl (by decide) zx hup'13 zy (n95.blk.sl 1 1 (by decide) (by decide)) rfl (by simp [Value.oneCell']) (by unfold maxLen; omega) (by omega) hB'41.size (by rfl) (up_row (by first | exact hkey | exact hkey0)) fun p96 c96 W96 o96 hg96 hb96 => ?_
       refine zK _ _ ?_
       refine xwm 6 ((↑(i * m) : Int) + (↑m : Int)) (↑((i * m) + m) : Int) ?_
       refine xv1 3 10 (show (.int .i64 (↑((i * m) + m) : Int) : Value) = .int .i64 (↑((i + 1) * m) : Int) from by rw [Nat.add_mul, Nat.one_mul]) ?_
       have hR'11 := (((((((hR.below n88.below).only (Only.of_upd (T := [31]) u89 n88.blk (by decide)) (by decide)).below hb90).below n91.below).only (Only.of_upd (T := [69]) u92 n91.blk (by decide)) (by decide)).only (Only.of_upd (T := [69]) u94 k92 (by decide)) (by decide)).below n95.below).only (Only.of_grown (T := [69]) hg96 hup'13 (by decide)) (by decide)
       have hJ'10 := (((((((hJ.below n88.below).only (Only.of_upd (T := [31]) u89 n88.blk (by decide)) (by decide)).below hb90).below n91.below).only (Only.of_upd (T := [69]) u92 n91.blk (by decide)) (by decide)).only (Only.of_upd (T := [69]) u94 k92 (by decide)) (by decide)).below n95.below).only (Only.of_grown (T := [69]) hg96 hup'13 (by decide)) (by decide)
       have hB'42 := hB'41.trans (hb96.mono hs_r4)
       have hO'6 := (Only.grown_new ((Only.upd_new (Only.upd_new (((Only.upd_new ((hO.trans hO87).trans (Only.of_below n88.below)) u89 g88).trans (Only.of_below hb90)).trans (Only.of_below n91.below)) u92 g91) u94 g91).trans (Only.of_below n95.below)) hg96 hup'13)
       have k6_b1'8 := ((u94.blkT (u92.blkT (((u89.blk (k6_b1'7.below n88.below) (Ne.symm (Ne.symm d88_b1))).below hb90).below n91.below) n91.blk (by decide)) k92 (by decide)).below n95.below).grown hg96 hup'13 (by decide)
       exact ze 0 (hJ6 _ _ _ ⟨i + 1, _, _, _, _, _, rfl, rfl, hB'42, hO'6, k6_b1'8, o96, hR'11, hJ'10, by omega⟩ (by omega))
     have hkey0 : (0 : Int) = ((chunkE u m i).getD 0 entD).1 := chunk_nokey hjs (by omega)
     refine xlv 5 k92.rp ?_
     refine xbs 0 1 [.int .i64 0, .string ⟨(leB (↑(f + k + i) : Int) 4).toArray⟩, .int .i64 (↑(f + k + i) : Int)] 69 fun b97 W97 n97 => ?_
     have d97_b91 := n97.ne k92
     have hB'43 := u92.below (Bl.nextB (Bl.nextB (u89.below (Bl.nextB (hB.trans hb87) hs_r4 n88.below) (Nat.le_trans hs_r4 g88)) hs_r4 hb90) hs_r4 n91.below) (Nat.le_trans hs_r4 g91)
     have hup'14 := u92.own3 (own_below hup'11 n91.below) r91_hup
     have r97_hup := own_ne hup'14 n97
     have hup'15 := own_below hup'14 n97.below
     have hB'44 := Bl.nextB hB'43 hs_r4 n97.below
     refine xbi 0 fun _ _ _ _ zJ zQ zo zx zy zK => op_app (m := 1) (news := [.int .i64 0, .string ⟨(leB (↑(f + k + i) : Int) 4).toArray⟩, .int .i64 (↑(f + k + i) : Int)]) (.agg #[.int .i64 0, .string ⟨#[]⟩, .int .i64 0]) 3 32 (i + 1) ((upE u m (f + k) (i + 1)).flatMap entC) zo Tryz.underlying60 (by kernel_rfl) rfl (by decide) zx hup'15 zy (n97.blk.sl 1 1 (by decide) (by decide)) rfl (by simp [Value.oneCell']) (by unfold maxLen; omega) (by omega) hB'44.size (by rfl) (up_row (by first | exact hkey | exact hkey0)) fun p98 c98 W98 o98 hg98 hb98 => ?_
     refine zK _ _ ?_
     refine xwm 6 ((↑(i * m) : Int) + (↑m : Int)) (↑((i * m) + m) : Int) ?_
     refine xv1 3 10 (show (.int .i64 (↑((i * m) + m) : Int) : Value) = .int .i64 (↑((i + 1) * m) : Int) from by rw [Nat.add_mul, Nat.one_mul]) ?_
     have hR'12 := ((((((hR.below n88.below).only (Only.of_upd (T := [31]) u89 n88.blk (by decide)) (by decide)).below hb90).below n91.below).only (Only.of_upd (T := [69]) u92 n91.blk (by decide)) (by decide)).below n97.below).only (Only.of_grown (T := [69]) hg98 hup'15 (by decide)) (by decide)
     have hJ'11 := ((((((hJ.below n88.below).only (Only.of_upd (T := [31]) u89 n88.blk (by decide)) (by decide)).below hb90).below n91.below).only (Only.of_upd (T := [69]) u92 n91.blk (by decide)) (by decide)).below n97.below).only (Only.of_grown (T := [69]) hg98 hup'15 (by decide)) (by decide)
     have hB'45 := hB'44.trans (hb98.mono hs_r4)
     have hO'7 := (Only.grown_new ((Only.upd_new (((Only.upd_new ((hO.trans hO87).trans (Only.of_below n88.below)) u89 g88).trans (Only.of_below hb90)).trans (Only.of_below n91.below)) u92 g91).trans (Only.of_below n97.below)) hg98 hup'15)
     have k6_b1'9 := ((u92.blkT (((u89.blk (k6_b1'7.below n88.below) (Ne.symm (Ne.symm d88_b1))).below hb90).below n91.below) n91.blk (by decide)).below n97.below).grown hg98 hup'15 (by decide)
     exact ze 0 (hJ6 _ _ _ ⟨i + 1, _, _, _, _, _, rfl, rfl, hB'45, hO'7, k6_b1'9, o98, hR'12, hJ'11, by omega⟩ (by omega))
   have hc65 := of_decide_eq_false hc65
   refine xlv 16 k64_b62.rp ?_
   have hT99 : Below W6.heap.size W6 W64 := hB_64
   have hs99 : W4.heap.size ≤ W6.heap.size := hF61.size
   have hK'15 := own_mono hK hs99
   have hV'18 := own_mono hV hs99
   have hjs : sizN u.length m i = j := by omega
   have hcl : (chunkE u m i).length = j := by rw [chunk_len, hjs]
   have hck : (keysE (chunkE u m i)).take j = keysE (chunkE u m i) := List.take_of_length_le (by rw [keysE_len]; omega)
   have hcv : (valsE (chunkE u m i)).take j = valsE (chunkE u m i) := List.take_of_length_le (by rw [valsE_len]; omega)
   rw [hck] at hK'15
   rw [hcv] at hV'18
   have hN := chunk_ok hE ht1 ht2 hm hv (fun h => by have := hlu h; omega) (show i < (ovN u.length m) by omega)
   have hlen := nodB_len hN
   rw [hcl] at hN
   have hnd : nodeP m v (headB t leaf j m v) (keysE (chunkE u m i)) (valsE (chunkE u m i)) j = nodB t leaf m v (chunkE u m i) := by rw [← hcl]; rfl
   refine xc 0 (args := #[.agg #[.int .i64 t, .bool leaf, .slice kp j kc, .slice vp j vc]]) (ref07_Put t leaf j m v (keysE (chunkE u m i)) (valsE (chunkE u m i)) kp vp kc vc _ hN (own_sl hK'15) (own_sl hV'18)) ?_
   rintro _ W100 ⟨_, rfl, hb100, p6, c6, rfl, h6⟩
   have hs100 := (Bl.nextB hF61 hs_r4 hT99).size
   have h6'4 := own_mono h6 hs100
   rw [hnd] at h6'4
   have hR'13 := (hR.below hT99).below hb100
   have hJ'12 := (hJ.below hT99).below hb100
   have hO := (hOhF61.trans (Only.of_below hT99)).trans (Only.of_below hb100)
   have hB := Bl.nextB (Bl.nextB hF61 hs_r4 hT99) hs_r4 hb100
   refine xc 11 (args := #[.pointer (some ⟨bc, 0, none⟩), .int .i64 2, .slice p6 244 c6]) (ref_LayQ B bc bm pg N cg fa mf fc f (k + i) p K cI (levB t leaf m v u (f + k) b2 i) p6 c6 244 (nodB t leaf m v (chunkE u m i)) (f + k + i) _ (Nat.add_assoc _ _ _).symm hlen (by decide) (by omega) hf hR'13 hJ'12 (fun W _ hO => bys_of (own_sl (own_only h6'4 hO (by decide))) hlen) (Nat.le_trans hs_r4 hB.size)) ?_
   rintro _ W101 ⟨a9, c9, fa3, mf3, fc3, rfl, hb101, hO101, hR, hJ⟩
   refine xa 3 [.slice none 0 0, .int .i64 0] 31 fun b102 W102 n102 => ?_
   have k6_b1'10 := ((k6_b1.below hT99).below hb100).only hO101 (by decide)
   have d102_b1 := n102.ne k6_b1'10
   refine xsv 1 n102.blk [.slice a9 0 c9, .int .i64 0] fun W103 u103 k103 => ?_
   have g102 := n102.ge0 (hB.trans hb101)
   refine xb 6 1 k103 ?_
   refine xc 9 (args := #[.int .i64 (↑(f + k + i) : Int), .int .i64 4]) (ref_BytesN ((f + k + i : Nat) : Int) 4 4 _ (by omega) (by omega) rfl (by decide)) ?_
   rintro _ W104 ⟨_, rfl, hb104, pk, ck, rfl, h8b⟩
   have hs104 := (u103.below (Bl.nextB (hB.trans hb101) hs_r4 n102.below) (Nat.le_trans hs_r4 g102)).size
   have h8b'4 := own_mono h8b hs104
   refine xcv0 0 (fun _ _ _ zo zx => run_bstr zo zx (bys_of (own_sl h8b'4) (leB_len _ _)) (leB_len _ _) Tryz.underlying28 Tryz.underlying5 Tryz.underlying9) ?_
   refine xa 2 [.int .i64 0, .string ⟨#[]⟩, .int .i64 0] 69 fun b105 W105 n105 => ?_
   have hup'16 := own_below (u103.own2 (own_below (own_only (own_below (own_below hup hT99) hb100) hO101 (by decide)) n102.below) n102.blk (by decide)) hb104
   have r105_hup := own_ne hup'16 n105
   refine xsv 0 n105.blk [.int .i64 0, .string ⟨(leB (↑(f + k + i) : Int) 4).toArray⟩, .int .i64 (↑(f + k + i) : Int)] fun W106 u106 k106 => ?_
   have g105 := n105.ge0 (Bl.nextB (u103.below (Bl.nextB (hB.trans hb101) hs_r4 n102.below) (Nat.le_trans hs_r4 g102)) hs_r4 hb104)
   have k64_b62'6 := u106.blkT (((u103.blkT (((k64_b62.below hb100).only hO101 (by decide)).below n102.below) n102.blk (by decide)).below hb104).below n105.below) n105.blk (by decide)
   refine xb 6 2 k64_b62'6 ?_
   refine xid 4 ((↑j : Int) > (0 : Int)) (fun hc107 => ?_) (fun hc107 => ?_)
   · have hkey : ((keysE (chunkE u m i))).getD 0 0 = ((chunkE u m i).getD 0 entD).1 := chunk_key hjs (by omega)
     refine xb 2 2 k64_b62'6 ?_
     have hK'16 := u106.own2 (own_below (own_below (u103.own2 (own_below (own_only (own_below hK'15 hb100) hO101 (by decide)) n102.below) n102.blk (by decide)) hb104) n105.below) n105.blk (by decide)
     refine xx 0 _ j 0 1 (IntsN.elem (own_sl hK'16) (by rw [keysE_len, hcl]) (k := 0) (by omega)).1 ?_
     refine xl 0 ((IntsN.elem (own_sl hK'16) (by rw [keysE_len, hcl]) (k := 0) (by omega)).2) ?_
     refine xs 1 k106 [.int .i64 ((keysE (chunkE u m i)).getD 0 0), .string ⟨(leB (↑(f + k + i) : Int) 4).toArray⟩, .int .i64 (↑(f + k + i) : Int)] fun W108 u108 k108 => ?_
     refine xlv 5 k108.rp ?_
     refine xbs 0 1 [.int .i64 ((keysE (chunkE u m i)).getD 0 0), .string ⟨(leB (↑(f + k + i) : Int) 4).toArray⟩, .int .i64 (↑(f + k + i) : Int)] 69 fun b109 W109 n109 => ?_
     have d109_b105 := n109.ne k108
     have hB'46 := u108.below (u106.below (Bl.nextB (Bl.nextB (u103.below (Bl.nextB (hB.trans hb101) hs_r4 n102.below) (Nat.le_trans hs_r4 g102)) hs_r4 hb104) hs_r4 n105.below) (Nat.le_trans hs_r4 g105)) (Nat.le_trans hs_r4 g105)
     have hup'17 := u108.own3 (u106.own3 (own_below hup'16 n105.below) r105_hup) r105_hup
     have r109_hup := own_ne hup'17 n109
     have hup'18 := own_below hup'17 n109.below
     have hB'47 := Bl.nextB hB'46 hs_r4 n109.below
     refine xbi 0 fun _ _ _ _ zJ zQ zo zx zy zK => op_app (m := 1) (news := [.int .i64 ((keysE (chunkE u m i)).getD 0 0), .string ⟨(leB (↑(f + k + i) : Int) 4).toArray⟩, .int .i64 (↑(f + k + i) : Int)]) (.agg #[.int .i64 0, .string ⟨#[]⟩, .int .i64 0]) 3 32 (i + 1) ((upE u m (f + k) (i + 1)).flatMap entC) zo Tryz.underlying60 (by kernel_rfl) rfl (by decide) zx hup'18 zy (n109.blk.sl 1 1 (by decide) (by decide)) rfl (by simp [Value.oneCell']) (by unfold maxLen; omega) (by omega) hB'47.size (by rfl) (up_row (by first | exact hkey | exact hkey0)) fun p110 c110 W110 o110 hg110 hb110 => ?_
     refine zK _ _ ?_
     refine xwm 6 ((↑(i * m) : Int) + (↑m : Int)) (↑((i * m) + m) : Int) ?_
     refine xv1 3 10 (show (.int .i64 (↑((i * m) + m) : Int) : Value) = .int .i64 (↑((i + 1) * m) : Int) from by rw [Nat.add_mul, Nat.one_mul]) ?_
     have hR'14 := (((((((hR.below n102.below).only (Only.of_upd (T := [31]) u103 n102.blk (by decide)) (by decide)).below hb104).below n105.below).only (Only.of_upd (T := [69]) u106 n105.blk (by decide)) (by decide)).only (Only.of_upd (T := [69]) u108 k106 (by decide)) (by decide)).below n109.below).only (Only.of_grown (T := [69]) hg110 hup'18 (by decide)) (by decide)
     have hJ'13 := (((((((hJ.below n102.below).only (Only.of_upd (T := [31]) u103 n102.blk (by decide)) (by decide)).below hb104).below n105.below).only (Only.of_upd (T := [69]) u106 n105.blk (by decide)) (by decide)).only (Only.of_upd (T := [69]) u108 k106 (by decide)) (by decide)).below n109.below).only (Only.of_grown (T := [69]) hg110 hup'18 (by decide)) (by decide)
     have hB'48 := hB'47.trans (hb110.mono hs_r4)
     have hO'8 := (Only.grown_new ((Only.upd_new (Only.upd_new (((Only.upd_new ((hO.trans hO101).trans (Only.of_below n102.below)) u103 g102).trans (Only.of_below hb104)).trans (Only.of_below n105.below)) u106 g105) u108 g105).trans (Only.of_below n109.below)) hg110 hup'18)
     have k6_b1'11 := ((u108.blkT (u106.blkT (((u103.blk (k6_b1'10.below n102.below) (Ne.symm (Ne.symm d102_b1))).below hb104).below n105.below) n105.blk (by decide)) k106 (by decide)).below n109.below).grown hg110 hup'18 (by decide)
     exact ze 0 (hJ6 _ _ _ ⟨i + 1, _, _, _, _, _, rfl, rfl, hB'48, hO'8, k6_b1'11, o110, hR'14, hJ'13, by omega⟩ (by omega))
   have hkey0 : (0 : Int) = ((chunkE u m i).getD 0 entD).1 := chunk_nokey hjs (by omega)
   refine xlv 5 k106.rp ?_
   refine xbs 0 1 [.int .i64 0, .string ⟨(leB (↑(f + k + i) : Int) 4).toArray⟩, .int .i64 (↑(f + k + i) : Int)] 69 fun b111 W111 n111 => ?_
   have d111_b105 := n111.ne k106
   have hB'49 := u106.below (Bl.nextB (Bl.nextB (u103.below (Bl.nextB (hB.trans hb101) hs_r4 n102.below) (Nat.le_trans hs_r4 g102)) hs_r4 hb104) hs_r4 n105.below) (Nat.le_trans hs_r4 g105)
   have hup'19 := u106.own3 (own_below hup'16 n105.below) r105_hup
   have r111_hup := own_ne hup'19 n111
   have hup'20 := own_below hup'19 n111.below
   have hB'50 := Bl.nextB hB'49 hs_r4 n111.below
   refine xbi 0 fun _ _ _ _ zJ zQ zo zx zy zK => op_app (m := 1) (news := [.int .i64 0, .string ⟨(leB (↑(f + k + i) : Int) 4).toArray⟩, .int .i64 (↑(f + k + i) : Int)]) (.agg #[.int .i64 0, .string ⟨#[]⟩, .int .i64 0]) 3 32 (i + 1) ((upE u m (f + k) (i + 1)).flatMap entC) zo Tryz.underlying60 (by kernel_rfl) rfl (by decide) zx hup'20 zy (n111.blk.sl 1 1 (by decide) (by decide)) rfl (by simp [Value.oneCell']) (by unfold maxLen; omega) (by omega) hB'50.size (by rfl) (up_row (by first | exact hkey | exact hkey0)) fun p112 c112 W112 o112 hg112 hb112 => ?_
   refine zK _ _ ?_
   refine xwm 6 ((↑(i * m) : Int) + (↑m : Int)) (↑((i * m) + m) : Int) ?_
   refine xv1 3 10 (show (.int .i64 (↑((i * m) + m) : Int) : Value) = .int .i64 (↑((i + 1) * m) : Int) from by rw [Nat.add_mul, Nat.one_mul]) ?_
   have hR'15 := ((((((hR.below n102.below).only (Only.of_upd (T := [31]) u103 n102.blk (by decide)) (by decide)).below hb104).below n105.below).only (Only.of_upd (T := [69]) u106 n105.blk (by decide)) (by decide)).below n111.below).only (Only.of_grown (T := [69]) hg112 hup'20 (by decide)) (by decide)
   have hJ'14 := ((((((hJ.below n102.below).only (Only.of_upd (T := [31]) u103 n102.blk (by decide)) (by decide)).below hb104).below n105.below).only (Only.of_upd (T := [69]) u106 n105.blk (by decide)) (by decide)).below n111.below).only (Only.of_grown (T := [69]) hg112 hup'20 (by decide)) (by decide)
   have hB'51 := hB'50.trans (hb112.mono hs_r4)
   have hO'9 := (Only.grown_new ((Only.upd_new (((Only.upd_new ((hO.trans hO101).trans (Only.of_below n102.below)) u103 g102).trans (Only.of_below hb104)).trans (Only.of_below n105.below)) u106 g105).trans (Only.of_below n111.below)) hg112 hup'20)
   have k6_b1'12 := ((u106.blkT (((u103.blk (k6_b1'10.below n102.below) (Ne.symm (Ne.symm d102_b1))).below hb104).below n105.below) n105.blk (by decide)).below n111.below).grown hg112 hup'20 (by decide)
   exact ze 0 (hJ6 _ _ _ ⟨i + 1, _, _, _, _, _, rfl, rfl, hB'51, hO'9, k6_b1'12, o112, hR'15, hJ'14, by omega⟩ (by omega))
 refine xie 13 (↑i : Int) (1 : Int) (fun hc113 => ?_) (fun hc113 => ?_)
 · refine xx 3 _ i 0 3 (up_at (own_sl hup) (by omega)).1 ?_
   refine xl 1 ((up_at (own_sl hup) (by omega)).2) ?_
   refine xsv 2 k6_b1 [.slice none 0 0, .int .i64 0] fun W114 u114 k114 => ?_
   have g1 := n1.ge0 (Below.refl B _)
   have hB := u114.below (hB_4.trans hB_6) (Nat.le_trans hBw g1)
   have hO := (Only.upd_new (hO_4.trans hO_6) u114 g1)
   have hR'16 := hR.only (Only.of_upd (T := [31]) u114 k6_b1 (by decide)) (by decide)
   have hJ'15 := hJ.only (Only.of_upd (T := [31]) u114 k6_b1 (by decide)) (by decide)
   refine xec 7 k114 (.tuple #[.int .i64 ((upX u m (f + k) 0).2.2), .agg #[.slice none 0 0, .int .i64 0]]) ?_
   have hiv : i = (ovN u.length m) := from_end hmb.1 hi (by omega) (by omega)
   have hi1 : (ovN u.length m) ≤ 1 := by omega
   have e1 : treeL t leaf m v u (f + k) b2 = ((upX u m (f + k) 0).2.2, (levB t leaf m v u (f + k) b2 i)) := by
     unfold treeL; rw [treeUp_one (by rw [upE_len]; exact hi1), upE_get (by omega), hiv]
   have e2 : (levs (ovN u.length m)).sum = (ovN u.length m) := by rw [levs_one hi1]; simp
   rw [htr] at e1
   unfold RTreeP
   rw [e1, show k0 + nodN t l.length = k + i by omega]
   exact ⟨_, _, _, rfl, hB, hO, hR'16, hJ'15⟩
 refine xv1 12 2 (show (.slice p4 i c4 : Value) = .slice p4 ((upE u m (f + k) i).length) c4 from by rw [upE_len]) ?_
 have hiv : i = (ovN u.length m) := from_end hmb.1 hi (by omega) (by omega)
 have hi1 : ¬ (ovN u.length m) ≤ 1 := by omega
 have hlm : (levs (ovN u.length m)).sum = (ovN u.length m) + (levs (ovN (ovN u.length m) 18)).sum := by rw [levs_more hi1]; rfl
 have hB := hB_4.trans hB_6
 have hO := hO_4.trans hO_6
 refine ze 0 (hJ4 _ _ _ ⟨(upE u m (f + k) i), (k + i), 18, 4, _, (levB t leaf m v u (f + k) b2 i), _, _, rfl, rfl, hB, hO, k6_b1, ⟨_, _, _, hR⟩, hJ, fun W _ h2 => by rw [upE_len]; unfold Sts; rw [upE_len]; exact own_sl (own_only hup h2 (by decide)), rfl, rfl, (by rw [hiv]; exact up_ok hE hmb.1), (by rw [upE_len, hiv]; omega), fun _ => by rw [upE_len]; omega, (by rw [upE_len]; omega), (by rw [← htr, hiv]; show _ = treeUp _ _ _ _; rw [treeUp_more (by rw [upE_len]; exact hi1), Nat.add_assoc]; rfl)⟩ ?_)
 rw [if_neg (by decide), upE_len]
 by_cases hlf : leaf = true
 · rw [if_pos hlf]; omega
 · rw [if_neg hlf]
   have hf9 : leaf = false := by simpa using hlf
   have h29 := hlu hf9
   have hm18 : m = 18 := by rw [← hm, hf9]; rfl
   have h18 := ov18 h29
   rw [hm18] at hiv; omega
end Go.Proofs.YtcjpomibhbakdaaGreatDoor
namespace Go.Proofs.YtcjpomibhbakdaaGreatDoor
open Go.RowKit Go.Extern.Stop Go.Stop Go.Extern
set_option linter.unusedVariables false
attribute [local irreducible] wpList wpAnyH Code.wp Oper.wp Go

/-- a block of any kind laid by the document's allocator -/
def RLaidK (kind : Int) (B bc bm : Nat) (pg : Option Addr) (N cg f k : Nat) (p : Option Addr) (K c : Nat) (l : List UInt8) (li : List UInt8) (q : Nat) (w : World) (e : Ending) (w' : World) : Prop :=
  ∃ a c2 fa m fc, e = .returned (.tuple #[.int .i64 (q : Int), .agg #[.slice a 0 c2, .int .i64 0]]) ∧ Below B w w' ∧ Only [46, 9] w w' ∧ RAl B bc bm pg N cg fa m fc (k + 1) (rngJ f N) w' ∧ RefI B bm p K c (putB l (q * 256) (sealB kind (q : Int) li)) w'
theorem ref_LayK (kind : Int) (hk1 : 1 ≤ kind) (hk4 : kind ≤ 4) (B bc bm : Nat) (pg : Option Addr) (N cg : Nat) (fa : Option Addr) (m fc f k : Nat) (p : Option Addr) (K c : Nat) (l : List UInt8) (a : Option Addr) (ci n' : Nat) (li : List UInt8) (q : Nat) (w : World) (hq : f + k = q) (hn' : li.length = n') (hl : n' ≤ 244) (hkN : k < N) (hf : f + N ≤ K) (hA : RAl B bc bm pg N cg fa m fc k (rngJ f N) w) (hI : RefI B bm p K c l w) (hin : ∀ W, Below B w W → Only [46, 9] w W → Bys W (.slice a n' ci) li) (hBw : B ≤ w.heap.size) :
    Calls Tryz.prog 52 #[.pointer (some ⟨bc, 0, none⟩), .int .i64 kind, .slice a n' ci] w (RLaidK kind B bc bm pg N cg f k p K c l li q w) := by
  subst hq hn'
  have hK := hI.hk
  have hL : (rngJ f N).getD k 0 = ((f + k : Nat) : Int) := rngJ_get hkN
  have hs : sealE kind ((f + k : Nat) : Int) li = 0 := by
    unfold sealE
    rw [if_pos (show knownB kind ((f + k : Nat) : Int) = true from decide_eq_true (by omega)), if_pos hl]
  have hw : wrE kind ((rngJ f N).getD k 0) K li = 0 := by
    rw [hL]; unfold wrE; rw [if_pos hs, if_pos (by omega)]
  refine (ref_Lay B bc bm pg N cg fa m fc k (rngJ f N) p K c l kind a ci li w hA hI hin hBw).mono ?_
  rintro e W ⟨a2, c2, fa2, m2, fc2, rfl, hb, hO, hA2, hI2, h5⟩
  have e1 : lyV k N K (rngJ f N) kind li = ((f + k : Nat) : Int) := by rw [lyV, if_pos ⟨hkN, hw⟩, hL]
  have e2 : lyE k N K (rngJ f N) kind li = 0 := by rw [lyE, if_pos hkN, hw]
  have e3 : lyB k N K (rngJ f N) kind li = [] := by rw [lyB, if_pos hkN, hw]; rfl
  have e4 : lyK k N K (rngJ f N) kind li = k + 1 := by rw [lyK, if_pos ⟨hkN, hw⟩]
  have e5 : lyL k N K (rngJ f N) kind li l = putB l ((f + k) * 256) (sealB kind ((f + k : Nat) : Int) li) := by rw [lyL, if_pos hkN, wrL, if_pos hw, hL]; rfl
  rw [e4] at hA2
  rw [e5] at hI2
  exact ⟨a2, c2, fa2, m2, fc2, by rw [e1, e2, e3]; rfl, hb, hO, hA2, hI2⟩
/-- slots of blocks of counts -/
def rsV (L : List (List Int)) (q i : Nat) : List Value := [.int .i64 ((q + i : Nat) : Int), .int .i64 (freeN (L.getD i []) : Int), .int .i64 (firstN (L.getD i []) : Int)]
def rsL (L : List (List Int)) (q n : Nat) : List Value := (List.range n).flatMap (rsV L q)
theorem rsL_succ (L : List (List Int)) (q n : Nat) : rsL L q (n + 1) = rsL L q n ++ rsV L q n := by simp [rsL, List.range_succ]
def RLayP (B bc bm : Nat) (pg : Option Addr) (N cg f k0 : Nat) (p : Option Addr) (K c : Nat) (bs : List UInt8) (L : List (List Int)) (w : World) (e : Ending) (w' : World) : Prop :=
  ∃ a c2 fa m fc, e = .returned (.slice a L.length c2) ∧ Below B w w' ∧ Only [46, 9] w w' ∧ RAl B bc bm pg N cg fa m fc (k0 + L.length) (rngJ f N) w' ∧ RefI B bm p K c (cntsB L (f + k0) bs L.length) w' ∧ w'.ownsRow w.heap.size 66 3 (.slice a L.length c2) L.length (rsL L (f + k0) L.length)
set_option maxRecDepth 100000 in
set_option maxHeartbeats 1000000 in
theorem ref22_bad (er : Int) (w : World) :
    Calls Tryz.prog 33 #[.int .i64 er] w (Ret (.agg #[.slice none 0 0, .int .i64 er]) w) := by
 refine zin 5 Tryz.func33 ?_
 refine xa 2 [.slice none 0 0, .int .i64 0] 31 fun b1 W1 n1 => ?_
 refine xsv 6 n1.blk [.slice none 0 0, .int .i64 er] fun W2 u2 k2 => ?_
 have g1 := n1.ge (Below.refl w.heap.size _)
 have hB := u2.below n1.below g1
 exact xec 3 k2 (.agg #[.slice none 0 0, .int .i64 er]) ⟨rfl, hB⟩
set_option maxRecDepth 100000 in
set_option maxHeartbeats 2000000 in
theorem ref09_Free (a : Option Addr) (c : Nat) (l : List Int) (w : World) (hl : l.length ≤ 960) (h : Sl w (.slice a l.length c) l.length (l.map (Value.int .i64))) :
    Calls Tryz.prog 70 #[.slice a l.length c] w (Ret (.tuple #[.int .i64 (↑(freeN l) : Int), .int .i64 (↑(firstN l) : Int)]) w) := by
 refine zin 35 Tryz.func70 ?_
 have hB := Below.refl w.heap.size w
 refine zl 18 35 (fun zm zkv V => ∃ (i f : Nat), zkv = [(0, .slice a l.length c), (2, .int .i64 0), (3, .int .i64 0), (4, .int .i64 (↑f : Int)), (5, .int .i64 (↑i : Int))] ∧ zm = l.length - ((↑i : Int)).toNat ∧ Below w.heap.size w V ∧ i ≤ l.length ∧ f = freeK l i) ⟨0, 0, rfl, rfl, hB, Nat.zero_le _, rfl⟩ ?_
 rintro _ _ W1 ⟨i, f, rfl, rfl, hB_1, hi, hf⟩ J1 hJ1 r1
 have hfs := fun (q : i < l.length) => freeK_succ q
 have hfb := freeK_le l i
 refine xid 9 ((↑i : Int) < (↑l.length : Int)) (fun hc2 => ?_) (fun hc2 => ?_)
 · refine xx 8 _ l.length i 1 (Ints.elem h (k := i) (by omega)).1 ?_
   refine xl 0 ((Ints.elem (h.below hB_1) (k := i) (by omega)).2) ?_
   refine xie 3 (l.getD i 0) (0 : Int) (fun hc3 => ?_) (fun hc3 => ?_)
   · refine xwm 2 ((↑f : Int) + 1) (↑(f + 1) : Int) ?_
     refine xwm 6 ((↑i : Int) + 1) (↑(i + 1) : Int) ?_
     exact ze 2 (hJ1 _ _ _ ⟨i + 1, f + 1, rfl, rfl, hB_1, by omega, by rw [hfs (by omega), if_pos (by assumption), hf]⟩ (by omega))
   refine xwm 5 ((↑i : Int) + 1) (↑(i + 1) : Int) ?_
   exact ze 2 (hJ1 _ _ _ ⟨i + 1, f, rfl, rfl, hB_1, by omega, by rw [hfs (by omega), if_neg (by assumption)]; exact hf⟩ (by omega))
 refine zl 12 35 (fun zm zkv V => ∃ (g : Nat), zkv = [(0, .slice a l.length c), (2, .int .i64 0), (3, .int .i64 0), (4, .int .i64 (↑f : Int)), (6, .int .i64 (↑g : Int))] ∧ zm = l.length - ((↑g : Int)).toNat ∧ Below w.heap.size w V ∧ g ≤ l.length ∧ ((∀ j, j < g → l.getD j 0 ≠ 0))) ⟨0, rfl, rfl, hB_1, Nat.zero_le _, ?_⟩ ?_
 · exact fun j hj => absurd hj (by omega)
 rintro _ _ W4 ⟨g, rfl, rfl, hB_4, hg, hz⟩ J4 hJ4 r4
 refine xg 8 [23, 24] (decide ((↑g : Int) < (↑l.length : Int))) (fun hc5 => ?_) (fun hc5 => ?_)
 · have hc5 := of_decide_eq_true hc5
   refine xx 2 _ l.length g 1 (Ints.elem h (k := g) (by omega)).1 ?_
   refine xl 0 ((Ints.elem (h.below hB_4) (k := g) (by omega)).2) ?_
   refine xin 4 (l.getD g 0) (0 : Int) (fun hc6 => ?_) (fun hc6 => ?_)
   · refine xwm 5 ((↑g : Int) + 1) (↑(g + 1) : Int) ?_
     exact ze 3 (hJ4 _ _ _ ⟨g + 1, rfl, rfl, hB_4, by omega, fun j hj => (Nat.lt_or_ge j g).elim (fun q => hz j q) (fun q => by obtain rfl : j = g := (by omega); first | assumption | omega)⟩ (by omega))
   refine xe 14 (.tuple #[.int .i64 (↑f : Int), .int .i64 (↑g : Int)]) ?_
   obtain rfl : i = l.length := by omega
   have hfin : f = freeN l := hf
   have hgf : g = firstN l := by first | (exact (firstN_at (by omega) (by omega) hz).symm) | (obtain rfl : g = l.length := (by omega); exact (firstN_none hz).symm)
   subst hfin hgf
   exact ⟨rfl, hB_4⟩
 have hc5 := of_decide_eq_false hc5
 refine xe 23 (.tuple #[.int .i64 (↑f : Int), .int .i64 (↑g : Int)]) ?_
 obtain rfl : i = l.length := by omega
 have hfin : f = freeN l := hf
 have hgf : g = firstN l := by first | (exact (firstN_at (by omega) (by omega) hz).symm) | (obtain rfl : g = l.length := (by omega); exact (firstN_none hz).symm)
 subst hfin hgf
 exact ⟨rfl, hB_4⟩
set_option maxRecDepth 100000 in
set_option maxHeartbeats 8000000 in
theorem ref22_lay (B bc bm : Nat) (pg : Option Addr) (N cg : Nat) (fa0 : Option Addr) (mf0 fc0 f k0 : Nat) (p : Option Addr) (K cI : Nat) (bs : List UInt8) (B2 : Nat) (pl : Option Addr) (cl : Nat) (gs : List (Nat × Nat)) (L : List (List Int)) (w : World) (hR : RAl B bc bm pg N cg fa0 mf0 fc0 k0 (rngJ f N) w) (hJ : RefI B bm p K cI bs w) (hL : Lists w B2 (.slice pl L.length cl) gs L) (hS : ∀ i, i < L.length → Small (L.getD i []) ∧ (L.getD i []).length ≤ 960) (hf : f + N ≤ K) (hk : k0 + L.length ≤ N) (hLn : L.length ≤ 1000000) (hBw : B ≤ w.heap.size) :
    Calls Tryz.prog 35 #[.pointer (some ⟨bc, 0, none⟩), .slice pl L.length cl] w (RLayP B bc bm pg N cg f k0 p K cI bs L w) := by
 refine zin 49 Tryz.func35 ?_
 have hB := Below.refl B w
 refine zl 17 49 (fun zm zkv V => ∃ (i : Nat) (fa : Option Addr) (mf fc : Nat) (p5 : Option Addr) (c5 : Nat), zkv = [(0, .pointer (some ⟨bc, 0, none⟩)), (1, .slice pl L.length cl), (4, .slice none 0 0), (5, .slice p5 i c5), (6, .int .i64 (↑i : Int))] ∧ zm = L.length - ((↑i : Int)).toNat ∧ Below B w V ∧ Only [46, 9] w V ∧ RAl B bc bm pg N cg fa mf fc (k0 + i) (rngJ f N) V ∧ RefI B bm p K cI (cntsB L (f + k0) bs i) V ∧ Lists V B2 (.slice pl L.length cl) gs L ∧ V.ownsRow w.heap.size 66 3 (.slice p5 i c5) i (rsL L (f + k0) i) ∧ i ≤ L.length) ⟨0, fa0, mf0, fc0, none, 0, rfl, rfl, hB, (Only.refl _ _), hR, hJ, hL, World.ownsRow_nil _ _ _ _, Nat.zero_le _⟩ ?_
 rintro _ _ W1 ⟨i, fa, mf, fc, p5, c5, rfl, rfl, hB_1, hO_1, hR, hJ, hL, hup, hi⟩ J1 hJ1 r1
 refine xid 9 ((↑i : Int) < (↑L.length : Int)) (fun hc2 => ?_) (fun hc2 => ?_)
 · refine xx 8 _ L.length i 1 (Lists.elem hL rfl (k := i) (by omega)).1 ?_
   refine xl 0 ((Lists.elem hL rfl (k := i) (by omega)).2) ?_
   refine xc 0 (args := #[.slice (some ⟨(gs.getD i (0, 0)).1, 0, none⟩) ((L.getD i []).length) ((gs.getD i (0, 0)).2)]) (ref09_Put (some ⟨(gs.getD i (0, 0)).1, 0, none⟩) (gs.getD i (0, 0)).2 (L.getD i []) _ (hS i (by omega)).1 (hS i (by omega)).2 (own_sl (hL.each i (by omega)))) ?_
   rintro _ W3 ⟨_, rfl, hb3, p6, c6, rfl, h6⟩
   have hR'1 := hR.below hb3
   have hJ'1 := hJ.below hb3
   have hO'1 := hO_1.trans (Only.of_below hb3)
   have h6'1 := own_mono h6 hB_1.size
   have hB'1 := Bl.nextB hB_1 hBw hb3
   refine xc 11 (args := #[.pointer (some ⟨bc, 0, none⟩), .int .i64 3, .slice p6 244 c6]) (ref_LayK 3 (by decide) (by decide) B bc bm pg N cg fa mf fc f (k0 + i) p K cI (cntsB L (f + k0) bs i) p6 c6 244 (bitsB (L.getD i [])) (f + k0 + i) _ (Nat.add_assoc _ _ _).symm (bitsT_len _ _) (by decide) (by omega) hf hR'1 hJ'1 (fun W _ hO'1 => bys_of (own_sl (own_only h6'1 hO'1 (by decide))) (bitsT_len _ _)) (Nat.le_trans hBw hB'1.size)) ?_
   rintro _ W4 ⟨a9, c9, fa3, mf3, fc3, rfl, hb4, hO4, hR, hJ⟩
   refine xa 3 [.slice none 0 0, .int .i64 0] 31 fun b5 W5 n5 => ?_
   have hB'2 := hB'1.trans hb4
   have g5 := n5.ge0 hB'2
   refine xsv 1 n5.blk [.slice a9 0 c9, .int .i64 0] fun W6 u6 k6 => ?_
   have hL'1 := (((hL.below hb3).only hO4 (by decide)).below n5.below).only (Only.of_upd (T := [31]) u6 n5.blk (by decide)) (by decide)
   refine xx 6 _ L.length i 1 (Lists.elem hL'1 rfl (k := i) (by omega)).1 ?_
   refine xl 0 ((Lists.elem hL'1 rfl (k := i) (by omega)).2) ?_
   refine xr 0 (args := #[.slice (some ⟨(gs.getD i (0, 0)).1, 0, none⟩) ((L.getD i []).length) ((gs.getD i (0, 0)).2)]) (ref09_Free (some ⟨(gs.getD i (0, 0)).1, 0, none⟩) (gs.getD i (0, 0)).2 (L.getD i []) _ (hS i (by omega)).2 (own_sl (hL'1.each i (by omega)))) fun W7 hb7 => ?_
   refine xbs 13 1 [.int .i64 (↑(f + k0 + i) : Int), .int .i64 (↑(freeN (L.getD i [])) : Int), .int .i64 (↑(firstN (L.getD i [])) : Int)] 66 fun b8 W8 n8 => ?_
   have hB'3 := Bl.nextB (u6.below (Bl.nextB hB'2 hBw n5.below) (Nat.le_trans hBw g5)) hBw hb7
   have g8 := n8.ge0 hB'3
   have hup'1 := own_below (u6.own2 (own_below (own_only (own_below hup hb3) hO4 (by decide)) n5.below) n5.blk (by decide)) hb7
   have r8_hup := own_ne hup'1 n8
   have hup'2 := own_below hup'1 n8.below
   have hB'4 := Bl.nextB hB'3 hBw n8.below
   refine xbi 0 fun _ _ _ _ zJ zQ zo zx zy zK => op_app (m := 1) (news := [.int .i64 (↑(f + k0 + i) : Int), .int .i64 (↑(freeN (L.getD i [])) : Int), .int .i64 (↑(firstN (L.getD i [])) : Int)]) (.agg #[.int .i64 0, .int .i64 0, .int .i64 0]) 3 24 (i + 1) ((rsL L (f + k0) (i + 1))) zo Tryz.underlying78 (by kernel_rfl) rfl (by decide) zx hup'2 zy (n8.blk.sl 1 1 (by decide) (by decide)) rfl (by simp [Value.oneCell']) (by unfold maxLen; omega) (by omega) hB'4.size (by rfl) (by rw [rsL_succ]; rfl) fun px9 cx9 W9 o9 hg9 hb9 => ?_
   refine zK _ _ ?_
   refine xwm 6 ((↑i : Int) + 1) (↑(i + 1) : Int) ?_
   have hB'5 := hB'4.trans (hb9.mono hBw)
   have hO'2 := (Only.grown_new (((Only.upd_new ((hO'1.trans hO4).trans (Only.of_below n5.below)) u6 g5).trans (Only.of_below hb7)).trans (Only.of_below n8.below)) hg9 hup'2)
   have hR'2 := ((((hR.below n5.below).only (Only.of_upd (T := [31]) u6 n5.blk (by decide)) (by decide)).below hb7).below n8.below).only (Only.of_grown (T := [66]) hg9 hup'2 (by decide)) (by decide)
   have hJ'2 := ((((hJ.below n5.below).only (Only.of_upd (T := [31]) u6 n5.blk (by decide)) (by decide)).below hb7).below n8.below).only (Only.of_grown (T := [66]) hg9 hup'2 (by decide)) (by decide)
   have hL'2 := ((hL'1.below hb7).below n8.below).only (Only.of_grown (T := [66]) hg9 hup'2 (by decide)) (by decide)
   exact ze 2 (hJ1 _ _ _ ⟨i + 1, _, _, _, _, _, rfl, rfl, hB'5, hO'2, hR'2, hJ'2, hL'2, o9, by omega⟩ (by omega))
 refine xe 12 (.slice p5 i c5) ?_
 obtain rfl : i = L.length := by omega
 exact ⟨_, _, _, _, _, rfl, hB_1, hO_1, hR, hJ, hup⟩
end Go.Proofs.YtcjpomibhbakdaaGreatDoor
namespace Go.Proofs.YtcjpomibhbakdaaGreatDoor
open Go.RowKit
set_option linter.unusedVariables false
theorem rows_in {n : Nat} {P : Program} {row : String} {args : Array Value} {w : World} {R : Value → World → Prop} (h : Rows P row args w R) : RowsIn Fence.wide n P row args w R :=
  fun c cs _ => let ⟨v, w', r, q⟩ := h c cs; ⟨v, w', r, stepsIn_wide.2 q⟩
theorem oper_in {P : Program} {l n : Nat} {o : Oper} {a : Act} {w : World} {K : Act → World → Prop} {Q : Exit → Act → World → Prop} (hd : ∀ c, o.op ≠ .defer c) (h : o.wp P a w K Q) : o.wpIn (Fence.wide.inRound l) n P a w K Q := by
  unfold Oper.wpIn
  refine ⟨fun f _ => trivial, ?_⟩
  rw [Oper.semAt_plain _ _ _ hd]
  unfold Oper.wp at h
  generalize (execOp a.eval o).run P w = r at *
  cases r with
  | ok nx w' =>
    cases nx with
    | value v => exact h
    | skip => exact h
    | defer d => exact h
    | enter f args => exact ⟨(fun q => by cases q), callsIn_wide.2 h⟩
    | row r args => exact ⟨(fun q => by cases q), rows_in h⟩
    | _ => exact h.elim
  | halt hh w' =>
    cases hh with
    | panic v => exact h
    | _ => exact h.elim
theorem op_in {P : Program} {l n i : Nat} {ops : Array Oper} {a : Act} {w : World} {K K' : Act → World → Prop} {Q : Exit → Act → World → Prop} (hQ : ¬ LetsOut Q) (hd : ∀ o ∈ ops.toList, ∀ c, o.op ≠ .defer c) (hK : ∀ a w, K a w → K' a w) (h : wpOp P ops Q i K a w) : wpOpIn (Fence.wide.inRound l) n P ops Q i K' a w := by
  unfold wpOp at h
  unfold wpOpIn
  cases ho : ops[i]? with
  | none => rw [ho] at h; exact hK _ _ h
  | some o =>
    rw [ho] at h
    dsimp only at h ⊢
    split at h
    · rename_i hw
      rw [if_pos hw]
      have ho' : o ∈ ops.toList := by
        obtain ⟨hi, e⟩ := Array.getElem?_eq_some_iff.1 ho
        rw [← e]; exact Array.mem_toList_iff.2 (Array.getElem_mem hi)
      exact Oper.wpIn_mono hK (oper_in (hd o ho') (h.resolve_right fun q => hQ q.2))
    · rename_i hw
      rw [if_neg hw]
      exact ⟨fun f _ => trivial, hK _ _ h⟩
theorem any_in {P : Program} {l n : Nat} {md : Region.Mode} {ops : Array Oper} {Q : Exit → Act → World → Prop} (hQ : ¬ LetsOut Q) (hd : ∀ o ∈ ops.toList, ∀ c, o.op ≠ .defer c) : ∀ (fuel : Nat) (L : Array Bool) (a : Act) (w : World), wpAny P md ops Q fuel L a w → wpAnyIn (Fence.wide.inRound l) n P md ops Q fuel L a w
  | 0, _, _, _, h => h
  | fuel + 1, L, a, w, h => ⟨h.1, fun i hi => op_in hQ hd (fun a w => any_in hQ hd fuel _ a w) (h.2 i hi)⟩
/-- the region, by the walk of any place -/
theorem h_regIn {P : Program} {l0 n0 id : Nat} {l : List Oper} {Q : Exit → Act → World → Prop} {a : Act} {w : World} (S : World → Prop) (n : Nat) (hn : l.toArray.size = n) (L : Array Bool) (hL : Array.replicate n false = L) (hm : P.follows .mixedOrders = true) (hQ : ¬ LetsOut Q) (hd : ∀ o ∈ l, ∀ c, o.op ≠ .defer c) (hS : S w.drew) (h : S w.drew → wpAnyH P .any l.toArray Q S n L a w.drew) : (Code.region id l.toArray true).wpIn (Fence.wide.inRound l0) n0 P Q a w :=
  wpIn_region_any hm (any_in hQ (by simpa using hd) _ _ _ _ (wpAny_of_held _ _ _ _ (by rw [hn, hL]; exact h hS)))
end Go.Proofs.YtcjpomibhbakdaaGreatDoor
namespace Go.Proofs.YtcjpomibhbakdaaGreatDoor
open Go.RowKit
set_option linter.unusedVariables false

def hasB (lo hi k : Int) : Bool := decide (lo ≤ k ∧ k < hi)
def rightB (lo hi : Int) : Bool := decide (0 ≤ lo ∧ lo ≤ hi ∧ hi ≤ 281474976710656)
def SortP (l : List Int) : Prop := ∀ k, k < l.length → 1 ≤ k → l[k-1]?.getD 0 < l[k]?.getD 0
instance (l : List Int) : Decidable (SortP l) := by unfold SortP; infer_instance
def fitsI (lo hi : Int) (l : List Int) : Int :=
  if rightB lo hi then if SortP l then if ∀ k ∈ l, lo ≤ k ∧ k < hi then 0 else 9 else 8 else 1
@[go_sem] def spanV (lo hi : Int) : Value := .agg #[.int .i64 lo, .int .i64 hi]

theorem SortP.lt {l : List Int} (h : SortP l) : ∀ (j i : Nat), i < j → j < l.length → l[i]?.getD 0 < l[j]?.getD 0 := by
  intro j
  induction j with
  | zero => intro i h1; omega
  | succ j ih =>
    intro i h1 h2
    have h3 := h (j + 1) h2 (by omega)
    simp only [Nat.add_sub_cancel] at h3
    by_cases hij : i = j
    · subst hij; exact h3
    · exact Int.lt_trans (ih i (by omega) (by omega)) h3
theorem SortP.one (l : List Int) : SortP (l.take 1) := by
  intro k h1 h2; simp at h1; omega
theorem SortP.succ {l : List Int} {k : Nat} {x y : Int} (h : SortP (l.take k)) (hx : l[k-1]? = some x) (hy : l[k]? = some y) (hxy : x < y) : SortP (l.take (k + 1)) := by
  intro j h1 h2
  have hjk : j < k + 1 := by simp at h1; omega
  rw [List.getElem?_take, List.getElem?_take, if_pos (by omega), if_pos hjk]
  by_cases hj : j = k
  · subst hj; rw [hx, hy]; exact hxy
  · have := h j (by simp at h1 ⊢; omega) h2
    rw [List.getElem?_take, List.getElem?_take, if_pos (by omega), if_pos (by omega)] at this
    exact this
theorem fits_right {lo hi : Int} {l : List Int} (h : rightB lo hi = false) : fitsI lo hi l = 1 := by simp [fitsI, h]
theorem fits_order {lo hi : Int} {l : List Int} {k : Nat} {x y : Int} (h : rightB lo hi = true) (hk : 1 ≤ k) (hx : l[k-1]? = some x) (hy : l[k]? = some y) (hxy : y ≤ x) : fitsI lo hi l = 8 := by
  have hn : ¬ SortP l := fun hs => by
    have hlt : k < l.length := by rcases List.getElem?_eq_some_iff.1 hy with ⟨h, _⟩; exact h
    have := hs k hlt hk
    rw [hx, hy] at this
    simp at this; omega
  simp [fitsI, h, hn]
theorem fits_nil {lo hi : Int} (h : rightB lo hi = true) : fitsI lo hi [] = 0 := by
  have hs : SortP [] := fun k h1 => by simp at h1
  simp [fitsI, h, hs]
theorem SortP.all {l : List Int} {k : Nat} (h : SortP (l.take k)) (hk : l.length ≤ k) : SortP l := by rwa [List.take_of_length_le hk] at h
theorem hasB_iff {lo hi k : Int} : hasB lo hi k = true ↔ lo ≤ k ∧ k < hi := by simp [hasB]
theorem fits_in {lo hi : Int} {l : List Int} {x y : Int} (h : rightB lo hi = true) (hs : SortP l) (hx : l[0]? = some x) (hy : l[l.length - 1]? = some y) (ha : hasB lo hi x = true) (hb : hasB lo hi y = true) : fitsI lo hi l = 0 := by
  have hall : ∀ k ∈ l, lo ≤ k ∧ k < hi := by
    intro k hk
    obtain ⟨i, hi', rfl⟩ := List.mem_iff_getElem.1 hk
    rw [hasB_iff] at ha hb
    have e : l[i]? = some l[i] := by simp
    have h1 : x ≤ l[i] := by
      by_cases h0 : i = 0
      · subst h0; rw [hx] at e; injection e with e; omega
      · have := hs.lt i 0 (by omega) hi'
        rw [hx, e] at this; simp at this; omega
    have h2 : l[i] ≤ y := by
      by_cases h0 : i = l.length - 1
      · subst h0; rw [hy] at e; injection e with e; omega
      · have := hs.lt (l.length - 1) i (by omega) (by omega)
        rw [hy, e] at this; simp at this; omega
    omega
  simp only [fitsI, h, if_true, hs]
  rw [if_pos hall]
theorem fits_out {lo hi : Int} {l : List Int} {i : Nat} {x : Int} (h : rightB lo hi = true) (hs : SortP l) (hx : l[i]? = some x) (ha : hasB lo hi x = false) : fitsI lo hi l = 9 := by
  have hn : ¬ ∀ k ∈ l, lo ≤ k ∧ k < hi := fun hall => by
    have := hasB_iff.2 (hall x (List.mem_of_getElem? hx))
    rw [ha] at this; cases this
  simp only [fitsI, h, if_true, hs]
  rw [if_neg hn]

end Go.Proofs.YtcjpomibhbakdaaGreatDoor
namespace Go.Proofs.YtcjpomibhbakdaaGreatDoor
open Go.RowKit
set_option linter.unusedVariables false
attribute [local go_sem] Oper.semAt_some

/-- the children's spans -/
def partAt (hi : Int) (l : List Int) (i : Nat) : Int × Int := (l[i]?.getD 0, l[i+1]?.getD hi)
/-- what comes as number j: the child's number -/
def qOf {n : Nat} (j : Fin n) : Nat := n - 1 - j.val
def encE (hi : Int) (l : List Int) (j : Fin l.length) : Array Value := #[.int .i64 (qOf j : Int), spanV (partAt hi l (qOf j)).1 (partAt hi l (qOf j)).2]
theorem fin_take_succ {n k : Nat} (h : k < n) : (List.finRange n).take (k + 1) = (List.finRange n).take k ++ [⟨k, h⟩] := by
  rw [List.take_succ_eq_append_getElem (by simpa using h)]; simp
theorem fin_take_all (n : Nat) : (List.finRange n).take n = List.finRange n := List.take_of_length_le (by simp)
theorem fin_take_length {n k : Nat} (h : k ≤ n) : ((List.finRange n).take k).length = k := by simp [h]

end Go.Proofs.YtcjpomibhbakdaaGreatDoor
namespace Go.Proofs.YtcjpomibhbakdaaGreatDoor
open Go.RowKit
set_option linter.unusedVariables false
attribute [local go_sem] Oper.semAt_some
def encK (b off n : Nat) (j : Fin (bmN n)) : Array Value := #[.slice (some ⟨b, off + j.val * 960, none⟩) (min 960 (n - j.val * 960)) (min 960 (n - j.val * 960))]
set_option maxRecDepth 100000 in
set_option maxHeartbeats 2000000 in
theorem chunk1_in (l B1 B2 : Nat) (p : Nat → Prop) (b off n cap : Nat) (hlen : n ≤ 1000000) (hcap : n ≤ cap) (hB1 : p B1) (hB2 : p B2) (J Jx : List (Fin (bmN n)) → World → Prop)
    (hY : ∀ pre x W, J pre W → pre.length < bmN n → YieldAt Fence.wide 2 Tryz.prog l (encK b off n x) W fun e W' =>
      (e = .returned (.bool true) ∧ J (pre ++ [x]) W' ∧ Keeps p W W') ∨ (e = .returned (.bool false) ∧ Jx (pre ++ [x]) W'))
    (W : World) (hck : W.cell? ⟨B1, 0, none⟩ = some (.slice (some ⟨b, off, none⟩) n cap)) (hcn : W.cell? ⟨B2, 0, none⟩ = some (.int .i64 960)) (hJa : AbidesFrom W.heap.size J) (h0 : J [] W) :
    CallsIn Fence.wide 3 Tryz.prog 85 #[.func (.yield l) #[] #[], .pointer (some ⟨B1, 0, none⟩), .pointer (some ⟨B2, 0, none⟩)] W fun e W' => (∃ v, e = .returned v) ∧
      ((∃ ys, ys = List.finRange (bmN n) ∧ J ys W') ∨ (∃ pre, (∃ k, k ≤ bmN n ∧ pre = (List.finRange (bmN n)).take k) ∧ Jx pre W')) := by
  refine callsIn_of_wp Tryz.func85 rfl trivial ?_ rfl
  simp only [Tryz.ntmps85, List.size_toArray, List.length_cons, List.length_nil, Nat.reduceAdd, Nat.reduceSub, Array.replicate_succ, Array.replicate_zero, List.push_toArray, List.append_toArray, List.nil_append, List.cons_append]
  gi_wp2
  gi_loopw [4] (fun i wr => ∃ k : Nat, k ≤ bmN n ∧ i = .int .i64 ((k * 960 : Nat) : Int) ∧ J ((List.finRange (bmN n)).take k) wr ∧ Keeps p W wr)
    (fun i _ => (n - (intOf i)).toNat)
  case atStart => exact ⟨0, Nat.zero_le _, by simp, h0, Keeps.refl _ _⟩
  case round =>
    obtain ⟨k, hk, rfl, hJs, hnx⟩ := hrel
    have hck' := (hnx.cell (a := ⟨B1, 0, none⟩) hB1).trans hck
    have hcn' := (hnx.cell (a := ⟨B2, 0, none⟩) hB2).trans hcn
    by_cases hlt : k < bmN n
    · have hkn := bmN_lt hlt
      gi_wp2
      gi_big_quiet_th (fail)
      obtain ⟨fn, tmps, assign, body, hy, hR⟩ := hY _ ⟨k, hlt⟩ (wr.drewN nq) (hJa _ wr _ none hJs ⟨rfl, rfl, rfl, Nat.le_refl _, fun _ _ _ => rfl⟩ (fun _ e => by cases e)) (by rw [fin_take_length hk]; exact hlt)
      have hE : encK b off n ⟨k, hlt⟩ = #[.slice (some ⟨b, off + k * 960, none⟩) (min 960 (n - k * 960)) (min 960 (n - k * 960))] := rfl
      rw [hE] at hy
      have HE := Lib.hid hE; clear hE
      rw [show (if ((n - k * 960 : Nat) : Int) < 960 then ((n - k * 960 : Nat) : Int) else 960) = ((min 960 (n - k * 960) : Nat) : Int) from by split <;> omega]
      obtain ⟨m, hm⟩ : ∃ m, min 960 (n - k * 960) = m := ⟨_, rfl⟩
      rw [hm] at hy ⊢
      have hm1 : k * 960 + m ≤ n := by omega
      have hm2 : k * 960 + m ≤ cap := by omega
      have hm3 : k * 960 + m - k * 960 = m := by omega
      gi_wp2
      refine hR.mono ?_
      rintro e W3 (⟨rfl, hJ3, hk3⟩ | ⟨rfl, hJx3⟩)
      · have hcn3 : W3.cell? ⟨B2, 0, none⟩ = some (.int .i64 960) := (hk3.cell (a := ⟨B2, 0, none⟩) hB2).trans hcn'
        gi_wp2
        go_roundw
        case rel =>
          refine ⟨k + 1, by omega, ?_, by rw [fin_take_succ hlt]; exact hJ3, (hnx.trans (show Keeps p wr (wr.drewN nq) from ⟨Nat.le_refl _, fun _ _ => rfl⟩)).trans hk3⟩
          exact congrArg (Value.int .i64) (by omega)
        case measure => simp only [intOf]; omega
      · gi_wp2
        refine bodyPost_ret (results_none rfl _ _ _) rfl ?_
        exact ⟨⟨_, rfl⟩, .inr ⟨_, ⟨k + 1, by omega, by rw [fin_take_succ hlt]⟩, hJx3⟩⟩
    · obtain rfl : k = bmN n := by omega
      have hdn := bmN_done (n := n) rfl
      have hdi : ¬ (((bmN n * 960 : Nat) : Int) < (n : Int)) := by omega
      rw [fin_take_all] at hJs
      have HJ := Lib.hid hJs; clear hJs
      gi_wp2
      go_end0
      exact ⟨⟨_, rfl⟩, .inl HJ.out⟩
set_option maxRecDepth 100000 in
set_option maxHeartbeats 1000000 in
theorem chunk1_nil_in {α : Type} (l B1 B2 : Nat) (J : List α → World → Prop) (W : World) {a0 : Option Addr} {c0 : Nat} (hck : W.cell? ⟨B1, 0, none⟩ = some (.slice a0 0 c0)) (h0 : J [] W) :
    CallsIn Fence.wide 3 Tryz.prog 85 #[.func (.yield l) #[] #[], .pointer (some ⟨B1, 0, none⟩), .pointer (some ⟨B2, 0, none⟩)] W fun e W' => (∃ v, e = .returned v) ∧ J [] W' := by
  refine callsIn_of_wp Tryz.func85 rfl trivial ?_ rfl
  simp only [Tryz.ntmps85, List.size_toArray, List.length_cons, List.length_nil, Nat.reduceAdd, Nat.reduceSub, Array.replicate_succ, Array.replicate_zero, List.push_toArray, List.append_toArray, List.nil_append, List.cons_append]
  gi_wp2
  gi_loopw [4] (fun i wr => i = .int .i64 0 ∧ J [] wr ∧ wr.cell? ⟨B1, 0, none⟩ = some (.slice a0 0 c0)) (fun _ _ => 0)
  case atStart => exact ⟨rfl, h0, hck⟩
  case round =>
    obtain ⟨rfl, hJs, hcr⟩ := hrel
    have HJ := Lib.hid hJs; clear hJs
    gi_wp2
    go_end0
    exact ⟨⟨_, rfl⟩, HJ.out⟩
theorem chunk_stops (B1 B2 : Nat) (p : Nat → Prop) (b off n cap : Nat) (v : Value) (w : World) (hp : ∀ b, p b → b < w.heap.size) (h1 : p B1) (h2 : p B2) (hlen : n ≤ 1000000) (hv : (n = 0 ∧ ∃ a c, v = .slice a 0 c) ∨ v = .slice (some ⟨b, off, none⟩) n cap ∧ n ≤ cap) (hck : w.cell? ⟨B1, 0, none⟩ = some v) (hcn : w.cell? ⟨B2, 0, none⟩ = some (.int .i64 960)) :
    SeqStopsK Fence.wide 3 Tryz.prog 85 #[.pointer (some ⟨B1, 0, none⟩), .pointer (some ⟨B2, 0, none⟩)] (encK b off n) (Keeps p)
      (fun ys => ys = List.finRange (bmN n)) (fun pre => ∃ k, k ≤ bmN n ∧ pre = (List.finRange (bmN n)).take k) (bmN n) w := fun l J Jx W hW hJa _ hY h0 => by
  have hck' := getC hW hck
  have hcn' := getC hW hcn
  rcases hv with ⟨rfl, a, c, rfl⟩ | ⟨rfl, hcap⟩
  · exact (chunk1_nil_in l B1 B2 J W hck' h0).mono fun e W' ⟨he, hj⟩ => ⟨he, .inl ⟨_, rfl, hj⟩⟩
  · exact chunk1_in l B1 B2 p b off n cap hlen hcap h1 h2 J Jx hY W hck' hcn' hJa h0
end Go.Proofs.YtcjpomibhbakdaaGreatDoor
namespace Go.Proofs.YtcjpomibhbakdaaGreatDoor
open Go.RowKit Go.Extern.Stop Go.Stop Go.Extern
set_option linter.unusedVariables false
attribute [local irreducible] wpList wpAnyH Code.wp Oper.wp Go

set_option maxRecDepth 100000 in
set_option maxHeartbeats 1000000 in
theorem slices_Chunk (p : Option Addr) (n c : Nat) (w : World) :
    Calls Tryz.prog 54 #[.slice p n c, .int .i64 960] w (fun e w' => ∃ b1 b2, e = .returned (.func (.func 85) #[] #[.pointer (some ⟨b1, 0, none⟩), .pointer (some ⟨b2, 0, none⟩)]) ∧ Below w.heap.size w w' ∧ w.heap.size ≤ b1 ∧ w.heap.size ≤ b2 ∧ b1 ≠ b2 ∧ Blk w' b1 [.slice p n c] 22 ∧ Blk w' b2 [.int .i64 960] 3) := by
 refine zin 9 Tryz.func54 ?_
 refine xa 2 [.slice p n c] 22 fun b1 W1 n1 => ?_
 refine xa 0 [.int .i64 960] 3 fun b2 W2 n2 => ?_
 refine xb 6 0 n2.blk ?_
 have k1 := n1.blk.below n2.below
 have hB := Bl.next n1.below n2.below
 have g1 := n1.ge (Below.refl w.heap.size _)
 have g2 := n2.ge n1.below
 exact xe 13 (.func (.func 85) #[] #[.pointer (some ⟨b1, 0, none⟩), .pointer (some ⟨b2, 0, none⟩)]) ⟨_, _, rfl, hB, g1, g2, (Blk.tne k1 n2.blk (by decide)), k1, n2.blk⟩
end Go.Proofs.YtcjpomibhbakdaaGreatDoor
namespace Go.Proofs.YtcjpomibhbakdaaGreatDoor
open Go.RowKit
set_option linter.unusedVariables false
attribute [local go_sem] Oper.semAt_some
def encB (l : List Int) (j : Fin l.length) : Array Value := #[.int .i64 (qOf j : Int), .int .i64 (l[qOf j]?.getD 0)]
end Go.Proofs.YtcjpomibhbakdaaGreatDoor
namespace Go.Proofs.YtcjpomibhbakdaaGreatDoor
open Go.RowKit Go.Extern.Stop Go.Stop Go.Extern
set_option linter.unusedVariables false
attribute [local irreducible] wpList wpAnyH Code.wp Oper.wp Go

/-- a node, asked as a tree's: the error's number -/
def nodeTE (l : List UInt8) (tree : Int) : Int := if nodeE l = 0 then (if tree = 0 ∨ nodT l = tree then 0 else 6) else nodeE l
/-- what package block has for a node -/
def nodeErr (l : List UInt8) (no tree : Int) : Int := if inE l 2 no = 0 then nodeTE (inB l no) tree else inE l 2 no
def nodeV (l : List UInt8) (kp vp : Option Addr) (kc vc : Nat) : Value := .agg #[.int .i64 (nodT l), .bool (nodL l), .slice kp (nodC l) kc, .slice vp (nodC l) vc]
def Node1P (l : List UInt8) (tree : Int) (w : World) (e : Ending) (w' : World) : Prop :=
  (nodeTE l tree ≠ 0 ∧ ∃ a b kp n1 kc vp n2 vc, e = .returned (.tuple #[.agg #[.int .i64 a, .bool b, .slice kp n1 kc, .slice vp n2 vc], .int .i64 (nodeTE l tree)]) ∧ Below w.heap.size w w') ∨
  (nodeTE l tree = 0 ∧ ∃ kp kc vp vc, e = .returned (.tuple #[.agg #[.int .i64 (nodT l), .bool (nodL l), .slice kp (nodC l) kc, .slice vp (nodC l) vc], .int .i64 0]) ∧ Below w.heap.size w w' ∧
    w'.ownsRow w.heap.size 3 1 (.slice kp (nodC l) kc) (nodC l) ((keysI l (nodC l)).map (Value.int .i64)) ∧ w'.ownsRow w.heap.size 9 1 (.slice vp (nodC l) vc) (nodC l) ((valsL l (nodC l)).map sv))
def BlkNodeP (l : List UInt8) (no tree : Int) (w : World) (e : Ending) (w' : World) : Prop :=
  (nodeErr l no tree ≠ 0 ∧ ∃ b, e = .returned (.tuple #[.agg #[.int .i64 0, .bool false, .slice none 0 0, .slice none 0 0], .iface 135 (.pointer (some ⟨b, 0, none⟩))]) ∧ Below w.heap.size w w' ∧ ErrV w' [some no] (some (nodeErr l no tree)) (.iface 135 (.pointer (some ⟨b, 0, none⟩)))) ∨
  (nodeErr l no tree = 0 ∧ ∃ kp kc vp vc, e = .returned (.tuple #[.agg #[.int .i64 (nodT (inB l no)), .bool (nodL (inB l no)), .slice kp (nodC (inB l no)) kc, .slice vp (nodC (inB l no)) vc], .nilIface]) ∧ Below w.heap.size w w' ∧
    w'.ownsRow w.heap.size 3 1 (.slice kp (nodC (inB l no)) kc) (nodC (inB l no)) ((keysI (inB l no) (nodC (inB l no))).map (Value.int .i64)) ∧ w'.ownsRow w.heap.size 9 1 (.slice vp (nodC (inB l no)) vc) (nodC (inB l no)) ((valsL (inB l no) (nodC (inB l no))).map sv))
end Go.Proofs.YtcjpomibhbakdaaGreatDoor
namespace Go.Proofs.YtcjpomibhbakdaaGreatDoor
open Go.RowKit Go.Extern.Stop Go.Stop Go.Extern
set_option linter.unusedVariables false
attribute [local irreducible] wpList wpAnyH Code.wp Oper.wp Go

end Go.Proofs.YtcjpomibhbakdaaGreatDoor
namespace Go.Proofs.YtcjpomibhbakdaaGreatDoor
open Go.RowKit Go.Extern.Stop Go.Stop Go.Extern
set_option linter.unusedVariables false
attribute [local irreducible] wpList wpAnyH Code.wp Oper.wp Go

attribute [local go_sem] Oper.semAt_some
theorem Upd.of_put (w : World) (D : Nat) (o : Obj) : Upd w D (w.putObj D o) := ⟨rfl, rfl, rfl, by simp [World.putObj], fun k hk => World.putObj_heap_other hk⟩
/-- a record of deferred calls at block D -/
def Dfr (D : Nat) (w : World) : Prop := w.heap[D]? = some (.deferred (some []))
theorem Dfr.below {D : Nat} {w W : World} (h : Dfr D w) (hb : Below w.heap.size w W) : Dfr D W := (hb.block D (Array.getElem?_eq_some_iff.1 h).1).trans h
theorem Dfr.ne {D b : Nat} {w : World} {cs : List Value} {t : TypeId} (h : Dfr D w) (k : Blk w b cs t) : b ≠ D := by
  rintro rfl
  have h' : w.heap[b]? = _ := h
  rw [show w.heap[b]? = _ from k] at h'
  cases h'
theorem Dfr.upd {D b : Nat} {w W : World} {cs : List Value} {t : TypeId} (h : Dfr D w) (u : Upd w b W) (k : Blk w b cs t) : Dfr D W := (u.block D fun e => h.ne k e.symm).trans h
theorem Dfr.row {D : Nat} {w : World} {base e size n : Nat} {v : Value} {xs : List Value} (h : Dfr D w) (k : w.ownsRow base e size v n xs) : ∀ g, v.ownBlock = some g → g ≠ D := by
  rintro g hg rfl
  rcases k.2 with ⟨rfl, _⟩ | ⟨g', cap, cur, rfl, _, hh, _⟩
  · cases hg
  · simp only [Value.ownBlock, Option.some.injEq] at hg
    subst hg
    rw [show w.heap[g']? = _ from h] at hh
    cases hh
theorem Dfr.grown {D : Nat} {w W : World} {base e size n : Nat} {v : Value} {xs : List Value} (h : Dfr D w) (hg : w.grownBy W v.ownBlock) (k : w.ownsRow base e size v n xs) : Dfr D W :=
  (hg.block D (Array.getElem?_eq_some_iff.1 h).1 fun q => h.row k D q.symm rfl).trans h
theorem g_endM {P : Program} {fn : Func} {R : Ending → World → Prop} {a : Act} {w : World} {D : Nat} (hK : Dfr D w) (v : Value) (hd : a.defers = [{ target := .collected D, args := #[] }]) (hr : (results fn a.tmps).run P (w.putObj D (.deferred none)) = .ok v (w.putObj D (.deferred none))) (h : R (.returned v) (w.putObj D (.deferred none))) : bodyPostM Fence.wide 4 P fn R .normal a w :=
  by
  show LeavesInM _ _ _ _ a.tmps R a.defers .returning w
  rw [hd]
  exact ⟨by simp, .inl ⟨_, _, rfl, run_takeDeferred hK, _, hr, h⟩⟩
def noPan (Q : Exit → Act → World → Prop) : Exit → Act → World → Prop
  | .normal, a, w => Q .normal a w
  | .ret, a, w => Q .ret a w
  | _, _, _ => False
theorem g_nopan {P : Program} {c : Code} {Q : Exit → Act → World → Prop} {a : Act} {w : World} (h : c.wp P (noPan Q) a w) : c.wp P Q a w := wp_mono h fun e a w q => by cases e <;> first | exact q | exact q.elim
theorem own_ty_ne {w : World} {base size n b : Nat} {e t : TypeId} {v : Value} {xs cs : List Value} (k : w.ownsRow base e size v n xs) (q : Blk w b cs t) (hne : e ≠ t) : ∀ g, v.ownBlock = some g → g ≠ b := by
  rintro g hg rfl
  rcases k.2 with ⟨rfl, _⟩ | ⟨g', cap, cur, rfl, _, hh, _⟩
  · cases hg
  · simp only [Value.ownBlock, Option.some.injEq] at hg
    subst hg
    rw [show w.heap[g']? = _ from q] at hh
    simp only [Option.some.injEq, Obj.cells.injEq] at hh
    exact hne hh.2.1.symm
theorem keepsO_below {w W : World} (h : Below w.heap.size w W) : KeepsOthers w W := ⟨h.size, fun b o hb _ => (h.block b (Array.getElem?_eq_some_iff.1 hb).1).trans hb⟩
theorem keepsO_upd {w W : World} {b : Nat} {cs : List Value} {t : TypeId} (u : Upd w b W) (k : Blk w b cs t) : KeepsOthers w W := ⟨Nat.le_of_eq u.size.symm, fun d o hd ho => (u.block d (by rintro rfl; rw [show w.heap[d]? = _ from k] at hd; cases hd; cases ho)).trans hd⟩
theorem Dfr.only_new {T : List TypeId} {a w W : World} {b : Nat} (h : Only T a w) (hbb : BelowBut w b W) (hb : a.heap.size ≤ b) : Only T a W := fun k cs t fr hk ht => by
  have h0 := (Array.getElem?_eq_some_iff.1 hk).1
  have h1 := h k cs t fr hk ht
  rw [hbb.block k (Array.getElem?_eq_some_iff.1 h1).1 (by omega)]; exact h1
theorem BelowBut.own3 {w W : World} {b base size n : Nat} {e : TypeId} {v : Value} {xs : List Value} (h : BelowBut w b W) (k : w.ownsRow base e size v n xs) (hs : ∀ j, v.ownBlock = some j → j ≠ b) : W.ownsRow base e size v n xs := by
  obtain ⟨h1, h2⟩ := k
  refine ⟨h1, ?_⟩
  rcases h2 with h2 | ⟨g, cap, cur, rfl, hg, hh, r⟩
  · exact Or.inl h2
  · exact Or.inr ⟨g, cap, cur, rfl, hg, by rw [h.block g (Array.getElem?_eq_some_iff.1 hh).1 (hs g rfl)]; exact hh, r⟩
theorem ownFrom_but {β : Type} {w : World} {b B : Nat} (hB : w.heap.size ≤ B) : OwnFrom B (fun (_ : β) W => BelowBut w b W) := fun _ W W' row hs hg hr =>
  ⟨hg.os.trans hs.os, hg.tape.trans hs.tape, hg.output.trans hs.output, Nat.le_trans hs.size hg.size, fun k hk hne => (hg.block k (Nat.lt_of_lt_of_le hk hs.size) (fun e => by have := (hr k e.symm).1; omega)).trans (hs.block k hk hne)⟩
theorem ErrV.turn {A B : World} {row : Option Nat} {l : List (Option Int)} {c : Option Int} {v : Value} (h : ErrV A l c v) (hg : A.grownBy B row) (hr : ∀ r, row = some r → ∃ o : Obj, A.heap[r]? = some o ∧ o.isCells = false) : ErrV B l c v := h.kept fun _ _ k => k.turn hg hr
/-- the blocks of the way, seen from below -/
def atW (way : List Int) (pre : List (Fin way.length)) (bs : List Int) : List Int := (pre.map fun j => way[qOf j]?.getD 0).reverse ++ bs
theorem atW_snoc (way : List Int) (pre : List (Fin way.length)) (x : Fin way.length) (bs : List Int) : atW way (pre ++ [x]) bs = (way[qOf x]?.getD 0) :: atW way pre bs := by simp [atW]
theorem atW_all (way bs : List Int) : atW way (List.finRange way.length) bs = way ++ bs := by
  unfold atW
  congr 1
  apply List.ext_getElem
  · simp
  · intro i h1 h2
    simp only [List.length_reverse, List.length_map, List.length_finRange] at h1
    rw [List.getElem_reverse, List.getElem_map]
    simp only [List.length_map, List.length_finRange, List.getElem_finRange, qOf]
    have e : way.length - 1 - (way.length - 1 - i) = i := by omega
    simp [e, h2]
theorem ErrV.one {w : World} {l : List (Option Int)} {c : Option Int} {v : Value} (h : ErrV w l c v) : v.oneCell' = true := by
  rcases h.nil_or with ⟨_, rfl⟩ | ⟨_, t, x, rfl⟩ <;> rfl
theorem ErrV.iface {w : World} {l : List (Option Int)} {c : Int} {v : Value} (h : ErrV w l (some c) v) : ∃ t x, v = .iface t x := by
  rcases h.nil_or with ⟨q, _⟩ | ⟨_, q⟩
  · simp [noErr] at q
  · exact q
theorem atL_some {b c : Int} {l : List (Option Int)} : atL b l (some c) = some b :: l := by simp [atL, noErr]
theorem one_one {v : Value} (h : v.oneCell' = true) : ∀ u ∈ [v], u.oneCell' = true := by simpa using h
end Go.Proofs.YtcjpomibhbakdaaGreatDoor
namespace Go.Proofs.YtcjpomibhbakdaaGreatDoor
open Go.RowKit
set_option linter.unusedVariables false
theorem own_turn {A B : World} {row : Option Nat} {base size n : Nat} {e : TypeId} {v : Value} {xs : List Value} (k : A.ownsRow base e size v n xs) (hg : A.grownBy B row) (hr : ∀ r, row = some r → ∃ o : Obj, A.heap[r]? = some o ∧ o.isCells = false) : B.ownsRow base e size v n xs := by
  obtain ⟨h1, h2⟩ := k
  refine ⟨h1, ?_⟩
  rcases h2 with h2 | ⟨g, cap, cur, hv, hb, hh, r⟩
  · exact Or.inl h2
  · refine Or.inr ⟨g, cap, cur, hv, hb, ?_, r⟩
    rw [hg.block g (Array.getElem?_eq_some_iff.1 hh).1 (fun q => by
      obtain ⟨o, ho, hc⟩ := hr g q.symm
      rw [hh] at ho
      cases ho
      cases hc)]
    exact hh
theorem Lists.turn {A B : World} {row : Option Nat} {base : Nat} {v : Value} {gs : List (Nat × Nat)} {L : List (List Int)} (h : Lists A base v gs L) (hg : A.grownBy B row) (hr : ∀ r, row = some r → ∃ o : Obj, A.heap[r]? = some o ∧ o.isCells = false) : Lists B base v gs L := ⟨own_turn h.row hg hr, fun i hi => own_turn (h.each i hi) hg hr⟩
/-- from the world w0 the worlds ahead of a round differ in block b alone; and what the round keeps -/
structure RdZ (w0 : World) (b : Nat) (W V : World) : Prop where
  bb : BelowBut w0 b V
  ko : KeepsOthers W V
  fr : ∀ k, k < w0.heap.size → k ≠ b → V.heap[k]? = W.heap[k]?
  le : W.heap.size ≤ V.heap.size
theorem RdZ.refl {w0 W : World} {b : Nat} (h : BelowBut w0 b W) : RdZ w0 b W W := ⟨h, ⟨Nat.le_refl _, fun _ _ h _ => h⟩, fun _ _ _ => rfl, Nat.le_refl _⟩
theorem RdZ.below {w0 W V U : World} {b : Nat} (h : RdZ w0 b W V) (hb : Below V.heap.size V U) : RdZ w0 b W U :=
  ⟨h.bb.next hb, h.ko.trans (keepsO_below hb), fun k hk hn => (hb.block k (Nat.lt_of_lt_of_le hk h.bb.size)).trans (h.fr k hk hn), Nat.le_trans h.le hb.size⟩
theorem RdZ.upd {w0 W V U : World} {b : Nat} {cs : List Value} {t : TypeId} (h : RdZ w0 b W V) (u : Upd V b U) (k : Blk V b cs t) : RdZ w0 b W U :=
  ⟨h.bb.upd u, h.ko.trans (keepsO_upd u k), fun k hk hn => (u.block k hn).trans (h.fr k hk hn), Nat.le_trans h.le (Nat.le_of_eq u.size.symm)⟩
theorem RdZ.grown {w0 W V U : World} {b size n : Nat} {e : TypeId} {v : Value} {xs : List Value} (h : RdZ w0 b W V) (hg : V.grownBy U v.ownBlock) (k : V.ownsRow w0.heap.size e size v n xs) : RdZ w0 b W U :=
  ⟨⟨hg.os.trans h.bb.os, hg.tape.trans h.bb.tape, hg.output.trans h.bb.output, Nat.le_trans h.bb.size hg.size, fun i hi hn => (hg.block i (Nat.lt_of_lt_of_le hi h.bb.size) (fun e => by have := (k.lt i e.symm).1; omega)).trans (h.bb.block i hi hn)⟩,
   ⟨Nat.le_trans h.ko.size hg.size, fun i o hi ho => by
      have h1 := h.ko.same i o hi ho
      rw [hg.block i (Array.getElem?_eq_some_iff.1 h1).1 (fun q => by
        rcases k.2 with ⟨rfl, _⟩ | ⟨g, cap, cur, rfl, _, hh, _⟩
        · cases q
        · simp only [Value.ownBlock, Option.some.injEq] at q
          subst q
          rw [hh] at h1
          cases h1
          cases ho)]
      exact h1⟩,
   fun i hi hn => (hg.block i (Nat.lt_of_lt_of_le hi h.bb.size) (fun e => by have := (k.lt i e.symm).1; omega)).trans (h.fr i hi hn), Nat.le_trans h.le hg.size⟩
theorem row_or {w : World} {base e n c : Nat} {p : Option Addr} {xs : List Value} (k : w.ownsRow base e 1 (.slice p n c) n xs) : ∃ g, (n = 0 ∧ ∃ a c', Value.slice p n c = .slice a 0 c') ∨ Value.slice p n c = .slice (some ⟨g, 0, none⟩) n c ∧ n ≤ c := by
  rcases k.2 with ⟨h, _⟩ | ⟨g, cap, cur, hv, _, _, hc, _⟩
  · simp only [Value.slice.injEq] at h
    exact ⟨0, .inl ⟨h.2.1, none, 0, by rw [h.1, h.2.1, h.2.2]⟩⟩
  · simp only [Value.slice.injEq] at hv
    obtain ⟨rfl, _, rfl⟩ := hv
    exact ⟨g, .inr ⟨rfl, hc⟩⟩
/-- each row of counts, without the row that holds them -/
def Each (w : World) (base : Nat) (gs : List (Nat × Nat)) (L : List (List Int)) : Prop := ∀ i, i < L.length → w.ownsRow base 3 1 (lstV gs L i) (L.getD i []).length ((L.getD i []).map (Value.int .i64))
theorem Each.below {w W : World} {base : Nat} {gs : List (Nat × Nat)} {L : List (List Int)} (h : Each w base gs L) (hb : Below w.heap.size w W) : Each W base gs L := fun i hi => own_below (h i hi) hb
theorem Each.only {T : List TypeId} {w W : World} {base : Nat} {gs : List (Nat × Nat)} {L : List (List Int)} (h : Each w base gs L) (hO : Only T w W) (hT : T.contains 3 = false) : Each W base gs L := fun i hi => own_only (h i hi) hO hT
theorem lstV_old {gs : List (Nat × Nat)} {L : List (List Int)} {g c i : Nat} {ch : List Int} (hg : gs.length = L.length) (hi : i < L.length) : lstV (gs ++ [(g, c)]) (L ++ [ch]) i = lstV gs L i := by
  unfold lstV
  simp [List.getD, List.getElem?_append_left, hi, hg]
theorem lstV_new {gs : List (Nat × Nat)} {L : List (List Int)} {g c : Nat} {ch : List Int} (hg : gs.length = L.length) : lstV (gs ++ [(g, c)]) (L ++ [ch]) L.length = .slice (some ⟨g, 0, none⟩) ch.length c := by
  unfold lstV
  rw [show (gs ++ [(g, c)]).getD L.length (0, 0) = (g, c) from by rw [← hg]; simp [List.getD], show (L ++ [ch]).getD L.length [] = ch from by simp [List.getD]]
theorem Lists.snoc {w : World} {base g c n : Nat} {v : Value} {gs : List (Nat × Nat)} {L : List (List Int)} {ch : List Int} (hn : n = L.length + 1) (hrow : w.ownsRow base 22 1 v n ((List.range L.length).map (lstV gs L) ++ [.slice (some ⟨g, 0, none⟩) ch.length c])) (he : Each w base gs L) (hnew : w.ownsRow base 3 1 (.slice (some ⟨g, 0, none⟩) ch.length c) ch.length (ch.map (Value.int .i64))) (hg : gs.length = L.length) : Lists w base v (gs ++ [(g, c)]) (L ++ [ch]) := by
  subst hn
  refine ⟨?_, fun i hi => ?_⟩
  · rw [show (L ++ [ch]).length = L.length + 1 from by simp, List.range_succ, List.map_append]
    rw [show (List.range L.length).map (lstV (gs ++ [(g, c)]) (L ++ [ch])) = (List.range L.length).map (lstV gs L) from List.map_congr_left fun i hi => lstV_old hg (List.mem_range.1 hi), List.map_singleton, lstV_new hg]
    exact hrow
  · by_cases h : i < L.length
    · rw [lstV_old hg h, show (L ++ [ch]).getD i [] = L.getD i [] from by simp [List.getD, List.getElem?_append_left, h]]
      exact he i h
    · obtain rfl : i = L.length := by simp at hi; omega
      rw [lstV_new hg, show (L ++ [ch]).getD L.length [] = ch from by simp [List.getD]]
      exact hnew
/-- a piece of a row of counts -/
theorem Sl.midI {w : World} {g n c : Nat} {xs : List Value} (h : Sl w (.slice (some ⟨g, 0, none⟩) n c) n xs) (hl : xs.length = n) (k m : Nat) (hm : 0 < m) (hk : k + m ≤ n) : Sl w (.slice (some ⟨g, 0 + k, none⟩) m m) m ((xs.drop k).take m) := by
  rcases h with ⟨a', c', h1, h2, h3⟩ | ⟨g', off', cap, h1, h2, h3, h4⟩
  · omega
  · simp only [Value.slice.injEq, Option.some.injEq, Addr.mk.injEq] at h1
    obtain ⟨⟨rfl, rfl, _⟩, _, rfl⟩ := h1
    refine .inr ⟨g, 0 + k, m, rfl, Nat.le_refl _, by omega, fun j x hj => ?_⟩
    have hjm : j < m := by
      rcases Nat.lt_or_ge j m with q | q
      · exact q
      · rw [List.getElem?_eq_none (by simp; omega)] at hj; cases hj
    rw [List.getElem?_take_of_lt hjm, List.getElem?_drop] at hj
    have := h4 (k + j) x hj
    rw [show 0 + k + j = 0 + (k + j) from by omega]
    exact this
end Go.Proofs.YtcjpomibhbakdaaGreatDoor
namespace Go.Proofs.YtcjpomibhbakdaaGreatDoor
open Go.RowKit Go.Extern.Stop Go.Stop Go.Extern
set_option linter.unusedVariables false
attribute [local irreducible] wpList wpAnyH Code.wp Oper.wp Go

/-- whether x is in l -/
def hasI (l : List Int) (x : Int) : Bool := l.any fun y => decide (x = y)
theorem hasI_true {l : List Int} {x : Int} {i : Nat} (hi : i < l.length) (h : x = l.getD i 0) : hasI l x = true := by
  unfold hasI
  rw [List.any_eq_true]
  exact ⟨l[i], List.getElem_mem _, by rw [decide_eq_true_iff, h]; simp [hi]⟩
theorem hasI_false {l : List Int} {x : Int} (h : ∀ j, j < l.length → x ≠ l.getD j 0) : hasI l x = false := by
  unfold hasI
  rw [List.any_eq_false]
  intro y hy
  obtain ⟨j, hj, rfl⟩ := List.getElem_of_mem hy
  have := h j hj
  simpa [hj] using this
end Go.Proofs.YtcjpomibhbakdaaGreatDoor
namespace Go.Proofs.YtcjpomibhbakdaaGreatDoor
open Go.RowKit
set_option linter.unusedVariables false
attribute [local go_sem] Oper.semAt_some

def splitL (hi : Int) (l : List Int) : List (Int × Int) := (List.range l.length).map (partAt hi l)
/-- the child of number i -/
def childI (lo hi : Int) (l : List Int) (i : Int) : (Int × Int) × Int :=
  if fitsI lo hi l = 0 then if 0 ≤ i ∧ i < l.length then (partAt hi l i.toNat, 0) else ((0, 0), 3) else ((0, 0), fitsI lo hi l)

theorem child_bad {lo hi i : Int} {l : List Int} (h : fitsI lo hi l ≠ 0) : childI lo hi l i = ((0, 0), fitsI lo hi l) := by simp [childI, h]
theorem child_out {lo hi i : Int} {l : List Int} (h : fitsI lo hi l = 0) (hi' : ¬ (0 ≤ i ∧ i < l.length)) : childI lo hi l i = ((0, 0), 3) := by simp only [childI, h, if_true]; rw [if_neg hi']
theorem child_in {lo hi : Int} {l : List Int} {i : Nat} (h : fitsI lo hi l = 0) (hi' : i < l.length) : childI lo hi l i = (partAt hi l i, 0) := by
  simp only [childI, h, if_true]; rw [if_pos ⟨by omega, by omega⟩]; simp
theorem each_none {i : Int} {n : Nat} (h : ∀ x ∈ List.finRange n, (qOf x : Int) ≠ i) : ¬ (0 ≤ i ∧ i < n) := fun ⟨h1, h2⟩ => by
  refine h ⟨n - 1 - i.toNat, by omega⟩ (by simp) ?_
  simp only [qOf]; omega
theorem each_last {lo hi i : Int} {l : List Int} {x : Fin l.length} (hf : fitsI lo hi l = 0) (hx : (qOf x : Int) = i) : childI lo hi l i = (partAt hi l (qOf x), 0) := by
  rw [← hx]; exact child_in hf (by have := x.2; simp only [qOf]; omega)
theorem below_child {w w' : World} {B : Nat} (h : Below w.heap.size w w') (hB : w.heap.size ≤ B) {i j k : Nat} {x y z : Value} {C : Nat} (hC : w.heap.size ≤ C) :
    Below w.heap.size w (((w'.setCell ⟨B, i, none⟩ x).setCell ⟨B, j, none⟩ y).setCell ⟨C, k, none⟩ z) := ((h.setCell hB _).setCell hB _).setCell hC _

/-- the result's cells when the rounds of pre are over -/
def outStep (hi : Int) (l : List Int) (cs : List Value) (x : Fin l.length) : List Value :=
  (cs.set (qOf x * 2) (.int .i64 (partAt hi l (qOf x)).1)).set (qOf x * 2 + 1) (.int .i64 (partAt hi l (qOf x)).2)
def outC (hi : Int) (l : List Int) (pre : List (Fin l.length)) : List Value := pre.foldl (outStep hi l) (zeros [.int .i64 0, .int .i64 0] l.length)
theorem outC_snoc (hi : Int) (l : List Int) (pre : List (Fin l.length)) (x : Fin l.length) : outC hi l (pre ++ [x]) = outStep hi l (outC hi l pre) x := by simp [outC]
theorem outFold_length (hi : Int) (l : List Int) : ∀ (pre : List (Fin l.length)) (cs : List Value), (pre.foldl (outStep hi l) cs).length = cs.length
  | [], _ => rfl
  | x :: pre, cs => by rw [List.foldl_cons, outFold_length hi l pre]; simp [outStep]
theorem outC_length (hi : Int) (l : List Int) (pre : List (Fin l.length)) : (outC hi l pre).length = l.length * 2 := by
  rw [outC, outFold_length, zeros_length]; rfl
theorem outFold_get (hi : Int) (l : List Int) (q : Nat) (hq : q < l.length) : ∀ (pre : List (Fin l.length)) (cs : List Value), cs.length = l.length * 2 →
    ((∃ x ∈ pre, qOf x = q) ∨ (cs[q * 2]? = some (.int .i64 (partAt hi l q).1) ∧ cs[q * 2 + 1]? = some (.int .i64 (partAt hi l q).2))) →
    (pre.foldl (outStep hi l) cs)[q * 2]? = some (.int .i64 (partAt hi l q).1) ∧ (pre.foldl (outStep hi l) cs)[q * 2 + 1]? = some (.int .i64 (partAt hi l q).2)
  | [], cs, hl, h => by
    rcases h with ⟨x, hx, _⟩ | h
    · cases hx
    · exact h
  | x :: pre, cs, hl, h => by
    rw [List.foldl_cons]
    refine outFold_get hi l q hq pre _ (by simp [outStep, hl]) ?_
    by_cases hx : qOf x = q
    · subst hx
      refine .inr ⟨?_, ?_⟩
      · simp only [outStep]; rw [List.getElem?_set_ne (by omega), List.getElem?_set_self (by omega)]
      · simp only [outStep]; rw [List.getElem?_set_self (by simp; omega)]
    · rcases h with ⟨y, hy, hyq⟩ | h
      · rcases List.mem_cons.1 hy with rfl | hy
        · exact absurd hyq hx
        · exact .inl ⟨y, hy, hyq⟩
      · refine .inr ⟨?_, ?_⟩
        · simp only [outStep]; rw [List.getElem?_set_ne (by omega), List.getElem?_set_ne (by omega)]; exact h.1
        · simp only [outStep]; rw [List.getElem?_set_ne (by omega), List.getElem?_set_ne (by omega)]; exact h.2
theorem outC_all (hi : Int) (l : List Int) : outC hi l (List.finRange l.length) = flat2 (splitL hi l) := by
  have hs : (splitL hi l).length = l.length := by simp [splitL]
  have hg : ∀ q, q < l.length → (splitL hi l)[q]? = some (partAt hi l q) := fun q hq => by simp [splitL, hq]
  apply List.ext_getElem?
  intro j
  by_cases hj : j < l.length * 2
  · have hq : j / 2 < l.length := by omega
    have h := outFold_get hi l (j / 2) hq (List.finRange l.length) (zeros [.int .i64 0, .int .i64 0] l.length) (by rw [zeros_length]; rfl)
      (.inl ⟨⟨l.length - 1 - j / 2, by omega⟩, by simp, by simp only [qOf]; omega⟩)
    by_cases h2 : j % 2 = 0
    · have e : j = j / 2 * 2 := by omega
      rw [e, flat2_even, hg _ hq]; exact h.1
    · have e : j = j / 2 * 2 + 1 := by omega
      rw [e, flat2_odd, hg _ hq]; exact h.2
  · rw [List.getElem?_eq_none (by rw [outC_length]; omega), List.getElem?_eq_none (by rw [flat2_length, hs]; omega)]
def splitR (lo hi : Int) (l : List Int) : List (Int × Int) := if fitsI lo hi l = 0 then splitL hi l else []
end Go.Proofs.YtcjpomibhbakdaaGreatDoor
namespace Go.Proofs.YtcjpomibhbakdaaGreatDoor
open Go.RowKit Go.Extern.Stop Go.Stop Go.Extern
set_option linter.unusedVariables false
attribute [local irreducible] wpList wpAnyH Code.wp Oper.wp Go

/-- the number of the error of a node that is looked at, as the one below way, for the span lo hi -/
def lookE (l : List UInt8) (way : List Int) (no tree lo hi deep : Int) : Int :=
  if hasI way no = true then 11 else if 16 ≤ way.length then 10 else if nodeErr l no tree ≠ 0 then nodeErr l no tree else if fitsI lo hi (keysI (inB l no) (nodC (inB l no))) ≠ 0 then 9 else
    if nodL (inB l no) = true ∧ deep ≠ 0 ∧ deep ≠ ((way.length + 1 : Nat) : Int) then 10 else 0
theorem intsN_of {w : World} {v : Value} {n : Nat} {l : List Int} (h : Sl w v n (l.map (Value.int .i64))) (hl : l.length = n) : Ints w v l := by subst hl; exact h
end Go.Proofs.YtcjpomibhbakdaaGreatDoor
namespace Go.Proofs.YtcjpomibhbakdaaGreatDoor
open Go.RowKit Go.Extern.Stop Go.Stop Go.Extern
set_option linter.unusedVariables false
attribute [local irreducible] wpList wpAnyH Code.wp Oper.wp Go

/-- a leaf's first k entries -/
def leafL (K : List Int) (Vs : List (List UInt8)) (no : Int) (k : Nat) : List Ent := (List.range k).map fun j => (K.getD j 0, Vs.getD j [], no)
theorem leafL_len (K : List Int) (Vs : List (List UInt8)) (no : Int) (k : Nat) : (leafL K Vs no k).length = k := by simp [leafL]
theorem leafL_snoc (K : List Int) (Vs : List (List UInt8)) (no : Int) (k : Nat) : leafL K Vs no (k + 1) = leafL K Vs no k ++ [(K.getD k 0, Vs.getD k [], no)] := by simp [leafL, List.range_succ]
theorem leaf_row (es : List Ent) (K : List Int) (Vs : List (List UInt8)) (no : Int) (k : Nat) : (es ++ leafL K Vs no k).flatMap entC ++ [.int .i64 (K.getD k 0), .string ⟨(Vs.getD k []).toArray⟩, .int .i64 no] = (es ++ leafL K Vs no (k + 1)).flatMap entC := by
  rw [leafL_snoc, ← List.append_assoc, List.flatMap_append (xs := es ++ leafL K Vs no k)]
  rfl
end Go.Proofs.YtcjpomibhbakdaaGreatDoor
namespace Go.Proofs.YtcjpomibhbakdaaGreatDoor
open Go.RowKit Go.Extern.Stop Go.Stop Go.Extern
set_option linter.unusedVariables false
/-- two rows lie apart -/
def Apart (u v : Value) : Prop := ∀ j, u.ownBlock = some j → v.ownBlock ≠ some j
theorem Apart.symm {u v : Value} (h : Apart u v) : Apart v u := fun j h1 h2 => h j h2 h1
theorem Apart.grow {w : World} {u v u' : Value} {base e size n : Nat} {xs : List Value} (h : Apart u v) (k : w.ownsRow base e size v n xs) (hl : u'.ownBlock = u.ownBlock ∨ u'.ownBlock = some w.heap.size) : Apart u' v := by
  rintro j h1 h2
  rcases hl with hl | hl
  · exact h j (hl ▸ h1) h2
  · rw [hl, Option.some.injEq] at h1
    subst h1
    have := (k.lt _ h2).2
    omega
theorem Apart.row {w W : World} {u v : Value} {base e size n : Nat} {xs : List Value} (h : Apart u v) (k : w.ownsRow base e size v n xs) (hg : w.grownBy W u.ownBlock) : W.ownsRow base e size v n xs := by
  obtain ⟨h1, h2⟩ := k
  refine ⟨h1, ?_⟩
  rcases h2 with h2 | ⟨g, cap, cur, rfl, hb, hh, r⟩
  · exact Or.inl h2
  · exact Or.inr ⟨g, cap, cur, rfl, hb, (hg.block g (Array.getElem?_eq_some_iff.1 hh).1 (fun q => h g q.symm rfl)).trans hh, r⟩
theorem Apart.of_lt {w W : World} {u v : Value} {base base2 e e2 size size2 n n2 : Nat} {xs ys : List Value} (k : w.ownsRow base e size u n xs) (q : W.ownsRow base2 e2 size2 v n2 ys) (h : w.heap.size ≤ base2) : Apart u v := fun j h1 h2 => by
  have := (k.lt j h1).2
  have := (q.lt j h2).1
  omega
theorem Apart.nil (v : Value) : Apart (.slice none 0 0) v := fun j h => by cases h
/-- a row cut short at its end is a row -/
theorem own_cut {w : World} {base e n m c : Nat} {p : Option Addr} {xs : List Value} (k : w.ownsRow base e 1 (.slice p n c) n xs) (hm : m ≤ n) (hp : p.isSome = true) : w.ownsRow base e 1 (.slice p m c) m (xs.take m) := by
  obtain ⟨h1, h2⟩ := k
  refine ⟨by rw [List.length_take]; omega, ?_⟩
  rcases h2 with ⟨h2, _⟩ | ⟨g, cap, cur, hv, hb, hh, hc, hr1, hr2, hr3⟩
  · cases h2; cases hp
  · simp only [Value.slice.injEq] at hv
    obtain ⟨rfl, _, rfl⟩ := hv
    refine Or.inr ⟨g, c, cur, rfl, hb, hh, by omega, hr1, hr2, ?_⟩
    rw [← hr3, List.take_take]
    congr 1
    omega
theorem op_app_at {P : Program} {a : Act} {w : World} {K : Act → World → Prop} {Q : Exit → Act → World → Prop} {o : Oper} {s x : Operand} {t e te : TypeId} {base : Nat} {v : Value} {n : Nat} {xs : List Value} {b m c : Nat} {news : List Value} (z : Value) (size bytes n' : Nat) (xs' : List Value)
    (ho : o.op = .call { callee := .builtin .append, args := #[s, x], argTypes := #[t, t] }) (ht : P.underlying t = some (.slice e)) (hi : (P.info? e).map (fun i => (i.zero, i.size, i.bytes)) = some (some z, size, bytes)) (hzs : z.cells.size = size) (hsz : 0 < size) (hs : a.eval s = v)
    (hown : w.ownsRow base e size v n xs) (hx : a.eval x = .slice (some ⟨b, 0, none⟩) m c) (hnew : Blk w b news te) (hl : news.length = m * size) (h1 : ∀ u ∈ news, u.oneCell' = true) (h63 : n + m ≤ maxLen) (hbytes : (n + m) * bytes ≤ 140737488355328) (hbase : base ≤ w.heap.size) (hn : n + m = n') (hxs : xs ++ news = xs')
    (h : ∀ p c W, W.ownsRow base e size (.slice p n' c) n' xs' → w.grownBy W v.ownBlock → Below base w W → ((Value.slice p n' c).ownBlock = v.ownBlock ∨ (Value.slice p n' c).ownBlock = some w.heap.size) → K (a.put o.dst (.slice p n' c)) W) : o.wp P a w K Q := by
  cases hq : P.info? e with
  | none => simp [hq] at hi
  | some i =>
    simp only [hq, Option.map_some, Option.some.injEq, Prod.mk.injEq] at hi
    have hc : ∀ j u, news[j]? = some u → w.cell? ((⟨b, 0, none⟩ : Addr).add j) = some u := fun j u hj => by
      have hc := hnew.cell hj
      by_cases h0 : j = 0
      · subst h0; simpa [Addr.add] using hc
      · simpa [Addr.add, h0] using hc
    obtain ⟨v', W, hr, h2, h3, _, h5⟩ := run_append_own_at (P := P) w base t o.type e i z size bytes ht hq hi.1 hi.2.1 hi.2.2 hzs hsz v n xs hown ⟨b, 0, none⟩ m c news hl hc h1 h63 hbytes hbase
    subst hn hxs
    obtain ⟨p, c2, rfl⟩ := (own_sl h2).slice
    unfold Oper.wp execOp
    simp only [ho, resolve, invoke, builtin, Sem.run_bind, Sem.run_pure, Result.andThen_ok, List.map_toArray, List.map_cons, List.map_nil, hs, hx, hr]
    exact h p c2 W h2 h3 (grown_below h3 hown (Nat.le_refl _) hbase) h5
end Go.Proofs.YtcjpomibhbakdaaGreatDoor
namespace Go.Proofs.YtcjpomibhbakdaaGreatDoor
open Go.RowKit Go.Extern.Stop Go.Stop Go.Extern
set_option linter.unusedVariables false
attribute [local irreducible] wpList wpAnyH Code.wp Oper.wp Go

/-- the rows that are full, apart from a row that grows -/
structure EachS (B : Nat) (W : World) (u : Value) (gs : List (Nat × Nat)) (L : List (List Int)) : Prop where
  len : gs.length = L.length
  each : Each W B gs L
  ap : ∀ i, i < L.length → Apart u (lstV gs L i)
theorem EachS.below {B : Nat} {w W : World} {u : Value} {gs : List (Nat × Nat)} {L : List (List Int)} (h : EachS B w u gs L) (hb : Below w.heap.size w W) : EachS B W u gs L := ⟨h.len, h.each.below hb, h.ap⟩
theorem EachS.only {T : List TypeId} {B : Nat} {w W : World} {u : Value} {gs : List (Nat × Nat)} {L : List (List Int)} (h : EachS B w u gs L) (hO : Only T w W) (hT : T.contains 3 = false) : EachS B W u gs L := ⟨h.len, h.each.only hO hT, h.ap⟩
theorem EachS.grow {B : Nat} {w W : World} {u u' : Value} {gs : List (Nat × Nat)} {L : List (List Int)} (h : EachS B w u gs L) (hg : w.grownBy W u.ownBlock) (hl : u'.ownBlock = u.ownBlock ∨ u'.ownBlock = some w.heap.size) : EachS B W u' gs L :=
  ⟨h.len, fun i hi => (h.ap i hi).row (h.each i hi) hg, fun i hi => (h.ap i hi).grow (h.each i hi) hl⟩
theorem EachS.nil (B : Nat) (w : World) : EachS B w (.slice none 0 0) [] [] := ⟨rfl, fun i hi => absurd hi (Nat.not_lt_zero _), fun i hi => absurd hi (Nat.not_lt_zero _)⟩
theorem out_elem {w : World} {p : Option Addr} {n c q : Nat} {A : List Value} {x : Value} (h : Sl w (.slice p n c) n (A ++ [x])) (hA : A.length = q) : p.isSome = true ∧ w.cell? (elemAddr p (q * 1)) = some x := by
  rw [Nat.mul_one]; exact Sl.elem h (by subst hA; simp)
theorem out_set {q : Nat} {A : List Value} {x y : Value} (hA : A.length = q) : (A ++ [x]).set q y = A ++ [y] := by subst hA; simp
theorem out_neg {w : World} {B t n m : Nat} {v x : Value} {A : List Value} (hm : m ≠ 0) (h : w.ownsRow B t 1 v n (A ++ (if m = 0 then [] else [x]))) : w.ownsRow B t 1 v n (A ++ [x]) := by rwa [if_neg hm] at h
theorem ch_snoc {l : List Int} {i q m : Nat} (hq : i = q * 960 + m) (hi : i < l.length) {v : Int} (hv : mn3 (l.getD i 0) = v) : ((((smallL l).drop (q * 960)).take m).map (Value.int .i64)) ++ [.int .i64 v] = ((((smallL l).drop (q * 960)).take (m + 1)).map (Value.int .i64)) := by
  have h1 : q * 960 + m < (smallL l).length := by rw [smallL_len]; omega
  have h2 : ((smallL l).drop (q * 960)).take (m + 1) = ((smallL l).drop (q * 960)).take m ++ [v] := by
    rw [List.take_succ_eq_append_getElem (by simp; omega), List.getElem_drop]
    congr 2
    rw [← hv, hq]
    simp [smallL, List.getD]
    rw [List.getElem?_eq_getElem (by rw [smallL_len] at h1; exact h1)]
    rfl
  rw [h2, List.map_append]; rfl
theorem spl_full {B q m c n : Nat} {W : World} {l : List Int} {p : Option Addr} {v : Value} {gs : List (Nat × Nat)} (hm : 0 < m) (hch : (((smallL l).drop (q * 960)).take m) = chunkI (smallL l) q) (hcl : (chunkI (smallL l) q).length = m) (hn : n = q + 1) (hE : EachS B W (.slice p m c) gs (chunksI (smallL l) q))
    (hl : W.ownsRow B 3 1 (.slice p m c) m ((((smallL l).drop (q * 960)).take m).map (Value.int .i64))) (ho : W.ownsRow B 22 1 v n (((List.range q).map (lstV gs (chunksI (smallL l) q))) ++ [.slice p m c])) : ∃ gs2, gs2.length = q + 1 ∧ Lists W B v gs2 (chunksI (smallL l) (q + 1)) := by
  obtain ⟨g, rfl, hc⟩ := own_someN hl hm
  subst hn
  have hL := Lists.snoc (w := W) (base := B) (g := g) (c := c) (n := q + 1) (v := v) (gs := gs) (L := chunksI (smallL l) q) (ch := chunkI (smallL l) q) (by rw [chunksI_len]) (by rw [chunksI_len, hcl]; exact ho) hE.each (by rw [hcl, ← hch]; exact hl) (by rw [hE.len])
  exact ⟨gs ++ [(g, c)], by rw [List.length_append, hE.len, chunksI_len]; rfl, by rw [chunksI_succ]; exact hL⟩
theorem spl_next {B i q m c n : Nat} {W : World} {l : List Int} {p : Option Addr} {pb : Option Addr} {cb : Nat} {gs : List (Nat × Nat)} (hq : i = q * 960 + m) (hm : m < 960) (hi : i < l.length) (hn : n = q + 1) (hE : EachS B W (.slice p (m + 1) c) gs (chunksI (smallL l) q))
    (hl : W.ownsRow B 3 1 (.slice p (m + 1) c) (m + 1) ((((smallL l).drop (q * 960)).take (m + 1)).map (Value.int .i64))) (ho : W.ownsRow B 22 1 (.slice pb n cb) n (((List.range q).map (lstV gs (chunksI (smallL l) q))) ++ [.slice p (m + 1) c])) :
    ∃ q2 m2 pl2 cl2 gs2, i + 1 = q2 * 960 + m2 ∧ m2 < 960 ∧ ((m2 = 0 → n = q2 ∧ pl2 = none ∧ cl2 = 0) ∧ (m2 ≠ 0 → n = q2 + 1)) ∧ EachS B W (.slice pl2 m2 cl2) gs2 (chunksI (smallL l) q2) ∧ W.ownsRow B 3 1 (.slice pl2 m2 cl2) m2 ((((smallL l).drop (q2 * 960)).take m2).map (Value.int .i64)) ∧ W.ownsRow B 22 1 (.slice pb n cb) n (((List.range q2).map (lstV gs2 (chunksI (smallL l) q2))) ++ (if m2 = 0 then [] else [.slice pl2 m2 cl2])) := by
  by_cases h9 : m + 1 = 960
  · have hcl : (chunkI (smallL l) q).length = m + 1 := by rw [chunkI_len, smallL_len]; omega
    obtain ⟨gs2, h1, h2⟩ := spl_full (by omega) (by unfold chunkI; rw [h9]) hcl hn hE hl ho
    refine ⟨q + 1, 0, none, 0, gs2, by omega, by decide, ⟨fun _ => ⟨by omega, rfl, rfl⟩, fun q => absurd rfl q⟩, ⟨by rw [h1, chunksI_len], h2.each, fun _ _ => Apart.nil _⟩, World.ownsRow_nil _ _ _ _, ?_⟩
    have := h2.row
    rw [chunksI_len] at this
    subst hn
    simpa using this
  · exact ⟨q, m + 1, p, c, gs, by omega, by omega, ⟨fun h => absurd h (by omega), fun _ => by omega⟩, hE, hl, by rw [if_neg (by omega)]; exact ho⟩
def RSplitP (l : List Int) (w : World) (e : Ending) (w' : World) : Prop :=
  (splitE l ≠ 0 ∧ e = .returned (.tuple #[.slice none 0 0, .slice none 0 0, .int .i64 2]) ∧ Below w.heap.size w w') ∨
  (splitE l = 0 ∧ ∃ pb cb gs po co, e = .returned (.tuple #[.slice pb (bmN l.length) cb, .slice po (overK l l.length).length co, .int .i64 0]) ∧ Below w.heap.size w w' ∧ Lists w' w.heap.size (.slice pb (bmN l.length) cb) gs (chunksI (smallL l) (bmN l.length)) ∧ w'.ownsRow w.heap.size 69 3 (.slice po (overK l l.length).length co) (overK l l.length).length ((overK l l.length).flatMap entC))
theorem rsplit_bad {l : List Int} {i : Nat} (hl : l.length ≤ 65536) (hi : i < l.length) (h : ¬ cntOk (l.getD i 0)) : splitE l ≠ 0 := fun q => h ((splitE_ok q).2 i hi)
theorem spl_done {B q m c n : Nat} {W : World} {l : List Int} {p : Option Addr} {pb : Option Addr} {cb : Nat} {gs : List (Nat × Nat)} (hq : l.length = q * 960 + m) (hm : m < 960) (hn : (m = 0 → n = q ∧ p = none ∧ c = 0) ∧ (m ≠ 0 → n = q + 1)) (hE : EachS B W (.slice p m c) gs (chunksI (smallL l) q))
    (hl : W.ownsRow B 3 1 (.slice p m c) m ((((smallL l).drop (q * 960)).take m).map (Value.int .i64))) (ho : W.ownsRow B 22 1 (.slice pb n cb) n (((List.range q).map (lstV gs (chunksI (smallL l) q))) ++ (if m = 0 then [] else [.slice p m c]))) : n = bmN l.length ∧ ∃ gs2, Lists W B (.slice pb n cb) gs2 (chunksI (smallL l) (bmN l.length)) := by
  by_cases h0 : m = 0
  · obtain ⟨h1, _, _⟩ := hn.1 h0
    have hb : bmN l.length = q := by unfold bmN; omega
    rw [hb]
    refine ⟨h1, gs, ?_, hE.each⟩
    rw [chunksI_len]
    rw [if_pos h0, List.append_nil] at ho
    subst h1; exact ho
  · have h1 := hn.2 h0
    have hb : bmN l.length = q + 1 := by unfold bmN; omega
    rw [if_neg h0] at ho
    have hcl : (chunkI (smallL l) q).length = m := by rw [chunkI_len, smallL_len]; omega
    have hch : (((smallL l).drop (q * 960)).take m) = chunkI (smallL l) q := by
      unfold chunkI
      rw [List.take_of_length_le (i := m) (by simp [smallL_len]; omega), List.take_of_length_le (i := 960) (by simp [smallL_len]; omega)]
    obtain ⟨gs2, _, h2⟩ := spl_full (by omega) hch hcl h1 hE hl ho
    rw [hb]
    exact ⟨h1, gs2, h2⟩
end Go.Proofs.YtcjpomibhbakdaaGreatDoor
namespace Go.Proofs.YtcjpomibhbakdaaGreatDoor
open Go.RowKit Go.Extern.Stop Go.Stop Go.Extern
set_option linter.unusedVariables false
attribute [local irreducible] wpList wpAnyH Code.wp Oper.wp Go

set_option maxRecDepth 100000 in
set_option maxHeartbeats 8000000 in
theorem ref21_Split (a : Option Addr) (c : Nat) (l : List Int) (w : World) (h : Sl w (.slice a l.length c) l.length (l.map (Value.int .i64))) (hl : l.length ≤ 65536) :
    Calls Tryz.prog 32 #[.slice a l.length c] w (RSplitP l w) := by
 refine zin 57 Tryz.func32 ?_
 refine xk 15 (show (decide ((↑l.length : Int) > (65536 : Int)) : Bool) = false from decide_eq_false (by omega)) ?_
 have hB := Below.refl w.heap.size w
 refine zl 19 57 (fun zm zkv V => ∃ (i q m nb : Nat) (pb : Option Addr) (cb : Nat) (pl : Option Addr) (cl : Nat) (gs : List (Nat × Nat)) (ko : Nat) (po : Option Addr) (co : Nat), zkv = [(0, .slice a l.length c), (5, .slice pb nb cb), (6, .slice po ko co), (7, .int .i64 (↑i : Int))] ∧ zm = l.length - ((↑i : Int)).toNat ∧ Below w.heap.size w V ∧ V.ownsRow w.heap.size 22 1 (.slice pb nb cb) nb (((List.range q).map (lstV gs (chunksI (smallL l) q))) ++ (if m = 0 then [] else [.slice pl m cl])) ∧ V.ownsRow w.heap.size 69 3 (.slice po ko co) ko ((overK l i).flatMap entC) ∧ V.ownsRow w.heap.size 3 1 (.slice pl m cl) m ((((smallL l).drop (q * 960)).take m).map (Value.int .i64)) ∧ EachS w.heap.size V (.slice pl m cl) gs (chunksI (smallL l) q) ∧ i ≤ l.length ∧ i = q * 960 + m ∧ m < 960 ∧ ((m = 0 → nb = q ∧ pl = none ∧ cl = 0) ∧ (m ≠ 0 → nb = q + 1)) ∧ ((∀ k, k < i → cntOk (l.getD k 0))) ∧ ko = (overK l i).length) ⟨0, 0, 0, 0, none, 0, none, 0, [], 0, none, 0, rfl, rfl, hB, World.ownsRow_nil _ _ _ _, World.ownsRow_nil _ _ _ _, World.ownsRow_nil _ _ _ _, EachS.nil _ _, Nat.zero_le _, rfl, by decide, ⟨fun _ => ⟨rfl, rfl, rfl⟩, fun q => absurd rfl q⟩, ?_, rfl⟩ ?_
 · exact fun k hk => absurd hk (by omega)
 rintro _ _ W1 ⟨i, q, m, nb, pb, cb, pl, cl, gs, ko, po, co, rfl, rfl, hB_1, hou, hov, hla, hEa, hi, hq, hm, hnb, hok, hko⟩ J1 hJ1 r1
 have hol := overK_len l i
 refine xid 9 ((↑i : Int) < (↑l.length : Int)) (fun hc2 => ?_) (fun hc2 => ?_)
 · refine xx 8 _ l.length i 1 (Ints.elem h (k := i) (by omega)).1 ?_
   refine xl 0 ((Ints.elem (h.below hB_1) (k := i) (by omega)).2) ?_
   refine xg 9 [23, 24] (decide ((l.getD i 0) < (0 : Int))) (fun hc3 => ?_) (fun hc3 => ?_)
   · have hc3 := of_decide_eq_true hc3
     exact xe 20 (.tuple #[.slice none 0 0, .slice none 0 0, .int .i64 2]) (.inl ⟨rsplit_bad hl (i := i) (by omega) (fun q => by unfold cntOk at q; omega), rfl, hB_1⟩)
   have hc3 := of_decide_eq_false hc3
   refine xid 5 ((l.getD i 0) > (2147483647 : Int)) (fun hc4 => ?_) (fun hc4 => ?_)
   · exact xe 14 (.tuple #[.slice none 0 0, .slice none 0 0, .int .i64 2]) (.inl ⟨rsplit_bad hl (i := i) (by omega) (fun q => by unfold cntOk at q; omega), rfl, hB_1⟩)
   refine xq 6 (congrArg (Value.int .i64) (show (Int.tmod (↑i : Int) 960 : Int) = (↑m : Int) from (tmod_natB i 960).trans (by rw [show i % 960 = m by omega]))) ?_
   refine xie 3 (↑m : Int) (0 : Int) (fun hc5 => ?_) (fun hc5 => ?_)
   · have hm0 : m = 0 := by omega
     have hn0 := hnb.1 hm0
     have hn1 : nb + 1 = q + 1 := by omega
     refine xbs 2 1 [.slice none 0 0] 22 fun b6 W6 n6 => ?_
     have g6 := n6.ge hB_1
     have r6_hou := own_ne hou n6
     have hou'1 := own_below hou n6.below
     have hB'1 := Bl.next hB_1 n6.below
     refine xbi 0 fun _ _ _ _ zJ zQ zo zx zy zK => op_app (m := 1) (news := [.slice none 0 0]) (.slice none 0 0) 1 24 (nb + 1) ((((List.range q).map (lstV gs (chunksI (smallL l) q))) ++ [.slice pl m cl])) zo Tryz.underlying59 (by kernel_rfl) rfl (by decide) zx hou'1 zy (n6.blk.sl 1 1 (by decide) (by decide)) rfl (by simp [Value.oneCell']) (by unfold maxLen; omega) (by omega) hB'1.size (by rfl) (by rw [if_pos hm0, List.append_nil, hn0.2.1, hn0.2.2, hm0]) fun px7 cx7 W7 o7 hg7 hb7 => ?_
     refine zK _ _ ?_
     refine xid 10 ((l.getD i 0) ≥ (3 : Int)) (fun hc8 => ?_) (fun hc8 => ?_)
     · refine xr 5 (args := #[.int .i64 (l.getD i 0)]) (ref08_CountT (l.getD i 0) _ (by omega)) fun W9 hb9 => ?_
       refine xbs 1 1 [.int .i64 (↑i : Int), .string ⟨(leB (l.getD i 0) 4).toArray⟩, .int .i64 0] 69 fun b10 W10 n10 => ?_
       have hB'2 := Bl.next (hB'1.trans hb7) hb9
       have g10 := n10.ge hB'2
       have hov'1 := own_below (own_grown (own_below hov n6.below) hg7 hou'1 (by decide)) hb9
       have r10_hov := own_ne hov'1 n10
       have hov'2 := own_below hov'1 n10.below
       have hB'3 := Bl.next hB'2 n10.below
       refine xbi 0 fun _ _ _ _ zJ zQ zo zx zy zK => op_app (m := 1) (news := [.int .i64 (↑i : Int), .string ⟨(leB (l.getD i 0) 4).toArray⟩, .int .i64 0]) (.agg #[.int .i64 0, .string ⟨#[]⟩, .int .i64 0]) 3 32 (ko + 1) (((overK l (i + 1)).flatMap entC)) zo Tryz.underlying60 (by kernel_rfl) rfl (by decide) zx hov'2 zy (n10.blk.sl 1 1 (by decide) (by decide)) rfl (by simp [Value.oneCell']) (by unfold maxLen; omega) (by omega) hB'3.size (by rfl) (by rw [overK_yes (by omega), List.flatMap_append]; rfl) fun px11 cx11 W11 o11 hg11 hb11 => ?_
       refine zK _ _ ?_
       have o7'1 := own_grown (own_below (own_below o7 hb9) n10.below) hg11 hov'2 (by decide)
       obtain ⟨gb, rfl, hgc⟩ := own_someN o7'1 (by omega)
       refine xq 10 (congrArg (Value.int .i64) (show (IntKind.i64.wrap (Int.tdiv (↑i : Int) 960) : Int) = (↑q : Int) from (quo_natB i 960 (by omega) (by decide)).trans (by rw [show i / 960 = q by omega]))) ?_
       refine xq 2 (congrArg (Value.int .i64) (show (IntKind.i64.wrap (Int.tdiv (↑i : Int) 960) : Int) = (↑q : Int) from (quo_natB i 960 (by omega) (by decide)).trans (by rw [show i / 960 = q by omega]))) ?_
       refine xx 0 _ (nb + 1) q 1 (out_elem (own_sl o7'1) (q := q) (by simp)).1 ?_
       refine xl 0 ((out_elem (own_sl o7'1) (q := q) (by simp)).2) ?_
       refine xbs 1 1 [.int .i64 3] 3 fun b12 W12 n12 => ?_
       have hB'4 := hB'3.trans hb11
       have g12 := n12.ge hB'4
       have hla'1 := own_grown (own_below (own_below (own_grown (own_below hla n6.below) hg7 hou'1 (by decide)) hb9) n10.below) hg11 hov'2 (by decide)
       have r12_hla := own_ne hla'1 n12
       have hla'2 := own_below hla'1 n12.below
       have hB'5 := Bl.next hB'4 n12.below
       refine xbi 0 fun _ _ _ _ zJ zQ zo zx zy zK => op_app_at (b := b12) (c := 1) (m := 1) (news := [.int .i64 3]) (.int .i64 0) 1 8 (m + 1) (((((smallL l).drop (q * 960)).take (m + 1)).map (Value.int .i64))) zo Tryz.underlying22 (by kernel_rfl) rfl (by decide) zx hla'2 zy n12.blk rfl (by simp [Value.oneCell']) (by unfold maxLen; omega) (by omega) hB'5.size (by rfl) (ch_snoc hq (by omega) (by unfold mn3; rw [if_neg (by omega)])) fun px13 cx13 W13 o13 hg13 hb13 ha13 => ?_
       refine zK _ _ ?_
       have o7'2 := own_grown (own_below o7'1 n12.below) hg13 hla'2 (by decide)
       refine xx 0 _ (nb + 1) q 1 (out_elem (own_sl o7'2) (q := q) (by simp)).1 ?_
       refine xst 0 fun _ _ _ _ zJ zQ zo zx zy zK => op_storeRow (t := 22) (k := q) (v := .slice px13 (m + 1) cx13) zo zx zy (by kernel_rfl) rfl o7'2 (by omega) fun W14 u14 o14 => ?_
       rw [out_set (by simp)] at o14
       refine zK _ _ ?_
       refine xwm 5 ((↑i : Int) + 1) (↑(i + 1) : Int) ?_
       have hEa'1 := (((((((hEa.below n6.below).only (Only.of_grown (T := [22]) hg7 hou'1 (by decide)) (by decide)).below hb9).below n10.below).only (Only.of_grown (T := [69]) hg11 hov'2 (by decide)) (by decide)).below n12.below).grow hg13 ha13).only (Only.of_updRow (T := [22]) u14 o7'2 (by decide)) (by decide)
       have o13'1 := u14.ownRow o13 o7'2 (by decide)
       obtain ⟨q2, m2, pl2, cl2, gs2, hq2, hm2, hn2, hE2, hl2, ho2⟩ := spl_next (l := l) hq hm (by omega) hn1 hEa'1 o13'1 o14
       have hB'6 := u14.below (hB'5.trans hb13) (own_ge o7'2)
       have o11'1 := u14.ownRow (own_grown (own_below o11 n12.below) hg13 hla'2 (by decide)) o7'2 (by decide)
       exact ze 2 (hJ1 _ _ _ ⟨i + 1, q2, m2, nb + 1, _, _, pl2, cl2, gs2, ko + 1, _, _, rfl, rfl, hB'6, ho2, o11'1, hl2, hE2, by omega, hq2, hm2, hn2, fun k hk => (Nat.lt_or_ge k i).elim (hok k) (fun q => by obtain rfl : k = i := (by omega); unfold cntOk; omega), by rw [overK_yes (by omega), List.length_append]; simp; omega⟩ (by omega))
     obtain ⟨gb, rfl, hgc⟩ := own_someN o7 (by omega)
     refine xq 5 (congrArg (Value.int .i64) (show (IntKind.i64.wrap (Int.tdiv (↑i : Int) 960) : Int) = (↑q : Int) from (quo_natB i 960 (by omega) (by decide)).trans (by rw [show i / 960 = q by omega]))) ?_
     refine xq 2 (congrArg (Value.int .i64) (show (IntKind.i64.wrap (Int.tdiv (↑i : Int) 960) : Int) = (↑q : Int) from (quo_natB i 960 (by omega) (by decide)).trans (by rw [show i / 960 = q by omega]))) ?_
     refine xx 0 _ (nb + 1) q 1 (out_elem (own_sl o7) (q := q) (by simp)).1 ?_
     refine xl 0 ((out_elem (own_sl o7) (q := q) (by simp)).2) ?_
     refine xbs 1 1 [.int .i64 (l.getD i 0)] 3 fun b15 W15 n15 => ?_
     have hB'7 := hB'1.trans hb7
     have g15 := n15.ge hB'7
     have hla'3 := own_grown (own_below hla n6.below) hg7 hou'1 (by decide)
     have r15_hla := own_ne hla'3 n15
     have hla'4 := own_below hla'3 n15.below
     have hB'8 := Bl.next hB'7 n15.below
     refine xbi 0 fun _ _ _ _ zJ zQ zo zx zy zK => op_app_at (b := b15) (c := 1) (m := 1) (news := [.int .i64 (l.getD i 0)]) (.int .i64 0) 1 8 (m + 1) (((((smallL l).drop (q * 960)).take (m + 1)).map (Value.int .i64))) zo Tryz.underlying22 (by kernel_rfl) rfl (by decide) zx hla'4 zy n15.blk rfl (by simp [Value.oneCell']) (by unfold maxLen; omega) (by omega) hB'8.size (by rfl) (ch_snoc hq (by omega) (by unfold mn3; rw [if_pos (by omega)])) fun px16 cx16 W16 o16 hg16 hb16 ha16 => ?_
     refine zK _ _ ?_
     have o7'3 := own_grown (own_below o7 n15.below) hg16 hla'4 (by decide)
     refine xx 0 _ (nb + 1) q 1 (out_elem (own_sl o7'3) (q := q) (by simp)).1 ?_
     refine xst 0 fun _ _ _ _ zJ zQ zo zx zy zK => op_storeRow (t := 22) (k := q) (v := .slice px16 (m + 1) cx16) zo zx zy (by kernel_rfl) rfl o7'3 (by omega) fun W17 u17 o17 => ?_
     rw [out_set (by simp)] at o17
     refine zK _ _ ?_
     refine xwm 5 ((↑i : Int) + 1) (↑(i + 1) : Int) ?_
     have hEa'2 := ((((hEa.below n6.below).only (Only.of_grown (T := [22]) hg7 hou'1 (by decide)) (by decide)).below n15.below).grow hg16 ha16).only (Only.of_updRow (T := [22]) u17 o7'3 (by decide)) (by decide)
     have o16'1 := u17.ownRow o16 o7'3 (by decide)
     have hov'3 := u17.ownRow (own_grown (own_below (own_grown (own_below hov n6.below) hg7 hou'1 (by decide)) n15.below) hg16 hla'4 (by decide)) o7'3 (by decide)
     obtain ⟨q2, m2, pl2, cl2, gs2, hq2, hm2, hn2, hE2, hl2, ho2⟩ := spl_next (l := l) hq hm (by omega) hn1 hEa'2 o16'1 o17
     have hB'9 := u17.below (hB'8.trans hb16) (own_ge o7'3)
     exact ze 2 (hJ1 _ _ _ ⟨i + 1, q2, m2, nb + 1, _, _, pl2, cl2, gs2, ko, _, _, rfl, rfl, hB'9, ho2, (by rw [overK_no (by omega)]; exact hov'3), hl2, hE2, by omega, hq2, hm2, hn2, fun k hk => (Nat.lt_or_ge k i).elim (hok k) (fun q => by obtain rfl : k = i := (by omega); unfold cntOk; omega), by rw [overK_no (by omega)]; exact hko⟩ (by omega))
   have hm0 : m ≠ 0 := by omega
   have hn1 : nb = q + 1 := hnb.2 hm0
   refine xid 9 ((l.getD i 0) ≥ (3 : Int)) (fun hc18 => ?_) (fun hc18 => ?_)
   · refine xr 5 (args := #[.int .i64 (l.getD i 0)]) (ref08_CountT (l.getD i 0) _ (by omega)) fun W19 hb19 => ?_
     refine xbs 1 1 [.int .i64 (↑i : Int), .string ⟨(leB (l.getD i 0) 4).toArray⟩, .int .i64 0] 69 fun b20 W20 n20 => ?_
     have hB'10 := Bl.next hB_1 hb19
     have g20 := n20.ge hB'10
     have hov'4 := own_below hov hb19
     have r20_hov := own_ne hov'4 n20
     have hov'5 := own_below hov'4 n20.below
     have hB'11 := Bl.next hB'10 n20.below
     refine xbi 0 fun _ _ _ _ zJ zQ zo zx zy zK => op_app (m := 1) (news := [.int .i64 (↑i : Int), .string ⟨(leB (l.getD i 0) 4).toArray⟩, .int .i64 0]) (.agg #[.int .i64 0, .string ⟨#[]⟩, .int .i64 0]) 3 32 (ko + 1) (((overK l (i + 1)).flatMap entC)) zo Tryz.underlying60 (by kernel_rfl) rfl (by decide) zx hov'5 zy (n20.blk.sl 1 1 (by decide) (by decide)) rfl (by simp [Value.oneCell']) (by unfold maxLen; omega) (by omega) hB'11.size (by rfl) (by rw [overK_yes (by omega), List.flatMap_append]; rfl) fun px21 cx21 W21 o21 hg21 hb21 => ?_
     refine zK _ _ ?_
     have hou'2 := own_grown (own_below (own_below (out_neg hm0 hou) hb19) n20.below) hg21 hov'5 (by decide)
     obtain ⟨gb, rfl, hgc⟩ := own_someN hou'2 (by omega)
     refine xq 10 (congrArg (Value.int .i64) (show (IntKind.i64.wrap (Int.tdiv (↑i : Int) 960) : Int) = (↑q : Int) from (quo_natB i 960 (by omega) (by decide)).trans (by rw [show i / 960 = q by omega]))) ?_
     refine xq 2 (congrArg (Value.int .i64) (show (IntKind.i64.wrap (Int.tdiv (↑i : Int) 960) : Int) = (↑q : Int) from (quo_natB i 960 (by omega) (by decide)).trans (by rw [show i / 960 = q by omega]))) ?_
     refine xx 0 _ nb q 1 (out_elem (own_sl hou'2) (q := q) (by simp)).1 ?_
     refine xl 0 ((out_elem (own_sl hou'2) (q := q) (by simp)).2) ?_
     refine xbs 1 1 [.int .i64 3] 3 fun b22 W22 n22 => ?_
     have hB'12 := hB'11.trans hb21
     have g22 := n22.ge hB'12
     have hla'5 := own_grown (own_below (own_below hla hb19) n20.below) hg21 hov'5 (by decide)
     have r22_hla := own_ne hla'5 n22
     have hla'6 := own_below hla'5 n22.below
     have hB'13 := Bl.next hB'12 n22.below
     refine xbi 0 fun _ _ _ _ zJ zQ zo zx zy zK => op_app_at (b := b22) (c := 1) (m := 1) (news := [.int .i64 3]) (.int .i64 0) 1 8 (m + 1) (((((smallL l).drop (q * 960)).take (m + 1)).map (Value.int .i64))) zo Tryz.underlying22 (by kernel_rfl) rfl (by decide) zx hla'6 zy n22.blk rfl (by simp [Value.oneCell']) (by unfold maxLen; omega) (by omega) hB'13.size (by rfl) (ch_snoc hq (by omega) (by unfold mn3; rw [if_neg (by omega)])) fun px23 cx23 W23 o23 hg23 hb23 ha23 => ?_
     refine zK _ _ ?_
     have hou'3 := own_grown (own_below hou'2 n22.below) hg23 hla'6 (by decide)
     refine xx 0 _ nb q 1 (out_elem (own_sl hou'3) (q := q) (by simp)).1 ?_
     refine xst 0 fun _ _ _ _ zJ zQ zo zx zy zK => op_storeRow (t := 22) (k := q) (v := .slice px23 (m + 1) cx23) zo zx zy (by kernel_rfl) rfl hou'3 (by omega) fun W24 u24 o24 => ?_
     rw [out_set (by simp)] at o24
     refine zK _ _ ?_
     refine xwm 5 ((↑i : Int) + 1) (↑(i + 1) : Int) ?_
     have hEa'3 := (((((hEa.below hb19).below n20.below).only (Only.of_grown (T := [69]) hg21 hov'5 (by decide)) (by decide)).below n22.below).grow hg23 ha23).only (Only.of_updRow (T := [22]) u24 hou'3 (by decide)) (by decide)
     have o23'1 := u24.ownRow o23 hou'3 (by decide)
     obtain ⟨q2, m2, pl2, cl2, gs2, hq2, hm2, hn2, hE2, hl2, ho2⟩ := spl_next (l := l) hq hm (by omega) hn1 hEa'3 o23'1 o24
     have hB'14 := u24.below (hB'13.trans hb23) (own_ge hou'3)
     have o21'1 := u24.ownRow (own_grown (own_below o21 n22.below) hg23 hla'6 (by decide)) hou'3 (by decide)
     exact ze 2 (hJ1 _ _ _ ⟨i + 1, q2, m2, nb, _, _, pl2, cl2, gs2, ko + 1, _, _, rfl, rfl, hB'14, ho2, o21'1, hl2, hE2, by omega, hq2, hm2, hn2, fun k hk => (Nat.lt_or_ge k i).elim (hok k) (fun q => by obtain rfl : k = i := (by omega); unfold cntOk; omega), by rw [overK_yes (by omega), List.length_append]; simp; omega⟩ (by omega))
   have hou'4 := out_neg hm0 hou
   obtain ⟨gb, rfl, hgc⟩ := own_someN hou'4 (by omega)
   refine xq 5 (congrArg (Value.int .i64) (show (IntKind.i64.wrap (Int.tdiv (↑i : Int) 960) : Int) = (↑q : Int) from (quo_natB i 960 (by omega) (by decide)).trans (by rw [show i / 960 = q by omega]))) ?_
   refine xq 2 (congrArg (Value.int .i64) (show (IntKind.i64.wrap (Int.tdiv (↑i : Int) 960) : Int) = (↑q : Int) from (quo_natB i 960 (by omega) (by decide)).trans (by rw [show i / 960 = q by omega]))) ?_
   refine xx 0 _ nb q 1 (out_elem (own_sl hou'4) (q := q) (by simp)).1 ?_
   refine xl 0 ((out_elem (own_sl hou'4) (q := q) (by simp)).2) ?_
   refine xbs 1 1 [.int .i64 (l.getD i 0)] 3 fun b25 W25 n25 => ?_
   have g25 := n25.ge hB_1
   have r25_hla := own_ne hla n25
   have hla'7 := own_below hla n25.below
   have hB'15 := Bl.next hB_1 n25.below
   refine xbi 0 fun _ _ _ _ zJ zQ zo zx zy zK => op_app_at (b := b25) (c := 1) (m := 1) (news := [.int .i64 (l.getD i 0)]) (.int .i64 0) 1 8 (m + 1) (((((smallL l).drop (q * 960)).take (m + 1)).map (Value.int .i64))) zo Tryz.underlying22 (by kernel_rfl) rfl (by decide) zx hla'7 zy n25.blk rfl (by simp [Value.oneCell']) (by unfold maxLen; omega) (by omega) hB'15.size (by rfl) (ch_snoc hq (by omega) (by unfold mn3; rw [if_pos (by omega)])) fun px26 cx26 W26 o26 hg26 hb26 ha26 => ?_
   refine zK _ _ ?_
   have hou'5 := own_grown (own_below hou'4 n25.below) hg26 hla'7 (by decide)
   refine xx 0 _ nb q 1 (out_elem (own_sl hou'5) (q := q) (by simp)).1 ?_
   refine xst 0 fun _ _ _ _ zJ zQ zo zx zy zK => op_storeRow (t := 22) (k := q) (v := .slice px26 (m + 1) cx26) zo zx zy (by kernel_rfl) rfl hou'5 (by omega) fun W27 u27 o27 => ?_
   rw [out_set (by simp)] at o27
   refine zK _ _ ?_
   refine xwm 5 ((↑i : Int) + 1) (↑(i + 1) : Int) ?_
   have hEa'4 := ((hEa.below n25.below).grow hg26 ha26).only (Only.of_updRow (T := [22]) u27 hou'5 (by decide)) (by decide)
   have o26'1 := u27.ownRow o26 hou'5 (by decide)
   have hov'6 := u27.ownRow (own_grown (own_below hov n25.below) hg26 hla'7 (by decide)) hou'5 (by decide)
   obtain ⟨q2, m2, pl2, cl2, gs2, hq2, hm2, hn2, hE2, hl2, ho2⟩ := spl_next (l := l) hq hm (by omega) hn1 hEa'4 o26'1 o27
   have hB'16 := u27.below (hB'15.trans hb26) (own_ge hou'5)
   exact ze 2 (hJ1 _ _ _ ⟨i + 1, q2, m2, nb, _, _, pl2, cl2, gs2, ko, _, _, rfl, rfl, hB'16, ho2, (by rw [overK_no (by omega)]; exact hov'6), hl2, hE2, by omega, hq2, hm2, hn2, fun k hk => (Nat.lt_or_ge k i).elim (hok k) (fun q => by obtain rfl : k = i := (by omega); unfold cntOk; omega), by rw [overK_no (by omega)]; exact hko⟩ (by omega))
 refine xe 15 (.tuple #[.slice pb nb cb, .slice po ko co, .int .i64 0]) ?_
 obtain rfl : i = l.length := by omega
 obtain ⟨hn9, gs9, hL9⟩ := spl_done (l := l) hq hm hnb hEa hla hou
 subst hn9
 subst hko
 exact .inr ⟨by unfold splitE; rw [if_neg (by omega), if_pos hok], _, _, gs9, _, _, rfl, hB_1, hL9, hov⟩
end Go.Proofs.YtcjpomibhbakdaaGreatDoor
