/- code.Zero, seal.Open. bits.Read. Errors that lie in memory stay what they are while a block of another type is written. Blocks of an image that are read: (*Image).Read, whatever the number. What was sealed opens: a plain law on lists of bytes. append(s, make([]byte, k)...) at a literal s. An error's text, as contracts. Package block at an image that is none, and the example of law 11. Further steps of a walk: append of a string to a row of the call's own, a store into a place of such a row, and where an appended row lies. The document's answer for the layers 1, 2 and 4: Bytes, Sum, Salt, known, Seal. The document's example of chapter 5: scantlinglaw05.lives returns true. scantlinglaw05.Own and Told, scantlingref05.At and Same, as contracts. The document's answer for the layers 3 and 11: an image's blocks, Of, Write, Bytes; Write of a block. The document's answer for layer 7: Width, Max, Right and Put at a node that is right. The document's answer for layer 15: how many sizes there are, Levels, Nodes. image.Of and block.Write at an image in a row of its own. block.Write of anything, and the statement BlockWrites, walked. -/
import Derived.Lib.AppendZerosOnto
import Derived.Lib.ItoaNum
import Derived.Lib.AppendStr
import Derived.Test.YtbopakjiahojdaaGreatDoorMg2
namespace Go.Proofs.YtbopakjiahojdaaGreatDoor
open Go.RowKit Go.Extern.Stop Go.Stop Go.Extern
set_option linter.unusedVariables false
attribute [local irreducible] wpList wpAnyH Code.wp Oper.wp Go

section
variable {P : Program} {a : Act}
/-- a cut of a slice at both bounds -/
theorem run_sliceLHA {o : Oper} {t e : TypeId} {x y y2 : Operand} {b : Option Addr} {n k h c : Nat} {i j : Int} {ki kj : IntKind} (size : Nat) (ho : o.op = .slice t x (some y) (some y2) none) (hx : a.eval x = .slice b n c) (hy : a.eval y = .int ki i) (hi : i = (k : Int)) (hy2 : a.eval y2 = .int kj j) (hj : j = (h : Int)) (hk : k ≤ h) (hc : h ≤ c)
    (ht : P.underlying t = some (.slice e)) (hs : (P.info? e).map (·.size) = some size) (w : World) : (execOp a.eval o).run P w = .ok (.value (.slice (cutA b k c size) (h - k) (c - k))) w := by
  cases hq : P.info? e with
  | none => simp [hq] at hs
  | some q =>
    have hj' : q.size = size := by simpa [hq] using hs
    subst hi hj
    have h1 : (0 : Int) ≤ (k : Int) := by omega
    have h2 : (0 : Int) ≤ (h : Int) := by omega
    have h3 : (k : Int) ≤ (h : Int) := by omega
    have h4 : (h : Int) ≤ (c : Int) := by omega
    by_cases h5 : c = k
    · simp_all [execOp, Instr.sliceAt, Instr.slice, Instr.sliceBounds, Instr.sliceBound, asIntOf, run_underlying ht, sizeOf, typeInfo, cutA]
    · simp_all [execOp, Instr.sliceAt, Instr.slice, Instr.sliceBounds, Instr.sliceBound, asIntOf, run_underlying ht, sizeOf, typeInfo, cutA]
end
theorem Bys.cut {w : World} {b : Option Addr} {n c : Nat} {l : List UInt8} (h : Bys w (.slice b n c) l) (hl : l.length = n) (k m : Nat) (hk : k ≤ m) (hm : m ≤ n) : Bys w (.slice (cutA b k c 1) (m - k) (c - k)) ((l.drop k).take (m - k)) := by
  have hlen : ((l.drop k).take (m - k)).length = m - k := by simp; omega
  have hcap := Bys.cap h hl
  rcases h with ⟨a', c', h1, h2, h3⟩ | ⟨g, off, cap, h1, h2, h3, h4⟩
  · obtain rfl : k = 0 := by omega
    obtain rfl : m = 0 := by omega
    refine .inl ⟨cutA b 0 c 1, c - 0, ?_, by simp, by simp⟩
    simp
  · simp only [Value.slice.injEq] at h1
    obtain ⟨rfl, _, rfl⟩ := h1
    by_cases hz : m - k = 0
    · refine .inl ⟨cutA (some ⟨g, off, none⟩) k c 1, c - k, by rw [hz], by omega, ?_⟩
      rw [hz]; rfl
    · refine .inr ⟨g, off + k * 1, c - k, ?_, by omega, by omega, fun j x hj => ?_⟩
      · rw [cutA, if_neg (by omega), hlen]; simp [Addr.add]
      · rw [List.getElem?_map, List.getElem?_take] at hj
        split at hj
        · rw [List.getElem?_drop] at hj
          have := h4 (k + j) x (by rw [List.getElem?_map]; exact hj)
          rwa [Nat.mul_one, Nat.add_assoc]
        · cases hj
/-- whether all bytes are 0 -/
def zeroB (l : List UInt8) : Bool := l.all (· == 0)
theorem zeroB_true {l : List UInt8} (h : ∀ j, j < l.length → l.getD j 0 = 0) : zeroB l = true := by
  unfold zeroB
  rw [List.all_eq_true]
  intro x hx
  obtain ⟨j, hj, rfl⟩ := List.mem_iff_getElem.1 hx
  have := h j hj
  simpa [List.getD, hj] using this
theorem zeroB_false {l : List UInt8} {j : Nat} (hj : j < l.length) (h : ((l.getD j 0).toNat : Int) ≠ 0) : zeroB l = false := by
  unfold zeroB
  rw [List.all_eq_false]
  refine ⟨l[j], List.getElem_mem hj, ?_⟩
  intro h2
  apply h
  have : l[j] = 0 := by simpa using h2
  simp [List.getD, hj, this]
theorem byte_zero {x : UInt8} (h : (x.toNat : Int) = 0) : x = 0 := by
  have h1 : x.toNat = 0 := by omega
  exact UInt8.toNat_inj.1 (by rw [h1]; rfl)
set_option maxRecDepth 100000 in
set_option maxHeartbeats 1000000 in
theorem zero_1 (n : Int) (w : World) :
    Calls Tryz.prog 130 #[.int .u8 n] w (Ret (.bool (n != 0)) w) := by
 refine zin 5 Tryz.func130 ?_
 exact xe 13 (.bool (n != (0 : Int))) ⟨rfl, (Below.refl w.heap.size _)⟩
set_option maxRecDepth 100000 in
set_option maxHeartbeats 2000000 in
theorem indexZero (a : Option Addr) (c : Nat) (l : List UInt8) (w : World) (hl : l.length ≤ 100000000) (h : Bys w (.slice a l.length c) l) :
    Calls Tryz.prog 133 #[.slice a l.length c, .func (.func 130) #[] #[]] w (fun e w' => (zeroB l = true ∧ e = .returned (.int .i64 (-1)) ∧ Below w.heap.size w w') ∨ (zeroB l = false ∧ ∃ i : Nat, e = .returned (.int .i64 (i : Int)) ∧ Below w.heap.size w w')) := by
 refine zin 19 Tryz.func133 ?_
 have hB := Below.refl w.heap.size w
 refine zl 14 19 (fun zm zkv V => ∃ (i : Nat), zkv = [(0, .slice a l.length c), (1, .func (.func 130) #[] #[]), (7, .int .i64 (↑l.length : Int)), (8, .int .i64 (↑i : Int))] ∧ zm = l.length - ((↑i : Int)).toNat ∧ Below w.heap.size w V ∧ i ≤ l.length ∧ (∀ j, j < i → l.getD j 0 = 0)) ⟨0, rfl, rfl, hB, Nat.zero_le _, ?_⟩ ?_
 · exact fun j hj => absurd hj (by omega)
 rintro _ _ W1 ⟨i, rfl, rfl, hB_1, hi, hz⟩ J1 hJ1 r1
 refine xid 6 ((↑i : Int) < (↑l.length : Int)) (fun hc2 => ?_) (fun hc2 => ?_)
 · refine xx 15 _ l.length i 1 (Bys.elem h (k := i) (by omega)).1 ?_
   refine xl 0 ((Bys.elem (h.below hB_1) (k := i) (by omega)).2) ?_
   refine xr 0 (args := #[.int .u8 (↑(l.getD i 0).toNat : Int)]) (zero_1 (↑(l.getD i 0).toNat : Int) _) fun W3 hb3 => ?_
   refine xin 2 (↑(l.getD i 0).toNat : Int) (0 : Int) (fun hc4 => ?_) (fun hc4 => ?_)
   · have hB'1 := Bl.next hB_1 hb3
     exact xe 12 (.int .i64 (↑i : Int)) (.inr ⟨zeroB_false (j := i) (by omega) (by assumption), _, rfl, hB'1⟩)
   refine xwm 4 ((↑i : Int) + 1) (↑(i + 1) : Int) ?_
   have hB'2 := Bl.next hB_1 hb3
   exact ze 2 (hJ1 _ _ _ ⟨i + 1, rfl, rfl, hB'2, by omega, fun j hj => (Nat.lt_or_ge j i).elim (hz j) (fun q => by obtain rfl : j = i := (by omega); exact byte_zero (by assumption))⟩ (by omega))
 exact xe 11 (.int .i64 (-1)) (.inl ⟨zeroB_true (fun j hj => hz j (by omega)), rfl, hB_1⟩)
set_option maxRecDepth 100000 in
set_option maxHeartbeats 1000000 in
theorem containsZero (a : Option Addr) (c : Nat) (l : List UInt8) (w : World) (hl : l.length ≤ 100000000) (h : Bys w (.slice a l.length c) l) :
    Calls Tryz.prog 129 #[.slice a l.length c, .func (.func 130) #[] #[]] w (Ret (.bool (!zeroB l)) w) := by
 refine zin 9 Tryz.func129 ?_
 refine xc 9 (args := #[.slice a l.length c, .func (.func 130) #[] #[]]) (indexZero a c l _ hl (h.below (Below.refl w.heap.size _))) ?_
 rintro e W1 hq1
 rcases hq1 with ⟨hz, rfl, hb1⟩ | ⟨hz, i0, rfl, hb1⟩
 · refine xe 5 (.bool false) ?_
   rw [hz]; exact ⟨rfl, hb1⟩
 refine xe 5 (.bool (decide ((↑i0 : Int) ≥ (0 : Int)))) ?_
 rw [hz, show decide ((↑i0 : Int) ≥ (0 : Int)) = true from decide_eq_true (by omega)]; exact ⟨rfl, hb1⟩
set_option maxRecDepth 100000 in
set_option maxHeartbeats 1000000 in
theorem code_Zero (a : Option Addr) (c : Nat) (l : List UInt8) (w : World) (hl : l.length ≤ 100000000) (h : Bys w (.slice a l.length c) l) :
    Calls Tryz.prog 110 #[.slice a l.length c] w (Ret (.bool (zeroB l)) w) := by
 refine zin 6 Tryz.func110 ?_
 refine xr 8 (args := #[.slice a l.length c, .func (.func 130) #[] #[]]) (containsZero a c l _ hl (h.below (Below.refl w.heap.size _))) fun W1 hb1 => ?_
 refine xe 5 (.bool (!(!zeroB l))) ?_
 rw [Bool.not_not]; exact ⟨rfl, hb1⟩
/-- a kind and a number that may be -/
def knownB (kind no : Int) : Bool := decide (1 ≤ kind ∧ kind ≤ 4 ∧ 0 ≤ no ∧ no < 14400)
set_option maxRecDepth 100000 in
set_option maxHeartbeats 1000000 in
theorem seal_knownB (kind no : Int) (w : World) :
    Calls Tryz.prog 87 #[.int .i64 kind, .int .i64 no] w (Ret (.bool (knownB kind no)) w) := by
 refine zin 19 Tryz.func87 ?_
 refine xg 10 [6, 7] (decide (kind ≥ (1 : Int))) (fun hc1 => ?_) (fun hc1 => ?_)
 · have hc1 := of_decide_eq_true hc1
   refine xg 4 [9, 10, 11] (decide (kind ≤ (4 : Int))) (fun hc2 => ?_) (fun hc2 => ?_)
   · have hc2 := of_decide_eq_true hc2
     refine xg 4 [13, 14, 15] (decide (no ≥ (0 : Int))) (fun hc3 => ?_) (fun hc3 => ?_)
     · have hc3 := of_decide_eq_true hc3
       exact xe 7 (.bool (decide (no < (14400 : Int)))) ⟨by rw [show knownB kind no = decide (no < 14400) from decide_eq_decide.2 ⟨fun h => h.2.2.2, fun h => ⟨by omega, by omega, by omega, h⟩⟩], (Below.refl w.heap.size _)⟩
     have hc3 := of_decide_eq_false hc3
     exact xe 7 (.bool false) ⟨by rw [show knownB kind no = false from decide_eq_false (by omega)], (Below.refl w.heap.size _)⟩
   have hc2 := of_decide_eq_false hc2
   exact xe 11 (.bool false) ⟨by rw [show knownB kind no = false from decide_eq_false (by omega)], (Below.refl w.heap.size _)⟩
 have hc1 := of_decide_eq_false hc1
 exact xe 15 (.bool false) ⟨by rw [show knownB kind no = false from decide_eq_false (by omega)], (Below.refl w.heap.size _)⟩
set_option maxRecDepth 100000 in
set_option maxHeartbeats 1000000 in
theorem seal_told (a : Option Addr) (c k w : Nat) (l : List UInt8) (W : World) (hw : w = 1 ∨ w = 2 ∨ w = 4) (hk : k + w ≤ l.length) (hl : l.length ≤ 100000000) (h : Bys W (.slice a l.length c) l) :
    Calls Tryz.prog 124 #[.slice a l.length c, .int .i64 (↑k : Int), .int .i64 (↑w : Int)] W (Ret (.int .i64 (rawN l k w : Int)) W) := by
 refine zin 17 Tryz.func124 ?_
 refine xr 10 (args := #[.slice a l.length c, .int .i64 (↑k : Int), .int .i64 (↑w : Int)]) (Get_ok a c k w l _ (by omega) hk hl (h.below (Below.refl W.heap.size _)) (by have := rawN_lt4 l k w (by omega); omega)) fun W1 hb1 => ?_
 exact xe 14 (.int .i64 (↑(rawN l k w) : Int)) ⟨rfl, hb1⟩
theorem seal_toldN (a : Option Addr) (n c k w : Nat) (ki wi : Int) (l : List UInt8) (W : World) (hn : l.length = n) (hki : ki = (k : Int)) (hwi : wi = (w : Int)) (hw : w = 1 ∨ w = 2 ∨ w = 4) (hk : k + w ≤ n) (hl : n ≤ 100000000) (h : Bys W (.slice a n c) l) :
    Calls Tryz.prog 124 #[.slice a n c, .int .i64 ki, .int .i64 wi] W (Ret (.int .i64 (rawN l k w : Int)) W) := by
  subst hn hki hwi; exact seal_told a c k w l W hw hk hl h
/-- what Open asks, in order -/
def askB (kind no : Int) (l : List UInt8) : Nat → Bool
  | 0 => !knownB kind no
  | 1 => (l.length : Int) != 256
  | 2 => (rawN l 252 4 : Int) != (sumB l kind : Int)
  | 3 => (rawN l 0 4 : Int) != no
  | 4 => (rawN l 4 2 : Int) != kind
  | _ => (rawN l 6 2 : Int) != 0
/-- the number of the first that is so; 0: none -/
def openE (kind no : Int) (l : List UInt8) : Int :=
  if askB kind no l 0 then 1 else if askB kind no l 1 then 7 else if askB kind no l 2 then 4 else if askB kind no l 3 then 5 else if askB kind no l 4 then 6 else if askB kind no l 5 then 7 else 0
theorem ask1 {kind no : Int} {l : List UInt8} (h : askB kind no l 1 = false) : l.length = 256 := by
  have : (l.length : Int) = 256 := eq_of_bne_false h
  omega
set_option maxRecDepth 100000 in
set_option maxHeartbeats 1000000 in
theorem open_1 (kind no : Int) (w : World) (l : List UInt8) (bk : Nat) (kk : Blk w bk [.int .i64 kind] 3) (bn : Nat) (kn : Blk w bn [.int .i64 no] 3) :
    Calls Tryz.prog 121 #[.pointer (some ⟨bk, 0, none⟩), .pointer (some ⟨bn, 0, none⟩)] w (Ret (.bool (askB kind no l 0)) w) := by
 refine zin 7 Tryz.func121 ?_
 refine xb 7 0 kk ?_
 refine xb 0 0 kn ?_
 refine xr 0 (args := #[.int .i64 kind, .int .i64 no]) (seal_knownB kind no _) fun W1 hb1 => ?_
 exact xe 5 (.bool (!(knownB kind no))) ⟨rfl, hb1⟩
set_option maxRecDepth 100000 in
set_option maxHeartbeats 1000000 in
theorem open_2 (kind no : Int) (w : World) (bb : Nat) (a : Option Addr) (c : Nat) (l : List UInt8) (kb : Blk w bb [.slice a l.length c] 29) :
    Calls Tryz.prog 122 #[.pointer (some ⟨bb, 0, none⟩)] w (Ret (.bool (askB kind no l 1)) w) := by
 refine zin 5 Tryz.func122 ?_
 refine xb 7 0 kb ?_
 exact xe 6 (.bool ((↑l.length : Int) != (256 : Int))) ⟨rfl, (Below.refl w.heap.size _)⟩
theorem seal_sumN (kind : Int) (a : Option Addr) (c n : Nat) (l : List UInt8) (w : World) (hn : l.length = n) (h256 : n = 256) (hc : 256 ≤ c) (h : Bys w (.slice a n c) l) :
    Calls Tryz.prog 89 #[.slice a n c, .int .i64 kind] w (Ret (.int .i64 (sumB l kind : Int)) w) := by
  subst h256; exact seal_sum kind a c l w hn hc h
set_option maxRecDepth 100000 in
set_option maxHeartbeats 1000000 in
theorem open_3 (kind no : Int) (w : World) (bb : Nat) (a : Option Addr) (c : Nat) (l : List UInt8) (kb : Blk w bb [.slice a l.length c] 29) (bk : Nat) (kk : Blk w bk [.int .i64 kind] 3) (hl : l.length = 256) (hc : 256 ≤ c) (h : Bys w (.slice a l.length c) l) :
    Calls Tryz.prog 123 #[.pointer (some ⟨bb, 0, none⟩), .pointer (some ⟨bk, 0, none⟩)] w (Ret (.bool (askB kind no l 2)) w) := by
 refine zin 9 Tryz.func123 ?_
 refine xd 6 .z ?_
 have kb'1 := kb.below (below_drew w)
 refine xb (.e [] 0) 0 kb'1 ?_
 refine xb (.e [] 2) 0 kb'1 ?_
 have kk'1 := kk.below (below_drew w)
 refine xb (.e [] 3) 0 kk'1 ?_
 have hB := (below_drew w)
 refine xr (.o [] 1) (args := #[.slice a l.length c, .int .i64 252, .int .i64 4]) (seal_toldN a l.length c 252 4 252 4 l _ rfl rfl rfl (by decide) (by omega) (by omega) (h.below hB)) fun W1 hb1 => ?_
 have hB'1 := Bl.next hB hb1
 refine xr (.o [] 4) (args := #[.slice a l.length c, .int .i64 kind]) (seal_sumN kind a c l.length l _ rfl hl hc (h.below hB'1)) fun W2 hb2 => ?_
 have hB'2 := Bl.next hB'1 hb2
 exact xe (.r [5, 6] 3) (.bool ((↑(rawN l 252 4) : Int) != (↑(sumB l kind) : Int))) ⟨rfl, hB'2⟩
set_option maxRecDepth 100000 in
set_option maxHeartbeats 1000000 in
theorem open_4 (kind no : Int) (w : World) (bb : Nat) (a : Option Addr) (c : Nat) (l : List UInt8) (kb : Blk w bb [.slice a l.length c] 29) (bn : Nat) (kn : Blk w bn [.int .i64 no] 3) (hl : l.length = 256) (hc : 256 ≤ c) (h : Bys w (.slice a l.length c) l) :
    Calls Tryz.prog 125 #[.pointer (some ⟨bb, 0, none⟩), .pointer (some ⟨bn, 0, none⟩)] w (Ret (.bool (askB kind no l 3)) w) := by
 refine zin 7 Tryz.func125 ?_
 refine xd 6 .z ?_
 have kb'1 := kb.below (below_drew w)
 refine xb (.e [] 0) 0 kb'1 ?_
 have kn'1 := kn.below (below_drew w)
 refine xb (.e [] 2) 0 kn'1 ?_
 have hB := (below_drew w)
 refine xr (.o [] 1) (args := #[.slice a l.length c, .int .i64 0, .int .i64 4]) (seal_toldN a l.length c 0 4 0 4 l _ rfl rfl rfl (by decide) (by omega) (by omega) (h.below hB)) fun W1 hb1 => ?_
 have hB'1 := Bl.next hB hb1
 exact xe (.r [3, 4] 3) (.bool ((↑(rawN l 0 4) : Int) != no)) ⟨rfl, hB'1⟩
set_option maxRecDepth 100000 in
set_option maxHeartbeats 1000000 in
theorem open_5 (kind no : Int) (w : World) (bb : Nat) (a : Option Addr) (c : Nat) (l : List UInt8) (kb : Blk w bb [.slice a l.length c] 29) (bk : Nat) (kk : Blk w bk [.int .i64 kind] 3) (hl : l.length = 256) (hc : 256 ≤ c) (h : Bys w (.slice a l.length c) l) :
    Calls Tryz.prog 126 #[.pointer (some ⟨bb, 0, none⟩), .pointer (some ⟨bk, 0, none⟩)] w (Ret (.bool (askB kind no l 4)) w) := by
 refine zin 7 Tryz.func126 ?_
 refine xd 6 .z ?_
 have kb'1 := kb.below (below_drew w)
 refine xb (.e [] 0) 0 kb'1 ?_
 have kk'1 := kk.below (below_drew w)
 refine xb (.e [] 2) 0 kk'1 ?_
 have hB := (below_drew w)
 refine xr (.o [] 1) (args := #[.slice a l.length c, .int .i64 4, .int .i64 2]) (seal_toldN a l.length c 4 2 4 2 l _ rfl rfl rfl (by decide) (by omega) (by omega) (h.below hB)) fun W1 hb1 => ?_
 have hB'1 := Bl.next hB hb1
 exact xe (.r [3, 4] 3) (.bool ((↑(rawN l 4 2) : Int) != kind)) ⟨rfl, hB'1⟩
set_option maxRecDepth 100000 in
set_option maxHeartbeats 1000000 in
theorem open_6 (kind no : Int) (w : World) (bb : Nat) (a : Option Addr) (c : Nat) (l : List UInt8) (kb : Blk w bb [.slice a l.length c] 29) (hl : l.length = 256) (hc : 256 ≤ c) (h : Bys w (.slice a l.length c) l) :
    Calls Tryz.prog 127 #[.pointer (some ⟨bb, 0, none⟩)] w (Ret (.bool (askB kind no l 5)) w) := by
 refine zin 5 Tryz.func127 ?_
 refine xb 7 0 kb ?_
 refine xr 0 (args := #[.slice a l.length c, .int .i64 6, .int .i64 2]) (seal_toldN a l.length c 6 2 6 2 l _ rfl rfl rfl (by decide) (by omega) (by omega) (h.below (Below.refl w.heap.size _))) fun W1 hb1 => ?_
 exact xe 5 (.bool ((↑(rawN l 6 2) : Int) != (0 : Int))) ⟨rfl, hb1⟩
/-- what Open hands back -/
def OpenP (kind no : Int) (l : List UInt8) (w : World) (e : Ending) (w' : World) : Prop :=
  (openE kind no l ≠ 0 ∧ e = .returned (.tuple #[.slice none 0 0, .int .i64 (openE kind no l)]) ∧ Below w.heap.size w w') ∨
  (openE kind no l = 0 ∧ ∃ p c, e = .returned (.tuple #[.slice p 244 c, .int .i64 0]) ∧ Below w.heap.size w w' ∧ w'.ownsRow w.heap.size 5 1 (.slice p 244 c) 244 (((l.drop 8).take 244).map bv))
set_option maxRecDepth 100000 in
set_option maxHeartbeats 4000000 in
theorem seal_Open (kind no : Int) (a : Option Addr) (c : Nat) (l : List UInt8) (w : World) (h : Bys w (.slice a l.length c) l) :
    Calls Tryz.prog 108 #[.slice a l.length c, .int .i64 kind, .int .i64 no] w (OpenP kind no l w) := by
 have hcap := h.cap rfl
 refine zin 39 Tryz.func108 ?_
 refine xa 2 [.slice a l.length c] 29 fun b1 W1 n1 => ?_
 refine xa 0 [.int .i64 kind] 3 fun b2 W2 n2 => ?_
 refine xa 0 [.int .i64 no] 3 fun b3 W3 n3 => ?_
 have d3_b2 := n3.ne n2.blk
 refine xbs 18 6 [.func (.func 121) #[] #[.pointer (some ⟨b2, 0, none⟩), .pointer (some ⟨b3, 0, none⟩)], .int .i64 1, .func (.func 122) #[] #[.pointer (some ⟨b1, 0, none⟩)], .int .i64 7, .func (.func 123) #[] #[.pointer (some ⟨b1, 0, none⟩), .pointer (some ⟨b2, 0, none⟩)], .int .i64 4, .func (.func 125) #[] #[.pointer (some ⟨b1, 0, none⟩), .pointer (some ⟨b3, 0, none⟩)], .int .i64 5, .func (.func 126) #[] #[.pointer (some ⟨b1, 0, none⟩), .pointer (some ⟨b2, 0, none⟩)], .int .i64 6, .func (.func 127) #[] #[.pointer (some ⟨b1, 0, none⟩)], .int .i64 7] 192 fun b4 W4 n4 => ?_
 refine xu 12 7 ?_
 refine xlv 14 (n4.blk.rpp 0 2) ?_
 refine xa 0 [.nilFunc, .int .i64 0] 192 fun b5 W5 n5 => ?_
 have d5_b4 := n5.ne n4.blk
 refine xsv 0 n5.blk [.func (.func 121) #[] #[.pointer (some ⟨b2, 0, none⟩), .pointer (some ⟨b3, 0, none⟩)], .int .i64 1] fun W6 u6 k6 => ?_
 have g5 := n5.ge (Bl.next (Bl.next (Bl.next n1.below n2.below) n3.below) n4.below)
 refine xb 5 0 k6 ?_
 have k2'1 := u6.blkT (((n2.blk.below n3.below).below n4.below).below n5.below) n5.blk (by decide)
 have k3 := u6.blkT ((n3.blk.below n4.below).below n5.below) n5.blk (by decide)
 refine xr 0 (args := #[.pointer (some ⟨b2, 0, none⟩), .pointer (some ⟨b3, 0, none⟩)]) (open_1 kind no _ l b2 k2'1 b3 k3) fun W7 hb7 => ?_
 refine xi 2 (askB kind no l 0) (fun hc8 => ?_) (fun hc8 => ?_)
 · have hk1 := hc8
   refine xd 1 .z ?_
   have k6'1 := (k6.below hb7).below (below_drew W7)
   refine xb (.e [0] 1) 1 k6'1 ?_
   have hB := Bl.next (Bl.next (u6.below (Bl.next (Bl.next (Bl.next (Bl.next n1.below n2.below) n3.below) n4.below) n5.below) g5) hb7) (below_drew W7)
   refine xe (.r [2, 3] 8) (.tuple #[.slice none 0 0, .int .i64 1]) ?_
   have he : openE kind no l = 1 := by simp [openE, hk1]
   exact .inl ⟨by rw [he]; decide, by rw [he], hB⟩
 have hk1 := hc8
 have k4'1 := (u6.blk (n4.blk.below n5.below) (Ne.symm (Ne.symm d5_b4))).below hb7
 refine xlv 22 (k4'1.rpp 2 2) ?_
 refine xa 0 [.nilFunc, .int .i64 0] 192 fun b9 W9 n9 => ?_
 have d9_b4 := n9.ne k4'1
 have k6'2 := k6.below hb7
 have d9_b5 := n9.ne k6'2
 refine xsv 0 n9.blk [.func (.func 122) #[] #[.pointer (some ⟨b1, 0, none⟩)], .int .i64 7] fun W10 u10 k10 => ?_
 have g9 := n9.ge (Bl.next (u6.below (Bl.next (Bl.next (Bl.next (Bl.next n1.below n2.below) n3.below) n4.below) n5.below) g5) hb7)
 refine xb 5 0 k10 ?_
 have k1 := u10.blkT (((u6.blkT ((((n1.blk.below n2.below).below n3.below).below n4.below).below n5.below) n5.blk (by decide)).below hb7).below n9.below) n9.blk (by decide)
 refine xr 0 (args := #[.pointer (some ⟨b1, 0, none⟩)]) (open_2 kind no _ b1 a c l k1) fun W11 hb11 => ?_
 refine xi 2 (askB kind no l 1) (fun hc12 => ?_) (fun hc12 => ?_)
 · have hk2 := hc12
   refine xd 1 .z ?_
   have k10'1 := (k10.below hb11).below (below_drew W11)
   refine xb (.e [0] 1) 1 k10'1 ?_
   have hB := Bl.next (Bl.next (u10.below (Bl.next (Bl.next (u6.below (Bl.next (Bl.next (Bl.next (Bl.next n1.below n2.below) n3.below) n4.below) n5.below) g5) hb7) n9.below) g9) hb11) (below_drew W11)
   refine xe (.r [2, 3] 8) (.tuple #[.slice none 0 0, .int .i64 7]) ?_
   have he : openE kind no l = 7 := by simp [openE, hk1, hk2]
   exact .inl ⟨by rw [he]; decide, by rw [he], hB⟩
 have hk2 := hc12
 have hl256 := ask1 hk2
 have k4'2 := (u10.blk (k4'1.below n9.below) (Ne.symm (Ne.symm d9_b4))).below hb11
 refine xlv 22 (k4'2.rpp 4 2) ?_
 refine xa 0 [.nilFunc, .int .i64 0] 192 fun b13 W13 n13 => ?_
 have d13_b4 := n13.ne k4'2
 have k6'3 := (u10.blk (k6'2.below n9.below) (Ne.symm (Ne.symm d9_b5))).below hb11
 have d13_b5 := n13.ne k6'3
 have k10'2 := k10.below hb11
 have d13_b9 := n13.ne k10'2
 have hB := Bl.next (u10.below (Bl.next (Bl.next (u6.below (Bl.next (Bl.next (Bl.next (Bl.next n1.below n2.below) n3.below) n4.below) n5.below) g5) hb7) n9.below) g9) hb11
 refine xsv 0 n13.blk [.func (.func 123) #[] #[.pointer (some ⟨b1, 0, none⟩), .pointer (some ⟨b2, 0, none⟩)], .int .i64 4] fun W14 u14 k14 => ?_
 have g13 := n13.ge hB
 refine xb 5 0 k14 ?_
 have k1'1 := u14.blkT ((k1.below hb11).below n13.below) n13.blk (by decide)
 have k2'2 := u14.blkT (((u10.blkT ((k2'1.below hb7).below n9.below) n9.blk (by decide)).below hb11).below n13.below) n13.blk (by decide)
 have hB'1 := u14.below (Bl.next hB n13.below) g13
 refine xr 0 (args := #[.pointer (some ⟨b1, 0, none⟩), .pointer (some ⟨b2, 0, none⟩)]) (open_3 kind no _ b1 a c l k1'1 b2 k2'2 (ask1 hk2) (by have := ask1 hk2; have := h.cap rfl; omega) (h.below hB'1)) fun W15 hb15 => ?_
 refine xi 2 (askB kind no l 2) (fun hc16 => ?_) (fun hc16 => ?_)
 · have hk3 := hc16
   refine xd 1 .z ?_
   have k14'1 := (k14.below hb15).below (below_drew W15)
   refine xb (.e [0] 1) 1 k14'1 ?_
   have hB'2 := Bl.next (Bl.next hB'1 hb15) (below_drew W15)
   refine xe (.r [2, 3] 8) (.tuple #[.slice none 0 0, .int .i64 4]) ?_
   have he : openE kind no l = 4 := by simp [openE, hk1, hk2, hk3]
   exact .inl ⟨by rw [he]; decide, by rw [he], hB'2⟩
 have hk3 := hc16
 have k4'3 := (u14.blk (k4'2.below n13.below) (Ne.symm (Ne.symm d13_b4))).below hb15
 refine xlv 22 (k4'3.rpp 6 2) ?_
 refine xa 0 [.nilFunc, .int .i64 0] 192 fun b17 W17 n17 => ?_
 have d17_b4 := n17.ne k4'3
 have k6'4 := (u14.blk (k6'3.below n13.below) (Ne.symm (Ne.symm d13_b5))).below hb15
 have d17_b5 := n17.ne k6'4
 have k10'3 := (u14.blk (k10'2.below n13.below) (Ne.symm (Ne.symm d13_b9))).below hb15
 have d17_b9 := n17.ne k10'3
 have k14'2 := k14.below hb15
 have d17_b13 := n17.ne k14'2
 refine xsv 0 n17.blk [.func (.func 125) #[] #[.pointer (some ⟨b1, 0, none⟩), .pointer (some ⟨b3, 0, none⟩)], .int .i64 5] fun W18 u18 k18 => ?_
 have g17 := n17.ge (Bl.next hB'1 hb15)
 refine xb 5 0 k18 ?_
 have k1'2 := u18.blkT ((k1'1.below hb15).below n17.below) n17.blk (by decide)
 have k3'1 := u18.blkT (((u14.blkT (((u10.blkT ((k3.below hb7).below n9.below) n9.blk (by decide)).below hb11).below n13.below) n13.blk (by decide)).below hb15).below n17.below) n17.blk (by decide)
 have hB'3 := u18.below (Bl.next (Bl.next hB'1 hb15) n17.below) g17
 refine xr 0 (args := #[.pointer (some ⟨b1, 0, none⟩), .pointer (some ⟨b3, 0, none⟩)]) (open_4 kind no _ b1 a c l k1'2 b3 k3'1 (ask1 hk2) (by have := ask1 hk2; have := h.cap rfl; omega) (h.below hB'3)) fun W19 hb19 => ?_
 refine xi 2 (askB kind no l 3) (fun hc20 => ?_) (fun hc20 => ?_)
 · have hk4 := hc20
   refine xd 1 .z ?_
   have k18'1 := (k18.below hb19).below (below_drew W19)
   refine xb (.e [0] 1) 1 k18'1 ?_
   have hB'4 := Bl.next (Bl.next hB'3 hb19) (below_drew W19)
   refine xe (.r [2, 3] 8) (.tuple #[.slice none 0 0, .int .i64 5]) ?_
   have he : openE kind no l = 5 := by simp [openE, hk1, hk2, hk3, hk4]
   exact .inl ⟨by rw [he]; decide, by rw [he], hB'4⟩
 have hk4 := hc20
 have k4'4 := (u18.blk (k4'3.below n17.below) (Ne.symm (Ne.symm d17_b4))).below hb19
 refine xlv 22 (k4'4.rpp 8 2) ?_
 refine xa 0 [.nilFunc, .int .i64 0] 192 fun b21 W21 n21 => ?_
 have d21_b4 := n21.ne k4'4
 have k6'5 := (u18.blk (k6'4.below n17.below) (Ne.symm (Ne.symm d17_b5))).below hb19
 have d21_b5 := n21.ne k6'5
 have k10'4 := (u18.blk (k10'3.below n17.below) (Ne.symm (Ne.symm d17_b9))).below hb19
 have d21_b9 := n21.ne k10'4
 have k14'3 := (u18.blk (k14'2.below n17.below) (Ne.symm (Ne.symm d17_b13))).below hb19
 have d21_b13 := n21.ne k14'3
 have k18'2 := k18.below hb19
 have d21_b17 := n21.ne k18'2
 refine xsv 0 n21.blk [.func (.func 126) #[] #[.pointer (some ⟨b1, 0, none⟩), .pointer (some ⟨b2, 0, none⟩)], .int .i64 6] fun W22 u22 k22 => ?_
 have g21 := n21.ge (Bl.next hB'3 hb19)
 refine xb 5 0 k22 ?_
 have k1'3 := u22.blkT ((k1'2.below hb19).below n21.below) n21.blk (by decide)
 have k2'3 := u22.blkT (((u18.blkT ((k2'2.below hb15).below n17.below) n17.blk (by decide)).below hb19).below n21.below) n21.blk (by decide)
 have hB'5 := u22.below (Bl.next (Bl.next hB'3 hb19) n21.below) g21
 refine xr 0 (args := #[.pointer (some ⟨b1, 0, none⟩), .pointer (some ⟨b2, 0, none⟩)]) (open_5 kind no _ b1 a c l k1'3 b2 k2'3 (ask1 hk2) (by have := ask1 hk2; have := h.cap rfl; omega) (h.below hB'5)) fun W23 hb23 => ?_
 refine xi 2 (askB kind no l 4) (fun hc24 => ?_) (fun hc24 => ?_)
 · have hk5 := hc24
   refine xd 1 .z ?_
   have k22'1 := (k22.below hb23).below (below_drew W23)
   refine xb (.e [0] 1) 1 k22'1 ?_
   have hB'6 := Bl.next (Bl.next hB'5 hb23) (below_drew W23)
   refine xe (.r [2, 3] 8) (.tuple #[.slice none 0 0, .int .i64 6]) ?_
   have he : openE kind no l = 6 := by simp [openE, hk1, hk2, hk3, hk4, hk5]
   exact .inl ⟨by rw [he]; decide, by rw [he], hB'6⟩
 have hk5 := hc24
 have k4'5 := (u22.blk (k4'4.below n21.below) (Ne.symm (Ne.symm d21_b4))).below hb23
 refine xlv 22 (k4'5.rpp 10 2) ?_
 refine xa 0 [.nilFunc, .int .i64 0] 192 fun b25 W25 n25 => ?_
 have d25_b4 := n25.ne k4'5
 have k6'6 := (u22.blk (k6'5.below n21.below) (Ne.symm (Ne.symm d21_b5))).below hb23
 have d25_b5 := n25.ne k6'6
 have k10'5 := (u22.blk (k10'4.below n21.below) (Ne.symm (Ne.symm d21_b9))).below hb23
 have d25_b9 := n25.ne k10'5
 have k14'4 := (u22.blk (k14'3.below n21.below) (Ne.symm (Ne.symm d21_b13))).below hb23
 have d25_b13 := n25.ne k14'4
 have k18'3 := (u22.blk (k18'2.below n21.below) (Ne.symm (Ne.symm d21_b17))).below hb23
 have d25_b17 := n25.ne k18'3
 have k22'2 := k22.below hb23
 have d25_b21 := n25.ne k22'2
 refine xsv 0 n25.blk [.func (.func 127) #[] #[.pointer (some ⟨b1, 0, none⟩)], .int .i64 7] fun W26 u26 k26 => ?_
 have g25 := n25.ge (Bl.next hB'5 hb23)
 refine xb 5 0 k26 ?_
 have k1'4 := u26.blkT ((k1'3.below hb23).below n25.below) n25.blk (by decide)
 have hB'7 := u26.below (Bl.next (Bl.next hB'5 hb23) n25.below) g25
 refine xr 0 (args := #[.pointer (some ⟨b1, 0, none⟩)]) (open_6 kind no _ b1 a c l k1'4  (ask1 hk2) (by have := ask1 hk2; have := h.cap rfl; omega) (h.below hB'7)) fun W27 hb27 => ?_
 refine xi 2 (askB kind no l 5) (fun hc28 => ?_) (fun hc28 => ?_)
 · have hk6 := hc28
   refine xd 1 .z ?_
   have k26'1 := (k26.below hb27).below (below_drew W27)
   refine xb (.e [0] 1) 1 k26'1 ?_
   have hB'8 := Bl.next (Bl.next hB'7 hb27) (below_drew W27)
   refine xe (.r [2, 3] 8) (.tuple #[.slice none 0 0, .int .i64 7]) ?_
   have he : openE kind no l = 7 := by simp [openE, hk1, hk2, hk3, hk4, hk5, hk6]
   exact .inl ⟨by rw [he]; decide, by rw [he], hB'8⟩
 have hk6 := hc28
 have k1'5 := k1'4.below hb27
 refine xb 22 0 k1'5 ?_
 refine xsB 0 (fun _ _ _ _ _ zo zx zy zz V => run_sliceLHA (k := 8) (h := 252) (b := a) (n := l.length) (c := c) (i := 8) (ki := .i64) (j := 252) (kj := .i64) 1 zo zx zy rfl zz rfl (by omega) (by omega) Tryz.underlying29 (by kernel_rfl) V) ?_
 have hB'9 := Bl.next hB'7 hb27
 refine xc 0 (args := #[.slice (cutA a 8 c 1) 244 (c - 8)]) (clone_bytesN (cutA a 8 c 1) 244 (c - 8) ((l.drop 8).take 244) _ (by have := ask1 hk2; simp; omega) ((Bys.cut h rfl 8 252 (by decide) (by have := ask1 hk2; omega)).below hB'9) (by decide)) ?_
 rintro _ W29 ⟨_, rfl, hb29, ho⟩
 have hs29 := (Bl.next hB'7 hb27).size
 have ho'1 := own_mono ho hs29
 unfold OwnB at ho'1
 rw [show ((l.drop 8).take 244).length = 244 from by have := ask1 hk2; simp; omega] at ho'1
 obtain ⟨p, c3, rfl⟩ := (own_sl ho'1).slice
 have hB'10 := Bl.next hB'9 hb29
 exact xe 5 (.tuple #[.slice p 244 c3, .int .i64 0]) (.inr ⟨by simp [openE, hk1, hk2, hk3, hk4, hk5, hk6], _, _, rfl, hB'10, ho'1⟩)
end Go.Proofs.YtbopakjiahojdaaGreatDoor
namespace Go.Proofs.YtbopakjiahojdaaGreatDoor
open Go.RowKit Go.Extern.Stop Go.Stop Go.Extern
set_option linter.unusedVariables false
attribute [local irreducible] wpList wpAnyH Code.wp Oper.wp Go

section
variable {P : Program} {a : Act}
theorem run_shrU8 {o : Oper} {t t2 : TypeId} {x y : Operand} {n s : Nat} {j : Int} {kj : IntKind} (ho : o.op = .binOp .shr t x y t2) (hx : a.eval x = .int .u8 (n : Int)) (hy : a.eval y = .int kj j) (hj : j = (s : Int)) (hs : s ≤ 8) (w : World) : (execOp a.eval o).run P w = .ok (.value (.int .u8 ((n / 2 ^ s : Nat) : Int))) w := by
  subst hj
  have e := shift_shr_u8 kj (n : Int) (s : Int) (Int.natCast_nonneg s) (by omega)
  simp only [execOp, ho, hx, hy, eqGuard_shr, binOp_shr, e]
  simp
end
theorem Get_okN (a : Option Addr) (n c k w : Nat) (ki wi : Int) (l : List UInt8) (W : World) (hn : l.length = n) (hki : ki = (k : Int)) (hwi : wi = (w : Int)) (hw : w = 1 ∨ w = 2 ∨ w = 4) (hk : k + w ≤ n) (hl : n ≤ 100000000) (h : Bys W (.slice a n c) l) :
    Calls Tryz.prog 111 #[.slice a n c, .int .i64 ki, .int .i64 wi] W (Ret (.tuple #[.int .i64 (rawN l k w : Int), .int .i64 0]) W) := by
  subst hn hki hwi; exact Get_ok a c k w l W (by omega) hk hl h (by have := rawN_lt4 l k w (by omega); omega)
/-- the i-th count of a block of bits -/
def bitN (l : List UInt8) (i : Nat) : Nat := (l.getD (4 + i / 4) 0).toNat / 2 ^ (i % 4 * 2) % 4
theorem i64_and3 {n : Nat} (h : n < 9223372036854775808) : IntKind.i64.wrap (↑(BitVec.ofInt 64 (n : Int) &&& BitVec.ofInt 64 (3 : Int)).toNat : Int) = ((n % 4 : Nat) : Int) := by
  rw [show (3 : Int) = ((3 : Nat) : Int) from rfl, BitVec.ofInt_natCast, BitVec.ofInt_natCast, BitVec.toNat_and, BitVec.toNat_ofNat, BitVec.toNat_ofNat, Nat.mod_eq_of_lt (by omega), Nat.mod_eq_of_lt (by omega)]
  rw [show n &&& 3 = n % 4 from Nat.and_two_pow_sub_one_eq_mod n 2]
  exact i64_nat (by omega)
theorem quo_natB (n k : Nat) (hn : n < 9223372036854775808) (hk : 0 < k) : IntKind.i64.wrap (Int.tdiv (n : Int) (k : Int)) = ((n / k : Nat) : Int) := by
  rw [Int.tdiv_eq_ediv_of_nonneg (Int.natCast_nonneg _), ← Int.natCast_ediv]
  exact i64_nat (Nat.lt_of_le_of_lt (Nat.div_le_self _ _) hn)
theorem tmod_natB (n k : Nat) : Int.tmod (n : Int) (k : Int) = ((n % k : Nat) : Int) := by
  rw [Int.tmod_eq_emod_of_nonneg (Int.natCast_nonneg _), ← Int.natCast_emod]
theorem shr_lt (l : List UInt8) (k s : Nat) : (l.getD k 0).toNat / 2 ^ s < 256 := Nat.lt_of_le_of_lt (Nat.div_le_self _ _) (l.getD k 0).toNat_lt
def bitsL (l : List UInt8) (n : Nat) : List Nat := (List.range n).map (bitN l)
theorem bitsL_snoc (l : List UInt8) (n : Nat) : bitsL l (n + 1) = bitsL l n ++ [bitN l n] := by simp [bitsL, List.range_succ]
/-- whether bytes are a block of counts -/
def bitsOk (l : List UInt8) : Prop := l.length = 244 ∧ rawN l 0 4 ≤ 960 ∧ ∀ i, i < 960 → rawN l 0 4 ≤ i → bitN l i = 0
def BitsP (l : List UInt8) (w : World) (e : Ending) (w' : World) : Prop :=
  (¬ bitsOk l ∧ e = .returned (.tuple #[.slice none 0 0, .int .i64 7]) ∧ Below w.heap.size w w') ∨
  (bitsOk l ∧ ∃ p c, e = .returned (.tuple #[.slice p (rawN l 0 4) c, .int .i64 0]) ∧ Below w.heap.size w w' ∧ w'.ownsRow w.heap.size 3 1 (.slice p (rawN l 0 4) c) (rawN l 0 4) ((bitsL l (rawN l 0 4)).map nv))
set_option maxRecDepth 100000 in
set_option maxHeartbeats 2000000 in
theorem bits_Read (a : Option Addr) (c : Nat) (l : List UInt8) (w : World) (hl : l.length ≤ 100000000) (h : Bys w (.slice a l.length c) l) :
    Calls Tryz.prog 86 #[.slice a l.length c] w (BitsP l w) := by
 refine zin 47 Tryz.func86 ?_
 refine xin 14 (↑l.length : Int) (244 : Int) (fun hc1 => ?_) (fun hc1 => ?_)
 · exact xe 8 (.tuple #[.slice none 0 0, .int .i64 7]) (.inl ⟨fun h => by have := h.1; omega, rfl, (Below.refl w.heap.size _)⟩)
 refine xr 5 (args := #[.slice a l.length c, .int .i64 0, .int .i64 4]) (Get_okN a l.length c 0 4 0 4 l _ rfl rfl rfl (by decide) (by omega) hl (h.below (Below.refl w.heap.size _))) fun W2 hb2 => ?_
 refine xid 14 ((↑(rawN l 0 4) : Int) > (960 : Int)) (fun hc3 => ?_) (fun hc3 => ?_)
 · exact xe 8 (.tuple #[.slice none 0 0, .int .i64 7]) (.inl ⟨fun h => by have := h.2.1; omega, rfl, hb2⟩)
 refine zl 14 47 (fun zm zkv V => ∃ (i m : Nat) (p : Option Addr) (c2 : Nat), zkv = [(0, .slice a l.length c), (4, .int .i64 (↑(rawN l 0 4) : Int)), (6, .slice p m c2), (19, .int .i64 (↑i : Int))] ∧ zm = 960 - ((↑i : Int)).toNat ∧ Below w.heap.size w V ∧ V.ownsRow w.heap.size 3 1 (.slice p m c2) m ((bitsL l m).map nv) ∧ i ≤ 960 ∧ m = min i (rawN l 0 4) ∧ (∀ j, j < i → rawN l 0 4 ≤ j → bitN l j = 0)) ⟨0, 0, _, _, rfl, rfl, hb2, World.ownsRow_nil _ _ _ _, Nat.zero_le _, by omega, ?_⟩ ?_
 · exact fun j hj => absurd hj (by omega)
 rintro _ _ W4 ⟨i, m, p, c2, rfl, rfl, hB_4, ho, hi, hm, hz⟩ J4 hJ4 r4
 refine xid 6 ((↑i : Int) < (960 : Int)) (fun hc5 => ?_) (fun hc5 => ?_)
 · refine xq 14 (congrArg (Value.int .i64) (show (IntKind.i64.wrap (Int.tdiv (↑i : Int) 4) : Int) = (↑(i / 4) : Int) from quo_natB i 4 (by omega) (by decide))) ?_
   refine xwm 0 (4 + (↑(i / 4) : Int)) (↑(4 + (i / 4)) : Int) ?_
   refine xx 0 _ l.length (4 + (i / 4)) 1 (Bys.elem h (k := (4 + (i / 4))) (by omega)).1 ?_
   refine xl 0 ((Bys.elem (h.below hB_4) (k := (4 + (i / 4))) (by omega)).2) ?_
   refine xq 1 (congrArg (Value.int .i64) (show (Int.tmod (↑i : Int) 4 : Int) = (↑(i % 4) : Int) from tmod_natB i 4)) ?_
   refine xwm 0 ((↑(i % 4) : Int) * 2) (↑((i % 4) * 2) : Int) ?_
   refine xbo 0 (t := 5) (t2 := 3) (fun _ _ _ _ zo zx zy V hV => run_shrU8 (n := ((l.getD (4 + (i / 4)) 0).toNat)) (s := ((i % 4) * 2)) (kj := .i64) (j := (↑((i % 4) * 2) : Int)) zo zx zy rfl (by omega) V) ?_
   refine xq 0 (congrArg (Value.int .i64) (show (IntKind.i64.wrap (↑((l.getD (4 + (i / 4)) 0).toNat / 2 ^ ((i % 4) * 2)) : Int) : Int) = (↑((l.getD (4 + (i / 4)) 0).toNat / 2 ^ ((i % 4) * 2)) : Int) from i64_nat (by have := shr_lt l (4 + i / 4) (i % 4 * 2); omega))) ?_
   refine xq 0 (congrArg (Value.int .i64) (show (IntKind.i64.wrap (↑(BitVec.ofInt 64 (↑((l.getD (4 + (i / 4)) 0).toNat / 2 ^ ((i % 4) * 2)) : Int) &&& BitVec.ofInt 64 (3 : Int)).toNat : Int) : Int) = (↑(bitN l i) : Int) from i64_and3 (by have := shr_lt l (4 + i / 4) (i % 4 * 2); omega))) ?_
   refine xid 12 ((↑i : Int) < (↑(rawN l 0 4) : Int)) (fun hc6 => ?_) (fun hc6 => ?_)
   · refine xbs 3 1 [.int .i64 (↑(bitN l i) : Int)] 3 fun b7 W7 n7 => ?_
     have r7_ho := own_ne ho n7
     have ho'1 := own_below ho n7.below
     have hB'1 := Bl.next hB_4 n7.below
     refine xbi 0 fun _ _ _ _ zJ zQ zo zx zy zK => op_app (m := 1) (news := [.int .i64 (↑(bitN l i) : Int)]) (.int .i64 0) 1 8 (m + 1) ((bitsL l (m + 1)).map nv) zo Tryz.underlying31 (by kernel_rfl) rfl (by decide) zx ho'1 zy (n7.blk.sl 1 1 (by decide) (by decide)) rfl (by simp [Value.oneCell']) (by unfold maxLen; omega) (by omega) hB'1.size (by rfl) (by rw [bitsL_snoc, List.map_append, show m = i by omega]; rfl) fun p8 c8 W8 o8 hg8 hb8 => ?_
     refine zK _ _ ?_
     refine xwm 6 ((↑i : Int) + 1) (↑(i + 1) : Int) ?_
     have hB'2 := hB'1.trans hb8
     exact ze 2 (hJ4 _ _ _ ⟨i + 1, m + 1, _, _, rfl, rfl, hB'2, o8, by omega, by omega, fun j hj hc => (Nat.lt_or_ge j i).elim (fun q => hz j q hc) (fun q => by obtain rfl : j = i := (by omega); omega)⟩ (by omega))
   refine xin 7 (↑(bitN l i) : Int) (0 : Int) (fun hc9 => ?_) (fun hc9 => ?_)
   · exact xe 13 (.tuple #[.slice none 0 0, .int .i64 7]) (.inl ⟨fun h => by have := h.2.2 i (by omega) (by omega); omega, rfl, hB_4⟩)
   refine xwm 5 ((↑i : Int) + 1) (↑(i + 1) : Int) ?_
   exact ze 2 (hJ4 _ _ _ ⟨i + 1, m, _, _, rfl, rfl, hB_4, ho, by omega, by omega, fun j hj hc => (Nat.lt_or_ge j i).elim (fun q => hz j q hc) (fun q => by obtain rfl : j = i := (by omega); omega)⟩ (by omega))
 refine xe 13 (.tuple #[.slice p m c2, .int .i64 0]) ?_
 obtain rfl : m = rawN l 0 4 := by omega
 exact .inr ⟨⟨by omega, by omega, fun j hj hc => hz j (by omega) hc⟩, _, _, rfl, hB_4, ho⟩
end Go.Proofs.YtbopakjiahojdaaGreatDoor
namespace Go.Proofs.YtbopakjiahojdaaGreatDoor
open Go.RowKit
theorem Blk.ty {w : World} {b : Nat} {cs cs' : List Value} {t t' : TypeId} (k : Blk w b cs t) (q : Blk w b cs' t') : t = t' := by
  have h1 : w.heap[b]? = some (.cells cs.toArray t (0, 0)) := k
  have h2 : w.heap[b]? = some (.cells cs'.toArray t' (0, 0)) := q
  rw [h1] at h2
  simp only [Option.some.injEq, Obj.cells.injEq] at h2
  exact h2.2.1
theorem ErrV.upd {w W : World} {b : Nat} {cs : List Value} {t : TypeId} {l : List (Option Int)} {c : Option Int} {v : Value} (h : ErrV w l c v) (u : Upd w b W) (k : Blk w b cs t) (hne : t ≠ 136) : ErrV W l c v :=
  h.kept fun _ _ q => u.blk q (by rintro rfl; exact hne (k.ty q))
theorem ErrV.grown {w W : World} {e : TypeId} {base size n : Nat} {s : Value} {xs : List Value} {l : List (Option Int)} {c : Option Int} {v : Value} (h : ErrV w l c v) (hg : w.grownBy W s.ownBlock) (hown : w.ownsRow base e size s n xs) (hne : e ≠ 136) : ErrV W l c v :=
  h.kept fun _ _ q => q.grown hg hown hne
theorem ErrV.only {T : List TypeId} {w W : World} {l : List (Option Int)} {c : Option Int} {v : Value} (h : ErrV w l c v) (k : Only T w W) (hne : T.contains 136 = false) : ErrV W l c v := h.kept fun _ _ q => q.only k hne
end Go.Proofs.YtbopakjiahojdaaGreatDoor
namespace Go.Proofs.YtbopakjiahojdaaGreatDoor
open Go.RowKit Go.Extern.Stop Go.Stop Go.Extern
set_option linter.unusedVariables false
attribute [local irreducible] wpList wpAnyH Code.wp Oper.wp Go

/-- an image at block b, its bytes l in a row of its own -/
structure ImgR (B b : Nat) (p : Option Addr) (n c : Nat) (l : List UInt8) (w : World) : Prop where
  blk : Blk w b [.slice p n c] 98
  row : w.ownsRow B 5 1 (.slice p n c) n (l.map bv)
  hn : n ≤ 3686400
theorem ImgR.below {B b : Nat} {p : Option Addr} {n c : Nat} {l : List UInt8} {w W : World} (h : ImgR B b p n c l w) (hb : Below w.heap.size w W) : ImgR B b p n c l W := ⟨h.blk.below hb, own_below h.row hb, h.hn⟩
theorem ImgR.only {B b : Nat} {p : Option Addr} {n c : Nat} {l : List UInt8} {w W : World} {T : List TypeId} (h : ImgR B b p n c l w) (hO : Only T w W) (hT : T.contains 98 = false ∧ T.contains 5 = false) : ImgR B b p n c l W := ⟨h.blk.only hO hT.1, own_only h.row hO hT.2, h.hn⟩
theorem ImgR.len {B b : Nat} {p : Option Addr} {n c : Nat} {l : List UInt8} {w : World} (h : ImgR B b p n c l w) : l.length = n := by have := h.row.1; simpa using this
theorem ImgR.base {B b : Nat} {p : Option Addr} {n c : Nat} {l : List UInt8} {w : World} (h : ImgR B b p n c l w) (hn : 0 < n) : ∃ g, p = some ⟨g, 0, none⟩ ∧ n ≤ c := by
  rcases h.row.2 with ⟨_, h0⟩ | ⟨g, cap, cur, hv, _, _, hc, _⟩
  · omega
  · simp only [Value.slice.injEq] at hv
    obtain ⟨rfl, _, rfl⟩ := hv
    exact ⟨g, rfl, hc⟩
/-- the bytes of a block -/
def blkB (l : List UInt8) (j : Nat) : List UInt8 := (l.drop (j * 256)).take 256
theorem blkB_len {l : List UInt8} {j : Nat} (h : j < l.length / 256) : (blkB l j).length = 256 := by simp [blkB]; omega
theorem Bys.mid {w : World} {g off n c : Nat} {l : List UInt8} (h : Bys w (.slice (some ⟨g, off, none⟩) n c) l) (hl : l.length = n) (k m : Nat) (hm : 0 < m) (hk : k + m ≤ n) : Bys w (.slice (some ⟨g, off + k, none⟩) m m) ((l.drop k).take m) := by
  have hlen : ((l.drop k).take m).length = m := by simp; omega
  rcases h with ⟨a', c', h1, h2, h3⟩ | ⟨g', off', cap, h1, h2, h3, h4⟩
  · omega
  · simp only [Value.slice.injEq, Option.some.injEq, Addr.mk.injEq] at h1
    obtain ⟨⟨rfl, rfl, _⟩, _, rfl⟩ := h1
    refine .inr ⟨g, off + k, m, by rw [hlen], by omega, by omega, fun j x hj => ?_⟩
    rw [List.getElem?_map, List.getElem?_take] at hj
    split at hj
    · rw [List.getElem?_drop] at hj
      have := h4 (k + j) x (by rw [List.getElem?_map]; exact hj)
      rwa [← Nat.add_assoc] at this
    · cases hj
theorem ImgR.part {B b g : Nat} {n c : Nat} {l : List UInt8} {w : World} (h : ImgR B b (some ⟨g, 0, none⟩) n c l w) {j : Nat} (hj : j < n / 256) : Bys w (.slice (some ⟨g, j * 256, none⟩) 256 256) (blkB l j) := by
  have := Bys.mid (bys_of (own_sl h.row) h.len) h.len (j * 256) 256 (by decide) (by omega)
  rwa [Nat.zero_add] at this
/-- what Read hands back -/
def ReadP (n : Nat) (l : List UInt8) (k : Int) (w : World) (e : Ending) (w' : World) : Prop :=
  (¬ (0 ≤ k ∧ k < (n / 256 : Nat)) ∧ ∃ v, e = .returned (.tuple #[v, .int .i64 3]) ∧ Below w.heap.size w w') ∨
  (∃ j : Nat, k = (j : Int) ∧ j < n / 256 ∧ ∃ p c, e = .returned (.tuple #[.slice p 256 c, .int .i64 0]) ∧ Below w.heap.size w w' ∧ w'.ownsRow w.heap.size 5 1 (.slice p 256 c) 256 ((blkB l j).map bv))
set_option maxRecDepth 100000 in
set_option maxHeartbeats 1000000 in
theorem image_block_out (b : Nat) (p : Option Addr) (n c : Nat) (k : Int) (w : World) (hk : Blk w b [.slice p n c] 98) (hn : n ≤ 100000000) (ho : ¬ (0 ≤ k ∧ k < (n / 256 : Nat))) :
    Calls Tryz.prog 90 #[.pointer (some ⟨b, 0, none⟩), .int .i64 k] w (Ret (.tuple #[.slice none 0 0, .int .i64 3]) w) := by
 refine zin 33 Tryz.func90 ?_
 refine xg 21 [13, 14] (decide (k < (0 : Int))) (fun hc1 => ?_) (fun hc1 => ?_)
 · have hc1 := of_decide_eq_true hc1
   exact xe 18 (.tuple #[.slice none 0 0, .int .i64 3]) ⟨rfl, (Below.refl w.heap.size _)⟩
 have hc1 := of_decide_eq_false hc1
 refine xr 2 (args := #[.pointer (some ⟨b, 0, none⟩)]) (image_Blocks b _ n c _ (hk.below (Below.refl w.heap.size _)) hn) fun W2 hb2 => ?_
 refine xk 5 (show (decide (k ≥ (↑(n / 256) : Int)) : Bool) = true from decide_eq_true (by omega)) ?_
 exact xe 9 (.tuple #[.slice none 0 0, .int .i64 3]) ⟨rfl, hb2⟩
set_option maxRecDepth 100000 in
set_option maxHeartbeats 1000000 in
theorem image_block_nil (k : Int) (w : World) :
    Calls Tryz.prog 90 #[.pointer none, .int .i64 k] w (Ret (.tuple #[.slice none 0 0, .int .i64 18]) w) := by
 refine zin 33 Tryz.func90 ?_
 exact xe 25 (.tuple #[.slice none 0 0, .int .i64 18]) ⟨rfl, (Below.refl w.heap.size _)⟩
set_option maxRecDepth 100000 in
set_option maxHeartbeats 1000000 in
theorem image_Read_nilp (k : Int) (w : World) :
    Calls Tryz.prog 107 #[.pointer none, .int .i64 k] w (RetS (fun _ r => ∃ v, r = .tuple #[v, .int .i64 18]) w) := by
 refine zin 17 Tryz.func107 ?_
 refine xr 10 (args := #[.pointer none, .int .i64 k]) (image_block_nil k _) fun W1 hb1 => ?_
 refine xc 10 (args := #[.slice none 0 0]) (clone_nil 0 _) ?_
 rintro _ W2 ⟨v2, rfl, hb2, _⟩
 have hB := Bl.next hb1 hb2
 exact xe 6 (.tuple #[v2, .int .i64 18]) ⟨_, rfl, hB, _, rfl⟩
set_option maxRecDepth 100000 in
set_option maxHeartbeats 1000000 in
theorem image_Read_out (B b : Nat) (p : Option Addr) (n c : Nat) (l : List UInt8) (k : Int) (w : World) (hI : ImgR B b p n c l w) (ho : ¬ (0 ≤ k ∧ k < (n / 256 : Nat))) :
    Calls Tryz.prog 107 #[.pointer (some ⟨b, 0, none⟩), .int .i64 k] w (RetS (fun _ r => ∃ v, r = .tuple #[v, .int .i64 3]) w) := by
 refine zin 17 Tryz.func107 ?_
 refine xr 10 (args := #[.pointer (some ⟨b, 0, none⟩), .int .i64 k]) (image_block_out b p n c k _ (hI.below (Below.refl w.heap.size _)).blk (by have := hI.hn; omega) ho) fun W1 hb1 => ?_
 refine xc 10 (args := #[.slice none 0 0]) (clone_nil 0 _) ?_
 rintro _ W2 ⟨v2, rfl, hb2, _⟩
 have hB := Bl.next hb1 hb2
 exact xe 6 (.tuple #[v2, .int .i64 3]) ⟨_, rfl, hB, _, rfl⟩
set_option maxRecDepth 100000 in
set_option maxHeartbeats 1000000 in
theorem image_Read_in (B b g : Nat) (n c : Nat) (l : List UInt8) (j : Nat) (w : World) (hI : ImgR B b (some ⟨g, 0, none⟩) n c l w) (hj : j < n / 256) (hc : n ≤ c) :
    Calls Tryz.prog 107 #[.pointer (some ⟨b, 0, none⟩), .int .i64 (↑j : Int)] w (RetS (fun w' r => ∃ p2 c3, r = .tuple #[.slice p2 256 c3, .int .i64 0] ∧ w'.ownsRow w.heap.size 5 1 (.slice p2 256 c3) 256 ((blkB l j).map bv)) w) := by
 have hlj := blkB_len (l := l) (j := j) (by rw [hI.len]; exact hj)
 refine zin 17 Tryz.func107 ?_
 refine xr 10 (args := #[.pointer (some ⟨b, 0, none⟩), .int .i64 (↑j : Int)]) (image_block b g n c j _ (hI.below (Below.refl w.heap.size _)).blk (by have := hI.hn; omega) hc hj) fun W1 hb1 => ?_
 refine xc 10 (args := #[.slice (some ⟨g, (j * 256), none⟩) 256 256]) (clone_bytesN (some ⟨g, (j * 256), none⟩) 256 256 (blkB l j) _ hlj ((hI.below hb1).part hj) (by decide)) ?_
 rintro _ W2 ⟨_, rfl, hb2, ho⟩
 have ho'1 := own_mono ho hb1.size
 unfold OwnB at ho'1
 rw [hlj] at ho'1
 obtain ⟨p2, c3, rfl⟩ := (own_sl ho'1).slice
 have hB'1 := Bl.next hb1 hb2
 exact xe 6 (.tuple #[.slice p2 256 c3, .int .i64 0]) ⟨_, rfl, hB'1, _, _, rfl, ho'1⟩
theorem image_Read (B b : Nat) (p : Option Addr) (n c : Nat) (l : List UInt8) (k : Int) (w : World) (hI : ImgR B b p n c l w) :
    Calls Tryz.prog 107 #[.pointer (some ⟨b, 0, none⟩), .int .i64 k] w (ReadP n l k w) := by
  by_cases h : 0 ≤ k ∧ k < (n / 256 : Nat)
  · obtain ⟨g, rfl, hc⟩ := hI.base (by omega)
    obtain ⟨j, rfl⟩ : ∃ j : Nat, k = j := ⟨k.toNat, by omega⟩
    refine (image_Read_in B b g n c l j w hI (by omega) hc).mono ?_
    rintro e W ⟨_, rfl, hb, p2, c3, rfl, ho⟩
    exact .inr ⟨j, rfl, by omega, _, _, rfl, hb, ho⟩
  · refine (image_Read_out B b p n c l k w hI h).mono ?_
    rintro e W ⟨_, rfl, hb, v, rfl⟩
    exact .inl ⟨h, _, rfl, hb⟩
/-- what a block of a kind has within: the error's number -/
def inE (l : List UInt8) (kind no : Int) : Int := if 0 ≤ no ∧ no < (l.length / 256 : Nat) then openE kind no (blkB l no.toNat) else 3
/-- and the bytes -/
def inB (l : List UInt8) (no : Int) : List UInt8 := ((blkB l no.toNat).drop 8).take 244
theorem inE_out {l : List UInt8} {kind no : Int} {n : Nat} (hl : l.length = n) (h : ¬ (0 ≤ no ∧ no < (n / 256 : Nat))) : inE l kind no = 3 := by subst hl; exact if_neg h
theorem inE_in {l : List UInt8} {kind no : Int} {n j : Nat} (hl : l.length = n) (hk : no = (j : Int)) (h : j < n / 256) : inE l kind no = openE kind no (blkB l j) := by
  subst hl hk; rw [inE, if_pos ⟨by omega, by omega⟩]; rfl
theorem inB_in {l : List UInt8} {no : Int} {j : Nat} (hk : no = (j : Int)) : inB l no = ((blkB l j).drop 8).take 244 := by subst hk; rfl
theorem inB_len {l : List UInt8} {no : Int} {n j : Nat} (hl : l.length = n) (hk : no = (j : Int)) (h : j < n / 256) : (inB l no).length = 244 := by
  subst hl hk; have := blkB_len h; simp [inB, this]
end Go.Proofs.YtbopakjiahojdaaGreatDoor
namespace Go.Proofs.YtbopakjiahojdaaGreatDoor
open Go.RowKit Go.Extern.Stop Go.Stop Go.Extern
set_option linter.unusedVariables false
attribute [local irreducible] wpList wpAnyH Code.wp Oper.wp Go

theorem ext_getD {l l' : List UInt8} (h : l.length = l'.length) (h2 : ∀ j, j < l.length → l.getD j 0 = l'.getD j 0) : l = l' := by
  apply List.ext_getElem h
  intro j h3 h4
  have := h2 j h3
  simpa [List.getD, h3, h4] using this
theorem putB_get {l : List UInt8} {k : Nat} {x : List UInt8} (h : k + x.length ≤ l.length) (j : Nat) : (putB l k x).getD j 0 = if k ≤ j ∧ j < k + x.length then x.getD (j - k) 0 else l.getD j 0 := by
  unfold putB
  simp only [List.getD]
  rw [List.append_assoc, List.getElem?_append, List.getElem?_append]
  have e : (l.take k).length = k := by simp; omega
  rw [e]
  by_cases h1 : j < k
  · rw [if_pos h1, if_neg (by omega), List.getElem?_take, if_pos h1]
  · rw [if_neg h1]
    by_cases h2 : j - k < x.length
    · rw [if_pos h2, if_pos (by omega)]
    · rw [if_neg h2, if_neg (by omega), List.getElem?_drop, show k + x.length + (j - k - x.length) = j by omega]
theorem rawN_congr {l l' : List UInt8} : ∀ (w k : Nat), (∀ j, k ≤ j → j < k + w → l.getD j 0 = l'.getD j 0) → rawN l k w = rawN l' k w
  | 0, k, h => rfl
  | w + 1, k, h => by rw [rawN, rawN, h k (by omega) (by omega), rawN_congr w (k + 1) fun j h1 h2 => h j (by omega) (by omega)]
theorem rawN_bytes {l : List UInt8} : ∀ (w k m : Nat), (∀ i, i < w → l.getD (k + i) 0 = UInt8.ofNat (m / 256 ^ i)) → rawN l k w = m % 256 ^ w
  | 0, k, m, h => by simp [rawN, Nat.mod_one]
  | w + 1, k, m, h => by
    have h0 := h 0 (by omega)
    simp only [Nat.add_zero, Nat.pow_zero, Nat.div_one] at h0
    have h1 := rawN_bytes (l := l) w (k + 1) (m / 256) fun i hi => by
      have := h (i + 1) (by omega)
      rw [Nat.pow_succ, Nat.mul_comm, ← Nat.div_div_eq_div_mul] at this
      rw [show k + 1 + i = k + (i + 1) by omega]; exact this
    rw [rawN, h0, h1, Nat.pow_succ, Nat.mul_comm (256 ^ w) 256, Nat.mod_mul]
    congr 1
theorem rawN_put {l : List UInt8} {k w : Nat} {n : Int} (h : k + w ≤ l.length) (h0 : 0 ≤ n) (hb : n.toNat < 256 ^ w) : (rawN (putB l k (leB n w)) k w : Int) = n := by
  rw [rawN_bytes w k n.toNat, Nat.mod_eq_of_lt hb]
  · omega
  · intro i hi
    rw [putB_get (by rw [leB_len]; exact h), if_pos (by rw [leB_len]; omega), show k + i - k = i by omega]
    simp [leB, byteAt, List.getD, List.getElem?_range hi]
theorem rawN_put_other {l x : List UInt8} {k j w : Nat} (h : k + x.length ≤ l.length) (hd : j + w ≤ k ∨ k + x.length ≤ j) : rawN (putB l k x) j w = rawN l j w :=
  rawN_congr w j fun i h1 h2 => by rw [putB_get h, if_neg (by omega)]
theorem rawN_zero {l : List UInt8} {k w : Nat} (h : ∀ j, k ≤ j → j < k + w → l.getD j 0 = 0) : rawN l k w = 0 := by
  have := rawN_bytes (l := l) w k 0 fun i hi => by rw [h (k + i) (by omega) (by omega)]; simp
  simpa using this
theorem sumB_put {l x : List UInt8} {kind : Int} (h : 252 ≤ l.length) : sumB (putB l 252 x) kind = sumB l kind := by
  unfold sumB putB
  rw [List.append_assoc, List.take_append_of_le_length (by simp; omega), List.take_take]; rfl
theorem zeros_get (n j : Nat) : (List.replicate n (0 : UInt8)).getD j 0 = 0 := by
  simp [List.getD, List.getElem?_replicate]; split <;> rfl
/-- what lies within a sealed block -/
def inSeal (li : List UInt8) : List UInt8 := li ++ List.replicate (244 - li.length) 0
theorem open_seal {kind no : Int} {li : List UInt8} (h1 : 1 ≤ kind) (h2 : kind ≤ 4) (h3 : 0 ≤ no) (h4 : no < 14400) (hl : li.length ≤ 244) : openE kind no (sealB kind no li) = 0 := by
  have l1 := seal1_len hl
  have l2 := seal2_len (no := no) hl
  have l3 := seal3_len (kind := kind) (no := no) hl
  have l4 := sealB_len (kind := kind) (no := no) hl
  have a0 : askB kind no (sealB kind no li) 0 = false := by simp only [askB]; rw [show knownB kind no = true from decide_eq_true (by omega)]; rfl
  have a1 : askB kind no (sealB kind no li) 1 = false := by simp only [askB, l4]; rfl
  have a2 : askB kind no (sealB kind no li) 2 = false := by
    have hs : sumB (sealB kind no li) kind = sumB (seal3 kind no li) kind := by unfold sealB; exact sumB_put (by omega)
    have hr : (rawN (sealB kind no li) 252 4 : Int) = (sumB (seal3 kind no li) kind : Int) := by
      unfold sealB
      exact rawN_put (by omega) (by omega) (by have := sumB_lt (seal3 kind no li) kind; simpa using this)
    simp only [askB, hr, hs]; simp
  have a3 : askB kind no (sealB kind no li) 3 = false := by
    have hr : (rawN (sealB kind no li) 0 4 : Int) = no := by
      unfold sealB
      rw [rawN_put_other (by rw [leB_len]; omega) (.inl (by omega))]
      unfold seal3
      rw [rawN_put_other (by rw [leB_len]; omega) (.inl (by omega))]
      unfold seal2
      exact rawN_put (by omega) (by omega) (by omega)
    simp only [askB, hr]; simp
  have a4 : askB kind no (sealB kind no li) 4 = false := by
    have hr : (rawN (sealB kind no li) 4 2 : Int) = kind := by
      unfold sealB
      rw [rawN_put_other (by rw [leB_len]; omega) (.inl (by omega))]
      unfold seal3
      exact rawN_put (by omega) (by omega) (by omega)
    simp only [askB, hr]; simp
  have a5 : askB kind no (sealB kind no li) 5 = false := by
    have hr : rawN (sealB kind no li) 6 2 = 0 := by
      unfold sealB
      rw [rawN_put_other (by rw [leB_len]; omega) (.inl (by omega))]
      unfold seal3
      rw [rawN_put_other (by rw [leB_len]; omega) (.inr (by rw [leB_len]; omega))]
      unfold seal2
      rw [rawN_put_other (by rw [leB_len]; omega) (.inr (by rw [leB_len]; omega))]
      unfold seal1
      rw [rawN_put_other (by rw [List.length_replicate]; omega) (.inl (by omega))]
      exact rawN_zero fun j _ _ => zeros_get 256 j
    simp only [askB, hr]; rfl
  simp [openE, a0, a1, a2, a3, a4, a5]
theorem in_seal {kind no : Int} {li : List UInt8} (hl : li.length ≤ 244) : ((sealB kind no li).drop 8).take 244 = inSeal li := by
  have l1 := seal1_len hl
  have l2 := seal2_len (no := no) hl
  have l3 := seal3_len (kind := kind) (no := no) hl
  have l4 := sealB_len (kind := kind) (no := no) hl
  apply ext_getD
  · simp [inSeal, l4]; omega
  · intro j hj
    have hj2 : j < 244 := by simp [l4] at hj; omega
    have e : (((sealB kind no li).drop 8).take 244).getD j 0 = (sealB kind no li).getD (8 + j) 0 := by
      simp only [List.getD]; rw [List.getElem?_take, if_pos hj2, List.getElem?_drop]
    rw [e]
    unfold sealB
    rw [putB_get (by rw [leB_len]; omega), if_neg (by rw [leB_len]; omega)]
    unfold seal3
    rw [putB_get (by rw [leB_len]; omega), if_neg (by rw [leB_len]; omega)]
    unfold seal2
    rw [putB_get (by rw [leB_len]; omega), if_neg (by rw [leB_len]; omega)]
    unfold seal1
    rw [putB_get (by rw [List.length_replicate]; omega), zeros_get]
    unfold inSeal
    simp only [List.getD]
    rw [List.getElem?_append]
    by_cases h : j < li.length
    · rw [if_pos ⟨by omega, by omega⟩, if_pos h, show 8 + j - 8 = j by omega]
    · rw [if_neg (by omega), if_neg h]
      have := zeros_get (244 - li.length) (j - li.length)
      simp only [List.getD] at this
      exact this.symm
/-- a block that was written stands in the image -/
theorem blkB_put {l x : List UInt8} {k : Nat} (hx : x.length = 256) (hk : k < l.length / 256) : blkB (putB l (k * 256) x) k = x := by
  have hkl : k * 256 + 256 ≤ l.length := by omega
  have hp := putB_len (l := l) (k := k * 256) (x := x) (by omega)
  apply ext_getD
  · rw [blkB_len (by rw [hp]; exact hk), hx]
  · intro j hj
    rw [blkB_len (by rw [hp]; exact hk)] at hj
    have e : (blkB (putB l (k * 256) x) k).getD j 0 = (putB l (k * 256) x).getD (k * 256 + j) 0 := by
      simp only [blkB, List.getD]; rw [List.getElem?_take, if_pos hj, List.getElem?_drop]
    rw [e, putB_get (by omega), if_pos (by omega), show k * 256 + j - k * 256 = j by omega]
theorem blkB_put_other {l x : List UInt8} {k i : Nat} (hx : x.length = 256) (hk : k < l.length / 256) (hne : i ≠ k) (hi : i < l.length / 256) : blkB (putB l (k * 256) x) i = blkB l i := by
  have hkl : k * 256 + 256 ≤ l.length := by omega
  have hp := putB_len (l := l) (k := k * 256) (x := x) (by omega)
  apply ext_getD
  · rw [blkB_len (by rw [hp]; exact hi), blkB_len hi]
  · intro j hj
    rw [blkB_len (by rw [hp]; exact hi)] at hj
    have e : ∀ l : List UInt8, (blkB l i).getD j 0 = l.getD (i * 256 + j) 0 := fun l => by
      simp only [blkB, List.getD]; rw [List.getElem?_take, if_pos hj, List.getElem?_drop]
    rw [e, e, putB_get (by omega), if_neg (by omega)]
end Go.Proofs.YtbopakjiahojdaaGreatDoor
namespace Go.Proofs.YtbopakjiahojdaaGreatDoor
open Go.RowKit Go.Extern.Stop Go.Stop Go.Extern
set_option linter.unusedVariables false
attribute [local irreducible] wpList wpAnyH Code.wp Oper.wp Go

theorem zeroCells_u8 (k : Nat) : Builtin.zeroCells #[Value.int .u8 0] k = (List.replicate k (Value.int .u8 0)).toArray := by
  apply Array.ext'
  unfold Builtin.zeroCells
  simp only [List.size_toArray, List.length_cons, List.length_nil, Nat.zero_add, Nat.mul_one, Nat.mod_one]
  rw [Array.toList_map]
  simp only [Array.toList_range]
  apply List.ext_getElem?
  intro i
  simp only [List.getElem?_map, List.getElem?_replicate]
  by_cases h : i < k
  · rw [List.getElem?_range h, if_pos h]; rfl
  · rw [if_neg h, List.getElem?_eq_none (by simpa using h)]; rfl
theorem op_appZ {P : Program} {a : Act} {w : World} {K : Act → World → Prop} {Q : Exit → Act → World → Prop} {o : Oper} {s x : Operand} {t tn e te : TypeId} {kq kn : IntKind} (b n k : Nat) (cs : List Value)
    (ho : o.op = .call { callee := .builtin .append, args := #[s, x], argTypes := #[t, tn] }) (ht : P.underlying t = some (.slice e)) (htn : P.underlying tn = some (.int kn)) (hi : (P.info? e).map (fun i => (i.zero, i.size, i.bytes)) = some (some (.int .u8 0), 1, 1))
    (hs : a.eval s = .slice (some ⟨b, 0, none⟩) n n) (hb : Blk w b cs te) (hl : cs.length = n) (hx : a.eval x = .int kq (k : Int)) (h0 : 0 < k) (hk : n + k ≤ 1000000)
    (h : ∀ g c W, W.ownsRow w.heap.size e 1 (.slice (some ⟨g, 0, none⟩) (n + k) c) (n + k) (cs ++ List.replicate k (.int .u8 0)) → Below w.heap.size w W → K (a.put o.dst (.slice (some ⟨g, 0, none⟩) (n + k) c)) W) : o.wp P a w K Q := by
  cases hq : P.info? e with
  | none => simp [hq] at hi
  | some i =>
    simp only [hq, Option.map_some, Option.some.injEq, Prod.mk.injEq] at hi
    obtain ⟨hz, h1, h2⟩ := hi
    have hb' : Blk w.drew b cs te := hb
    have hold := run_firstCells_some (P := P) (w := w.drew) i.size n ⟨b, 0, none⟩ n n cs (by rw [hl, h1, Nat.mul_one]) (fun j v hj => by
      have := hb'.cell hj
      by_cases h : j = 0
      · subst h; simpa [Addr.add] using this
      · simpa [Addr.add, h] using this)
    have hr := Lib.run_append_grow_zeros (P := P) w t tn o.type e i (.int .u8 0) kq kn ht htn hq hz (some ⟨b, 0, none⟩) n n cs hold k h0 (by omega) (by omega) (by omega) (by rw [h2]; omega) (growslice_fits (by omega) (by rw [h2]; omega))
    unfold Oper.wp execOp
    simp only [ho, resolve, invoke, builtin, Sem.run_bind, Sem.run_pure, Result.andThen_ok, List.map_toArray, List.map_cons, List.map_nil, hs, hx, hr]
    have hge := grownCap_ge w (n + k) n e
    have hcm : grownCap w (n + k) n e ≤ maxLen := grownCap_le_maxLen w (n + k) n e (by unfold maxLen; omega)
    refine h _ _ _ ⟨by simp [hl], .inr ⟨w.heap.size, _, _, rfl, Nat.le_refl _, heap_alloc_new w.drew _, hge, hcm, ?_, ?_⟩⟩ ((below_drew w).trans (show Below w.drew.heap.size w.drew _ from Bl.box w.drew _))
    · rw [show (Value.int .u8 0).cells = #[Value.int .u8 0] from rfl, zeroCells_u8, zeroCells_u8]; simp [hl]; omega
    · rw [show (Value.int .u8 0).cells = #[Value.int .u8 0] from rfl, zeroCells_u8, zeroCells_u8]
      simp only [Array.toList_append, List.append_assoc, Nat.mul_one]
      rw [← List.append_assoc, show n + k = (cs ++ List.replicate k (Value.int .u8 0)).length by simp [hl]]
      exact List.take_left
theorem run_append_room_zeros {P : Program} (w : World) (t tn ty e : TypeId) (i : TypeInfo) (kq kn : IntKind) (ht : P.underlying t = some (.slice e)) (htn : P.underlying tn = some (.int kn)) (hi : P.info? e = some i) (hz : i.zero = some (.int .u8 0)) (hs1 : i.size = 1) (hb1 : i.bytes = 1)
    (g n c k : Nat) (cur : Array Value) (hg : w.heap[g]? = some (.cells cur e (0, 0))) (h0 : 0 < k) (hroom : n + k ≤ c) (hfit : n + k ≤ cur.size) (hk : n + k ≤ 1000000) :
    (Builtin.append_ #[t, tn] ty #[.slice (some ⟨g, 0, none⟩) n c, .int kq k]).run P w =
      .ok (.slice (some ⟨g, 0, none⟩) (n + k) c) (w.setRow g (cur.toList.take n ++ List.replicate k (Value.int .u8 0) ++ cur.toList.drop (n + k)).toArray) := by
  have hk0 : k ≠ 0 := by omega
  have hw : IntKind.i64.wrap (k : Int) = k := by rw [IntKind.wrap_i64]; omega
  have h48i : ¬ (281474976710656 < (k : Int)) := by omega
  have hneg : ¬ ((k : Int) < 0) := by omega
  have hst := run_storeCells_at P g n e (List.replicate k (.int .u8 0)) 0 cur w hg (by simpa using hfit) (by intro u hu; rw [(List.mem_replicate.1 hu).2]; rfl)
  simp only [Nat.add_zero, List.length_replicate] at hst
  simp [Builtin.append_, run_underlying ht, run_underlying htn, sizeOf, typeInfo, zeroValue, hi, hz, hs1, hb1, asInt, asIntOf, hw, hneg, h48i, hk0, hroom, Addr.add_lit, show (Value.int IntKind.u8 0).cells = #[Value.int .u8 0] from rfl, zeroCells_u8, hst]
/-- append(s, make([]byte, k)...) onto a row of the call's own -/
theorem op_appZo {P : Program} {a : Act} {w : World} {K : Act → World → Prop} {Q : Exit → Act → World → Prop} {o : Oper} {s x : Operand} {t tn e : TypeId} {kq kn : IntKind} {base : Nat} {v : Value} {n : Nat} {xs : List Value} (k n' : Nat) (xs' : List Value)
    (ho : o.op = .call { callee := .builtin .append, args := #[s, x], argTypes := #[t, tn] }) (ht : P.underlying t = some (.slice e)) (htn : P.underlying tn = some (.int kn)) (hi : (P.info? e).map (fun i => (i.zero, i.size, i.bytes)) = some (some (.int .u8 0), 1, 1))
    (hs : a.eval s = v) (hown : w.ownsRow base e 1 v n xs) (hx : a.eval x = .int kq (k : Int)) (h0 : 0 < k) (hk : n + k ≤ 1000000) (hbase : base ≤ w.heap.size) (hn : n + k = n') (hxs : xs ++ List.replicate k (.int .u8 0) = xs')
    (h : ∀ b c' W, W.ownsRow base e 1 (.slice b n' c') n' xs' → w.grownBy W v.ownBlock → Below base w W → K (a.put o.dst (.slice b n' c')) W) : o.wp P a w K Q := by
  subst hn hxs
  cases hq : P.info? e with
  | none => simp [hq] at hi
  | some i =>
    simp only [hq, Option.map_some, Option.some.injEq, Prod.mk.injEq] at hi
    obtain ⟨hz, h1, h2⟩ := hi
    have hxl : xs.length = n := by simpa using hown.1
    have hlen : (xs ++ List.replicate k (Value.int .u8 0)).length = (n + k) * 1 := by simp [hxl]
    rcases hown.2 with ⟨rfl, rfl⟩ | ⟨g, c, cur, rfl, hbg, hg, hnc, hcm, hcs, htake⟩
    · obtain rfl : xs = [] := List.eq_nil_of_length_eq_zero hxl
      have hr := Lib.run_append_nil_zeros (P := P) w t tn o.type e i (.int .u8 0) kq kn ht htn hq hz k h0 (by omega) (by omega) (by rw [h2]; omega)
      unfold Oper.wp execOp
      simp only [ho, resolve, invoke, builtin, Sem.run_bind, Sem.run_pure, Result.andThen_ok, List.map_toArray, List.map_cons, List.map_nil, hs, hx, hr]
      have hge := grownCap_ge w k 0 e
      have hcm : grownCap w k 0 e ≤ maxLen := grownCap_le_maxLen w k 0 e (by unfold maxLen; omega)
      simp only [Nat.zero_add, List.nil_append] at h
      refine h _ _ _ ⟨by simp, .inr ⟨w.heap.size, _, _, rfl, hbase, heap_alloc_new w.drew _, hge, hcm, ?_, ?_⟩⟩ ⟨rfl, rfl, rfl, by simp, fun k hk _ => by first | exact heap_alloc_old w.drew _ k hk | exact heap_alloc_old w.drew _ hk⟩ (((below_drew w).trans (show Below w.drew.heap.size w.drew _ from Bl.box w.drew _)).mono hbase)
      · rw [show (Value.int .u8 0).cells = #[Value.int .u8 0] from rfl, zeroCells_u8, zeroCells_u8]; simp; omega
      · rw [show (Value.int .u8 0).cells = #[Value.int .u8 0] from rfl, zeroCells_u8, zeroCells_u8]
        simp only [Array.toList_append, Nat.mul_one]
        exact List.take_left' (by simp)
    by_cases hroom : n + k ≤ c
    · have hcs' : cur.size = c := by simpa using hcs
      have hr := run_append_room_zeros (P := P) w t tn o.type e i kq kn ht htn hq hz h1 h2 g n c k cur hg h0 hroom (by omega) hk
      unfold Oper.wp execOp
      simp only [ho, resolve, invoke, builtin, Sem.run_bind, Sem.run_pure, Result.andThen_ok, List.map_toArray, List.map_cons, List.map_nil, hs, hx, hr]
      have hgr : w.grownBy (w.setRow g (cur.toList.take n ++ List.replicate k (Value.int .u8 0) ++ cur.toList.drop (n + k)).toArray) (Value.ownBlock (.slice (some ⟨g, 0, none⟩) n c)) := ⟨rfl, rfl, rfl, by simp, fun k' _ hk' => setRow_other w g k' _ (fun e => hk' (by simp [Value.ownBlock, e]))⟩
      refine h _ _ _ ⟨hlen, .inr ⟨g, c, _, rfl, hbg, setRow_heap w g cur _ e _ hg, hroom, hcm, ?_, ?_⟩⟩ hgr (grown_below hgr hown (Nat.le_refl _) hbase)
      · simp only [List.size_toArray, List.length_append, List.length_take, List.length_drop, Array.length_toList, List.length_replicate]
        omega
      · have ht' : cur.toList.take n = xs := by simpa using htake
        rw [ht', ← hlen]
        exact List.take_left
    · have holds : ∀ j u, xs[j]? = some u → w.cell? ((⟨g, 0, none⟩ : Addr).add j) = some u := hown.cells (g := g) rfl
      have hold := run_firstCells_some (P := P) (w := w.drew) i.size n ⟨g, 0, none⟩ n c xs (by rw [hxl, h1, Nat.mul_one]) (by simpa using holds)
      have hr := Lib.run_append_grow_zeros (P := P) w t tn o.type e i (.int .u8 0) kq kn ht htn hq hz (some ⟨g, 0, none⟩) n c xs hold k h0 (by omega) (by omega) (by omega) (by rw [h2]; omega) (by rw [h2]; exact growslice_fits (by omega) (by omega))
      unfold Oper.wp execOp
      simp only [ho, resolve, invoke, builtin, Sem.run_bind, Sem.run_pure, Result.andThen_ok, List.map_toArray, List.map_cons, List.map_nil, hs, hx, hr]
      have hge := grownCap_ge w (n + k) c e
      have hcm : grownCap w (n + k) c e ≤ maxLen := grownCap_le_maxLen w (n + k) c e (by unfold maxLen; omega)
      refine h _ _ _ ⟨hlen, .inr ⟨w.heap.size, _, _, rfl, hbase, heap_alloc_new w.drew _, hge, hcm, ?_, ?_⟩⟩ ⟨rfl, rfl, rfl, by simp, fun k hk _ => by first | exact heap_alloc_old w.drew _ k hk | exact heap_alloc_old w.drew _ hk⟩ (((below_drew w).trans (show Below w.drew.heap.size w.drew _ from Bl.box w.drew _)).mono hbase)
      · rw [show (Value.int .u8 0).cells = #[Value.int .u8 0] from rfl, zeroCells_u8, zeroCells_u8]; simp [hxl]; omega
      · rw [show (Value.int .u8 0).cells = #[Value.int .u8 0] from rfl, zeroCells_u8, zeroCells_u8]
        simp only [Array.toList_append, List.append_assoc]
        rw [← List.append_assoc, ← hlen]
        exact List.take_left
end Go.Proofs.YtbopakjiahojdaaGreatDoor
namespace Go.Proofs.YtbopakjiahojdaaGreatDoor
open Go.RowKit Go.Extern.Stop Go.Stop Go.Extern
set_option linter.unusedVariables false

set_option maxHeartbeats 1000000 in
/-- strconv.Itoa at a number of one digit (no table is read) -/
theorem Tryz.itoa_small (i : Nat) (hi : i < 10) (w : World) : Calls Tryz.prog 153 #[.int .i64 i] w fun e w' => e = .returned (.string ⟨(Lib.decDigits i).toArray⟩) ∧ w' = w := by
  have : i = 0 ∨ i = 1 ∨ i = 2 ∨ i = 3 ∨ i = 4 ∨ i = 5 ∨ i = 6 ∨ i = 7 ∨ i = 8 ∨ i = 9 := by omega
  rcases this with rfl | rfl | rfl | rfl | rfl | rfl | rfl | rfl | rfl | rfl <;> (
    go_enter Tryz.func153, Tryz.ntmps153
    go_wp2
    go_ret
    exact ⟨by simp [Lib.decDigits]; rfl, rfl⟩)

/-- the numbers whose text Itoa prints, whatever has been added to this world -/
def Itoas (w : World) (n : Int) : Prop := ∀ W, Below w.heap.size w W → Calls Tryz.prog 153 #[.int .i64 n] W (Ret (.string ⟨(Lib.itoa n).toArray⟩) W)
theorem Itoas.below {w W : World} {n : Int} (h : Itoas w n) (hb : Below w.heap.size w W) : Itoas W n := fun X hX => h X (Bl.next hb hX)
theorem Itoas.small {n : Nat} (hn : n < 10) (w : World) : Itoas w n := fun W _ => by
  refine (Tryz.itoa_small n hn W).mono ?_
  rintro e w' ⟨rfl, rfl⟩
  refine ⟨?_, Below.refl _ _⟩
  simp [Lib.itoa]

def sBlock : ByteArray := ⟨#[98, 108, 111, 99, 107, 32]⟩
def sColon : ByteArray := ⟨#[58, 32]⟩
def sError : ByteArray := ⟨#[101, 114, 114, 111, 114, 32]⟩
def sOther : ByteArray := ⟨#[111, 116, 104, 101, 114]⟩
def numB (n : Int) : ByteArray := ⟨(Lib.itoa n).toArray⟩
/-- an error's text -/
def textB : List (Option Int) → Option Int → ByteArray
  | [], none => ⟨#[]⟩
  | [], some c => sError ++ numB c
  | some b :: r, t => sBlock ++ numB b ++ sColon ++ textB r t
  | none :: r, t => sOther
theorem Tryz.methErrorN (v : Value) (w : World) : (Go.method 349 40 v "Error").run Tryz.prog w = .ok (152, v) w := by kernel_rfl
theorem Tryz.methErrorF (v : Value) (w : World) : (Go.method 349 133 v "Error").run Tryz.prog w = .ok (170, v) w := by kernel_rfl
theorem Tryz.nilErrorF (a : Addr) (w : World) : (nilAhead 349 133 (.pointer (some a)) "Error").run Tryz.prog w = .ok (some false) w := by kernel_rfl

theorem errno_error (c : Int) (w : World) (hI : Itoas w c) (hs : (numB c).size ≤ 100) : Calls Tryz.prog 152 #[.int .i64 c] w (Ret (.string (sError ++ numB c)) w) := by
  have hc := hI w (Below.refl _ _)
  change Calls _ _ _ _ (Ret (.string (numB c)) w) at hc
  generalize numB c = x at hs hc ⊢
  unfold sError
  go_enter Tryz.func152, Tryz.ntmps152
  go_wp2_with fail
  refine hc.mono ?_
  rintro e w' ⟨rfl, hb⟩
  have hz : ¬ ((6 : Nat) + x.size > 9223372036854775807) := by omega
  go_wp2_with fail
  go_ret
  exact ⟨rfl, hb⟩
set_option maxRecDepth 100000 in
set_option maxHeartbeats 1000000 in
theorem fault_error_n (blk : Nat) (b : Int) (c : Int) (s : ByteArray) (w : World) (c0 : w.cell? ⟨blk, 0, none⟩ = some (.int .i64 b)) (c1 : w.cell? ⟨blk, 1, none⟩ = some (.iface 40 (.int .i64 c))) (hI : Itoas w b) (hs : (numB b).size ≤ 100) (ht : s.size ≤ 8000000)
    (hcall : ∀ W, Below w.heap.size w W → Calls Tryz.prog 152 #[(.int .i64 c)] W (Ret (.string s) W)) :
    Calls Tryz.prog 170 #[.pointer (some ⟨blk, 0, none⟩)] w (Ret (.string (sBlock ++ numB b ++ sColon ++ s)) w) := by
  have f1 := Tryz.methErrorN
  have hc : ∀ z : Ext w, Calls Tryz.prog 153 #[.int .i64 b] z.val (Ret (.string (numB b)) z.val) := fun z => hI z.val z.below
  have hd : ∀ z : Ext w, Calls Tryz.prog 152 #[(.int .i64 c)] z.val (Ret (.string s) z.val) := fun z => hcall z.val z.below
  generalize numB b = x at hs hc ⊢
  have e0 : ∀ z : Ext w, z.val.cell? ⟨blk, 0, none⟩ = some (.int .i64 b) := fun z => z.get c0
  have e1 : ∀ z : Ext w, z.val.cell? ⟨blk, 1, none⟩ = some (.iface 40 (.int .i64 c)) := fun z => z.get c1
  unfold sBlock sColon
  go_enter Tryz.func170, Tryz.ntmps170
  go_wp2_with fail
  refine wp_region_ext (by kernel_rfl) (by kernel_rfl) ?_
  repeat (go_big_quiet_step (first | (go_at_call 153; exact Ret.ext (hc _)) | (go_at_call 152; exact Ret.ext (hd _))))
  refine wpQuiet_nil ?_
  intro wx
  go_wp2_with fail
  go_ret
  exact ⟨rfl, wx.below⟩
set_option maxRecDepth 100000 in
set_option maxHeartbeats 1000000 in
theorem fault_error_f (blk : Nat) (b : Int) (k : Nat) (s : ByteArray) (w : World) (c0 : w.cell? ⟨blk, 0, none⟩ = some (.int .i64 b)) (c1 : w.cell? ⟨blk, 1, none⟩ = some (.iface 133 (.pointer (some ⟨k, 0, none⟩)))) (hI : Itoas w b) (hs : (numB b).size ≤ 100) (ht : s.size ≤ 8000000)
    (hcall : ∀ W, Below w.heap.size w W → Calls Tryz.prog 170 #[(.pointer (some ⟨k, 0, none⟩))] W (Ret (.string s) W)) :
    Calls Tryz.prog 170 #[.pointer (some ⟨blk, 0, none⟩)] w (Ret (.string (sBlock ++ numB b ++ sColon ++ s)) w) := by
  have f1 := Tryz.methErrorF
  have f2 := Tryz.nilErrorF
  have hc : ∀ z : Ext w, Calls Tryz.prog 153 #[.int .i64 b] z.val (Ret (.string (numB b)) z.val) := fun z => hI z.val z.below
  have hd : ∀ z : Ext w, Calls Tryz.prog 170 #[(.pointer (some ⟨k, 0, none⟩))] z.val (Ret (.string s) z.val) := fun z => hcall z.val z.below
  generalize numB b = x at hs hc ⊢
  have e0 : ∀ z : Ext w, z.val.cell? ⟨blk, 0, none⟩ = some (.int .i64 b) := fun z => z.get c0
  have e1 : ∀ z : Ext w, z.val.cell? ⟨blk, 1, none⟩ = some (.iface 133 (.pointer (some ⟨k, 0, none⟩))) := fun z => z.get c1
  unfold sBlock sColon
  go_enter Tryz.func170, Tryz.ntmps170
  go_wp2_with fail
  refine wp_region_ext (by kernel_rfl) (by kernel_rfl) ?_
  repeat (go_big_quiet_step (first | (go_at_call 153; exact Ret.ext (hc _)) | (go_at_call 170; exact Ret.ext (hd _))))
  refine wpQuiet_nil ?_
  intro wx
  go_wp2_with fail
  go_ret
  exact ⟨rfl, wx.below⟩

/-- how long a text may become -/
theorem textB_size {l : List (Option Int)} {t : Option Int} (h : ∀ b, (some b ∈ l ∨ t = some b) → (numB b).size ≤ 100) : (textB l t).size ≤ 108 * l.length + 108 := by
  induction l with
  | nil =>
    cases t with
    | none => exact Nat.zero_le _
    | some c =>
      have := h c (.inr rfl)
      simp only [textB, ByteArray.size_append, sError, ByteArray.size_mk']; simp; omega
  | cons x r ih =>
    cases x with
    | none => simp only [textB, sOther, ByteArray.size_mk']; simp; try omega
    | some b =>
      have h1 := h b (.inl (by simp))
      have h2 := ih (fun b hb => h b (hb.imp (List.mem_cons_of_mem _) id))
      simp only [textB, ByteArray.size_append, sBlock, sColon, ByteArray.size_mk', List.length_cons]; simp; omega
/-- the method Error of the value returns this string -/
def Says (v : Value) (s : ByteArray) (w : World) : Prop :=
  (∃ c, v = .iface 40 (.int .i64 c) ∧ Calls Tryz.prog 152 #[.int .i64 c] w (Ret (.string s) w)) ∨
  (∃ k, v = .iface 133 (.pointer (some ⟨k, 0, none⟩)) ∧ Calls Tryz.prog 170 #[.pointer (some ⟨k, 0, none⟩)] w (Ret (.string s) w))
  ∨ False
/-- no Fault wraps nothing -/
def okE : List (Option Int) → Option Int → Bool
  | [], t => t.isSome
  | some _ :: r, t => okE r t
  | none :: r, t => true
theorem err_says (t : Option Int) : ∀ (l : List (Option Int)) (v : Value) (w : World), l.length ≤ 10000 → ErrV w l t v → okE l t = true → (∀ b, (some b ∈ l ∨ t = some b) → Itoas w b ∧ (numB b).size ≤ 100) → Says v (textB l t) w
  | [], v, w, hlen, hv, hn, hI => by
    cases t with
    | none => exact nomatch hn
    | some c =>
      obtain rfl : v = _ := hv
      exact .inl ⟨c, rfl, errno_error c w (hI c (.inr rfl)).1 (hI c (.inr rfl)).2⟩
  | some b :: r, v, w, hlen, hv, hn, hI => by
    obtain ⟨blk, v', rfl, hk, h3⟩ := hv
    have h1 := hk.cell (i := 0) rfl
    have h2 := hk.cell (i := 1) rfl
    simp only [List.length_cons] at hlen
    have hI' : ∀ b, (some b ∈ r ∨ t = some b) → Itoas w b ∧ (numB b).size ≤ 100 := fun b hb => hI b (hb.imp (List.mem_cons_of_mem _) id)
    have hz : (textB r t).size ≤ 8000000 := by have := textB_size (fun b hb => (hI' b hb).2); omega
    have ih : ∀ W, Below w.heap.size w W → Says v' (textB r t) W := fun W hW => err_says t r v' W (by omega) (h3.below hW) hn (fun b hb => ⟨(hI' b hb).1.below hW, (hI' b hb).2⟩)
    have hb := hI b (.inl (by simp))
    refine .inr (.inl ⟨blk, rfl, ?_⟩)
    rcases ih w (Below.refl _ _) with ⟨c, rfl, _⟩ | ⟨k, rfl, _⟩ | hO
    · exact fault_error_n blk b c _ w h1 h2 hb.1 hb.2 hz (fun W hW => by rcases ih W hW with ⟨c, h, hc⟩ | ⟨k, h, _⟩ | hO <;> first | (cases h; exact hc) | exact nomatch h | exact hO.elim | (obtain ⟨u, h, _⟩ := hO; exact nomatch h))
    · exact fault_error_f blk b k _ w h1 h2 hb.1 hb.2 hz (fun W hW => by rcases ih W hW with ⟨c, h, hc⟩ | ⟨k, h, hc⟩ | hO <;> first | (cases h; exact hc) | exact nomatch h | exact hO.elim | (obtain ⟨u, h, _⟩ := hO; exact nomatch h))
    · exact hO.elim
  | none :: r, v, w, hlen, hv, hn, hI => hv.elim

set_option maxHeartbeats 400000 in
theorem fault_Text (t : Option Int) (l : List (Option Int)) (v : Value) (w : World) (hlen : l.length ≤ 10000) (hv : ErrV w l t v) (hn : noErr l t = false → okE l t = true) (hI : ∀ b, (some b ∈ l ∨ t = some b) → Itoas w b ∧ (numB b).size ≤ 100) :
    Calls Tryz.prog 51 #[v] w (Ret (.string (textB l t)) w) := by
  rcases hv.nil_or with ⟨hz, rfl⟩ | ⟨hz, _, _, _⟩
  · obtain ⟨rfl, rfl⟩ := noErr_true hz
    unfold textB
    go_enter Tryz.func51, Tryz.ntmps51
    go_wp2_with fail
    go_ret
    exact ⟨rfl, Below.refl _ _⟩
  have hs := err_says t l v w hlen hv (hn hz) hI
  generalize textB l t = s at hs ⊢
  clear hv hI hn hz
  have f1 := Tryz.methErrorN
  have f2 := Tryz.methErrorF
  have f3 := Tryz.nilErrorF
  rcases hs with ⟨c, rfl, hc⟩ | ⟨k, rfl, hc⟩ | hO
  · go_enter Tryz.func51, Tryz.ntmps51
    go_wp2_with fail
    refine hc.mono ?_
    rintro e w' ⟨rfl, hb⟩
    go_wp2_with fail
    go_ret
    exact ⟨rfl, hb⟩
  · go_enter Tryz.func51, Tryz.ntmps51
    go_wp2_with fail
    refine hc.mono ?_
    rintro e w' ⟨rfl, hb⟩
    go_wp2_with fail
    go_ret
    exact ⟨rfl, hb⟩
  · exact hO.elim
end Go.Proofs.YtbopakjiahojdaaGreatDoor
namespace Go.Proofs.YtbopakjiahojdaaGreatDoor
open Go.RowKit Go.Extern.Stop Go.Stop Go.Extern
set_option linter.unusedVariables false
attribute [local irreducible] wpList wpAnyH Code.wp Oper.wp Go

set_option maxRecDepth 100000 in
set_option maxHeartbeats 1000000 in
theorem readN_Node (b : Nat) (no : Int) (w : World) :
    Calls Tryz.prog 82 #[.pointer none, .int .i64 no, .int .i64 2, .func (.func 83) #[] #[.pointer (some ⟨b, 0, none⟩)]] w (RetS (fun w' r => ∃ b, r = .tuple #[.agg #[.int .i64 0, .bool false, .slice none 0 0, .slice none 0 0], .iface 133 (.pointer (some ⟨b, 0, none⟩))] ∧ ErrV w' [some no] (some 18) (.iface 133 (.pointer (some ⟨b, 0, none⟩)))) w) := by
 refine zin 56 Tryz.func82 ?_
 refine xa 2 [.int .i64 0, .bool false, .slice none 0 0, .slice none 0 0] 87 fun b1 W1 n1 => ?_
 refine xa 5 [.int .i64 0, .bool false, .slice none 0 0, .slice none 0 0] 87 fun b2 W2 n2 => ?_
 have d2_b1 := n2.ne n1.blk
 refine xc 6 (args := #[.pointer none, .int .i64 no]) (image_Read_nilp no _) ?_
 rintro _ W3 ⟨_, rfl, hb3, vr, rfl⟩
 refine xd 16 (.t w.heap.size [87]) ?_
 refine xm2 (.b [1, 2, 3]) 0 4 ?_ ?_
 · have k2 := (n2.blk.below hb3).below (below_drew W3)
   refine xlv 0 k2.rp ?_
   refine yc (.o [] 4) (args := #[.int .i64 no, .iface 40 (.int .i64 18)]) (.t w.heap.size [87]) (block_told no 18 _) ?_
   rintro _ W4 ⟨_, rfl, hb4, hv4⟩
   refine ⟨(SF.of_below _ hb4), ?_⟩
   rw [if_neg (by decide), if_neg (by decide)] at hv4
   have hq4 := hv4
   obtain ⟨bf4, vf4, rfl, _, _⟩ := hq4
   have k1'1 := (((n1.blk.below n2.below).below hb3).below (below_drew W3)).below hb4
   have g1 := n1.ge (Below.refl w.heap.size _)
   refine ysv (.o [] 5) k1'1 [.int .i64 0, .bool false, .slice none 0 0, .slice none 0 0] (.t w.heap.size [87]) fun W5 u5 k5 => ⟨(sft_upd u5 k1'1 g1 (by decide)), ?_⟩
   have hB := u5.below (Bl.next (Bl.next (Bl.next (Bl.next n1.below n2.below) hb3) (below_drew W3)) hb4) g1
   have hv4'1 := hv4.upd u5 k1'1 (by decide)
   exact xec (.r [6] 4) k5 (.tuple #[.agg #[.int .i64 0, .bool false, .slice none 0 0, .slice none 0 0], .iface 133 (.pointer (some ⟨bf4, 0, none⟩))]) ⟨_, rfl, hB, _, rfl, hv4'1⟩
 refine yc 0 (args := #[.int .i64 no, .iface 40 (.int .i64 18)]) (.t w.heap.size [87]) (block_told no 18 _) ?_
 rintro _ W6 ⟨_, rfl, hb6, hv6⟩
 refine ⟨(SF.of_below _ hb6), ?_⟩
 rw [if_neg (by decide), if_neg (by decide)] at hv6
 have hq6 := hv6
 obtain ⟨bf6, vf6, rfl, _, _⟩ := hq6
 have k2 := ((n2.blk.below hb3).below (below_drew W3)).below hb6
 refine xlv (.o [] 0) k2.rp ?_
 have k1'2 := (((n1.blk.below n2.below).below hb3).below (below_drew W3)).below hb6
 have g1 := n1.ge (Below.refl w.heap.size _)
 refine ysv (.o [] 5) k1'2 [.int .i64 0, .bool false, .slice none 0 0, .slice none 0 0] (.t w.heap.size [87]) fun W7 u7 k7 => ⟨(sft_upd u7 k1'2 g1 (by decide)), ?_⟩
 have hB := u7.below (Bl.next (Bl.next (Bl.next (Bl.next n1.below n2.below) hb3) (below_drew W3)) hb6) g1
 have hv6'1 := hv6.upd u7 k1'2 (by decide)
 exact xec (.r [6] 4) k7 (.tuple #[.agg #[.int .i64 0, .bool false, .slice none 0 0, .slice none 0 0], .iface 133 (.pointer (some ⟨bf6, 0, none⟩))]) ⟨_, rfl, hB, _, rfl, hv6'1⟩
set_option maxRecDepth 100000 in
set_option maxHeartbeats 1000000 in
theorem readN_Bits (b : Nat) (no : Int) (w : World) :
    Calls Tryz.prog 85 #[.pointer none, .int .i64 no, .int .i64 3, .func (.func 86) #[] #[]] w (RetS (fun w' r => ∃ b, r = .tuple #[.slice none 0 0, .iface 133 (.pointer (some ⟨b, 0, none⟩))] ∧ ErrV w' [some no] (some 18) (.iface 133 (.pointer (some ⟨b, 0, none⟩)))) w) := by
 refine zin 56 Tryz.func85 ?_
 refine xc 15 (args := #[.pointer none, .int .i64 no]) (image_Read_nilp no _) ?_
 rintro _ W1 ⟨_, rfl, hb1, vr, rfl⟩
 refine xc 21 (args := #[.int .i64 no, .iface 40 (.int .i64 18)]) (block_told no 18 _) ?_
 rintro _ W2 ⟨_, rfl, hb2, hv2⟩
 rw [if_neg (by decide), if_neg (by decide)] at hv2
 have hq2 := hv2
 obtain ⟨bf2, vf2, rfl, _, _⟩ := hq2
 have hB := Bl.next hb1 hb2
 exact xe 6 (.tuple #[.slice none 0 0, .iface 133 (.pointer (some ⟨bf2, 0, none⟩))]) ⟨_, rfl, hB, _, rfl, hv2⟩
set_option maxRecDepth 100000 in
set_option maxHeartbeats 1000000 in
theorem blkN_Node (no tree : Int) (w : World) :
    Calls Tryz.prog 59 #[.pointer none, .int .i64 no, .int .i64 tree] w (RetS (fun w' r => ∃ b, r = .tuple #[.agg #[.int .i64 0, .bool false, .slice none 0 0, .slice none 0 0], .iface 133 (.pointer (some ⟨b, 0, none⟩))] ∧ ErrV w' [some no] (some 18) (.iface 133 (.pointer (some ⟨b, 0, none⟩)))) w) := by
 refine zin 14 Tryz.func59 ?_
 refine xa 2 [.int .i64 tree] 3 fun b1 W1 n1 => ?_
 refine xa 0 [.int .i64 0, .bool false, .slice none 0 0, .slice none 0 0] 87 fun b2 W2 n2 => ?_
 refine xc 8 (args := #[.pointer none, .int .i64 no, .int .i64 2, .func (.func 83) #[] #[.pointer (some ⟨b1, 0, none⟩)]]) (readN_Node b1 no _) ?_
 rintro _ W3 ⟨_, rfl, hb3, bf, rfl, hv⟩
 have k2 := n2.blk.below hb3
 refine xsv 2 k2 [.int .i64 0, .bool false, .slice none 0 0, .slice none 0 0] fun W4 u4 k4 => ?_
 have g2 := n2.ge n1.below
 have hB := u4.below (Bl.next (Bl.next n1.below n2.below) hb3) g2
 have hv'1 := hv.upd u4 k2 (by decide)
 exact xec 4 k4 (.tuple #[.agg #[.int .i64 0, .bool false, .slice none 0 0, .slice none 0 0], .iface 133 (.pointer (some ⟨bf, 0, none⟩))]) ⟨_, rfl, hB, _, rfl, hv'1⟩
set_option maxRecDepth 100000 in
set_option maxHeartbeats 1000000 in
theorem blkN_Bits (no : Int) (w : World) :
    Calls Tryz.prog 60 #[.pointer none, .int .i64 no] w (RetS (fun w' r => ∃ b, r = .tuple #[.slice none 0 0, .iface 133 (.pointer (some ⟨b, 0, none⟩))] ∧ ErrV w' [some no] (some 18) (.iface 133 (.pointer (some ⟨b, 0, none⟩)))) w) := by
 refine zin 11 Tryz.func60 ?_
 refine xc 10 (args := #[.pointer none, .int .i64 no, .int .i64 3, .func (.func 86) #[] #[]]) (readN_Bits 0 no _) ?_
 rintro _ W1 ⟨_, rfl, hb1, bf, rfl, hv⟩
 exact xe 7 (.tuple #[.slice none 0 0, .iface 133 (.pointer (some ⟨bf, 0, none⟩))]) ⟨_, rfl, hb1, _, rfl, hv⟩
/-- the number that Seal hands back -/
def sealE (kind no : Int) (li : List UInt8) : Int := if knownB kind no then (if li.length ≤ 244 then 0 else 2) else 1
theorem knownB_all {kind no : Int} (h : knownB kind no = true) : 1 ≤ kind ∧ kind ≤ 4 ∧ 0 ≤ no ∧ no < 14400 := of_decide_eq_true h
set_option maxRecDepth 100000 in
set_option maxHeartbeats 1000000 in
theorem seal_Seal_bad (kind no : Int) (a : Option Addr) (c : Nat) (li : List UInt8) (w : World) (hk : knownB kind no = false) :
    Calls Tryz.prog 61 #[.int .i64 kind, .int .i64 no, .slice a li.length c] w (Ret (.tuple #[.slice none 0 0, .int .i64 1]) w) := by
 refine zin 54 Tryz.func61 ?_
 refine xr 11 (args := #[.int .i64 kind, .int .i64 no]) (seal_knownB kind no _) fun W1 hb1 => ?_
 refine xk 3 (show (!(knownB kind no) : Bool) = true from by rw [hk]; rfl) ?_
 exact xe 8 (.tuple #[.slice none 0 0, .int .i64 1]) ⟨rfl, hb1⟩
set_option maxRecDepth 100000 in
set_option maxHeartbeats 1000000 in
theorem seal_Seal_long (kind no : Int) (a : Option Addr) (c : Nat) (li : List UInt8) (w : World) (hk : knownB kind no = true) (hl : 244 < li.length) :
    Calls Tryz.prog 61 #[.int .i64 kind, .int .i64 no, .slice a li.length c] w (Ret (.tuple #[.slice none 0 0, .int .i64 2]) w) := by
 refine zin 54 Tryz.func61 ?_
 refine xr 11 (args := #[.int .i64 kind, .int .i64 no]) (seal_knownB kind no _) fun W1 hb1 => ?_
 refine xk 3 (show (!(knownB kind no) : Bool) = false from by rw [hk]; rfl) ?_
 refine xk 10 (show (decide ((↑li.length : Int) > (244 : Int)) : Bool) = true from decide_eq_true (by omega)) ?_
 exact xe 8 (.tuple #[.slice none 0 0, .int .i64 2]) ⟨rfl, hb1⟩
def SealP (kind no : Int) (li : List UInt8) (w : World) (e : Ending) (w' : World) : Prop :=
  (sealE kind no li ≠ 0 ∧ e = .returned (.tuple #[.slice none 0 0, .int .i64 (sealE kind no li)]) ∧ Below w.heap.size w w') ∨
  (sealE kind no li = 0 ∧ knownB kind no = true ∧ li.length ≤ 244 ∧ ∃ p c, e = .returned (.tuple #[.slice p 256 c, .int .i64 0]) ∧ Below w.heap.size w w' ∧ w'.ownsRow w.heap.size 5 1 (.slice p 256 c) 256 ((sealB kind no li).map bv))
theorem seal_SealG (kind no : Int) (a : Option Addr) (c : Nat) (li : List UInt8) (w : World) (h : Bys w (.slice a li.length c) li) :
    Calls Tryz.prog 61 #[.int .i64 kind, .int .i64 no, .slice a li.length c] w (SealP kind no li w) := by
  cases hk : knownB kind no with
  | false =>
    refine (seal_Seal_bad kind no a c li w hk).mono ?_
    rintro e W ⟨rfl, hb⟩
    have he : sealE kind no li = 1 := by simp [sealE, hk]
    exact .inl ⟨by rw [he]; decide, by rw [he], hb⟩
  | true =>
    by_cases hl : li.length ≤ 244
    · obtain ⟨h1, h2, h3, h4⟩ := knownB_all hk
      refine (seal_Seal kind no h1 h2 h3 h4 a c li w hl h).mono ?_
      rintro e W ⟨_, rfl, hb, p, c2, rfl, ho⟩
      exact .inr ⟨by simp [sealE, hk, hl], hk, hl, p, c2, rfl, hb, ho⟩
    · refine (seal_Seal_long kind no a c li w hk (by omega)).mono ?_
      rintro e W ⟨rfl, hb⟩
      have he : sealE kind no li = 2 := by simp [sealE, hk, hl]
      exact .inl ⟨by rw [he]; decide, by rw [he], hb⟩
set_option maxRecDepth 100000 in
set_option maxHeartbeats 1000000 in
theorem image_Write_nil (k : Int) (x : Value) (w : World) :
    Calls Tryz.prog 62 #[.pointer none, .int .i64 k, x] w (Ret (.int .i64 18) w) := by
 refine zin 24 Tryz.func62 ?_
 refine xr 9 (args := #[.pointer none, .int .i64 k]) (image_block_nil k _) fun W1 hb1 => ?_
 exact xe 23 (.int .i64 18) ⟨rfl, hb1⟩
set_option maxRecDepth 100000 in
set_option maxHeartbeats 1000000 in
theorem blkN_Write (no kind : Int) (a : Option Addr) (c : Nat) (li : List UInt8) (w : World) (h : Bys w (.slice a li.length c) li) :
    Calls Tryz.prog 34 #[.pointer none, .int .i64 no, .int .i64 kind, .slice a li.length c] w (RetS (fun w' r => ∃ b er, r = .iface 133 (.pointer (some ⟨b, 0, none⟩)) ∧ er ≠ 0 ∧ ErrV w' [some no] (some er) (.iface 133 (.pointer (some ⟨b, 0, none⟩)))) w) := by
 refine zin 28 Tryz.func34 ?_
 refine xc 10 (args := #[.int .i64 kind, .int .i64 no, .slice a li.length c]) (seal_SealG kind no a c li _ (h.below (Below.refl w.heap.size _))) ?_
 rintro e W1 hq1
 rcases hq1 with ⟨hs, rfl, hb1⟩ | ⟨_, _, _, p2, c2, rfl, hb1, _⟩
 · refine xk 14 (show (((sealE kind no li) == (0 : Int)) : Bool) = false from beq_false_of_ne hs) ?_
   refine xc 7 (args := #[.int .i64 no, .iface 40 (.int .i64 (sealE kind no li))]) (block_told no (sealE kind no li) _) ?_
   rintro _ W2 ⟨_, rfl, hb2, hv2⟩
   rw [if_neg hs, if_neg hs] at hv2
   have hq2 := hv2
   obtain ⟨bf2, vf2, rfl, _, _⟩ := hq2
   have hB := Bl.next hb1 hb2
   exact xe 4 (.iface 133 (.pointer (some ⟨bf2, 0, none⟩))) ⟨_, rfl, hB, _, _, rfl, hs, hv2⟩
 refine xr 19 (args := #[.pointer none, .int .i64 no, .slice p2 256 c2]) (image_Write_nil no _ _) fun W3 hb3 => ?_
 refine xc 8 (args := #[.int .i64 no, .iface 40 (.int .i64 18)]) (block_told no 18 _) ?_
 rintro _ W4 ⟨_, rfl, hb4, hv4⟩
 rw [if_neg (by decide), if_neg (by decide)] at hv4
 have hq4 := hv4
 obtain ⟨bf4, vf4, rfl, _, _⟩ := hq4
 have hB := Bl.next (Bl.next hb1 hb3) hb4
 exact xe 4 (.iface 133 (.pointer (some ⟨bf4, 0, none⟩))) ⟨_, rfl, hB, _, _, rfl, (by decide), hv4⟩
end Go.Proofs.YtbopakjiahojdaaGreatDoor
namespace Go.Proofs.YtbopakjiahojdaaGreatDoor
open Go.RowKit Go.Extern.Stop Go.Stop Go.Extern
set_option linter.unusedVariables false
section
variable {P : Program} {a : Act} {w : World} {K : Act → World → Prop} {Q : Exit → Act → World → Prop}
theorem strCells_bv (l : List UInt8) : Lib.strCells ⟨l.toArray⟩ = l.map bv := by
  unfold Lib.strCells bv
  simp
theorem op_appS {o : Oper} {s x : Operand} {t u e : TypeId} {base : Nat} {v : Value} {n : Nat} {xs : List Value} (l : List UInt8) (n' : Nat) (xs' : List Value) (ho : o.op = .call { callee := .builtin .append, args := #[s, x], argTypes := #[t, u] })
    (ht : P.underlying t = some (.slice e)) (hu : P.underlying u = some .string) (hi : (P.info? e).map (fun i => (i.zero, i.size, i.bytes)) = some (some (.int .u8 0), 1, 1)) (hs : a.eval s = v) (hown : w.ownsRow base e 1 v n xs) (hx : a.eval x = .string ⟨l.toArray⟩)
    (hb : n + l.length ≤ 100000000) (hbase : base ≤ w.heap.size) (hn : n + l.length = n') (hxs : xs ++ l.map bv = xs')
    (h : ∀ b c W, W.ownsRow base e 1 (.slice b n' c) n' xs' → w.grownBy W v.ownBlock → Below base w W → K (a.put o.dst (.slice b n' c)) W) : o.wp P a w K Q := by
  cases hq : P.info? e with
  | none => simp [hq] at hi
  | some i =>
    simp only [hq, Option.map_some, Option.some.injEq, Prod.mk.injEq] at hi
    have hsz : (⟨l.toArray⟩ : ByteArray).size = l.length := by simp [ByteArray.size]
    obtain ⟨v', W, hr, h2, h3, _⟩ := Lib.run_append_own_string (P := P) w base t u o.type e i ht hu hq hi.1 hi.2.1 hi.2.2 v n xs hown ⟨l.toArray⟩ (by rw [hsz]; unfold maxLen; omega) (by rw [hsz]; omega) hbase
    rw [hsz, strCells_bv] at h2
    subst hn hxs
    obtain ⟨b, c, rfl⟩ := (own_sl h2).slice
    unfold Oper.wp execOp
    simp only [ho, resolve, invoke, builtin, Sem.run_bind, Sem.run_pure, Result.andThen_ok, List.map_toArray, List.map_cons, List.map_nil, hs, hx, hr]
    exact h b c W h2 h3 (grown_below h3 hown (Nat.le_refl _) hbase)
theorem elemAddr_own (g k : Nat) : elemAddr (some ⟨g, 0, none⟩) (k * 1) = ⟨g, k, none⟩ := by
  simp [elemAddr, Addr.add]; exact fun h => h.symm
theorem op_storeRow {o : Oper} {t e : TypeId} {x y : Operand} {g n c k base : Nat} {xs : List Value} {v : Value} (ho : o.op = .store t x y) (hx : a.eval x = .pointer (some (elemAddr (some ⟨g, 0, none⟩) (k * 1)))) (hy : a.eval y = v)
    (hi : (P.info? t).map (·.size) = some 1) (h1 : v.oneCell' = true) (hown : w.ownsRow base e 1 (.slice (some ⟨g, 0, none⟩) n c) n xs) (hk : k < n)
    (h : ∀ W, Upd w g W → W.ownsRow base e 1 (.slice (some ⟨g, 0, none⟩) n c) n (xs.set k v) → K (a.put o.dst undef) W) : o.wp P a w K Q := by
  obtain ⟨hl, h2⟩ := hown
  rcases h2 with ⟨h2, _⟩ | ⟨g', cap, cur, hv, hg, hh, hc, hm, hsz, htk⟩
  · cases h2
  · simp only [Value.slice.injEq, Option.some.injEq, Addr.mk.injEq] at hv
    obtain ⟨⟨rfl, _⟩, _, rfl⟩ := hv
    have hb : Blk w g cur.toList e := by unfold Blk; simpa using hh
    rw [elemAddr_own] at hx
    refine op_store ho hx hy hi h1 hb (by simp; omega) fun W hu hW => h W hu ⟨by simpa using hl, .inr ⟨g, c, (cur.toList.set k v).toArray, rfl, hg, hW, hc, hm, by simpa using hsz, ?_⟩⟩
    rw [← htk]
    simp [List.take_set]
end
section
variable {P : Program} {ops : Array Oper} {Q : Exit → Act → World → Prop} {a a' : Act} {w : World} {S : World → Prop} {md : Region.Mode} {L L' : Array Bool} {fuel : Nat}
theorem h_three {o o2 o3 : Oper} (i j m fuel : Nat) {f0 : Nat} (hf : f0 = fuel + 1) (hr : Region.ready md ops L = [i, j, m]) (ho : ops.toList[i]? = some o) (ho2 : ops.toList[j]? = some o2) (ho3 : ops.toList[m]? = some o3) (hw : Region.wanted o (yielded ops a.tmps) = true) (hw2 : Region.wanted o2 (yielded ops a.tmps) = true) (hw3 : Region.wanted o3 (yielded ops a.tmps) = true)
    (h : o.wp P a w (fun a' w' => S w' ∧ wpAnyH P md ops Q S fuel (L.setIfInBounds i true) a' w') Q) (h2 : o2.wp P a w (fun a' w' => S w' ∧ wpAnyH P md ops Q S fuel (L.setIfInBounds j true) a' w') Q) (h3 : o3.wp P a w (fun a' w' => S w' ∧ wpAnyH P md ops Q S fuel (L.setIfInBounds m true) a' w') Q) : wpAnyH P md ops Q S f0 L a w := by
  subst hf
  refine wpAnyH_all hr (by simp) fun k hk => ?_
  have ho' : ops[i]? = some o := by rw [← ho]; simp
  have ho2' : ops[j]? = some o2 := by rw [← ho2]; simp
  have ho3' : ops[m]? = some o3 := by rw [← ho3]; simp
  rcases List.mem_cons.1 hk with rfl | hk
  · unfold wpOp; simp only [ho', hw, if_true]; exact .inl h
  · rcases List.mem_cons.1 hk with rfl | hk
    · unfold wpOp; simp only [ho2', hw2, if_true]; exact .inl h2
    · obtain rfl : k = m := by simpa using hk
      unfold wpOp; simp only [ho3', hw3, if_true]; exact .inl h3
end
theorem res_tc {P : Program} {fn : Func} {tmps : Array Value} {w : World} {k j : Nat} {t : TypeId} {b off : Nat} {cs : List Value} {d : TypeDesc} {u : Value} (hfn : fn.results = #[.tmp j, .cell k t]) (e : tmps.getD k undef = .pointer (some ⟨b, off, none⟩)) (e2 : tmps.getD j undef = u) (hc : w.rangeAt b off cs)
    (hu : P.underlying t = some d) (hd : d.isRow = true) (hi : (P.info? t).map (·.size) = some cs.length) : (results fn tmps).run P w = .ok (.tuple #[u, .agg cs.toArray]) w := by
  have h := run_loadVar_mid w b off t cs d hc hu hd hi
  have e' : tmps[k]?.getD undef = .pointer (some ⟨b, off, none⟩) := by simpa using e
  have e2' : tmps[j]?.getD undef = u := by simpa using e2
  simp [results, hfn, e', e2', asAddr, h]
theorem own_ge {w : World} {base e size g n c : Nat} {xs : List Value} (h : w.ownsRow base e size (.slice (some ⟨g, 0, none⟩) n c) n xs) : base ≤ g := (h.lt g rfl).1
theorem own_blk {w : World} {base e size g n c : Nat} {xs : List Value} (h : w.ownsRow base e size (.slice (some ⟨g, 0, none⟩) n c) n xs) : ∃ cs, Blk w g cs e := by
  rcases h.2 with ⟨h2, _⟩ | ⟨g', cap, cur, hv, hg, hh, _⟩
  · cases h2
  · simp only [Value.slice.injEq, Option.some.injEq, Addr.mk.injEq] at hv
    obtain ⟨⟨rfl, _⟩, _⟩ := hv
    exact ⟨cur.toList, by unfold Blk; simpa using hh⟩
theorem own_blk_ne {w : World} {base e size g n c b : Nat} {t : TypeId} {xs cs : List Value} (k : Blk w b cs t) (h : w.ownsRow base e size (.slice (some ⟨g, 0, none⟩) n c) n xs) (hne : t ≠ e) : b ≠ g := by
  rintro rfl
  obtain ⟨cs', k'⟩ := own_blk h
  have h1 : w.heap[b]? = some (.cells cs.toArray t (0, 0)) := k
  rw [show w.heap[b]? = some (.cells cs'.toArray e (0, 0)) from k'] at h1
  simp only [Option.some.injEq, Obj.cells.injEq] at h1
  exact hne h1.2.1.symm
theorem Only.of_updRow {T : List TypeId} {w W : World} {base e size g n c : Nat} {xs : List Value} (u : Upd w g W) (h : w.ownsRow base e size (.slice (some ⟨g, 0, none⟩) n c) n xs) (hT : T.contains e = true) : Only T w W := by
  obtain ⟨cs, k⟩ := own_blk h
  exact Only.of_upd u k hT
theorem Upd.ownRow {w W : World} {base base2 e e2 size size2 g n c n2 : Nat} {v : Value} {xs ys : List Value} (u : Upd w g W) (h : w.ownsRow base2 e2 size2 v n2 ys) (o : w.ownsRow base e size (.slice (some ⟨g, 0, none⟩) n c) n xs) (hne : e2 ≠ e) : W.ownsRow base2 e2 size2 v n2 ys := by
  obtain ⟨cs, k⟩ := own_blk o
  exact u.own2 h k hne
end Go.Proofs.YtbopakjiahojdaaGreatDoor
namespace Go.Proofs.YtbopakjiahojdaaGreatDoor
open Go.RowKit Go.Extern.Stop Go.Stop Go.Extern
set_option linter.unusedVariables false
attribute [local irreducible] wpList wpAnyH Code.wp Oper.wp Go

theorem step1_xor (a b : Nat) : step1 (a ^^^ b) = step1 a ^^^ step1 b := by
  have e : ∀ r, step1 r = (r / 2) ^^^ (if r % 2 = 1 then 2197175160 else 0) := fun r => by unfold step1; split <;> simp
  rw [e, e, e, Nat.xor_div_two]
  have hp := Nat.xor_mod_two_eq_one (a := a) (b := b)
  by_cases h1 : a % 2 = 1 <;> by_cases h2 : b % 2 = 1
  · rw [if_neg (by rw [hp]; simp [h1, h2]), if_pos h1, if_pos h2, Nat.xor_zero]
    rw [show a / 2 ^^^ 2197175160 ^^^ (b / 2 ^^^ 2197175160) = a / 2 ^^^ b / 2 ^^^ (2197175160 ^^^ 2197175160) by ac_rfl]; simp
  · rw [if_pos (by rw [hp]; simp [h1, h2]), if_pos h1, if_neg h2, Nat.xor_zero]; ac_rfl
  · rw [if_pos (by rw [hp]; simp [h1, h2]), if_neg h1, if_pos h2, Nat.xor_zero]; ac_rfl
  · rw [if_neg (by rw [hp]; simp [h1, h2]), if_neg h1, if_neg h2, Nat.xor_zero, Nat.xor_zero, Nat.xor_zero]
theorem stepN_xor (n a b : Nat) : stepN n (a ^^^ b) = stepN n a ^^^ stepN n b := by
  induction n with
  | zero => rfl
  | succ n ih => rw [stepN, ih, step1_xor]; rfl
theorem step1_even (q : Nat) : step1 (2 * q) = q := by unfold step1; rw [if_neg (by omega)]; omega
theorem stepN_16 (q : Nat) : stepN 4 (16 * q) = q := by
  show step1 (step1 (step1 (step1 (16 * q)))) = q
  rw [show 16 * q = 2 * (2 * (2 * (2 * q))) by omega, step1_even, step1_even, step1_even, step1_even]
theorem split16 (r : Nat) : r = (16 * (r / 16)) ^^^ (r % 16) := by
  apply Nat.eq_of_testBit_eq
  intro i
  rw [Nat.testBit_xor, show 16 * (r / 16) = 2 ^ 4 * (r / 2 ^ 4) from rfl, Nat.testBit_two_pow_mul, Nat.testBit_div_two_pow, show r % 16 = r % 2 ^ 4 from rfl, Nat.testBit_mod_two_pow]
  by_cases h : 4 ≤ i
  · rw [show i - 4 + 4 = i by omega, show decide (i ≥ 4) = true from decide_eq_true h, show decide (i < 4) = false from decide_eq_false (by omega)]; simp
  · rw [show decide (i ≥ 4) = false from decide_eq_false h, show decide (i < 4) = true from decide_eq_true (by omega)]; simp
theorem stepN_4 (r : Nat) : stepN 4 r = (r / 16) ^^^ half (r % 16) := by
  conv => lhs; rw [split16 r]
  rw [stepN_xor, stepN_16]; rfl
theorem stepN_add (m n r : Nat) : stepN (m + n) r = stepN m (stepN n r) := by
  induction m with
  | zero => simp [stepN]
  | succ m ih => rw [Nat.succ_add, stepN, ih]; rfl
theorem crcStep_8 (r : Nat) (x : UInt8) : crcStep r x = stepN 8 (r ^^^ x.toNat) := by
  show _ = stepN (4 + 4) (r ^^^ x.toNat)
  rw [stepN_add, stepN_4, stepN_4]; rfl
theorem step1_odd {r : Nat} (h : r % 2 = 1) : step1 r = (r / 2) ^^^ 2197175160 := if_pos h
theorem step1_ev {r : Nat} (h : ¬ r % 2 = 1) : step1 r = r / 2 := if_neg h
set_option maxRecDepth 100000 in
set_option maxHeartbeats 1000000 in
theorem ref_Step (r : Nat) (w : World) (hr : r < 4294967296) :
    Calls Tryz.prog 132 #[.int .i64 (↑r : Int)] w (Ret (.int .i64 (stepN 8 r : Int)) w) := by
 refine zin 18 Tryz.func132 ?_
 have hB := Below.refl w.heap.size w
 refine zl 12 18 (fun zm zkv V => ∃ (j : Nat), zkv = [(0, .int .i64 (↑(stepN j r) : Int)), (2, .int .i64 0), (3, .int .i64 (↑j : Int))] ∧ zm = 8 - ((↑j : Int)).toNat ∧ Below w.heap.size w V ∧ j ≤ 8) ⟨0, rfl, rfl, hB, by decide⟩ ?_
 rintro _ _ W1 ⟨j, rfl, rfl, hB_1, hj⟩ J1 hJ1 r1
 refine xid 7 ((↑j : Int) < (8 : Int)) (fun hc2 => ?_) (fun hc2 => ?_)
 · refine xq 7 (congrArg (Value.int .i64) (show (Int.tmod (↑(stepN j r) : Int) 2 : Int) = (↑((stepN j r) % 2) : Int) from tmod_natB (stepN j r) 2)) ?_
   refine xq 7 (congrArg (Value.int .i64) (show (IntKind.i64.wrap (Int.tdiv (↑(stepN j r) : Int) 2) : Int) = (↑((stepN j r) / 2) : Int) from quo_natB (stepN j r) 2 (by have := stepN_lt (j := j) hr; omega) (by decide))) ?_
   refine xie 8 (↑((stepN j r) % 2) : Int) (1 : Int) (fun hc3 => ?_) (fun hc3 => ?_)
   · refine xq 2 (congrArg (Value.int .i64) (show (IntKind.i64.wrap (↑(BitVec.ofInt 64 (↑((stepN j r) / 2) : Int) ^^^ BitVec.ofInt 64 (2197175160 : Int)).toNat : Int) : Int) = (↑(((stepN j r) / 2) ^^^ 2197175160) : Int) from i64_xor (a := (stepN j r) / 2) (b := 2197175160) (by have := stepN_lt (j := j) hr; omega) (by decide))) ?_
     refine xwm 6 ((↑j : Int) + 1) (↑(j + 1) : Int) ?_
     refine xv1 2 0 (show (.int .i64 (↑(((stepN j r) / 2) ^^^ 2197175160) : Int) : Value) = .int .i64 (↑(stepN (j + 1) r) : Int) from by rw [show stepN (j + 1) r = step1 (stepN j r) from rfl, step1_odd (by omega)]) ?_
     exact ze 0 (hJ1 _ _ _ ⟨j + 1, rfl, rfl, hB_1, by omega⟩ (by omega))
   refine xwm 5 ((↑j : Int) + 1) (↑(j + 1) : Int) ?_
   refine xv1 2 0 (show (.int .i64 (↑((stepN j r) / 2) : Int) : Value) = .int .i64 (↑(stepN (j + 1) r) : Int) from by rw [show stepN (j + 1) r = step1 (stepN j r) from rfl, step1_ev (by omega)]) ?_
   exact ze 0 (hJ1 _ _ _ ⟨j + 1, rfl, rfl, hB_1, by omega⟩ (by omega))
 refine xe 12 (.int .i64 (↑(stepN j r) : Int)) ?_
 obtain rfl : j = 8 := by omega
 exact ⟨rfl, hB_1⟩
set_option maxRecDepth 100000 in
set_option maxHeartbeats 1000000 in
theorem ref_More (a : Option Addr) (c : Nat) (l : List UInt8) (w : World) (hl : l.length ≤ 100000000) (h : Bys w (.slice a l.length c) l) :
    Calls Tryz.prog 119 #[.int .i64 0, .slice a l.length c] w (Ret (.int .i64 (crcSum l : Int)) w) := by
 refine zin 31 Tryz.func119 ?_
 have hB := Below.refl w.heap.size w
 refine zl 33 31 (fun zm zkv V => ∃ (i : Nat), zkv = [(1, .slice a l.length c), (4, .int .i64 0), (5, .int .i64 (↑(crcRun 4294967295 (l.take i)) : Int)), (6, .int .i64 (↑i : Int))] ∧ zm = l.length - ((↑i : Int)).toNat ∧ Below w.heap.size w V ∧ i ≤ l.length) ⟨0, rfl, rfl, hB, Nat.zero_le _⟩ ?_
 rintro _ _ W1 ⟨i, rfl, rfl, hB_1, hi⟩ J1 hJ1 r1
 refine xid 9 ((↑i : Int) < (↑l.length : Int)) (fun hc2 => ?_) (fun hc2 => ?_)
 · refine xx 8 _ l.length i 1 (Bys.elem h (k := i) (by omega)).1 ?_
   refine xl 0 ((Bys.elem (h.below hB_1) (k := i) (by omega)).2) ?_
   refine xq 0 (congrArg (Value.int .i64) (show (IntKind.i64.wrap (↑(l.getD i 0).toNat : Int) : Int) = (↑(l.getD i 0).toNat : Int) from i64_nat (by have := (l.getD i 0).toNat_lt; omega))) ?_
   refine xq 0 (congrArg (Value.int .i64) (show (IntKind.i64.wrap (↑(BitVec.ofInt 64 (↑(crcRun 4294967295 (l.take i)) : Int) ^^^ BitVec.ofInt 64 (↑(l.getD i 0).toNat : Int)).toNat : Int) : Int) = (↑((crcRun 4294967295 (l.take i)) ^^^ (l.getD i 0).toNat) : Int) from i64_xor (crcRun_lt (by decide) _) (u8_lt _))) ?_
   refine xr 0 (args := #[.int .i64 (↑((crcRun 4294967295 (l.take i)) ^^^ (l.getD i 0).toNat) : Int)]) (ref_Step ((crcRun 4294967295 (l.take i)) ^^^ (l.getD i 0).toNat) _ (Nat.xor_lt_two_pow (n := 32) (crcRun_lt (by decide) _) (u8_lt _))) fun W3 hb3 => ?_
   refine xwm 6 ((↑i : Int) + 1) (↑(i + 1) : Int) ?_
   refine xv1 2 5 (show (.int .i64 (↑(stepN 8 ((crcRun 4294967295 (l.take i)) ^^^ (l.getD i 0).toNat)) : Int) : Value) = .int .i64 (↑(crcRun 4294967295 (l.take (i + 1))) : Int) from by rw [crcRun_take (by omega), crcStep_8]) ?_
   have hB'1 := Bl.next hB_1 hb3
   exact ze 0 (hJ1 _ _ _ ⟨i + 1, rfl, rfl, hB'1, by omega⟩ (by omega))
 refine xq 8 (congrArg (Value.int .i64) (show (IntKind.i64.wrap (↑(BitVec.ofInt 64 (↑(crcRun 4294967295 (l.take i)) : Int) ^^^ BitVec.ofInt 64 (4294967295 : Int)).toNat : Int) : Int) = (↑((crcRun 4294967295 (l.take i)) ^^^ 4294967295) : Int) from i64_xor (b := 4294967295) (crcRun_lt (by decide) _) (by decide))) ?_
 refine xe 4 (.int .i64 (↑((crcRun 4294967295 (l.take i)) ^^^ 4294967295) : Int)) ?_
 obtain rfl : i = l.length := by omega
 rw [List.take_length]
 exact ⟨rfl, hB_1⟩
set_option maxRecDepth 100000 in
set_option maxHeartbeats 1000000 in
theorem ref_Sum (a : Option Addr) (c : Nat) (l : List UInt8) (w : World) (hl : l.length ≤ 100000000) (h : Bys w (.slice a l.length c) l) :
    Calls Tryz.prog 94 #[.slice a l.length c] w (Ret (.int .i64 (crcSum l : Int)) w) := by
 refine zin 5 Tryz.func94 ?_
 refine xr 8 (args := #[.int .i64 0, .slice a l.length c]) (ref_More a c l _ hl (h.below (Below.refl w.heap.size _))) fun W1 hb1 => ?_
 exact xe 4 (.int .i64 (↑(crcSum l) : Int)) ⟨rfl, hb1⟩
theorem ref_SumN (a : Option Addr) (n c : Nat) (l : List UInt8) (w : World) (hn : l.length = n) (hl : n ≤ 100000000) (h : Bys w (.slice a n c) l) : Calls Tryz.prog 94 #[.slice a n c] w (Ret (.int .i64 (crcSum l : Int)) w) := by
  subst hn; exact ref_Sum a c l w hl h
theorem leB_snoc (n : Int) (w : Nat) : leB n (w + 1) = leB n w ++ [byteAt n w] := by simp [leB, List.range_succ]
theorem u8_byteAt (m i : Nat) : IntKind.u8.wrap (((m / 256 ^ i) % 256 : Nat) : Int) = ((byteAt (m : Int) i).toNat : Int) := by
  rw [byte_0 (Int.natCast_nonneg _)]
  unfold byteAt
  simp only [Int.toNat_natCast, Nat.pow_zero, Nat.div_one]
  congr 2
  apply UInt8.toNat_inj.1
  simp [UInt8.toNat_ofNat']
set_option maxRecDepth 100000 in
set_option maxHeartbeats 1000000 in
theorem ref_Bytes (m w : Nat) (W : World) (hm : m < 9223372036854775808) (hw : w ≤ 8) :
    Calls Tryz.prog 47 #[.int .i64 (↑m : Int), .int .i64 (↑w : Int)] W (RetS (fun W' r => ∃ p c, r = .slice p w c ∧ W'.ownsRow W.heap.size 5 1 (.slice p w c) w ((leB (↑m : Int) w).map bv)) W) := by
 refine zin 21 Tryz.func47 ?_
 refine xv1 17 0 (show (.int .i64 (↑m : Int) : Value) = .int .i64 ((m / 256 ^ 0 : Nat) : Int) from by rw [Nat.pow_zero, Nat.div_one]) ?_
 have hB := Below.refl W.heap.size W
 refine zl 0 21 (fun zm zkv V => ∃ (i : Nat) (p : Option Addr) (c : Nat), zkv = [(0, .int .i64 (↑(m / 256 ^ i) : Int)), (1, .int .i64 (↑w : Int)), (4, .slice none 0 0), (5, .slice p i c), (6, .int .i64 (↑i : Int))] ∧ zm = w - ((↑i : Int)).toNat ∧ Below W.heap.size W V ∧ V.ownsRow W.heap.size 5 1 (.slice p i c) i ((leB (↑m : Int) i).map bv) ∧ i ≤ w) ⟨0, _, _, rfl, rfl, hB, World.ownsRow_nil _ _ _ _, Nat.zero_le _⟩ ?_
 rintro _ _ W1 ⟨i, p, c, rfl, rfl, hB_1, ho, hi⟩ J1 hJ1 r1
 refine xid 8 ((↑i : Int) < (↑w : Int)) (fun hc2 => ?_) (fun hc2 => ?_)
 · refine xq 8 (congrArg (Value.int .i64) (show (Int.tmod (↑(m / 256 ^ i) : Int) 256 : Int) = (↑((m / 256 ^ i) % 256) : Int) from tmod_natB (m / 256 ^ i) 256)) ?_
   refine xq 0 (congrArg (Value.int .u8) (show (IntKind.u8.wrap (↑((m / 256 ^ i) % 256) : Int) : Int) = (↑(byteAt (↑m : Int) i).toNat : Int) from u8_byteAt m i)) ?_
   refine xbs 0 1 [.int .u8 (↑(byteAt (↑m : Int) i).toNat : Int)] 5 fun b3 W3 n3 => ?_
   have r3_ho := own_ne ho n3
   have ho'1 := own_below ho n3.below
   have hB'1 := Bl.next hB_1 n3.below
   refine xbi 0 fun _ _ _ _ zJ zQ zo zx zy zK => op_app (m := 1) (news := [.int .u8 (↑(byteAt (↑m : Int) i).toNat : Int)]) (.int .u8 0) 1 1 (i + 1) ((leB (↑m : Int) (i + 1)).map bv) zo Tryz.underlying29 (by kernel_rfl) rfl (by decide) zx ho'1 zy (n3.blk.sl 1 1 (by decide) (by decide)) rfl (by simp [Value.oneCell']) (by unfold maxLen; omega) (by omega) hB'1.size (by rfl) (by rw [leB_snoc, List.map_append]; rfl) fun p4 c4 W4 o4 hg4 hb4 => ?_
   refine zK _ _ ?_
   refine xq 5 (congrArg (Value.int .i64) (show (IntKind.i64.wrap (Int.tdiv (↑(m / 256 ^ i) : Int) 256) : Int) = (↑((m / 256 ^ i) / 256) : Int) from quo_natB (m / 256 ^ i) 256 (Nat.lt_of_le_of_lt (Nat.div_le_self _ _) hm) (by decide))) ?_
   refine xwm 6 ((↑i : Int) + 1) (↑(i + 1) : Int) ?_
   refine xv1 2 0 (show (.int .i64 (↑((m / 256 ^ i) / 256) : Int) : Value) = .int .i64 (↑(m / 256 ^ (i + 1)) : Int) from by rw [Nat.pow_succ, ← Nat.div_div_eq_div_mul]) ?_
   have hB'2 := hB'1.trans hb4
   exact ze 0 (hJ1 _ _ _ ⟨i + 1, _, _, rfl, rfl, hB'2, o4, by omega⟩ (by omega))
 refine xe 12 (.slice p i c) ?_
 obtain rfl : i = w := by omega
 exact ⟨_, rfl, hB_1, _, _, rfl, ho⟩
theorem ref_BytesN (n : Int) (w : Nat) (wi : Int) (W : World) (h0 : 0 ≤ n) (hn : n < 9223372036854775808) (hwi : wi = (w : Int)) (hw : w ≤ 8) : Calls Tryz.prog 47 #[.int .i64 n, .int .i64 wi] W (RetS (fun W' r => ∃ p c, r = .slice p w c ∧ W'.ownsRow W.heap.size 5 1 (.slice p w c) w ((leB n w).map bv)) W) := by
  subst hwi
  obtain ⟨m, rfl⟩ : ∃ m : Nat, n = m := ⟨n.toNat, by omega⟩
  exact ref_Bytes m w W (by omega) hw
set_option maxRecDepth 100000 in
set_option maxHeartbeats 1000000 in
theorem ref_Salt1 (w : World) :
    Calls Tryz.prog 95 #[.int .i64 1] w (Ret (.int .i64 (saltN 1 : Int)) w) := by
 refine zin 15 Tryz.func95 ?_
 refine xbs 7 5 [.int .i64 0, .int .i64 160774, .int .i64 121107, .int .i64 240779, .int .i64 160478] 3 fun b1 W1 n1 => ?_
 refine xb 22 1 n1.blk ?_
 exact xe 4 (.int .i64 160774) ⟨rfl, n1.below⟩
set_option maxRecDepth 100000 in
set_option maxHeartbeats 1000000 in
theorem ref_Salt2 (w : World) :
    Calls Tryz.prog 95 #[.int .i64 2] w (Ret (.int .i64 (saltN 2 : Int)) w) := by
 refine zin 15 Tryz.func95 ?_
 refine xbs 7 5 [.int .i64 0, .int .i64 160774, .int .i64 121107, .int .i64 240779, .int .i64 160478] 3 fun b1 W1 n1 => ?_
 refine xb 22 2 n1.blk ?_
 exact xe 4 (.int .i64 121107) ⟨rfl, n1.below⟩
set_option maxRecDepth 100000 in
set_option maxHeartbeats 1000000 in
theorem ref_Salt3 (w : World) :
    Calls Tryz.prog 95 #[.int .i64 3] w (Ret (.int .i64 (saltN 3 : Int)) w) := by
 refine zin 15 Tryz.func95 ?_
 refine xbs 7 5 [.int .i64 0, .int .i64 160774, .int .i64 121107, .int .i64 240779, .int .i64 160478] 3 fun b1 W1 n1 => ?_
 refine xb 22 3 n1.blk ?_
 exact xe 4 (.int .i64 240779) ⟨rfl, n1.below⟩
set_option maxRecDepth 100000 in
set_option maxHeartbeats 1000000 in
theorem ref_Salt4 (w : World) :
    Calls Tryz.prog 95 #[.int .i64 4] w (Ret (.int .i64 (saltN 4 : Int)) w) := by
 refine zin 15 Tryz.func95 ?_
 refine xbs 7 5 [.int .i64 0, .int .i64 160774, .int .i64 121107, .int .i64 240779, .int .i64 160478] 3 fun b1 W1 n1 => ?_
 refine xb 22 4 n1.blk ?_
 exact xe 4 (.int .i64 160478) ⟨rfl, n1.below⟩
theorem ref_Salt (kind : Int) (h1 : 1 ≤ kind) (h2 : kind ≤ 4) (w : World) : Calls Tryz.prog 95 #[.int .i64 kind] w (Ret (.int .i64 (saltN kind : Int)) w) := by
  obtain rfl | rfl | rfl | rfl : kind = 1 ∨ kind = 2 ∨ kind = 3 ∨ kind = 4 := by omega
  · exact ref_Salt1 w
  · exact ref_Salt2 w
  · exact ref_Salt3 w
  · exact ref_Salt4 w
set_option maxRecDepth 100000 in
set_option maxHeartbeats 1000000 in
theorem ref_known (kind no : Int) (w : World) :
    Calls Tryz.prog 93 #[.int .i64 kind, .int .i64 no] w (Ret (.bool (knownB kind no)) w) := by
 refine zin 19 Tryz.func93 ?_
 refine xg 10 [6, 7] (decide (kind ≥ (1 : Int))) (fun hc1 => ?_) (fun hc1 => ?_)
 · have hc1 := of_decide_eq_true hc1
   refine xg 4 [9, 10, 11] (decide (kind ≤ (4 : Int))) (fun hc2 => ?_) (fun hc2 => ?_)
   · have hc2 := of_decide_eq_true hc2
     refine xg 4 [13, 14, 15] (decide (no ≥ (0 : Int))) (fun hc3 => ?_) (fun hc3 => ?_)
     · have hc3 := of_decide_eq_true hc3
       exact xe 7 (.bool (decide (no < (14400 : Int)))) ⟨by rw [show knownB kind no = decide (no < 14400) from decide_eq_decide.2 ⟨fun h => h.2.2.2, fun h => ⟨by omega, by omega, by omega, h⟩⟩], (Below.refl w.heap.size _)⟩
     have hc3 := of_decide_eq_false hc3
     exact xe 7 (.bool false) ⟨by rw [show knownB kind no = false from decide_eq_false (by omega)], (Below.refl w.heap.size _)⟩
   have hc2 := of_decide_eq_false hc2
   exact xe 11 (.bool false) ⟨by rw [show knownB kind no = false from decide_eq_false (by omega)], (Below.refl w.heap.size _)⟩
 have hc1 := of_decide_eq_false hc1
 exact xe 15 (.bool false) ⟨by rw [show knownB kind no = false from decide_eq_false (by omega)], (Below.refl w.heap.size _)⟩
set_option maxRecDepth 100000 in
set_option maxHeartbeats 1000000 in
theorem ref_Seal_bad (kind no : Int) (a : Option Addr) (c : Nat) (li : List UInt8) (w : World) (hk : knownB kind no = false) :
    Calls Tryz.prog 64 #[.int .i64 kind, .int .i64 no, .slice a li.length c] w (Ret (.tuple #[.slice none 0 0, .int .i64 1]) w) := by
 refine zin 42 Tryz.func64 ?_
 refine xr 11 (args := #[.int .i64 kind, .int .i64 no]) (ref_known kind no _) fun W1 hb1 => ?_
 refine xk 3 (show (!(knownB kind no) : Bool) = true from by rw [hk]; rfl) ?_
 exact xe 8 (.tuple #[.slice none 0 0, .int .i64 1]) ⟨rfl, hb1⟩
set_option maxRecDepth 100000 in
set_option maxHeartbeats 1000000 in
theorem ref_Seal_long (kind no : Int) (a : Option Addr) (c : Nat) (li : List UInt8) (w : World) (hk : knownB kind no = true) (hl : 244 < li.length) :
    Calls Tryz.prog 64 #[.int .i64 kind, .int .i64 no, .slice a li.length c] w (Ret (.tuple #[.slice none 0 0, .int .i64 2]) w) := by
 refine zin 42 Tryz.func64 ?_
 refine xr 11 (args := #[.int .i64 kind, .int .i64 no]) (ref_known kind no _) fun W1 hb1 => ?_
 refine xk 3 (show (!(knownB kind no) : Bool) = false from by rw [hk]; rfl) ?_
 refine xk 10 (show (decide ((↑li.length : Int) > (244 : Int)) : Bool) = true from decide_eq_true (by omega)) ?_
 exact xe 8 (.tuple #[.slice none 0 0, .int .i64 2]) ⟨rfl, hb1⟩
def refHead (kind no : Int) (li : List UInt8) : List UInt8 := leB no 4 ++ leB kind 2 ++ [0, 0] ++ li
theorem refHead_len (kind no : Int) (li : List UInt8) : (refHead kind no li).length = 8 + li.length := by simp [refHead, leB_len]; omega
def refPad (kind no : Int) (li : List UInt8) (m : Nat) : List UInt8 := refHead kind no li ++ List.replicate (m - (8 + li.length)) 0
theorem refPad_len {kind no : Int} {li : List UInt8} {m : Nat} (h : 8 + li.length ≤ m) : (refPad kind no li m).length = m := by simp [refPad, refHead_len]; omega
theorem refPad_zero (kind no : Int) (li : List UInt8) : refPad kind no li (8 + li.length) = refHead kind no li := by simp [refPad]
theorem refPad_next {kind no : Int} {li : List UInt8} {m : Nat} (h : 8 + li.length ≤ m) : refPad kind no li (m + 1) = refPad kind no li m ++ [0] := by
  unfold refPad
  rw [show m + 1 - (8 + li.length) = (m - (8 + li.length)) + 1 by omega, List.replicate_succ', ← List.append_assoc]
theorem refPad_seal3 {kind no : Int} {li : List UInt8} (hl : li.length ≤ 244) : refPad kind no li 252 = (seal3 kind no li).take 252 := by
  have l1 := seal1_len hl
  have l2 := seal2_len (no := no) hl
  have l3 := seal3_len (kind := kind) (no := no) hl
  apply ext_getD
  · rw [refPad_len (by omega)]; simp [l3]
  · intro j hj
    rw [refPad_len (by omega)] at hj
    have e : ((seal3 kind no li).take 252).getD j 0 = (seal3 kind no li).getD j 0 := by simp only [List.getD]; rw [List.getElem?_take, if_pos hj]
    rw [e]
    unfold seal3
    rw [putB_get (by rw [leB_len]; omega), leB_len]
    unfold refPad refHead
    simp only [List.getD, List.append_assoc]
    rw [List.getElem?_append, leB_len]
    by_cases h1 : j < 4
    · rw [if_pos h1, if_neg (by omega)]
      have := putB_get (l := seal1 li) (k := 0) (x := leB no 4) (by rw [leB_len]; omega) j
      rw [if_pos (by rw [leB_len]; omega)] at this
      unfold seal2
      simp only [List.getD] at this
      rw [this, Nat.sub_zero]
    · rw [if_neg h1, List.getElem?_append, leB_len]
      by_cases h2 : j < 6
      · rw [if_pos (by omega), if_pos (by omega)]
      · rw [if_neg (by omega), if_neg (by omega)]
        have := putB_get (l := seal1 li) (k := 0) (x := leB no 4) (by rw [leB_len]; omega) j
        rw [if_neg (by rw [leB_len]; omega)] at this
        have h3 := putB_get (l := List.replicate 256 (0 : UInt8)) (k := 8) (x := li) (by rw [List.length_replicate]; omega) j
        unfold seal2
        simp only [List.getD] at this h3
        rw [this]
        unfold seal1
        rw [h3, List.getElem?_append]
        have hz := zeros_get 256 j
        simp only [List.getD] at hz
        by_cases h4 : j < 8
        · rw [if_pos (by simp; omega), if_neg (by omega), hz]
          obtain rfl | rfl : j = 6 ∨ j = 7 := by omega
          · rfl
          · rfl
        · rw [if_neg (by simp; omega), List.getElem?_append]
          simp only [List.length_cons, List.length_nil]
          by_cases h5 : j < 8 + li.length
          · rw [if_pos (by omega), if_pos (by omega), show j - 4 - 2 - (0 + 1 + 1) = j - 8 by omega]
          · rw [if_neg (by omega), if_neg (by omega), hz]
            have := zeros_get (252 - (8 + li.length)) (j - 4 - 2 - (0 + 1 + 1) - li.length)
            simpa only [List.getD] using this
theorem refSeal_eq {kind no : Int} {li : List UInt8} (hl : li.length ≤ 244) : refPad kind no li 252 ++ leB ((crcSum (refPad kind no li 252) ^^^ saltN kind : Nat) : Int) 4 = sealB kind no li := by
  have l3 := seal3_len (kind := kind) (no := no) hl
  rw [refPad_seal3 hl]
  unfold sealB putB sumB
  rw [leB_len, List.drop_eq_nil_of_le (by omega), List.append_nil]
set_option maxRecDepth 100000 in
set_option maxHeartbeats 4000000 in
theorem ref_Seal_ok (kind no : Int) (a : Option Addr) (c : Nat) (li : List UInt8) (w : World) (h1 : 1 ≤ kind) (h2 : kind ≤ 4) (h0 : 0 ≤ no) (hno : no < 14400) (hk : knownB kind no = true) (hl : li.length ≤ 244) (h : Bys w (.slice a li.length c) li) :
    Calls Tryz.prog 64 #[.int .i64 kind, .int .i64 no, .slice a li.length c] w (RetS (fun w' r => ∃ p c, r = .tuple #[.slice p 256 c, .int .i64 0] ∧ w'.ownsRow w.heap.size 5 1 (.slice p 256 c) 256 ((sealB kind no li).map bv)) w) := by
 refine zin 42 Tryz.func64 ?_
 refine xr 11 (args := #[.int .i64 kind, .int .i64 no]) (ref_known kind no _) fun W1 hb1 => ?_
 refine xk 3 (show (!(knownB kind no) : Bool) = false from by rw [hk]; rfl) ?_
 refine xk 10 (show (decide ((↑li.length : Int) > (244 : Int)) : Bool) = false from decide_eq_false (by omega)) ?_
 refine xc 5 (args := #[.int .i64 no, .int .i64 4]) (ref_BytesN no 4 4 _ (h0) (by omega) rfl (by decide)) ?_
 rintro _ W2 ⟨_, rfl, hb2, p1_, c1_, rfl, b1_⟩
 refine xc 7 (args := #[.int .i64 kind, .int .i64 2]) (ref_BytesN kind 2 2 _ (by omega) (by omega) rfl (by decide)) ?_
 rintro _ W3 ⟨_, rfl, hb3, p2_, c2_, rfl, b2_⟩
 have hs3 := (Bl.next hb1 hb2).size
 have b1_'1 := own_below (own_mono b1_ hb1.size) hb3
 have b2_'1 := own_mono b2_ hs3
 have hB := Bl.next (Bl.next hb1 hb2) hb3
 refine xbi 0 fun _ _ _ _ zJ zQ zo zx zy zK => op_app (m := 2) (news := (leB kind 2).map bv) (.int .u8 0) 1 1 (6) ((leB no 4 ++ leB kind 2).map bv) zo Tryz.underlying29 (by kernel_rfl) rfl (by decide) zx b1_'1 zy (own_sl b2_'1) (by rw [List.length_map, leB_len]) (bv_one _) (by unfold maxLen; omega) (by omega) hB.size (by rfl) (by rw [List.map_append]) fun p4 c4 W4 o4 hg4 hb4 => ?_
 refine zK _ _ ?_
 refine xbs 6 2 [.int .u8 0, .int .u8 0] 5 fun b5 W5 n5 => ?_
 have r5_o4 := own_ne o4 n5
 have o4'1 := own_below o4 n5.below
 have hB'1 := Bl.next (hB.trans hb4) n5.below
 refine xbi 0 fun _ _ _ _ zJ zQ zo zx zy zK => op_app (m := 2) (news := [.int .u8 0, .int .u8 0]) (.int .u8 0) 1 1 (8) ((leB no 4 ++ leB kind 2 ++ [0, 0]).map bv) zo Tryz.underlying29 (by kernel_rfl) rfl (by decide) zx o4'1 zy (n5.blk.sl 2 2 (by decide) (by decide)) rfl (by simp [Value.oneCell']) (by unfold maxLen; omega) (by omega) hB'1.size (by rfl) (by rw [List.map_append (l₂ := [0, 0])]; rfl) fun p6 c6 W6 o6 hg6 hb6 => ?_
 refine zK _ _ ?_
 have hB'2 := hB'1.trans hb6
 refine xbi 7 fun _ _ _ _ zJ zQ zo zx zy zK => op_app (m := li.length) (news := li.map bv) (.int .u8 0) 1 1 (8 + li.length) ((refPad kind no li (8 + li.length)).map bv) zo Tryz.underlying29 (by kernel_rfl) rfl (by decide) zx o6 zy (h.below hB'2) (by simp) (bv_one _) (by unfold maxLen; omega) (by omega) hB'2.size (by rfl) (by rw [refPad_zero, refHead, List.map_append (l₂ := li)]) fun p7 c7 W7 o7 hg7 hb7 => ?_
 refine zK _ _ ?_
 have hB'3 := hB'2.trans hb7
 refine zl 5 42 (fun zm zkv V => ∃ (m : Nat) (p : Option Addr) (c5 : Nat), zkv = [(0, .int .i64 kind), (6, .slice none 0 0), (7, .int .i64 0), (8, .slice p m c5)] ∧ zm = 252 - m ∧ Below w.heap.size w V ∧ V.ownsRow w.heap.size 5 1 (.slice p m c5) m ((refPad kind no li m).map bv) ∧ 8 + li.length ≤ m ∧ m ≤ 252) ⟨_, _, _, rfl, rfl, hB'3, o7, Nat.le_refl _, by omega⟩ ?_
 rintro _ _ W8 ⟨m, p, c5, rfl, rfl, hB_8, hm, hm1, hm2⟩ J8 hJ8 r8
 refine xid 8 ((↑m : Int) < (252 : Int)) (fun hc9 => ?_) (fun hc9 => ?_)
 · refine xbs 5 1 [.int .u8 0] 5 fun b10 W10 n10 => ?_
   have r10_hm := own_ne hm n10
   have hm'1 := own_below hm n10.below
   have hB'4 := Bl.next hB_8 n10.below
   refine xbi 0 fun _ _ _ _ zJ zQ zo zx zy zK => op_app (m := 1) (news := [.int .u8 0]) (.int .u8 0) 1 1 (m + 1) ((refPad kind no li (m + 1)).map bv) zo Tryz.underlying29 (by kernel_rfl) rfl (by decide) zx hm'1 zy (n10.blk.sl 1 1 (by decide) (by decide)) rfl (by simp [Value.oneCell']) (by unfold maxLen; omega) (by omega) hB'4.size (by rfl) (by rw [refPad_next (by omega), List.map_append]; rfl) fun p11 c11 W11 o11 hg11 hb11 => ?_
   refine zK _ _ ?_
   have hB'5 := hB'4.trans hb11
   exact ze 3 (hJ8 _ _ _ ⟨m + 1, _, _, rfl, rfl, hB'5, o11, by omega, by omega⟩ (by omega))
 have hme : m = 252 := by omega
 refine xr 9 (args := #[.slice p m c5]) (ref_SumN p m c5 (refPad kind no li m) _ (refPad_len hm1) (by omega) (bys_of (own_sl hm) (refPad_len hm1))) fun W12 hb12 => ?_
 refine xr 1 (args := #[.int .i64 kind]) (ref_Salt kind h1 h2 _) fun W13 hb13 => ?_
 refine xq 0 (congrArg (Value.int .i64) (show (IntKind.i64.wrap (↑(BitVec.ofInt 64 (↑(crcSum (refPad kind no li m)) : Int) ^^^ BitVec.ofInt 64 (↑(saltN kind) : Int)).toNat : Int) : Int) = (↑(crcSum (refPad kind no li m) ^^^ saltN kind) : Int) from i64_xor (crcSum_lt _) (saltN_lt _))) ?_
 refine xc 0 (args := #[.int .i64 (↑(crcSum (refPad kind no li m) ^^^ saltN kind) : Int), .int .i64 4]) (ref_BytesN ((crcSum (refPad kind no li m) ^^^ saltN kind : Nat) : Int) 4 4 _ (Int.natCast_nonneg _) (by have := Nat.xor_lt_two_pow (n := 32) (crcSum_lt (refPad kind no li m)) (saltN_lt kind); omega) rfl (by decide)) ?_
 rintro _ W14 ⟨_, rfl, hb14, p3_, c3_, rfl, b3_⟩
 have hs14 := (Bl.next (Bl.next hB_8 hb12) hb13).size
 have hm'2 := own_below (own_below (own_below hm hb12) hb13) hb14
 have b3_'1 := own_mono b3_ hs14
 have hB'6 := Bl.next (Bl.next (Bl.next hB_8 hb12) hb13) hb14
 refine xbi 0 fun _ _ _ _ zJ zQ zo zx zy zK => op_app (m := 4) (news := (leB ((crcSum (refPad kind no li m) ^^^ saltN kind : Nat) : Int) 4).map bv) (.int .u8 0) 1 1 (256) ((sealB kind no li).map bv) zo Tryz.underlying29 (by kernel_rfl) rfl (by decide) zx hm'2 zy (own_sl b3_'1) (by rw [List.length_map, leB_len]) (bv_one _) (by unfold maxLen; omega) (by omega) hB'6.size (by omega) (by rw [hme, ← refSeal_eq hl, List.map_append]) fun p15 c15 W15 o15 hg15 hb15 => ?_
 refine zK _ _ ?_
 have hB'7 := hB'6.trans hb15
 exact xe 5 (.tuple #[.slice p15 256 c15, .int .i64 0]) ⟨_, rfl, hB'7, _, _, rfl, o15⟩
theorem ref_Seal (kind no : Int) (a : Option Addr) (c : Nat) (li : List UInt8) (w : World) (h : Bys w (.slice a li.length c) li) :
    Calls Tryz.prog 64 #[.int .i64 kind, .int .i64 no, .slice a li.length c] w (SealP kind no li w) := by
  cases hk : knownB kind no with
  | false =>
    refine (ref_Seal_bad kind no a c li w hk).mono ?_
    rintro e W ⟨rfl, hb⟩
    have he : sealE kind no li = 1 := by simp [sealE, hk]
    exact .inl ⟨by rw [he]; decide, by rw [he], hb⟩
  | true =>
    by_cases hl : li.length ≤ 244
    · obtain ⟨h1, h2, h3, h4⟩ := knownB_all hk
      refine (ref_Seal_ok kind no a c li w h1 h2 h3 h4 hk hl h).mono ?_
      rintro e W ⟨_, rfl, hb, p, c2, rfl, ho⟩
      exact .inr ⟨by simp [sealE, hk, hl], hk, hl, p, c2, rfl, hb, ho⟩
    · refine (ref_Seal_long kind no a c li w hk (by omega)).mono ?_
      rintro e W ⟨rfl, hb⟩
      have he : sealE kind no li = 2 := by simp [sealE, hk, hl]
      exact .inl ⟨by rw [he]; decide, by rw [he], hb⟩
end Go.Proofs.YtbopakjiahojdaaGreatDoor
namespace Go.Proofs.YtbopakjiahojdaaGreatDoor
open Go.RowKit Go.Extern.Stop Go.Stop Go.Extern
set_option linter.unusedVariables false

theorem numB_digit (n : Nat) (h : n < 10) : numB n = ⟨#[48 + n.toUInt8]⟩ := by
  have : n = 0 ∨ n = 1 ∨ n = 2 ∨ n = 3 ∨ n = 4 ∨ n = 5 ∨ n = 6 ∨ n = 7 ∨ n = 8 ∨ n = 9 := by omega
  rcases this with rfl | rfl | rfl | rfl | rfl | rfl | rfl | rfl | rfl | rfl <;> (simp [numB, Lib.itoa, Lib.decDigits]; try decide)
theorem text_lives : textB [some 3, some 7] (some 4) = ⟨#[98, 108, 111, 99, 107, 32, 51, 58, 32, 98, 108, 111, 99, 107, 32, 55, 58, 32, 101, 114, 114, 111, 114, 32, 52]⟩ := by
  simp only [textB]
  rw [show numB 3 = ⟨#[51]⟩ from numB_digit 3 (by omega), show numB 7 = ⟨#[55]⟩ from numB_digit 7 (by omega), show numB 4 = ⟨#[52]⟩ from numB_digit 4 (by omega)]
  rfl

end Go.Proofs.YtbopakjiahojdaaGreatDoor
namespace Go.Proofs.YtbopakjiahojdaaGreatDoor
open Go.RowKit Go.Extern.Stop Go.Stop Go.Extern
set_option linter.unusedVariables false

/-- an error as the document has it -/
def FltV (w : World) (v : Value) (l : List Int) (c : Int) : Prop := ∃ s, v = .agg #[s, .int .i64 c] ∧ Ints w s l
theorem FltV.below {w w' : World} {v : Value} {l : List Int} {c : Int} (h : FltV w v l c) (hb : Below w.heap.size w w') : FltV w' v l c := by
  obtain ⟨s, rfl, hs⟩ := h
  exact ⟨s, rfl, hs.below hb⟩
def ownL (l : List Int) (c : Int) : List (Option Int) := if c = 0 then [] else l.map some
def ownT (c : Int) : Option Int := if c = 0 then none else some c
theorem ownL_nz {l : List Int} {c : Int} (h : c ≠ 0) : ownL l c = l.map some := if_neg h
theorem ownT_nz {c : Int} (h : c ≠ 0) : ownT c = some c := if_neg h
theorem codeOf_own (l : List Int) (c : Int) : codeOf (ownL l c) (ownT c) = c := by
  by_cases h : c = 0
  · subst h; rfl
  · rw [ownL_nz h, ownT_nz h]; simp [codeOf, noErr]
theorem blocksOf_own (l : List Int) (c : Int) : blocksOf (ownL l c) = if c = 0 then [] else l := by
  by_cases h : c = 0
  · subst h; rfl
  · rw [ownL_nz h, if_neg h]; simp [blocksOf, List.filterMap_map]
theorem drop_some {l : List Int} {k : Nat} (h : k < l.length) : (l.drop k).map some = some l[k] :: (l.drop (k + 1)).map some := by
  rw [List.drop_eq_getElem_cons h]; rfl

theorem res_told {w : World} {B : Nat} {s : Value} {c : Int} {t : TypeId} (h : Blk w B [s, .int .i64 c] t) (hs : ∃ a n m, s = .slice a n m) {tmps : Array Value} (e : tmps.getD 2 undef = .pointer (some ⟨B, 0, none⟩)) :
    (results Tryz.f15 tmps).run Tryz.prog w = .ok (.agg #[s, .int .i64 c]) w := by
  obtain ⟨a, n, m, rfl⟩ := hs
  have c0 := h.cell (i := 0) rfl
  have c1 := h.cell (i := 1) rfl
  have e' : tmps[2]?.getD undef = .pointer (some ⟨B, 0, none⟩) := by simpa using e
  simp [results, Tryz.results15, go_sem, c0, c1, e']
set_option maxHeartbeats 1000000 in
theorem law05_Told (t : Option Int) (l : List (Option Int)) (v : Value) (w : World) (hlen : l.length ≤ 1000000) (hg : ErrT w) (hv : ErrV w l t v) :
    Calls Tryz.prog 15 #[v] w (RetS (fun w' r => FltV w' r (blocksOf l) (codeOf l t)) w) := by
  have hB := Bl.box w (.cells #[.slice none 0 0, .int .i64 0] 33)
  have k0 := Blk.new w [.slice none 0 0, .int .i64 0] 33
  rcases hv.nil_or with ⟨hz, rfl⟩ | ⟨hz, ty, x, rfl⟩
  · obtain ⟨rfl, rfl⟩ := noErr_true hz
    go_enter Tryz.func15, Tryz.ntmps15
    go_wp2_with fail
    exact bodyPost_ret (res_told k0 ⟨_, _, _, rfl⟩ rfl) rfl ⟨_, rfl, hB, _, rfl, .inl ⟨_, _, rfl, rfl, rfl⟩⟩
  · go_enter Tryz.func15, Tryz.ntmps15
    have hv1 := hv.below hB
    go_wp2_with fail
    refine (fault_Blocks t l _ _ hlen hv1).mono ?_
    rintro e w1 ⟨r, rfl, hb1, h1⟩
    have hB1 := Bl.next hB hb1
    go_wp2_with fail
    refine (fault_Code t l _ w1 (hg.below hB1) (hv.below hB1)).mono ?_
    rintro e w2 ⟨rfl, hb2⟩
    have k2 := (k0.below hb1).below hb2
    obtain ⟨a, m, rfl⟩ := (own_sl h1).slice
    have d0 := k2.cell (i := 0) rfl
    have d1 := k2.cell (i := 1) rfl
    have f0 := k2.frozen 0
    have f1 := k2.frozen 1
    have hB2 := Bl.next hB1 hb2
    have hB3 : Below w.heap.size w ((w2.setCell ⟨w.heap.size, 0, none⟩ (.slice a (blocksOf l).length m)).setCell ⟨w.heap.size, 1, none⟩ (.int .i64 (codeOf l t))) := (hB2.setCell (Nat.le_refl _) _).setCell (Nat.le_refl _) _
    have h3 := ownsRow_setCell_below (ownsRow_setCell_below (own_below h1 hb2) (a := ⟨w.heap.size, 0, none⟩) (by simp) (.slice a (blocksOf l).length m)) (a := ⟨w.heap.size, 1, none⟩) (by simp) (.int .i64 (codeOf l t))
    go_wp2_with fail
    exact bodyPost_ret (res_told ((k2.set 0 _).set 1 _) ⟨_, _, _, rfl⟩ rfl) rfl ⟨_, rfl, hB3, _, rfl, own_sl h3⟩
set_option maxRecDepth 100000 in
set_option maxHeartbeats 2000000 in
theorem ref05_Same (l : List Int) (c : Int) (v1 v2 : Value) (w : World) (h1 : FltV w v1 l c) (h2 : FltV w v2 l c) :
    Calls Tryz.prog 14 #[v1, v2] w (Ret (.bool true) w) := by
  obtain ⟨s1, rfl, k1⟩ := h1
  obtain ⟨s2, rfl, k2⟩ := h2
  obtain ⟨a1, p1, rfl⟩ := k1.slice
  obtain ⟨a2, p2, rfl⟩ := k2.slice
  have hmax := k1.len
  have hB : Below w.heap.size w ((w.alloc (.cells #[.slice a1 l.length p1, .int .i64 c] 33)).alloc (.cells #[.slice a2 l.length p2, .int .i64 c] 33)) := Bl.next (Bl.box _ _) (Bl.box _ _)
  have b1 : Blk ((w.alloc (.cells #[.slice a1 l.length p1, .int .i64 c] 33)).alloc (.cells #[.slice a2 l.length p2, .int .i64 c] 33)) w.heap.size [.slice a1 l.length p1, .int .i64 c] 33 := (Blk.new _ _ _).alloc _
  have b2 := Blk.new (w.alloc (.cells #[.slice a1 l.length p1, .int .i64 c] 33)) [.slice a2 l.length p2, .int .i64 c] 33
  simp only [World.size_alloc] at b2
  go_enter Tryz.func14, Tryz.ntmps14
  go_wp2_with fail
  obtain ⟨W, hW⟩ : ∃ W, (w.alloc (.cells #[.slice a1 l.length p1, .int .i64 c] 33)).alloc (.cells #[.slice a2 l.length p2, .int .i64 c] 33) = W := ⟨_, rfl⟩
  change Blk ((w.alloc (.cells #[.slice a1 l.length p1, .int .i64 c] 33)).alloc (.cells #[.slice a2 l.length p2, .int .i64 c] 33)) _ _ _ at b2
  rw [hW] at hB b1 b2 ⊢
  have k1 := k1.below hB
  have k2 := k2.below hB
  clear hW
  go_loopw [5] (fun i wr => ∃ k : Nat, k ≤ l.length ∧ i = .int .i64 k ∧ Below W.heap.size W wr) (fun i _ => l.length - (intOf i).toNat)
  case atStart => exact ⟨0, by omega, rfl, Below.refl _ _⟩
  case round =>
    obtain ⟨k, hk, rfl, hbr⟩ := hrel
    have q1 := b1.below hbr
    have q2 := b2.below hbr
    have c1 := q1.cell (i := 0) rfl
    have c2 := q2.cell (i := 0) rfl
    by_cases hlt : k < l.length
    · rcases Sl.at (k1.below hbr) with h0 | ⟨g1, o1, rfl, hc1⟩
      · rw [List.map_eq_nil_iff] at h0; subst h0; exact absurd hlt (by simp)
      rcases Sl.at (k2.below hbr) with h0 | ⟨g2, o2, rfl, hc2⟩
      · rw [List.map_eq_nil_iff] at h0; subst h0; exact absurd hlt (by simp)
      have e1 : ∀ z : Ext wr, z.val.cell? ⟨w.heap.size, 0, none⟩ = some (.slice (some ⟨g1, o1, none⟩) l.length p1) := fun z => z.get c1
      have e2 : ∀ z : Ext wr, z.val.cell? ⟨w.heap.size + 1, 0, none⟩ = some (.slice (some ⟨g2, o2, none⟩) l.length p2) := fun z => z.get c2
      have e3 : ∀ z : Ext wr, z.val.cell? ⟨g1, o1 + k, none⟩ = some (.int .i64 l[k]) := fun z => z.get (hc1 k _ (by simp [hlt]))
      have e4 : ∀ z : Ext wr, z.val.cell? ⟨g2, o2 + k, none⟩ = some (.int .i64 l[k]) := fun z => z.get (hc2 k _ (by simp [hlt]))
      have i1 : (0 : Int) ≤ (k : Int) := by omega
      have i2 : (k : Int) < (l.length : Int) := by omega
      clear hc1 hc2
      go_wp2_with fail
      refine wp_region_ext (by kernel_rfl) (by kernel_rfl) ?_
      repeat (go_big_quiet_step (fail))
      refine wpQuiet_nil ?_
      intro wx
      go_wp2_with fail
      exact ⟨⟨k + 1, by omega, by go_num, Bl.next hbr wx.below⟩, by simp [intOf]; omega⟩
    · go_wp2_with fail
      go_ret
      exact ⟨rfl, Bl.next hB hbr⟩

theorem res_at05 {w : World} {B : Nat} {s : Value} {c : Int} {t : TypeId} (h : Blk w B [s, .int .i64 c] t) (hs : ∃ a n m, s = .slice a n m) {tmps : Array Value} (e : tmps.getD 4 undef = .pointer (some ⟨B, 0, none⟩)) :
    (results Tryz.f96 tmps).run Tryz.prog w = .ok (.agg #[s, .int .i64 c]) w := by
  obtain ⟨a, n, m, rfl⟩ := hs
  have c0 := h.cell (i := 0) rfl
  have c1 := h.cell (i := 1) rfl
  have e' : tmps[4]?.getD undef = .pointer (some ⟨B, 0, none⟩) := by simpa using e
  simp [results, Tryz.results96, go_sem, c0, c1, e']
set_option maxRecDepth 100000 in
set_option maxHeartbeats 2000000 in
theorem ref05_At (b : Int) (l : List Int) (c : Int) (v : Value) (w : World) (hlen : l.length ≤ 1000000) (hv : FltV w v l c) :
    Calls Tryz.prog 96 #[.int .i64 b, v] w (RetS (fun w' r => FltV w' r (if c = 0 then [] else b :: l) c) w) := by
  obtain ⟨s, rfl, k⟩ := hv
  obtain ⟨i0, hi0, hz0, hz1, hz2⟩ := info_parts (P := Tryz.prog) (e := 3) (z := .int .i64 0) (size := 1) (bytes := 8) (by kernel_rfl)
  obtain ⟨a, p, rfl⟩ := k.slice
  have hB : Below w.heap.size w ((w.alloc (.cells #[.slice a l.length p, .int .i64 c] 33)).alloc (.cells #[.slice none 0 0, .int .i64 0] 33)) := Bl.next (Bl.box _ _) (Bl.box _ _)
  have b1 : Blk ((w.alloc (.cells #[.slice a l.length p, .int .i64 c] 33)).alloc (.cells #[.slice none 0 0, .int .i64 0] 33)) w.heap.size [.slice a l.length p, .int .i64 c] 33 := (Blk.new _ _ _).alloc _
  have b2 := Blk.new (w.alloc (.cells #[.slice a l.length p, .int .i64 c] 33)) [.slice none 0 0, .int .i64 0] 33
  simp only [World.size_alloc] at b2
  by_cases hc : c = 0
  · subst hc
    go_enter Tryz.func96, Tryz.ntmps96
    go_wp2_with fail
    exact bodyPost_ret (res_at05 b2 ⟨_, _, _, rfl⟩ rfl) rfl ⟨_, rfl, hB, _, rfl, .inl ⟨_, _, rfl, rfl, rfl⟩⟩
  have hc' : (c == 0) = false := by simpa using hc
  simp only [hc, if_false]
  clear hc
  go_enter Tryz.func96, Tryz.ntmps96
  go_wp2_with fail
  obtain ⟨W, hW⟩ : ∃ W, (w.alloc (.cells #[.slice a l.length p, .int .i64 c] 33)).alloc (.cells #[.slice none 0 0, .int .i64 0] 33) = W := ⟨_, rfl⟩
  have hsz : w.heap.size + 1 + 1 = W.heap.size := by rw [← hW]; simp
  change Blk ((w.alloc (.cells #[.slice a l.length p, .int .i64 c] 33)).alloc (.cells #[.slice none 0 0, .int .i64 0] 33)) _ _ _ at b2
  rw [hW] at hB b1 b2 ⊢
  have k1 := k.below hB
  clear hW k
  have c10 := b1.cell (i := 0) rfl
  have c11 := b1.cell (i := 1) rfl
  have c20 := b2.cell (i := 0) rfl
  have c21 := b2.cell (i := 1) rfl
  have f20 := b2.frozen 0
  have f21 := b2.frozen 1
  have hO : (W.alloc (.cells #[.int .i64 b] 3)).ownsRow W.heap.size 3 1 (.slice (some ⟨W.heap.size, 0, none⟩) 1 1) 1 [.int .i64 b] := World.ownsRow_lit W #[.int .i64 b] 1 (Nat.le_refl _) (by unfold maxLen; omega) rfl
  have kA := k1.below (Bl.box W (.cells #[.int .i64 b] 3))
  have hz : w.heap.size < W.heap.size := by omega
  have hz2' : w.heap.size + 1 < W.heap.size := by omega
  have hone : ∀ u ∈ l.map (Value.int .i64), u.oneCell' = true := by intro u hu; obtain ⟨x, _, rfl⟩ := List.mem_map.1 hu; rfl
  go_region_held3 (fun w' => w'.cell? ⟨w.heap.size, 0, none⟩ = some (.slice a l.length p) ∧ w'.cell? ⟨w.heap.size, 1, none⟩ = some (.int .i64 c))
    (first | go_keep | exact ⟨(hb2.cell (by exact hz)).trans (getA _ c10), (hb2.cell (by exact hz)).trans (getA _ c11)⟩)
    ((refine step_app_sl (by rfl) _ _ _ (by rfl) W.heap.size 3 i0 (.int .i64 0) 1 8 Tryz.underlying31 hi0 hz0 hz1 hz2 rfl (by omega) (.slice (some ⟨W.heap.size, 0, none⟩) 1 1) 1 [.int .i64 b] (by rfl) hO (.slice a l.length p) l.length (l.map (Value.int .i64)) (by rfl) kA (by simp) hone (by unfold maxLen; omega) (by omega) (by simp) ?_; intro v2 w2 hown2 hgrow2 hb2; obtain ⟨a2, p2, rfl⟩ := (own_sl hown2).slice; have q2 : Blk w2 (w.heap.size + 1) [.slice none 0 0, .int .i64 0] 33 := Blk.below' (by exact b2.alloc (.cells #[.int .i64 b] 3)) hb2 hz2'; have d0 := q2.cell (i := 0) rfl; have d1 := q2.cell (i := 1) rfl; have g0 := q2.frozen 0; have g1 := q2.frozen 1))
  rename_i hHeld
  clear hHeld
  have hB2 : Below w.heap.size w w2 := Bl.next hB (Below.trans (Bl.box W (.cells #[.int .i64 b] 3)).drew hb2)
  have hB3 : Below w.heap.size w ((w2.setCell ⟨w.heap.size + 1, 0, none⟩ (.slice a2 (1 + l.length) p2)).setCell ⟨w.heap.size + 1, 1, none⟩ (.int .i64 c)) := (hB2.setCell (by simp) _).setCell (by simp) _
  have h3 := own_sl (ownsRow_setCell_below (ownsRow_setCell_below hown2 (a := ⟨w.heap.size + 1, 0, none⟩) hz2' (.slice a2 (1 + l.length) p2)) (a := ⟨w.heap.size + 1, 1, none⟩) hz2' (.int .i64 c))
  go_wp2_with fail
  refine bodyPost_ret (res_at05 ((q2.set 0 _).set 1 _) ⟨_, _, _, rfl⟩ rfl) rfl ⟨_, rfl, hB3, _, rfl, ?_⟩
  simpa [Ints, Nat.add_comm] using h3
end Go.Proofs.YtbopakjiahojdaaGreatDoor
namespace Go.Proofs.YtbopakjiahojdaaGreatDoor
open Go.RowKit Go.Extern.Stop Go.Stop Go.Extern
set_option linter.unusedVariables false
attribute [local irreducible] wpList wpAnyH Code.wp Oper.wp Go

def blksL (l : List UInt8) (k : Nat) : List (List UInt8) := (List.range k).map (blkB l)
theorem blksL_len (l : List UInt8) (k : Nat) : (blksL l k).length = k := by simp [blksL]
theorem blksL_snoc (l : List UInt8) (k : Nat) : blksL l (k + 1) = blksL l k ++ [blkB l k] := by simp [blksL, List.range_succ]
theorem blksL_get (l : List UInt8) {k i : Nat} (h : i < k) : (blksL l k).getD i [] = blkB l i := by simp [blksL, List.getD, List.getElem?_range h]
theorem blkB_take {l : List UInt8} {i m : Nat} (h : i < m) : blkB (l.take (m * 256)) i = blkB l i := by
  unfold blkB
  rw [List.drop_take, List.take_take, Nat.min_eq_left (by omega)]
theorem blksL_take {l : List UInt8} {k : Nat} : blksL (l.take (k * 256)) k = blksL l k := List.map_congr_left fun i hi => blkB_take (List.mem_range.1 hi)
theorem blksL_set {l x : List UInt8} {k j : Nat} (hx : x.length = 256) (hl : k * 256 ≤ l.length) (hj : j < k) : (blksL l k).set j x = blksL (putB l (j * 256) x) k := by
  apply List.ext_getElem?
  intro i
  by_cases hi : i < k
  · rw [List.getElem?_set]
    have e1 : ∀ l : List UInt8, (blksL l k)[i]? = some (blkB l i) := fun l => by simp [blksL, List.getElem?_range hi]
    rw [e1, e1]
    by_cases h : j = i
    · subst h; rw [if_pos rfl, blksL_len, if_pos hi, blkB_put hx (by omega)]
    · rw [if_neg h, blkB_put_other hx (by omega) (by omega) (by omega)]
  · rw [List.getElem?_eq_none (by rw [List.length_set, blksL_len]; omega), List.getElem?_eq_none (by rw [blksL_len]; omega)]
theorem take_blk {l : List UInt8} {i : Nat} : l.take (i * 256) ++ blkB l i = l.take ((i + 1) * 256) := by
  unfold blkB
  rw [Nat.add_mul, Nat.one_mul, List.take_add]
/-- an image of the document's at block bm: k blocks, their bytes l -/
structure RefI (B bm : Nat) (p : Option Addr) (k c : Nat) (l : List UInt8) (w : World) : Prop where
  blk : Blk w bm [.slice p k c] 77
  row : w.ownsRow B 9 1 (.slice p k c) k ((blksL l k).map sv)
  hk : k ≤ 14400
  hl : l.length = k * 256
theorem RefI.below {B bm : Nat} {p : Option Addr} {k c : Nat} {l : List UInt8} {w W : World} (h : RefI B bm p k c l w) (hb : Below w.heap.size w W) : RefI B bm p k c l W := ⟨h.blk.below hb, own_below h.row hb, h.hk, h.hl⟩
theorem RefI.only {B bm : Nat} {p : Option Addr} {k c : Nat} {l : List UInt8} {w W : World} {T : List TypeId} (h : RefI B bm p k c l w) (hO : Only T w W) (hT : T.contains 77 = false ∧ T.contains 9 = false) : RefI B bm p k c l W := ⟨h.blk.only hO hT.1, own_only h.row hO hT.2, h.hk, h.hl⟩
theorem RefI.mono {B B' bm : Nat} {p : Option Addr} {k c : Nat} {l : List UInt8} {w : World} (h : RefI B bm p k c l w) (hB : B' ≤ B) : RefI B' bm p k c l w := ⟨h.blk, own_mono h.row hB, h.hk, h.hl⟩
theorem RefI.base {B bm : Nat} {p : Option Addr} {k c : Nat} {l : List UInt8} {w : World} (h : RefI B bm p k c l w) (hn : 0 < k) : ∃ g, p = some ⟨g, 0, none⟩ := by
  rcases h.row.2 with ⟨_, h0⟩ | ⟨g, cap, cur, hv, _, _, hc, _⟩
  · omega
  · simp only [Value.slice.injEq] at hv
    obtain ⟨rfl, _, rfl⟩ := hv
    exact ⟨g, rfl⟩
set_option maxRecDepth 100000 in
set_option maxHeartbeats 1000000 in
theorem ref_Of (a : Option Addr) (c : Nat) (l : List UInt8) (w : World) (h : Bys w (.slice a l.length c) l) (hl : l.length ≤ 100000000) :
    Calls Tryz.prog 9 #[.slice a l.length c] w (RetS (fun w' r => ∃ bm p c2, r = .pointer (some ⟨bm, 0, none⟩) ∧ w.heap.size ≤ bm ∧ RefI w.heap.size bm p (min (l.length / 256) 14400) c2 (l.take (min (l.length / 256) 14400 * 256)) w') w) := by
 refine zin 32 Tryz.func9 ?_
 refine xa 8 [.slice none 0 0] 77 fun b1 W1 n1 => ?_
 refine zl 5 32 (fun zm zkv V => ∃ (k : Nat) (p : Option Addr) (cp : Nat) (a2 : Option Addr) (c2 : Nat) (l2 : List UInt8), zkv = [(0, .slice a2 l2.length c2), (2, .pointer none), (3, .pointer (some ⟨b1, 0, none⟩))] ∧ zm = l2.length ∧ Below w.heap.size w V ∧ Blk V b1 ([.slice p k cp]) 77 ∧ V.ownsRow w.heap.size 9 1 (.slice p k cp) k ((blksL l k).map sv) ∧ Bys w (.slice a2 l2.length c2) l2 ∧ l2 = l.drop (k * 256) ∧ k * 256 ≤ l.length ∧ k ≤ 14400) ⟨0, none, 0, a, c, l, rfl, rfl, n1.below, n1.blk, World.ownsRow_nil _ _ _ _, h, by simp, by omega, by decide⟩ ?_
 rintro _ _ W2 ⟨k, p, cp, a2, c2, l2, rfl, rfl, hB_2, k2_b1, ho, hen, hl2, hk1, hk2⟩ J2 hJ2 r2
 have hcap := hen.cap rfl
 have hl2n : l2.length = l.length - k * 256 := by rw [hl2]; simp
 refine xg 7 [8, 9] (decide ((↑l2.length : Int) ≥ (256 : Int))) (fun hc3 => ?_) (fun hc3 => ?_)
 · have hc3 := of_decide_eq_true hc3
   refine xb 3 0 k2_b1 ?_
   refine xid 5 ((↑k : Int) < (14400 : Int)) (fun hc4 => ?_) (fun hc4 => ?_)
   · refine xd 4 (.t w.heap.size [9, 77]) ?_
     refine xsH (.e [0, 1, 2, 3, 5] 6) (fun _ _ _ _ zo zx zy V => run_sliceH (k := 256) (b := a2) (n := l2.length) (c := c2) (i := 256) (ki := .i64) zo zx zy rfl (by omega) Tryz.underlying29 (by kernel_rfl) V) ?_
     have hB'1 := Bl.next hB_2 (below_drew W2)
     refine xcvt (.e [] 7) (.t w.heap.size [9, 77]) (fun _ _ _ zo zx V hV => run_bstr zo zx ((Bys.take hen rfl 256 (by omega)).below (sft_keep hB'1 hV (Nat.le_refl _))) (by simp; omega) Tryz.underlying29 Tryz.underlying5 Tryz.underlying9) ?_
     refine xm2 0 4 8 ?_ ?_
     · have k2_b1'1 := k2_b1.below (below_drew W2)
       refine xb 0 0 k2_b1'1 ?_
       refine xbs (.o [] 8) 1 [.string ⟨(l2.take 256).toArray⟩] 9 fun b5 W5 n5 => ?_
       have ho'1 := own_below ho (below_drew W2)
       have r5_ho := own_ne ho'1 n5
       have ho'2 := own_below ho'1 n5.below
       have hB'2 := Bl.next hB'1 n5.below
       refine ybi (.o [] 9) (.t w.heap.size [9, 77]) fun _ _ _ _ zJ zQ zo zx zy zK => op_app (m := 1) (news := [.string ⟨(l2.take 256).toArray⟩]) (.string ⟨#[]⟩) 1 16 (k + 1) ((blksL l (k + 1)).map sv) zo Tryz.underlying75 (by kernel_rfl) rfl (by decide) zx ho'2 zy (n5.blk.sl 1 1 (by decide) (by decide)) rfl (by simp [Value.oneCell']) (by unfold maxLen; omega) (by omega) hB'2.size (by rfl) (by rw [blksL_snoc, List.map_append, show blkB l k = l2.take 256 from by rw [hl2]; rfl]; rfl) fun p6 c6 W6 o6 hg6 hb6 => ?_
       refine zK _ _ (sft_grown hb6 hg6 ho'2 (by decide)) ?_
       have k2_b1'2 := (k2_b1'1.below n5.below).grown hg6 ho'2 (by decide)
       have g1 := n1.ge (Below.refl w.heap.size _)
       refine ys (.o [10, 11] 12) k2_b1'2 [.slice p6 (k + 1) c6] (.t w.heap.size [9, 77]) fun W7 u7 k7 => ⟨(sft_upd u7 k2_b1'2 g1 (by decide)), ?_⟩
       refine xsL 4 (fun _ _ _ _ zo zx zy V => run_sliceLA (k := 256) (b := a2) (n := l2.length) (c := c2) (i := 256) (ki := .i64) 1 zo zx zy rfl (by omega) Tryz.underlying29 (by kernel_rfl) V) ?_
       refine xv1 3 0 (show (.slice (cutA a2 256 c2 1) (l2.length - 256) (c2 - 256) : Value) = .slice (cutA a2 256 c2 1) ((l2.drop 256).length) (c2 - 256) from by rw [List.length_drop]) ?_
       have hB'3 := u7.below (hB'2.trans hb6) g1
       have o6'1 := u7.own2 o6 k2_b1'2 (by decide)
       refine ze 0 (hJ2 _ _ _ ⟨k + 1, _, _, _, _, (l2.drop 256), rfl, rfl, hB'3, k7, o6'1, (by have := Bys.cut hen rfl 256 l2.length (by omega) (Nat.le_refl _); rw [List.take_of_length_le (by simp)] at this; rwa [show (l2.drop 256).length = l2.length - 256 by simp]), by rw [hl2, List.drop_drop, Nat.add_mul, Nat.one_mul], by omega, by omega⟩ ?_)
       show ((l2.drop 256).length) < l2.length
       rw [List.length_drop]; omega
     refine xbs 0 1 [.string ⟨(l2.take 256).toArray⟩] 9 fun b8 W8 n8 => ?_
     have ho'3 := own_below ho (below_drew W2)
     have r8_ho := own_ne ho'3 n8
     have k2_b1'3 := (k2_b1.below (below_drew W2)).below n8.below
     refine xb (.o [] 4) 0 k2_b1'3 ?_
     have ho'4 := own_below ho'3 n8.below
     have hB'4 := Bl.next hB'1 n8.below
     refine ybi (.o [] 9) (.t w.heap.size [9, 77]) fun _ _ _ _ zJ zQ zo zx zy zK => op_app (m := 1) (news := [.string ⟨(l2.take 256).toArray⟩]) (.string ⟨#[]⟩) 1 16 (k + 1) ((blksL l (k + 1)).map sv) zo Tryz.underlying75 (by kernel_rfl) rfl (by decide) zx ho'4 zy (n8.blk.sl 1 1 (by decide) (by decide)) rfl (by simp [Value.oneCell']) (by unfold maxLen; omega) (by omega) hB'4.size (by rfl) (by rw [blksL_snoc, List.map_append, show blkB l k = l2.take 256 from by rw [hl2]; rfl]; rfl) fun p9 c9 W9 o9 hg9 hb9 => ?_
     refine zK _ _ (sft_grown hb9 hg9 ho'4 (by decide)) ?_
     have k2_b1'4 := k2_b1'3.grown hg9 ho'4 (by decide)
     have g1 := n1.ge (Below.refl w.heap.size _)
     refine ys (.o [10, 11] 12) k2_b1'4 [.slice p9 (k + 1) c9] (.t w.heap.size [9, 77]) fun W10 u10 k10 => ⟨(sft_upd u10 k2_b1'4 g1 (by decide)), ?_⟩
     refine xsL 4 (fun _ _ _ _ zo zx zy V => run_sliceLA (k := 256) (b := a2) (n := l2.length) (c := c2) (i := 256) (ki := .i64) 1 zo zx zy rfl (by omega) Tryz.underlying29 (by kernel_rfl) V) ?_
     refine xv1 3 0 (show (.slice (cutA a2 256 c2 1) (l2.length - 256) (c2 - 256) : Value) = .slice (cutA a2 256 c2 1) ((l2.drop 256).length) (c2 - 256) from by rw [List.length_drop]) ?_
     have hB'5 := u10.below (hB'4.trans hb9) g1
     have o9'1 := u10.own2 o9 k2_b1'4 (by decide)
     refine ze 0 (hJ2 _ _ _ ⟨k + 1, _, _, _, _, (l2.drop 256), rfl, rfl, hB'5, k10, o9'1, (by have := Bys.cut hen rfl 256 l2.length (by omega) (Nat.le_refl _); rw [List.take_of_length_le (by simp)] at this; rwa [show (l2.drop 256).length = l2.length - 256 by simp]), by rw [hl2, List.drop_drop, Nat.add_mul, Nat.one_mul], by omega, by omega⟩ ?_)
     show ((l2.drop 256).length) < l2.length
     rw [List.length_drop]; omega
   have g1 := n1.ge (Below.refl w.heap.size _)
   refine xe 12 (.pointer (some ⟨b1, 0, none⟩)) ?_
   obtain rfl : k = min (l.length / 256) 14400 := by omega
   exact ⟨_, rfl, hB_2, _, _, _, rfl, g1, k2_b1, by rw [blksL_take]; exact ho, by omega, by simp; omega⟩
 have hc3 := of_decide_eq_false hc3
 have g1 := n1.ge (Below.refl w.heap.size _)
 refine xe 22 (.pointer (some ⟨b1, 0, none⟩)) ?_
 obtain rfl : k = min (l.length / 256) 14400 := by omega
 exact ⟨_, rfl, hB_2, _, _, _, rfl, g1, k2_b1, by rw [blksL_take]; exact ho, by omega, by simp; omega⟩
set_option maxRecDepth 100000 in
set_option maxHeartbeats 1000000 in
theorem ref_ImgBytes (B bm : Nat) (p : Option Addr) (k c : Nat) (l : List UInt8) (w : World) (hI : RefI B bm p k c l w) :
    Calls Tryz.prog 19 #[.pointer (some ⟨bm, 0, none⟩)] w (RetS (fun w' r => ∃ p2 c2, r = .slice p2 (k * 256) c2 ∧ w'.ownsRow w.heap.size 5 1 (.slice p2 (k * 256) c2) (k * 256) (l.map bv)) w) := by
 have hk := hI.blk
 have hkl := hI.hk
 have hll := hI.hl
 have hr := own_sl hI.row
 refine zin 24 Tryz.func19 ?_
 refine xv1 17 3 (show (.slice none 0 0 : Value) = .slice none (0 * 256) 0 from by rw [Nat.zero_mul]) ?_
 have hB := Below.refl w.heap.size w
 refine zl 0 24 (fun zm zkv V => ∃ (i : Nat) (pb : Option Addr) (cb : Nat), zkv = [(0, .pointer (some ⟨bm, 0, none⟩)), (2, .slice none 0 0), (3, .slice pb (i * 256) cb), (4, .int .i64 (↑i : Int))] ∧ zm = k - ((↑i : Int)).toNat ∧ Below w.heap.size w V ∧ Blk V bm ([.slice p k c]) 77 ∧ V.ownsRow w.heap.size 5 1 (.slice pb (i * 256) cb) (i * 256) ((l.take (i * 256)).map bv) ∧ i ≤ k) ⟨0, _, _, rfl, rfl, hB, hk, by rw [Nat.zero_mul]; exact World.ownsRow_nil _ _ _ _, Nat.zero_le _⟩ ?_
 rintro _ _ W1 ⟨i, pb, cb, rfl, rfl, hB_1, k1_bm, hb_, hi⟩ J1 hJ1 r1
 refine xb 7 0 k1_bm ?_
 refine xid 4 ((↑i : Int) < (↑k : Int)) (fun hc2 => ?_) (fun hc2 => ?_)
 · refine xb 9 0 k1_bm ?_
   refine xx 1 _ k i 1 (Strs.elem hr (blksL_len l k) (k := i) (by omega)).1 ?_
   refine xl 0 ((Strs.elem (hr.below hB_1) (blksL_len l k) (k := i) (by omega)).2) ?_
   have hge3 : (blksL l k).getD i [] = blkB l i := blksL_get l (by omega)
   have hgl3 : ((blksL l k).getD i []).length = 256 := by rw [hge3]; exact blkB_len (by omega)
   refine xbi 0 (t2 := 9) fun _ _ _ _ zJ zQ zo zx zy zK => op_appS ((blksL l k).getD i []) ((i + 1) * 256) ((l.take ((i + 1) * 256)).map bv) zo Tryz.underlying29 Tryz.underlying9 (by kernel_rfl) zx hb_ zy (by omega) hB_1.size (by omega) (by rw [hge3, ← List.map_append, take_blk]) ?_
   intro p3 c3 W3 o3 hg3 hb3
   refine zK _ _ ?_
   refine xwm 6 ((↑i : Int) + 1) (↑(i + 1) : Int) ?_
   have hB'1 := hB_1.trans hb3
   have k1_bm'1 := k1_bm.grown hg3 hb_ (by decide)
   exact ze 2 (hJ1 _ _ _ ⟨i + 1, _, _, rfl, rfl, hB'1, k1_bm'1, o3, by omega⟩ (by omega))
 refine xe 12 (.slice pb (i * 256) cb) ?_
 obtain rfl : i = k := by omega
 rw [List.take_of_length_le (by omega)] at hb_
 exact ⟨_, rfl, hB_1, _, _, rfl, hb_⟩
set_option maxRecDepth 100000 in
set_option maxHeartbeats 1000000 in
theorem ref_ImgWrite_out (B bm : Nat) (p : Option Addr) (k c : Nat) (l : List UInt8) (w : World) (hI : RefI B bm p k c l w) (no : Int) (x : Value) (ho : ¬ (0 ≤ no ∧ no < (k : Int))) :
    Calls Tryz.prog 66 #[.pointer (some ⟨bm, 0, none⟩), .int .i64 no, x] w (Ret (.int .i64 3) w) := by
 have hk := hI.blk
 have hkl := hI.hk
 have hll := hI.hl
 refine zin 29 Tryz.func66 ?_
 refine xg 11 [8, 9] (decide (no < (0 : Int))) (fun hc1 => ?_) (fun hc1 => ?_)
 · have hc1 := of_decide_eq_true hc1
   exact xe 18 (.int .i64 3) ⟨rfl, (Below.refl w.heap.size _)⟩
 have hc1 := of_decide_eq_false hc1
 refine xb 4 0 hk ?_
 refine xk 5 (show (decide (no ≥ (↑k : Int)) : Bool) = true from decide_eq_true (by omega)) ?_
 exact xe 7 (.int .i64 3) ⟨rfl, (Below.refl w.heap.size _)⟩
set_option maxRecDepth 100000 in
set_option maxHeartbeats 1000000 in
theorem ref_ImgWrite_raw (B bm g Bx : Nat) (k c j : Nat) (cur : List Value) (a : Option Addr) (cx : Nat) (lx : List UInt8) (w : World) (hk : Blk w bm [.slice (some ⟨g, 0, none⟩) k c] 77) (kg : Blk w g cur 9) (hne : bm ≠ g) (hcl : k ≤ cur.length) (hj : j < k) (hx : w.ownsRow Bx 5 1 (.slice a 256 cx) 256 (lx.map bv)) (hlx : lx.length = 256) (hBw : B ≤ w.heap.size) (hBg : B ≤ g) :
    Calls Tryz.prog 66 #[.pointer (some ⟨bm, 0, none⟩), .int .i64 (↑j : Int), .slice a 256 cx] w ((fun e w' => e = .returned (.int .i64 0) ∧ Below B w w' ∧ Only [9] w w' ∧ Blk w' g (cur.set j (sv lx)) 9)) := by
 refine zin 29 Tryz.func66 ?_
 refine xgk 11 [8, 9] (show (decide ((↑j : Int) < (0 : Int)) : Bool) = false from decide_eq_false (by omega)) ?_
 refine xb 4 0 hk ?_
 refine xk 5 (show (decide ((↑j : Int) ≥ (↑k : Int)) : Bool) = false from decide_eq_false (by omega)) ?_
 refine xd 14 (.t B [9]) ?_
 have hk'1 := hk.below (below_drew w)
 refine xbt (.e [0, 1, 2] 3) 0 B [9] hk'1 ?_
 have hx'1 := own_below hx (below_drew w)
 refine xcvt (.e [4, 5] 6) (.t B [9]) (fun _ _ _ zo zx V hV => run_bstr zo zx (bys_of (own_sl (own_only hx'1 hV.2 (by decide))) hlx) hlx Tryz.underlying29 Tryz.underlying5 Tryz.underlying9) ?_
 refine xxb (.e [] 7) g 0 k j 1 ?_
 have kg'1 := kg.below (below_drew w)
 refine ysg (.o [] 8) kg'1 (0 + j * 1) (.string ⟨lx.toArray⟩) (by omega) (.t B [9]) fun W2 u2 k2 => ⟨(sft_upd u2 kg'1 hBg (by decide)), ?_⟩
 replace k2 : Blk W2 g (cur.set j (sv lx)) 9 := by rw [← (show cur.set (0 + j * 1) (.string ⟨lx.toArray⟩) = cur.set j (sv lx) from by rw [Nat.zero_add, Nat.mul_one]; rfl)]; exact k2
 have hB := u2.below (Bl.nextB (Below.refl B w) hBw (below_drew w)) hBg
 have hO := (show Only [9] w _ from (Only.of_below (below_drew w))).trans (Only.of_upd u2 kg'1 (by decide))
 exact xe 8 (.int .i64 0) ⟨rfl, hB, hO, k2⟩
def WroteI (B bm : Nat) (p : Option Addr) (k c : Nat) (l : List UInt8) (v : Value) (w : World) (e : Ending) (w' : World) : Prop :=
  e = .returned v ∧ Below B w w' ∧ Only [9] w w' ∧ RefI B bm p k c l w'
theorem ref_ImgWrite (B bm Bx : Nat) (p : Option Addr) (k c : Nat) (l : List UInt8) (j : Nat) (a : Option Addr) (cx : Nat) (lx : List UInt8) (w : World) (hI : RefI B bm p k c l w) (hj : j < k) (hx : w.ownsRow Bx 5 1 (.slice a 256 cx) 256 (lx.map bv)) (hlx : lx.length = 256) (hBw : B ≤ w.heap.size) :
    Calls Tryz.prog 66 #[.pointer (some ⟨bm, 0, none⟩), .int .i64 (j : Int), .slice a 256 cx] w (WroteI B bm p k c (putB l (j * 256) lx) (.int .i64 0) w) := by
  obtain ⟨g, rfl⟩ := hI.base (by omega)
  have hrow := hI.row
  have hge := own_ge hrow
  have hne := own_blk_ne hI.blk hrow (by decide)
  have hkl := hI.hk
  have hll := hI.hl
  obtain ⟨hl1, h2⟩ := hrow
  rcases h2 with ⟨h2, _⟩ | ⟨g', cap, cur, hv, hg, hh, hc, hm, hsz, htk⟩
  · cases h2
  · simp only [Value.slice.injEq, Option.some.injEq, Addr.mk.injEq] at hv
    obtain ⟨⟨rfl, _⟩, _, rfl⟩ := hv
    have hb : Blk w g cur.toList 9 := by unfold Blk; simpa using hh
    refine (ref_ImgWrite_raw B bm g Bx k c j cur.toList a cx lx w hI.blk hb hne (by simp; omega) hj hx hlx hBw hge).mono ?_
    rintro e W ⟨rfl, hB, hO, k2⟩
    refine ⟨rfl, hB, hO, hI.blk.only hO (by decide), ⟨by rw [List.length_map, blksL_len, Nat.mul_one], .inr ⟨g, c, (cur.toList.set j (sv lx)).toArray, rfl, hg, k2, hc, hm, by simpa using hsz, ?_⟩⟩, hkl, by rw [putB_len (by omega), hll]⟩
    rw [← blksL_set hlx (by omega) hj, List.map_set, ← htk]
    simp [List.take_set]
/-- the document's fault of a number at a block -/
def fltL (no er : Int) : List Int := if er = 0 then [] else [no]
theorem fltL_nz {no er : Int} (h : er ≠ 0) : fltL no er = [no] := if_neg h
set_option maxRecDepth 100000 in
set_option maxHeartbeats 1000000 in
theorem ref05_At_z (no : Int) (w : World) :
    Calls Tryz.prog 96 #[.int .i64 no, .agg #[.slice none 0 0, .int .i64 0]] w (Ret (.agg #[.slice none 0 0, .int .i64 0]) w) := by
 refine zin 17 Tryz.func96 ?_
 refine xa 2 [.slice none 0 0, .int .i64 0] 33 fun b1 W1 n1 => ?_
 refine xa 0 [.slice none 0 0, .int .i64 0] 33 fun b2 W2 n2 => ?_
 have d2_b1 := n2.ne n1.blk
 have k1'1 := n1.blk.below n2.below
 refine xb 6 1 k1'1 ?_
 refine xsv 7 n2.blk [.slice none 0 0, .int .i64 0] fun W3 u3 k3 => ?_
 have g2 := n2.ge n1.below
 have hB := u3.below (Bl.next n1.below n2.below) g2
 exact xec 4 k3 (.agg #[.slice none 0 0, .int .i64 0]) ⟨rfl, hB⟩
set_option maxRecDepth 100000 in
set_option maxHeartbeats 1000000 in
theorem ref05_At_n (no er : Int) (w : World) (he : er ≠ 0) :
    Calls Tryz.prog 96 #[.int .i64 no, .agg #[.slice none 0 0, .int .i64 er]] w (RetS (fun w' r => ∃ a c, r = .agg #[.slice a 1 c, .int .i64 er] ∧ w'.ownsRow w.heap.size 3 1 (.slice a 1 c) 1 [.int .i64 no]) w) := by
 refine zin 17 Tryz.func96 ?_
 refine xa 2 [.slice none 0 0, .int .i64 er] 33 fun b1 W1 n1 => ?_
 refine xa 0 [.slice none 0 0, .int .i64 0] 33 fun b2 W2 n2 => ?_
 have d2_b1 := n2.ne n1.blk
 have k1'1 := n1.blk.below n2.below
 refine xb 6 1 k1'1 ?_
 refine xk 3 (show ((er == (0 : Int)) : Bool) = false from beq_false_of_ne he) ?_
 refine xd 3 (.t w.heap.size [3, 33]) ?_
 refine xm3 (.b [0, 2, 5]) 1 3 6 ?_ ?_ ?_
 · refine xbs 0 1 [.int .i64 no] 3 fun b3 W3 n3 => ?_
   refine xm2 0 3 6 ?_ ?_
   · have k1'2 := (k1'1.below (below_drew W2)).below n3.below
     refine xb 0 0 k1'2 ?_
     refine xm2 0 4 6 ?_ ?_
     · have g3 := n3.ge (Bl.next (Bl.next n1.below n2.below) (below_drew W2))
       have o4 := own_of_blk (size := 1) (n := 1) n3.blk g3 rfl (by decide)
       have hB := Bl.next (Bl.next (Bl.next n1.below n2.below) (below_drew W2)) n3.below
       refine ybi 0 (.t w.heap.size [3, 33]) fun _ _ _ _ zJ zQ zo zx zy zK => op_app (m := 0) (news := []) (.int .i64 0) 1 8 (1) ([.int .i64 no]) zo Tryz.underlying31 (by kernel_rfl) rfl (by decide) zx o4 zy (.inl ⟨none, 0, rfl, rfl, rfl⟩) rfl (by simp) (by unfold maxLen; omega) (by omega) hB.size (by rfl) (by rfl) fun p5 c5 W5 o5 hg5 hb5 => ?_
       refine zK _ _ (sft_grown hb5 hg5 o4 (by decide)) ?_
       have k1'3 := k1'2.grown hg5 o4 (by decide)
       refine xb (.o [] 6) 1 k1'3 ?_
       have k2 := ((n2.blk.below (below_drew W2)).below n3.below).grown hg5 o4 (by decide)
       have g2 := n2.ge n1.below
       refine ysv (.o [7] 8) k2 [.slice p5 1 c5, .int .i64 er] (.t w.heap.size [3, 33]) fun W6 u6 k6 => ⟨(sft_upd u6 k2 g2 (by decide)), ?_⟩
       have hB'1 := u6.below (hB.trans hb5) g2
       have o5'1 := u6.own2 o5 k2 (by decide)
       exact xec 3 k6 (.agg #[.slice p5 1 c5, .int .i64 er]) ⟨_, rfl, hB'1, _, _, rfl, o5'1⟩
     refine xb 0 1 k1'2 ?_
     have g3 := n3.ge (Bl.next (Bl.next n1.below n2.below) (below_drew W2))
     have o7 := own_of_blk (size := 1) (n := 1) n3.blk g3 rfl (by decide)
     have hB := Bl.next (Bl.next (Bl.next n1.below n2.below) (below_drew W2)) n3.below
     refine ybi (.o [] 4) (.t w.heap.size [3, 33]) fun _ _ _ _ zJ zQ zo zx zy zK => op_app (m := 0) (news := []) (.int .i64 0) 1 8 (1) ([.int .i64 no]) zo Tryz.underlying31 (by kernel_rfl) rfl (by decide) zx o7 zy (.inl ⟨none, 0, rfl, rfl, rfl⟩) rfl (by simp) (by unfold maxLen; omega) (by omega) hB.size (by rfl) (by rfl) fun p8 c8 W8 o8 hg8 hb8 => ?_
     refine zK _ _ (sft_grown hb8 hg8 o7 (by decide)) ?_
     have k2 := ((n2.blk.below (below_drew W2)).below n3.below).grown hg8 o7 (by decide)
     have g2 := n2.ge n1.below
     refine ysv (.o [7] 8) k2 [.slice p8 1 c8, .int .i64 er] (.t w.heap.size [3, 33]) fun W9 u9 k9 => ⟨(sft_upd u9 k2 g2 (by decide)), ?_⟩
     have hB'2 := u9.below (hB.trans hb8) g2
     have o8'1 := u9.own2 o8 k2 (by decide)
     exact xec 3 k9 (.agg #[.slice p8 1 c8, .int .i64 er]) ⟨_, rfl, hB'2, _, _, rfl, o8'1⟩
   have k1'4 := (k1'1.below (below_drew W2)).below n3.below
   refine xb 0 1 k1'4 ?_
   refine xb (.o [] 3) 0 k1'4 ?_
   have g3 := n3.ge (Bl.next (Bl.next n1.below n2.below) (below_drew W2))
   have o10 := own_of_blk (size := 1) (n := 1) n3.blk g3 rfl (by decide)
   have hB := Bl.next (Bl.next (Bl.next n1.below n2.below) (below_drew W2)) n3.below
   refine ybi (.o [] 4) (.t w.heap.size [3, 33]) fun _ _ _ _ zJ zQ zo zx zy zK => op_app (m := 0) (news := []) (.int .i64 0) 1 8 (1) ([.int .i64 no]) zo Tryz.underlying31 (by kernel_rfl) rfl (by decide) zx o10 zy (.inl ⟨none, 0, rfl, rfl, rfl⟩) rfl (by simp) (by unfold maxLen; omega) (by omega) hB.size (by rfl) (by rfl) fun p11 c11 W11 o11 hg11 hb11 => ?_
   refine zK _ _ (sft_grown hb11 hg11 o10 (by decide)) ?_
   have k2 := ((n2.blk.below (below_drew W2)).below n3.below).grown hg11 o10 (by decide)
   have g2 := n2.ge n1.below
   refine ysv (.o [7] 8) k2 [.slice p11 1 c11, .int .i64 er] (.t w.heap.size [3, 33]) fun W12 u12 k12 => ⟨(sft_upd u12 k2 g2 (by decide)), ?_⟩
   have hB'3 := u12.below (hB.trans hb11) g2
   have o11'1 := u12.own2 o11 k2 (by decide)
   exact xec 3 k12 (.agg #[.slice p11 1 c11, .int .i64 er]) ⟨_, rfl, hB'3, _, _, rfl, o11'1⟩
 · have k1'5 := k1'1.below (below_drew W2)
   refine xb 0 0 k1'5 ?_
   refine xm2 0 1 6 ?_ ?_
   · refine xbs 0 1 [.int .i64 no] 3 fun b13 W13 n13 => ?_
     refine xm2 0 4 6 ?_ ?_
     · have g13 := n13.ge (Bl.next (Bl.next n1.below n2.below) (below_drew W2))
       have o14 := own_of_blk (size := 1) (n := 1) n13.blk g13 rfl (by decide)
       have hB := Bl.next (Bl.next (Bl.next n1.below n2.below) (below_drew W2)) n13.below
       refine ybi 0 (.t w.heap.size [3, 33]) fun _ _ _ _ zJ zQ zo zx zy zK => op_app (m := 0) (news := []) (.int .i64 0) 1 8 (1) ([.int .i64 no]) zo Tryz.underlying31 (by kernel_rfl) rfl (by decide) zx o14 zy (.inl ⟨none, 0, rfl, rfl, rfl⟩) rfl (by simp) (by unfold maxLen; omega) (by omega) hB.size (by rfl) (by rfl) fun p15 c15 W15 o15 hg15 hb15 => ?_
       refine zK _ _ (sft_grown hb15 hg15 o14 (by decide)) ?_
       have k1'6 := (k1'5.below n13.below).grown hg15 o14 (by decide)
       refine xb (.o [] 6) 1 k1'6 ?_
       have k2 := ((n2.blk.below (below_drew W2)).below n13.below).grown hg15 o14 (by decide)
       have g2 := n2.ge n1.below
       refine ysv (.o [7] 8) k2 [.slice p15 1 c15, .int .i64 er] (.t w.heap.size [3, 33]) fun W16 u16 k16 => ⟨(sft_upd u16 k2 g2 (by decide)), ?_⟩
       have hB'4 := u16.below (hB.trans hb15) g2
       have o15'1 := u16.own2 o15 k2 (by decide)
       exact xec 3 k16 (.agg #[.slice p15 1 c15, .int .i64 er]) ⟨_, rfl, hB'4, _, _, rfl, o15'1⟩
     have k1'7 := k1'5.below n13.below
     refine xb 0 1 k1'7 ?_
     have g13 := n13.ge (Bl.next (Bl.next n1.below n2.below) (below_drew W2))
     have o17 := own_of_blk (size := 1) (n := 1) n13.blk g13 rfl (by decide)
     have hB := Bl.next (Bl.next (Bl.next n1.below n2.below) (below_drew W2)) n13.below
     refine ybi (.o [] 4) (.t w.heap.size [3, 33]) fun _ _ _ _ zJ zQ zo zx zy zK => op_app (m := 0) (news := []) (.int .i64 0) 1 8 (1) ([.int .i64 no]) zo Tryz.underlying31 (by kernel_rfl) rfl (by decide) zx o17 zy (.inl ⟨none, 0, rfl, rfl, rfl⟩) rfl (by simp) (by unfold maxLen; omega) (by omega) hB.size (by rfl) (by rfl) fun p18 c18 W18 o18 hg18 hb18 => ?_
     refine zK _ _ (sft_grown hb18 hg18 o17 (by decide)) ?_
     have k2 := ((n2.blk.below (below_drew W2)).below n13.below).grown hg18 o17 (by decide)
     have g2 := n2.ge n1.below
     refine ysv (.o [7] 8) k2 [.slice p18 1 c18, .int .i64 er] (.t w.heap.size [3, 33]) fun W19 u19 k19 => ⟨(sft_upd u19 k2 g2 (by decide)), ?_⟩
     have hB'5 := u19.below (hB.trans hb18) g2
     have o18'1 := u19.own2 o18 k2 (by decide)
     exact xec 3 k19 (.agg #[.slice p18 1 c18, .int .i64 er]) ⟨_, rfl, hB'5, _, _, rfl, o18'1⟩
   refine xb 0 1 k1'5 ?_
   refine xbs (.o [] 1) 1 [.int .i64 no] 3 fun b20 W20 n20 => ?_
   have g20 := n20.ge (Bl.next (Bl.next n1.below n2.below) (below_drew W2))
   have o21 := own_of_blk (size := 1) (n := 1) n20.blk g20 rfl (by decide)
   have hB := Bl.next (Bl.next (Bl.next n1.below n2.below) (below_drew W2)) n20.below
   refine ybi (.o [] 4) (.t w.heap.size [3, 33]) fun _ _ _ _ zJ zQ zo zx zy zK => op_app (m := 0) (news := []) (.int .i64 0) 1 8 (1) ([.int .i64 no]) zo Tryz.underlying31 (by kernel_rfl) rfl (by decide) zx o21 zy (.inl ⟨none, 0, rfl, rfl, rfl⟩) rfl (by simp) (by unfold maxLen; omega) (by omega) hB.size (by rfl) (by rfl) fun p22 c22 W22 o22 hg22 hb22 => ?_
   refine zK _ _ (sft_grown hb22 hg22 o21 (by decide)) ?_
   have k2 := ((n2.blk.below (below_drew W2)).below n20.below).grown hg22 o21 (by decide)
   have g2 := n2.ge n1.below
   refine ysv (.o [7] 8) k2 [.slice p22 1 c22, .int .i64 er] (.t w.heap.size [3, 33]) fun W23 u23 k23 => ⟨(sft_upd u23 k2 g2 (by decide)), ?_⟩
   have hB'6 := u23.below (hB.trans hb22) g2
   have o22'1 := u23.own2 o22 k2 (by decide)
   exact xec 3 k23 (.agg #[.slice p22 1 c22, .int .i64 er]) ⟨_, rfl, hB'6, _, _, rfl, o22'1⟩
 have k1'8 := k1'1.below (below_drew W2)
 refine xb 0 1 k1'8 ?_
 refine xm2 0 1 3 ?_ ?_
 · refine xbs 0 1 [.int .i64 no] 3 fun b24 W24 n24 => ?_
   have k1'9 := k1'8.below n24.below
   refine xb (.o [] 3) 0 k1'9 ?_
   have g24 := n24.ge (Bl.next (Bl.next n1.below n2.below) (below_drew W2))
   have o25 := own_of_blk (size := 1) (n := 1) n24.blk g24 rfl (by decide)
   have hB := Bl.next (Bl.next (Bl.next n1.below n2.below) (below_drew W2)) n24.below
   refine ybi (.o [] 4) (.t w.heap.size [3, 33]) fun _ _ _ _ zJ zQ zo zx zy zK => op_app (m := 0) (news := []) (.int .i64 0) 1 8 (1) ([.int .i64 no]) zo Tryz.underlying31 (by kernel_rfl) rfl (by decide) zx o25 zy (.inl ⟨none, 0, rfl, rfl, rfl⟩) rfl (by simp) (by unfold maxLen; omega) (by omega) hB.size (by rfl) (by rfl) fun p26 c26 W26 o26 hg26 hb26 => ?_
   refine zK _ _ (sft_grown hb26 hg26 o25 (by decide)) ?_
   have k2 := ((n2.blk.below (below_drew W2)).below n24.below).grown hg26 o25 (by decide)
   have g2 := n2.ge n1.below
   refine ysv (.o [7] 8) k2 [.slice p26 1 c26, .int .i64 er] (.t w.heap.size [3, 33]) fun W27 u27 k27 => ⟨(sft_upd u27 k2 g2 (by decide)), ?_⟩
   have hB'7 := u27.below (hB.trans hb26) g2
   have o26'1 := u27.own2 o26 k2 (by decide)
   exact xec 3 k27 (.agg #[.slice p26 1 c26, .int .i64 er]) ⟨_, rfl, hB'7, _, _, rfl, o26'1⟩
 refine xb 0 0 k1'8 ?_
 refine xbs (.o [] 1) 1 [.int .i64 no] 3 fun b28 W28 n28 => ?_
 have g28 := n28.ge (Bl.next (Bl.next n1.below n2.below) (below_drew W2))
 have o29 := own_of_blk (size := 1) (n := 1) n28.blk g28 rfl (by decide)
 have hB := Bl.next (Bl.next (Bl.next n1.below n2.below) (below_drew W2)) n28.below
 refine ybi (.o [] 4) (.t w.heap.size [3, 33]) fun _ _ _ _ zJ zQ zo zx zy zK => op_app (m := 0) (news := []) (.int .i64 0) 1 8 (1) ([.int .i64 no]) zo Tryz.underlying31 (by kernel_rfl) rfl (by decide) zx o29 zy (.inl ⟨none, 0, rfl, rfl, rfl⟩) rfl (by simp) (by unfold maxLen; omega) (by omega) hB.size (by rfl) (by rfl) fun p30 c30 W30 o30 hg30 hb30 => ?_
 refine zK _ _ (sft_grown hb30 hg30 o29 (by decide)) ?_
 have k2 := ((n2.blk.below (below_drew W2)).below n28.below).grown hg30 o29 (by decide)
 have g2 := n2.ge n1.below
 refine ysv (.o [7] 8) k2 [.slice p30 1 c30, .int .i64 er] (.t w.heap.size [3, 33]) fun W31 u31 k31 => ⟨(sft_upd u31 k2 g2 (by decide)), ?_⟩
 have hB'8 := u31.below (hB.trans hb30) g2
 have o30'1 := u31.own2 o30 k2 (by decide)
 exact xec 3 k31 (.agg #[.slice p30 1 c30, .int .i64 er]) ⟨_, rfl, hB'8, _, _, rfl, o30'1⟩
def FltO (no er : Int) (w : World) (e : Ending) (w' : World) : Prop := ∃ a c, e = .returned (.agg #[.slice a (fltL no er).length c, .int .i64 er]) ∧ Below w.heap.size w w' ∧ w'.ownsRow w.heap.size 3 1 (.slice a (fltL no er).length c) (fltL no er).length ((fltL no er).map (Value.int .i64))
theorem ref05_AtP (no er : Int) (w : World) : Calls Tryz.prog 96 #[.int .i64 no, .agg #[.slice none 0 0, .int .i64 er]] w (FltO no er w) := by
  by_cases he : er = 0
  · subst he
    refine (ref05_At_z no w).mono ?_
    rintro e W ⟨rfl, hb⟩
    exact ⟨none, 0, rfl, hb, World.ownsRow_nil _ _ _ _⟩
  · refine (ref05_At_n no er w he).mono ?_
    rintro e W ⟨_, rfl, hb, a, c, rfl, ho⟩
    rw [FltO, fltL_nz he]
    exact ⟨a, c, rfl, hb, ho⟩
set_option maxRecDepth 100000 in
set_option maxHeartbeats 1000000 in
theorem ref11_At (no er : Int) (w : World) :
    Calls Tryz.prog 65 #[.int .i64 no, .int .i64 er] w (FltO no er w) := by
 refine zin 9 Tryz.func65 ?_
 refine xa 2 [.slice none 0 0, .int .i64 0] 33 fun b1 W1 n1 => ?_
 refine xc 7 (args := #[.int .i64 no, .agg #[.slice none 0 0, .int .i64 er]]) (ref05_AtP no er _) ?_
 rintro _ W2 ⟨a5, c5, rfl, hb2, hs5⟩
 have k1 := n1.blk.below hb2
 refine xsv 0 k1 [.slice a5 ((fltL no er).length) c5, .int .i64 er] fun W3 u3 k3 => ?_
 have g1 := n1.ge (Below.refl w.heap.size _)
 have hB := u3.below (Bl.next n1.below hb2) g1
 have hs5'1 := u3.own2 (own_mono hs5 n1.below.size) k1 (by decide)
 exact xec 3 k3 (.agg #[.slice a5 ((fltL no er).length) c5, .int .i64 er]) ⟨_, _, rfl, hB, hs5'1⟩
/-- the number that a block's writing hands back -/
def wrE (kind no : Int) (k : Nat) (li : List UInt8) : Int := if sealE kind no li = 0 then (if 0 ≤ no ∧ no < (k : Int) then 0 else 3) else sealE kind no li
/-- the image behind it -/
def wrL (kind no : Int) (k : Nat) (li l : List UInt8) : List UInt8 := if wrE kind no k li = 0 then putB l (no.toNat * 256) (sealB kind no li) else l
theorem wrL_len {kind no : Int} {k : Nat} {li l : List UInt8} (hl : l.length = k * 256) (hs : li.length ≤ 244 ∨ wrE kind no k li ≠ 0) : (wrL kind no k li l).length = k * 256 := by
  unfold wrL
  split
  · rename_i h
    have h1 : sealE kind no li = 0 := by unfold wrE at h; split at h; assumption; rename_i h2; exact absurd h h2
    have h2 : 0 ≤ no ∧ no < (k : Int) := by unfold wrE at h; rw [if_pos h1] at h; split at h; assumption; cases h
    have h3 : li.length ≤ 244 := by
      rcases hs with hs | hs
      · exact hs
      · exact absurd h hs
    rw [putB_len (by rw [sealB_len h3]; omega), hl]
  · exact hl
def RefWr (B bm : Nat) (p : Option Addr) (k c : Nat) (l : List UInt8) (no er : Int) (w : World) (e : Ending) (w' : World) : Prop :=
  ∃ a c2, e = .returned (.agg #[.slice a (fltL no er).length c2, .int .i64 er]) ∧ Below B w w' ∧ Only [9] w w' ∧ RefI B bm p k c l w' ∧ w'.ownsRow w.heap.size 3 1 (.slice a (fltL no er).length c2) (fltL no er).length ((fltL no er).map (Value.int .i64))
theorem ref_Seal_err (kind no : Int) (a : Option Addr) (c : Nat) (li : List UInt8) (w : World) (h : Bys w (.slice a li.length c) li) (hs : sealE kind no li ≠ 0) :
    Calls Tryz.prog 64 #[.int .i64 kind, .int .i64 no, .slice a li.length c] w (Ret (.tuple #[.slice none 0 0, .int .i64 (sealE kind no li)]) w) := by
  refine (ref_Seal kind no a c li w h).mono ?_
  rintro e W (⟨_, rfl, hb⟩ | ⟨h0, _⟩)
  · exact ⟨rfl, hb⟩
  · exact absurd h0 hs
theorem ref_Seal_yes (kind no : Int) (a : Option Addr) (c : Nat) (li : List UInt8) (w : World) (h : Bys w (.slice a li.length c) li) (hs : sealE kind no li = 0) :
    Calls Tryz.prog 64 #[.int .i64 kind, .int .i64 no, .slice a li.length c] w (fun e w' => li.length ≤ 244 ∧ ∃ p c, e = .returned (.tuple #[.slice p 256 c, .int .i64 0]) ∧ Below w.heap.size w w' ∧ w'.ownsRow w.heap.size 5 1 (.slice p 256 c) 256 ((sealB kind no li).map bv)) := by
  refine (ref_Seal kind no a c li w h).mono ?_
  rintro e W (⟨h0, _⟩ | ⟨_, _, hl, p, c2, rfl, hb, ho⟩)
  · exact absurd hs h0
  · exact ⟨hl, p, c2, rfl, hb, ho⟩
set_option maxRecDepth 100000 in
set_option maxHeartbeats 1000000 in
theorem ref11_Write_bad (B bm : Nat) (p : Option Addr) (k c : Nat) (l : List UInt8) (no kind : Int) (a : Option Addr) (ca : Nat) (li : List UInt8) (w : World) (hI : RefI B bm p k c l w) (hin : Bys w (.slice a li.length ca) li) (hBw : B ≤ w.heap.size) (hs : sealE kind no li ≠ 0) :
    Calls Tryz.prog 35 #[.pointer (some ⟨bm, 0, none⟩), .int .i64 no, .int .i64 kind, .slice a li.length ca] w (RefWr B bm p k c l no (sealE kind no li) w) := by
 refine zin 29 Tryz.func35 ?_
 refine xa 2 [.slice none 0 0, .int .i64 0] 33 fun b1 W1 n1 => ?_
 have hin'1 := hin.below n1.below
 refine xc 7 (args := #[.int .i64 kind, .int .i64 no, .slice a li.length ca]) (ref_Seal_err kind no a ca li _ hin'1 hs) ?_
 rintro _ W2 ⟨rfl, hb2⟩
 refine xk 14 (show (((sealE kind no li) != (0 : Int)) : Bool) = true from bne_iff_ne.2 hs) ?_
 refine xc 4 (args := #[.int .i64 no, .int .i64 (sealE kind no li)]) (ref11_At no (sealE kind no li) _) ?_
 rintro _ W3 ⟨a5, c5, rfl, hb3, hs5⟩
 have hs3 := (Bl.nextB (Bl.nextB (Below.refl B w) hBw n1.below) hBw hb2).size
 have k1 := (n1.blk.below hb2).below hb3
 refine xsv 0 k1 [.slice a5 ((fltL no (sealE kind no li)).length) c5, .int .i64 (sealE kind no li)] fun W4 u4 k4 => ?_
 have g1 := n1.ge0 (Below.refl B _)
 have hB := u4.below (Bl.nextB (Bl.nextB (Bl.nextB (Below.refl B w) hBw n1.below) hBw hb2) hBw hb3) (Nat.le_trans hBw g1)
 have hO := (Only.upd_new (((show Only [9] w _ from (Only.of_below n1.below)).trans (Only.of_below hb2)).trans (Only.of_below hb3)) u4 g1)
 have hI'1 := (((hI.below n1.below).below hb2).below hb3).only (Only.of_upd (T := [33]) u4 k1 (by decide)) (by decide)
 have hs5'1 := u4.own2 (own_mono hs5 hs3) k1 (by decide)
 exact xec 4 k4 (.agg #[.slice a5 ((fltL no (sealE kind no li)).length) c5, .int .i64 (sealE kind no li)]) ⟨_, _, rfl, hB, hO, hI'1, hs5'1⟩
set_option maxRecDepth 100000 in
set_option maxHeartbeats 1000000 in
theorem ref11_Write_out (B bm : Nat) (p : Option Addr) (k c : Nat) (l : List UInt8) (no kind : Int) (a : Option Addr) (ca : Nat) (li : List UInt8) (w : World) (hI : RefI B bm p k c l w) (hin : Bys w (.slice a li.length ca) li) (hBw : B ≤ w.heap.size) (hs : sealE kind no li = 0) (ho : ¬ (0 ≤ no ∧ no < (k : Int))) :
    Calls Tryz.prog 35 #[.pointer (some ⟨bm, 0, none⟩), .int .i64 no, .int .i64 kind, .slice a li.length ca] w (RefWr B bm p k c l no 3 w) := by
 refine zin 29 Tryz.func35 ?_
 refine xa 2 [.slice none 0 0, .int .i64 0] 33 fun b1 W1 n1 => ?_
 have hin'1 := hin.below n1.below
 refine xc 7 (args := #[.int .i64 kind, .int .i64 no, .slice a li.length ca]) (ref_Seal_yes kind no a ca li _ hin'1 hs) ?_
 rintro _ W2 ⟨hl4, p2, c2, rfl, hb2, h2⟩
 have hs2 := (Bl.nextB (Below.refl B w) hBw n1.below).size
 have hI'1 := (hI.below n1.below).below hb2
 refine xr 23 (args := #[.pointer (some ⟨bm, 0, none⟩), .int .i64 no, .slice p2 256 c2]) (ref_ImgWrite_out B bm p k c l _ hI'1 no _ ho) fun W3 hb3 => ?_
 refine xc 0 (args := #[.int .i64 no, .int .i64 3]) (ref11_At no 3 _) ?_
 rintro _ W4 ⟨a5, c5, rfl, hb4, hs5⟩
 have hs4 := (Bl.nextB (Bl.nextB (Bl.nextB (Below.refl B w) hBw n1.below) hBw hb2) hBw hb3).size
 have k1 := ((n1.blk.below hb2).below hb3).below hb4
 refine xsv 0 k1 [.slice a5 ((fltL no 3).length) c5, .int .i64 3] fun W5 u5 k5 => ?_
 have g1 := n1.ge0 (Below.refl B _)
 have hB := u5.below (Bl.nextB (Bl.nextB (Bl.nextB (Bl.nextB (Below.refl B w) hBw n1.below) hBw hb2) hBw hb3) hBw hb4) (Nat.le_trans hBw g1)
 have hO := (Only.upd_new ((((show Only [9] w _ from (Only.of_below n1.below)).trans (Only.of_below hb2)).trans (Only.of_below hb3)).trans (Only.of_below hb4)) u5 g1)
 have hI'2 := ((hI'1.below hb3).below hb4).only (Only.of_upd (T := [33]) u5 k1 (by decide)) (by decide)
 have hs5'1 := u5.own2 (own_mono hs5 hs4) k1 (by decide)
 exact xec 3 k5 (.agg #[.slice a5 ((fltL no 3).length) c5, .int .i64 3]) ⟨_, _, rfl, hB, hO, hI'2, hs5'1⟩
set_option maxRecDepth 100000 in
set_option maxHeartbeats 1000000 in
theorem ref11_Write_in (B bm : Nat) (p : Option Addr) (k c : Nat) (l : List UInt8) (j : Nat) (kind : Int) (a : Option Addr) (ca : Nat) (li : List UInt8) (w : World) (hI : RefI B bm p k c l w) (hin : Bys w (.slice a li.length ca) li) (hBw : B ≤ w.heap.size) (hs : sealE kind j li = 0) (hj : j < k) :
    Calls Tryz.prog 35 #[.pointer (some ⟨bm, 0, none⟩), .int .i64 (↑j : Int), .int .i64 kind, .slice a li.length ca] w (RefWr B bm p k c (putB l (j * 256) (sealB kind j li)) (j : Int) 0 w) := by
 refine zin 29 Tryz.func35 ?_
 refine xa 2 [.slice none 0 0, .int .i64 0] 33 fun b1 W1 n1 => ?_
 have hin'1 := hin.below n1.below
 refine xc 7 (args := #[.int .i64 kind, .int .i64 (↑j : Int), .slice a li.length ca]) (ref_Seal_yes kind j a ca li _ hin'1 hs) ?_
 rintro _ W2 ⟨hl4, p2, c2, rfl, hb2, h2⟩
 have hs2 := (Bl.nextB (Below.refl B w) hBw n1.below).size
 have hI'1 := (hI.below n1.below).below hb2
 have h2'1 := own_mono h2 hs2
 have hB := Bl.nextB (Bl.nextB (Below.refl B w) hBw n1.below) hBw hb2
 refine xc 23 (args := #[.pointer (some ⟨bm, 0, none⟩), .int .i64 (↑j : Int), .slice p2 256 c2]) (ref_ImgWrite B bm _ p k c l j p2 c2 (sealB kind j li) _ hI'1 hj h2'1 (sealB_len hl4) (Nat.le_trans hBw hB.size)) ?_
 rintro _ W3 ⟨rfl, hb3, hO3, hI⟩
 refine xc 0 (args := #[.int .i64 (↑j : Int), .int .i64 0]) (ref11_At (↑j : Int) 0 _) ?_
 rintro _ W4 ⟨a5, c5, rfl, hb4, hs5⟩
 have hs4 := (hB.trans hb3).size
 have k1 := ((n1.blk.below hb2).only hO3 (by decide)).below hb4
 refine xsv 0 k1 [.slice a5 ((fltL (↑j : Int) 0).length) c5, .int .i64 0] fun W5 u5 k5 => ?_
 have g1 := n1.ge0 (Below.refl B _)
 have hB'1 := u5.below (Bl.nextB (hB.trans hb3) hBw hb4) (Nat.le_trans hBw g1)
 have hO := (Only.upd_new ((((show Only [9] w _ from (Only.of_below n1.below)).trans (Only.of_below hb2)).trans hO3).trans (Only.of_below hb4)) u5 g1)
 have hI'2 := (hI.below hb4).only (Only.of_upd (T := [33]) u5 k1 (by decide)) (by decide)
 have hs5'1 := u5.own2 (own_mono hs5 hs4) k1 (by decide)
 exact xec 3 k5 (.agg #[.slice a5 ((fltL (↑j : Int) 0).length) c5, .int .i64 0]) ⟨_, _, rfl, hB'1, hO, hI'2, hs5'1⟩
theorem ref11_Write (B bm : Nat) (p : Option Addr) (k c : Nat) (l : List UInt8) (no kind : Int) (a : Option Addr) (ca : Nat) (li : List UInt8) (w : World) (hI : RefI B bm p k c l w) (hin : Bys w (.slice a li.length ca) li) (hBw : B ≤ w.heap.size) :
    Calls Tryz.prog 35 #[.pointer (some ⟨bm, 0, none⟩), .int .i64 no, .int .i64 kind, .slice a li.length ca] w (RefWr B bm p k c (wrL kind no k li l) no (wrE kind no k li) w) := by
  by_cases hs : sealE kind no li = 0
  · by_cases ho : 0 ≤ no ∧ no < (k : Int)
    · have he : wrE kind no k li = 0 := by unfold wrE; rw [if_pos hs, if_pos ho]
      obtain ⟨j, rfl⟩ : ∃ j : Nat, no = j := ⟨no.toNat, by omega⟩
      rw [wrL, if_pos he, he]
      exact ref11_Write_in B bm p k c l j kind a ca li w hI hin hBw hs (by omega)
    · have he : wrE kind no k li = 3 := by unfold wrE; rw [if_pos hs, if_neg ho]
      rw [wrL, if_neg (by rw [he]; decide), he]
      exact ref11_Write_out B bm p k c l no kind a ca li w hI hin hBw hs ho
  · have he : wrE kind no k li = sealE kind no li := by unfold wrE; rw [if_neg hs]
    rw [wrL, if_neg (by rw [he]; exact hs), he]
    exact ref11_Write_bad B bm p k c l no kind a ca li w hI hin hBw hs
end Go.Proofs.YtbopakjiahojdaaGreatDoor
namespace Go.Proofs.YtbopakjiahojdaaGreatDoor
open Go.RowKit Go.Extern.Stop Go.Stop Go.Extern
set_option linter.unusedVariables false
attribute [local irreducible] wpList wpAnyH Code.wp Oper.wp Go

set_option maxRecDepth 100000 in
set_option maxHeartbeats 1000000 in
theorem ref07_Width1 (w : World) :
    Calls Tryz.prog 77 #[.int .i64 1, .bool true] w (Ret (.int .i64 4) w) := by
 refine zin 19 Tryz.func77 ?_
 refine xbs 7 6 [.int .i64 0, .int .i64 4, .int .i64 8, .int .i64 24, .int .i64 16, .int .i64 4] 3 fun b1 W1 n1 => ?_
 refine xb 32 1 n1.blk ?_
 exact xe 4 (.int .i64 4) ⟨rfl, n1.below⟩
set_option maxRecDepth 100000 in
set_option maxHeartbeats 1000000 in
theorem ref07_Max1 (w : World) :
    Calls Tryz.prog 45 #[.int .i64 1, .bool true] w (Ret (.int .i64 18) w) := by
 refine zin 16 Tryz.func45 ?_
 refine xr 10 (args := #[.int .i64 1, .bool true]) (ref07_Width1 _) fun W1 hb1 => ?_
 exact xe 18 (.int .i64 18) ⟨rfl, hb1⟩
set_option maxRecDepth 100000 in
set_option maxHeartbeats 1000000 in
theorem ref07_Width2 (w : World) :
    Calls Tryz.prog 77 #[.int .i64 2, .bool true] w (Ret (.int .i64 8) w) := by
 refine zin 19 Tryz.func77 ?_
 refine xbs 7 6 [.int .i64 0, .int .i64 4, .int .i64 8, .int .i64 24, .int .i64 16, .int .i64 4] 3 fun b1 W1 n1 => ?_
 refine xb 32 2 n1.blk ?_
 exact xe 4 (.int .i64 8) ⟨rfl, n1.below⟩
set_option maxRecDepth 100000 in
set_option maxHeartbeats 1000000 in
theorem ref07_Max2 (w : World) :
    Calls Tryz.prog 45 #[.int .i64 2, .bool true] w (Ret (.int .i64 12) w) := by
 refine zin 16 Tryz.func45 ?_
 refine xr 10 (args := #[.int .i64 2, .bool true]) (ref07_Width2 _) fun W1 hb1 => ?_
 exact xe 25 (.int .i64 12) ⟨rfl, hb1⟩
set_option maxRecDepth 100000 in
set_option maxHeartbeats 1000000 in
theorem ref07_Width3 (w : World) :
    Calls Tryz.prog 77 #[.int .i64 3, .bool true] w (Ret (.int .i64 24) w) := by
 refine zin 19 Tryz.func77 ?_
 refine xbs 7 6 [.int .i64 0, .int .i64 4, .int .i64 8, .int .i64 24, .int .i64 16, .int .i64 4] 3 fun b1 W1 n1 => ?_
 refine xb 32 3 n1.blk ?_
 exact xe 4 (.int .i64 24) ⟨rfl, n1.below⟩
set_option maxRecDepth 100000 in
set_option maxHeartbeats 1000000 in
theorem ref07_Max3 (w : World) :
    Calls Tryz.prog 45 #[.int .i64 3, .bool true] w (Ret (.int .i64 6) w) := by
 refine zin 16 Tryz.func45 ?_
 refine xr 10 (args := #[.int .i64 3, .bool true]) (ref07_Width3 _) fun W1 hb1 => ?_
 exact xe 39 (.int .i64 6) ⟨rfl, hb1⟩
set_option maxRecDepth 100000 in
set_option maxHeartbeats 1000000 in
theorem ref07_Width4 (w : World) :
    Calls Tryz.prog 77 #[.int .i64 4, .bool true] w (Ret (.int .i64 16) w) := by
 refine zin 19 Tryz.func77 ?_
 refine xbs 7 6 [.int .i64 0, .int .i64 4, .int .i64 8, .int .i64 24, .int .i64 16, .int .i64 4] 3 fun b1 W1 n1 => ?_
 refine xb 32 4 n1.blk ?_
 exact xe 4 (.int .i64 16) ⟨rfl, n1.below⟩
set_option maxRecDepth 100000 in
set_option maxHeartbeats 1000000 in
theorem ref07_Max4 (w : World) :
    Calls Tryz.prog 45 #[.int .i64 4, .bool true] w (Ret (.int .i64 9) w) := by
 refine zin 16 Tryz.func45 ?_
 refine xr 10 (args := #[.int .i64 4, .bool true]) (ref07_Width4 _) fun W1 hb1 => ?_
 exact xe 32 (.int .i64 9) ⟨rfl, hb1⟩
set_option maxRecDepth 100000 in
set_option maxHeartbeats 1000000 in
theorem ref07_Width5 (w : World) :
    Calls Tryz.prog 77 #[.int .i64 5, .bool true] w (Ret (.int .i64 4) w) := by
 refine zin 19 Tryz.func77 ?_
 refine xbs 7 6 [.int .i64 0, .int .i64 4, .int .i64 8, .int .i64 24, .int .i64 16, .int .i64 4] 3 fun b1 W1 n1 => ?_
 refine xb 32 5 n1.blk ?_
 exact xe 4 (.int .i64 4) ⟨rfl, n1.below⟩
set_option maxRecDepth 100000 in
set_option maxHeartbeats 1000000 in
theorem ref07_Max5 (w : World) :
    Calls Tryz.prog 45 #[.int .i64 5, .bool true] w (Ret (.int .i64 18) w) := by
 refine zin 16 Tryz.func45 ?_
 refine xr 10 (args := #[.int .i64 5, .bool true]) (ref07_Width5 _) fun W1 hb1 => ?_
 exact xe 18 (.int .i64 18) ⟨rfl, hb1⟩
set_option maxRecDepth 100000 in
set_option maxHeartbeats 1000000 in
theorem ref07_Width_i (t : Int) (w : World) (h1 : 1 ≤ t) (h2 : t ≤ 5) :
    Calls Tryz.prog 77 #[.int .i64 t, .bool false] w (Ret (.int .i64 4) w) := by
 refine zin 19 Tryz.func77 ?_
 refine xbs 7 6 [.int .i64 0, .int .i64 4, .int .i64 8, .int .i64 24, .int .i64 16, .int .i64 4] 3 fun b1 W1 n1 => ?_
 refine xgk 9 [8, 9] (show (decide (t < (1 : Int)) : Bool) = false from decide_eq_false (by omega)) ?_
 refine xk 5 (show (decide (t > (5 : Int)) : Bool) = false from decide_eq_false (by omega)) ?_
 exact xe 17 (.int .i64 4) ⟨rfl, n1.below⟩
set_option maxRecDepth 100000 in
set_option maxHeartbeats 1000000 in
theorem ref07_Max_i (t : Int) (w : World) (h1 : 1 ≤ t) (h2 : t ≤ 5) :
    Calls Tryz.prog 45 #[.int .i64 t, .bool false] w (Ret (.int .i64 18) w) := by
 refine zin 16 Tryz.func45 ?_
 refine xr 10 (args := #[.int .i64 t, .bool false]) (ref07_Width_i t _ h1 h2) fun W1 hb1 => ?_
 exact xe 18 (.int .i64 18) ⟨rfl, hb1⟩
set_option maxRecDepth 100000 in
set_option maxHeartbeats 1000000 in
theorem ref07_Width_o (t : Int) (leaf : Bool) (w : World) (h : ¬ (1 ≤ t ∧ t ≤ 5)) :
    Calls Tryz.prog 77 #[.int .i64 t, .bool leaf] w (Ret (.int .i64 0) w) := by
 refine zin 19 Tryz.func77 ?_
 refine xbs 7 6 [.int .i64 0, .int .i64 4, .int .i64 8, .int .i64 24, .int .i64 16, .int .i64 4] 3 fun b1 W1 n1 => ?_
 refine xg 9 [8, 9] (decide (t < (1 : Int))) (fun hc2 => ?_) (fun hc2 => ?_)
 · have hc2 := of_decide_eq_true hc2
   exact xe 13 (.int .i64 0) ⟨rfl, n1.below⟩
 have hc2 := of_decide_eq_false hc2
 refine xk 5 (show (decide (t > (5 : Int)) : Bool) = true from decide_eq_true (by omega)) ?_
 exact xe 7 (.int .i64 0) ⟨rfl, n1.below⟩
set_option maxRecDepth 100000 in
set_option maxHeartbeats 1000000 in
theorem ref07_Max_o (t : Int) (leaf : Bool) (w : World) (h : ¬ (1 ≤ t ∧ t ≤ 5)) :
    Calls Tryz.prog 45 #[.int .i64 t, .bool leaf] w (Ret (.int .i64 0) w) := by
 refine zin 16 Tryz.func45 ?_
 refine xr 10 (args := #[.int .i64 t, .bool leaf]) (ref07_Width_o t leaf _ h) fun W1 hb1 => ?_
 exact xe 40 (.int .i64 0) ⟨rfl, hb1⟩
theorem ref07_Width (t : Int) (leaf : Bool) (v : Nat) (hv : widN t leaf = v) (h1 : 1 ≤ t) (h2 : t ≤ 5) (w : World) : Calls Tryz.prog 77 #[.int .i64 t, .bool leaf] w (Ret (.int .i64 (v : Int)) w) := by
  subst hv
  cases leaf
  · exact ref07_Width_i t w h1 h2
  obtain rfl | rfl | rfl | rfl | rfl : t = 1 ∨ t = 2 ∨ t = 3 ∨ t = 4 ∨ t = 5 := by omega
  · exact ref07_Width1 w
  · exact ref07_Width2 w
  · exact ref07_Width3 w
  · exact ref07_Width4 w
  · exact ref07_Width5 w
theorem ref07_Max (t : Int) (leaf : Bool) (m : Nat) (hm : maxN t leaf = m) (h1 : 1 ≤ t) (h2 : t ≤ 5) (w : World) : Calls Tryz.prog 45 #[.int .i64 t, .bool leaf] w (Ret (.int .i64 (m : Int)) w) := by
  subst hm
  cases leaf
  · exact ref07_Max_i t w h1 h2
  obtain rfl | rfl | rfl | rfl | rfl : t = 1 ∨ t = 2 ∨ t = 3 ∨ t = 4 ∨ t = 5 := by omega
  · exact ref07_Max1 w
  · exact ref07_Max2 w
  · exact ref07_Max3 w
  · exact ref07_Max4 w
  · exact ref07_Max5 w
set_option maxRecDepth 100000 in
set_option maxHeartbeats 4000000 in
theorem ref07_Right (t : Int) (leaf : Bool) (n m v : Nat) (K : List Int) (Vs : List (List UInt8)) (ak av : Option Addr) (ck cv : Nat) (w : World) (N : NodeOk t leaf n m v K Vs) (hKs : Sl w (.slice ak n ck) n (K.map (Value.int .i64))) (hVs : Sl w (.slice av n cv) n (Vs.map sv)) :
    Calls Tryz.prog 79 #[.agg #[.int .i64 t, .bool leaf, .slice ak n ck, .slice av n cv]] w (Ret (.bool true) w) := by
 have ht1 := N.ht1
 have ht2 := N.ht2
 have hnm := N.hn
 have hwb := widN_bd t leaf
 rw [N.hv] at hwb
 have hmb := maxN_pos t leaf
 rw [N.hm] at hmb
 have hfit := fitN t leaf
 rw [N.hm, N.hv] at hfit
 have hcap := Sl.cap hKs
 refine zin 91 Tryz.func79 ?_
 refine xa 2 [.int .i64 t, .bool leaf, .slice ak n ck, .slice av n cv] 87 fun b1 W1 n1 => ?_
 refine xd 5 .z ?_
 have k1 := n1.blk.below (below_drew W1)
 refine xb (.e [0] 1) 0 k1 ?_
 refine xb (.e [2] 3) 1 k1 ?_
 refine xr (.o [] 4) (args := #[.int .i64 t, .bool leaf]) (ref07_Width t leaf v N.hv ht1 ht2 _) fun W2 hb2 => ?_
 refine xgk (.b [5, 6]) [9, 10] (show (((↑v : Int) == (0 : Int)) : Bool) = false from by simp; omega) ?_
 have k1'1 := k1.below hb2
 refine xb (.e [7] 8) 2 k1'1 ?_
 refine xb (.e [9, 10] 11) 0 k1'1 ?_
 refine xb (.e [12] 13) 1 k1'1 ?_
 refine xr (.o [] 14) (args := #[.int .i64 t, .bool leaf]) (ref07_Max t leaf m N.hm ht1 ht2 _) fun W4 hb4 => ?_
 refine xgk (.b [15, 16, 17]) [19, 20, 21] (show (decide ((↑n : Int) > (↑m : Int)) : Bool) = false from decide_eq_false (by omega)) ?_
 have k1'2 := k1'1.below hb4
 refine xb (.e [18] 19) 3 k1'2 ?_
 refine xb (.e [20, 21] 22) 2 k1'2 ?_
 refine xk (.r [23, 24, 25] 2) (show (((↑n : Int) != (↑n : Int)) : Bool) = false from by simp) ?_
 have hB := Bl.next (Bl.next (Bl.next n1.below (below_drew W1)) hb2) hb4
 refine zl 9 91 (fun zm zkv V => ∃ (i : Nat), zkv = [(1, .pointer (some ⟨b1, 0, none⟩)), (3, .int .i64 (↑i : Int))] ∧ zm = n - ((↑i : Int)).toNat ∧ Below w.heap.size w V ∧ Blk V b1 ([.int .i64 t, .bool leaf, .slice ak n ck, .slice av n cv]) 87 ∧ i ≤ n) ⟨0, rfl, rfl, hB, k1'2, Nat.zero_le _⟩ ?_
 rintro _ _ W6 ⟨i, rfl, rfl, hB_6, k6_b1, hi⟩ J6 hJ6 r6
 refine xb 5 2 k6_b1 ?_
 refine xid 4 ((↑i : Int) < (↑n : Int)) (fun hc7 => ?_) (fun hc7 => ?_)
 · refine xd 5 .z ?_
   have k6_b1'1 := k6_b1.below (below_drew W6)
   refine xb (.e [0] 1) 2 k6_b1'1 ?_
   refine xx (.e [2] 3) _ n i 1 (IntsN.elem hKs N.hK (k := i) (by omega)).1 ?_
   have hB'1 := Bl.next hB_6 (below_drew W6)
   refine xl (.e [] 4) ((IntsN.elem (hKs.below hB'1) N.hK (k := i) (by omega)).2) ?_
   refine xgk (.b [5, 6]) [42, 43] (show (decide ((K.getD i 0) < (0 : Int)) : Bool) = false from decide_eq_false (by have := N.hk0 i (by omega); omega)) ?_
   refine xb (.e [7] 8) 2 k6_b1'1 ?_
   refine xx (.e [9] 10) _ n i 1 (IntsN.elem hKs N.hK (k := i) (by omega)).1 ?_
   refine xl (.e [] 11) ((IntsN.elem (hKs.below hB'1) N.hK (k := i) (by omega)).2) ?_
   refine xgk (.b [12, 13, 14]) [49, 50, 51] (show (decide ((K.getD i 0) > (281474976710655 : Int)) : Bool) = false from decide_eq_false (by have := N.hk0 i (by omega); omega)) ?_
   refine xb (.e [15] 16) 3 k6_b1'1 ?_
   refine xx (.e [17] 18) _ n i 1 (Strs.elem hVs N.hV (k := i) (by omega)).1 ?_
   refine xl (.e [] 19) ((Strs.elem (hVs.below hB'1) N.hV (k := i) (by omega)).2) ?_
   refine xb (.e [20, 21] 22) 0 k6_b1'1 ?_
   refine xb (.e [23] 24) 1 k6_b1'1 ?_
   refine xr (.o [] 25) (args := #[.int .i64 t, .bool leaf]) (ref07_Width t leaf v N.hv ht1 ht2 _) fun W10 hb10 => ?_
   refine xgk (.b [26, 27, 28]) [63, 64, 65] (show (((↑(Vs.getD i []).length : Int) != (↑v : Int)) : Bool) = false from by rw [N.hw i (by omega)]; simp) ?_
   refine xg (.b [29, 30, 31]) [67, 68] (decide ((↑i : Int) > (0 : Int))) (fun hc12 => ?_) (fun hc12 => ?_)
   · have hc12 := of_decide_eq_true hc12
     have k6_b1'2 := k6_b1'1.below hb10
     refine xb (.e [32] 33) 2 k6_b1'2 ?_
     refine xx (.e [34] 35) _ n i 1 (IntsN.elem hKs N.hK (k := i) (by omega)).1 ?_
     have hB'2 := Bl.next hB'1 hb10
     refine xl (.e [] 36) ((IntsN.elem (hKs.below hB'2) N.hK (k := i) (by omega)).2) ?_
     refine xb (.e [37] 38) 2 k6_b1'2 ?_
     refine xwm (.e [39] 40) ((↑i : Int) - 1) (↑(i - 1) : Int) ?_
     refine xx (.e [] 41) _ n (i - 1) 1 (IntsN.elem hKs N.hK (k := (i - 1)) (by omega)).1 ?_
     refine xl (.e [] 42) ((IntsN.elem (hKs.below hB'2) N.hK (k := (i - 1)) (by omega)).2) ?_
     refine xk (.r [43, 44, 45] 2) (show (decide ((K.getD i 0) ≤ (K.getD (i - 1) 0)) : Bool) = false from decide_eq_false (by have h9 := N.hk1 (i - 1) (by omega); rw [show i - 1 + 1 = i by omega] at h9; omega)) ?_
     refine xwm 5 ((↑i : Int) + 1) (↑(i + 1) : Int) ?_
     exact ze 2 (hJ6 _ _ _ ⟨i + 1, rfl, rfl, hB'2, k6_b1'2, by omega⟩ (by omega))
   have hc12 := of_decide_eq_false hc12
   refine xwm (.r [32, 33, 34, 35, 36, 37, 38, 39, 40, 41, 42, 43, 44, 45] 8) ((↑i : Int) + 1) (↑(i + 1) : Int) ?_
   have hB'3 := Bl.next hB'1 hb10
   have k6_b1'3 := k6_b1'1.below hb10
   exact ze 2 (hJ6 _ _ _ ⟨i + 1, rfl, rfl, hB'3, k6_b1'3, by omega⟩ (by omega))
 refine xb 8 1 k6_b1 ?_
 refine xg 1 [84, 85] leaf (fun hc13 => ?_) (fun hc13 => ?_)
 · exact xe 9 (.bool true) ⟨rfl, hB_6⟩
 refine xb 1 2 k6_b1 ?_
 exact xe 7 (.bool (decide ((↑n : Int) > (0 : Int)))) ⟨by rw [show decide ((↑n : Int) > (0 : Int)) = true from decide_eq_true (by have := N.hl (by assumption); omega)], hB_6⟩
/-- the keys of a node, i places of them, when n keys are there -/
def keyPad (K : List Int) (n : Nat) (i : Nat) : List UInt8 := (List.range i).flatMap fun j => if j < n then leB (K.getD j 0) 8 else List.replicate 8 0
theorem keyPad_succ (K : List Int) (n i : Nat) : keyPad K n (i + 1) = keyPad K n i ++ (if i < n then leB (K.getD i 0) 8 else List.replicate 8 0) := by
  unfold keyPad; rw [List.range_succ, List.flatMap_append]; simp
theorem keyPad_len (K : List Int) (n i : Nat) : (keyPad K n i).length = i * 8 := by
  induction i with
  | zero => rfl
  | succ i ih => rw [keyPad_succ, List.length_append, ih]; split <;> simp [leB_len] <;> omega
/-- the values of a node, i of them -/
def valPad (Vs : List (List UInt8)) (i : Nat) : List UInt8 := (List.range i).flatMap fun j => Vs.getD j []
theorem valPad_succ (Vs : List (List UInt8)) (i : Nat) : valPad Vs (i + 1) = valPad Vs i ++ Vs.getD i [] := by
  unfold valPad; rw [List.range_succ, List.flatMap_append]; simp
theorem valPad_len {Vs : List (List UInt8)} {v : Nat} : ∀ {i : Nat}, (∀ j, j < i → (Vs.getD j []).length = v) → (valPad Vs i).length = i * v
  | 0, _ => by simp [valPad]
  | i + 1, h => by rw [valPad_succ, List.length_append, valPad_len fun j hj => h j (by omega), h i (by omega), Nat.add_mul, Nat.one_mul]
theorem putB_mid {P z Q x : List UInt8} {k : Nat} (hk : P.length = k) (hz : z.length = x.length) : putB (P ++ z ++ Q) k x = P ++ x ++ Q := by
  unfold putB
  subst hk
  rw [List.append_assoc P z Q, List.take_left' rfl, ← hz]
  have e : P ++ (z ++ Q) = (P ++ z) ++ Q := (List.append_assoc _ _ _).symm
  rw [e, List.drop_left' (by simp)]
theorem keyPad_zero (K : List Int) (i : Nat) : ∀ d, keyPad K i (i + d) = keyPad K i i ++ List.replicate (d * 8) 0
  | 0 => by simp
  | d + 1 => by
    rw [← Nat.add_assoc, keyPad_succ, keyPad_zero K i d, if_neg (by omega), List.append_assoc, List.replicate_append_replicate, Nat.add_mul, Nat.one_mul]
theorem keyPad_own (K : List Int) (n : Nat) : ∀ i, i ≤ n → keyPad K n i = keyPad K i i
  | 0, _ => rfl
  | i + 1, h => by
    rw [keyPad_succ, keyPad_succ, if_pos (by omega), if_pos (by omega), keyPad_own K n i (by omega), keyPad_own K (i + 1) i (by omega)]
theorem rep_add (a b : Nat) : List.replicate (a + b) (0 : UInt8) = List.replicate a 0 ++ List.replicate b 0 := List.replicate_append_replicate.symm
/-- a node's bytes, part by part -/
theorem nodeP_form {m v : Nat} {H : List UInt8} {K : List Int} {Vs : List (List UInt8)} (hH : H.length = 12) (hf : 12 + m * 8 + m * v ≤ 244) : ∀ {i : Nat}, i ≤ m → (∀ j, j < i → (Vs.getD j []).length = v) →
    nodeP m v H K Vs i = H ++ keyPad K i m ++ valPad Vs i ++ List.replicate (232 - m * 8 - i * v) 0
  | 0, _, _ => by
    have e1 := keyPad_zero K 0 m
    rw [Nat.zero_add] at e1
    rw [nodeP, e1]
    have h1 : (232 - m * 8 - 0 * v) = 232 - m * 8 := by omega
    rw [h1, show (244 : Nat) = 12 + (m * 8 + (232 - m * 8)) by omega, rep_add, rep_add]
    have := putB_mid (P := []) (z := List.replicate 12 (0 : UInt8)) (Q := List.replicate (m * 8) 0 ++ List.replicate (232 - m * 8) 0) (x := H) (k := 0) rfl (by simp [hH])
    rw [List.nil_append, List.nil_append] at this
    rw [this]
    simp [keyPad, valPad]
  | i + 1, hi, hV => by
    have ih := nodeP_form (K := K) hH hf (i := i) (by omega) (fun j hj => hV j (by omega))
    have hvi := hV i (by omega)
    have h2 : (i + 1) * v ≤ m * v := Nat.mul_le_mul_right v hi
    rw [Nat.add_mul, Nat.one_mul] at h2
    obtain ⟨d, hd⟩ : ∃ d, m = i + (d + 1) := ⟨m - i - 1, by omega⟩
    have ek : keyPad K i m = keyPad K i i ++ List.replicate 8 0 ++ List.replicate (d * 8) 0 := by
      rw [hd, keyPad_zero, show (d + 1) * 8 = 8 + d * 8 by omega, rep_add, List.append_assoc]
    have ek2 : keyPad K (i + 1) m = keyPad K i i ++ leB (K.getD i 0) 8 ++ List.replicate (d * 8) 0 := by
      rw [show m = (i + 1) + d by omega, keyPad_zero, keyPad_succ, if_pos (by omega), keyPad_own K (i + 1) i (by omega)]
    have er : List.replicate (232 - m * 8 - i * v) (0 : UInt8) = List.replicate v 0 ++ List.replicate (232 - m * 8 - (i * v + v)) 0 := by
      rw [← rep_add]; congr 1; omega
    have hvp : (valPad Vs i).length = i * v := valPad_len fun j hj => hV j (by omega)
    rw [nodeP, ih, ek, er]
    have s1 := putB_mid (P := H ++ keyPad K i i) (z := List.replicate 8 (0 : UInt8)) (Q := List.replicate (d * 8) 0 ++ (valPad Vs i ++ (List.replicate v 0 ++ List.replicate (232 - m * 8 - (i * v + v)) 0))) (x := leB (K.getD i 0) 8) (k := 12 + i * 8) (by rw [List.length_append, hH, keyPad_len]) (by simp [leB_len])
    have a1 : H ++ (keyPad K i i ++ List.replicate 8 0 ++ List.replicate (d * 8) 0) ++ valPad Vs i ++ (List.replicate v 0 ++ List.replicate (232 - m * 8 - (i * v + v)) 0) = H ++ keyPad K i i ++ List.replicate 8 0 ++ (List.replicate (d * 8) 0 ++ (valPad Vs i ++ (List.replicate v 0 ++ List.replicate (232 - m * 8 - (i * v + v)) 0))) := by simp only [List.append_assoc]
    rw [a1, s1]
    have s2 := putB_mid (P := H ++ keyPad K (i + 1) m ++ valPad Vs i) (z := List.replicate v (0 : UInt8)) (Q := List.replicate (232 - m * 8 - (i * v + v)) 0) (x := Vs.getD i []) (k := 12 + m * 8 + i * v) (by rw [List.length_append, List.length_append, hH, keyPad_len, hvp]) (by rw [List.length_replicate, hvi])
    have a2 : H ++ keyPad K i i ++ leB (K.getD i 0) 8 ++ (List.replicate (d * 8) 0 ++ (valPad Vs i ++ (List.replicate v 0 ++ List.replicate (232 - m * 8 - (i * v + v)) 0))) = H ++ keyPad K (i + 1) m ++ valPad Vs i ++ List.replicate v 0 ++ List.replicate (232 - m * 8 - (i * v + v)) 0 := by rw [ek2]; simp only [List.append_assoc]
    rw [a2, s2, valPad_succ, Nat.add_mul, Nat.one_mul]
    simp only [List.append_assoc]
theorem leB_1 (n : Int) : leB n 1 = [byteAt n 0] := rfl
theorem leB_2 (n : Int) : leB n 2 = [byteAt n 0, byteAt n 1] := rfl
theorem byte1_zero {n : Int} (h : n < 256) : byteAt n 1 = 0 := by
  unfold byteAt
  rw [show n.toNat / 256 ^ 1 = 0 from Nat.div_eq_of_lt (by omega)]; rfl
theorem headB_cells {t : Int} {leaf : Bool} {n m v : Nat} (h1 : 0 ≤ t) (hn : n ≤ 18) (hm : m ≤ 18) (hv : v ≤ 24) : (headB t leaf n m v).map bv =
    [.int .u8 (flagN leaf), .int .u8 (byteAt t 0).toNat, .int .u8 (byteAt (n : Int) 0).toNat, .int .u8 0, .int .u8 (byteAt (v : Int) 0).toNat, .int .u8 0, .int .u8 (byteAt (m : Int) 0).toNat, .int .u8 0, .int .u8 0, .int .u8 0, .int .u8 0, .int .u8 0] := by
  unfold headB
  rw [leB_1, leB_1, leB_2, leB_2, leB_2, byte1_zero (n := (n : Int)) (by omega), byte1_zero (n := (v : Int)) (by omega), byte1_zero (n := (m : Int)) (by omega)]
  cases leaf <;> rfl
set_option maxRecDepth 100000 in
set_option maxHeartbeats 8000000 in
theorem ref07_Put (t : Int) (leaf : Bool) (n m v : Nat) (K : List Int) (Vs : List (List UInt8)) (ak av : Option Addr) (ck cv : Nat) (w : World) (N : NodeOk t leaf n m v K Vs) (hKs : Sl w (.slice ak n ck) n (K.map (Value.int .i64))) (hVs : Sl w (.slice av n cv) n (Vs.map sv)) :
    Calls Tryz.prog 46 #[.agg #[.int .i64 t, .bool leaf, .slice ak n ck, .slice av n cv]] w (RetS (fun w' r => ∃ p c, r = .tuple #[.slice p 244 c, .int .i64 0] ∧ w'.ownsRow w.heap.size 5 1 (.slice p 244 c) 244 ((nodeP m v (headB t leaf n m v) K Vs n).map bv)) w) := by
 have ht1 := N.ht1
 have ht2 := N.ht2
 have hnm := N.hn
 have hwb := widN_bd t leaf
 rw [N.hv] at hwb
 have hmb := maxN_pos t leaf
 rw [N.hm] at hmb
 have hfit := fitN t leaf
 rw [N.hm, N.hv] at hfit
 have hcap := Sl.cap hKs
 refine zin 79 Tryz.func46 ?_
 refine xa 2 [.int .i64 t, .bool leaf, .slice ak n ck, .slice av n cv] 87 fun b1 W1 n1 => ?_
 refine xlv 7 n1.blk.rp ?_
 refine xr 0 (args := #[.agg #[.int .i64 t, .bool leaf, .slice ak n ck, .slice av n cv]]) (ref07_Right t leaf n m v K Vs ak av ck cv _ N (hKs.below n1.below) (hVs.below n1.below)) fun W2 hb2 => ?_
 have k1'1 := n1.blk.below hb2
 refine xb 9 0 k1'1 ?_
 refine xb 1 1 k1'1 ?_
 refine xr 0 (args := #[.int .i64 t, .bool leaf]) (ref07_Width t leaf v N.hv ht1 ht2 _) fun W3 hb3 => ?_
 have k1'2 := k1'1.below hb3
 refine xb 6 0 k1'2 ?_
 refine xb 1 1 k1'2 ?_
 refine xr 0 (args := #[.int .i64 t, .bool leaf]) (ref07_Max t leaf m N.hm ht1 ht2 _) fun W4 hb4 => ?_
 have k1'3 := k1'2.below hb4
 refine xb 6 0 k1'3 ?_
 refine xq 0 (congrArg (Value.int .u8) (show (IntKind.u8.wrap t : Int) = (↑(byteAt t 0).toNat : Int) from byte_0 (by omega))) ?_
 refine xb 1 2 k1'3 ?_
 refine xq 1 (congrArg (Value.int .u8) (show (IntKind.u8.wrap (↑n : Int) : Int) = (↑(byteAt (↑n : Int) 0).toNat : Int) from byte_0 (by omega))) ?_
 refine xq 1 (congrArg (Value.int .u8) (show (IntKind.u8.wrap (↑v : Int) : Int) = (↑(byteAt (↑v : Int) 0).toNat : Int) from byte_0 (by omega))) ?_
 refine xq 1 (congrArg (Value.int .u8) (show (IntKind.u8.wrap (↑m : Int) : Int) = (↑(byteAt (↑m : Int) 0).toNat : Int) from byte_0 (by omega))) ?_
 refine xbs 0 12 [.int .u8 0, .int .u8 (↑(byteAt t 0).toNat : Int), .int .u8 (↑(byteAt (↑n : Int) 0).toNat : Int), .int .u8 0, .int .u8 (↑(byteAt (↑v : Int) 0).toNat : Int), .int .u8 0, .int .u8 (↑(byteAt (↑m : Int) 0).toNat : Int), .int .u8 0, .int .u8 0, .int .u8 0, .int .u8 0, .int .u8 0] 5 fun b5 W5 n5 => ?_
 have k1'4 := k1'3.below n5.below
 refine xb 7 1 k1'4 ?_
 refine xi 2 leaf (fun hc6 => ?_) (fun hc6 => ?_)
 · refine xs 3 n5.blk [.int .u8 1, .int .u8 (↑(byteAt t 0).toNat : Int), .int .u8 (↑(byteAt (↑n : Int) 0).toNat : Int), .int .u8 0, .int .u8 (↑(byteAt (↑v : Int) 0).toNat : Int), .int .u8 0, .int .u8 (↑(byteAt (↑m : Int) 0).toNat : Int), .int .u8 0, .int .u8 0, .int .u8 0, .int .u8 0, .int .u8 0] fun W7 u7 k7 => ?_
   have g5 := n5.ge (Bl.next (Bl.next (Bl.next n1.below hb2) hb3) hb4)
   have hlf : leaf = true := by assumption
   have hC0 := headB_cells (t := t) (leaf := leaf) (n := n) (m := m) (v := v) (by omega) (by omega) (by omega) (by omega)
   have ho0 : World.ownsRow W7 w.heap.size 5 1 (.slice (some ⟨b5, 0, none⟩) 12 12) 12 (((headB t leaf n m v) ++ keyPad K n 0).map bv) := by
     rw [show keyPad K n 0 = [] from rfl, List.append_nil, hC0, show flagN leaf = 1 by rw [hlf]; rfl]
     exact own_of_blk (size := 1) (n := 12) k7 g5 rfl (by decide)
   have hB'1 := u7.below (Bl.next (Bl.next (Bl.next (Bl.next n1.below hb2) hb3) hb4) n5.below) g5
   have k1'5 := u7.blkT k1'4 n5.blk (by decide)
   refine zl 9 79 (fun zm zkv V => ∃ (i q : Nat) (p : Option Addr) (c : Nat), zkv = [(1, .pointer (some ⟨b1, 0, none⟩)), (2, .slice none 0 0), (3, .int .i64 0), (5, .int .i64 (↑m : Int)), (6, .slice p q c), (7, .int .i64 (↑i : Int))] ∧ zm = m - ((↑i : Int)).toNat ∧ Below w.heap.size w V ∧ Blk V b1 ([.int .i64 t, .bool leaf, .slice ak n ck, .slice av n cv]) 87 ∧ V.ownsRow w.heap.size 5 1 (.slice p q c) q (((headB t leaf n m v) ++ keyPad K n i).map bv) ∧ i ≤ m ∧ q = 12 + i * 8) ⟨0, 12, (some ⟨b5, 0, none⟩), 12, rfl, rfl, hB'1, k1'5, ho0, Nat.zero_le _, rfl⟩ ?_
   rintro _ _ W8 ⟨i, q, p, c, rfl, rfl, hB_8, k8_b1, ho, hi, hq⟩ J8 hJ8 r8
   refine xid 8 ((↑i : Int) < (↑m : Int)) (fun hc9 => ?_) (fun hc9 => ?_)
   · refine xb 8 2 k8_b1 ?_
     refine xid 4 ((↑i : Int) < (↑n : Int)) (fun hc10 => ?_) (fun hc10 => ?_)
     · refine xb 3 2 k8_b1 ?_
       refine xx 1 _ n i 1 (IntsN.elem hKs N.hK (k := i) (by omega)).1 ?_
       refine xl 0 ((IntsN.elem (hKs.below hB_8) N.hK (k := i) (by omega)).2) ?_
       refine xc 0 (args := #[.int .i64 (K.getD i 0), .int .i64 8]) (ref_BytesN (K.getD i 0) 8 8 _ (N.hk0 i (by omega)).1 (by have := (N.hk0 i (by omega)).2; omega) rfl (by decide)) ?_
       rintro _ W11 ⟨_, rfl, hb11, pk, ck, rfl, hk8⟩
       have ho'1 := own_below ho hb11
       have hk8'1 := own_mono hk8 hB_8.size
       have hB'2 := Bl.next hB_8 hb11
       refine xbi 0 fun _ _ _ _ zJ zQ zo zx zy zK => op_app (m := 8) (news := (leB (K.getD i 0) 8).map bv) (.int .u8 0) 1 1 (q + 8) (((headB t leaf n m v) ++ keyPad K n (i + 1)).map bv) zo Tryz.underlying29 (by kernel_rfl) rfl (by decide) zx ho'1 zy (own_sl hk8'1) (by simp [leB_len]) (bv_one _) (by unfold maxLen; omega) (by omega) hB'2.size (by rfl) (by rw [keyPad_succ, if_pos (by omega)]; simp) fun p12 c12 W12 o12 hg12 hb12 => ?_
       refine zK _ _ ?_
       refine xwm 6 ((↑i : Int) + 1) (↑(i + 1) : Int) ?_
       have hB'3 := hB'2.trans hb12
       have k8_b1'1 := (k8_b1.below hb11).grown hg12 ho'1 (by decide)
       exact ze 2 (hJ8 _ _ _ ⟨i + 1, _, _, _, rfl, rfl, hB'3, k8_b1'1, o12, by omega, by omega⟩ (by omega))
     refine xbi 2 (t2 := 3) fun _ _ _ _ zJ zQ zo zx zy zK => op_appZo (kq := .i64) 8 (q + 8) (((headB t leaf n m v) ++ keyPad K n (i + 1)).map bv) zo Tryz.underlying29 Tryz.underlying3 (by kernel_rfl) zx ho zy (by omega) (by omega) hB_8.size (by rfl) (by rw [keyPad_succ, if_neg (by omega)]; simp [bv]) fun p13 c13 W13 o13 hg13 hb13 => ?_
     refine zK _ _ ?_
     refine xwm 6 ((↑i : Int) + 1) (↑(i + 1) : Int) ?_
     have hB'4 := hB_8.trans hb13
     have k8_b1'2 := k8_b1.grown hg13 ho (by decide)
     exact ze 2 (hJ8 _ _ _ ⟨i + 1, _, _, _, rfl, rfl, hB'4, k8_b1'2, o13, by omega, by omega⟩ (by omega))
   have him : i = m := by omega
   have ho1 : World.ownsRow W8 w.heap.size 5 1 (.slice p q c) q (((headB t leaf n m v) ++ keyPad K n m ++ valPad Vs 0).map bv) := by
     have e9 : keyPad K n m = keyPad K n i := by rw [him]
     rw [e9, show valPad Vs 0 = [] from rfl, List.append_nil]; exact ho
   refine zl 12 79 (fun zm zkv V => ∃ (j q : Nat) (p : Option Addr) (c : Nat), zkv = [(1, .pointer (some ⟨b1, 0, none⟩)), (2, .slice none 0 0), (3, .int .i64 0), (6, .slice p q c), (8, .int .i64 (↑j : Int))] ∧ zm = n - ((↑j : Int)).toNat ∧ Below w.heap.size w V ∧ Blk V b1 ([.int .i64 t, .bool leaf, .slice ak n ck, .slice av n cv]) 87 ∧ V.ownsRow w.heap.size 5 1 (.slice p q c) q (((headB t leaf n m v) ++ keyPad K n m ++ valPad Vs j).map bv) ∧ j ≤ n ∧ q = 12 + m * 8 + j * v) ⟨0, q, p, c, rfl, rfl, hB_8, k8_b1, ho1, Nat.zero_le _, by omega⟩ ?_
   rintro _ _ W14 ⟨j, q, p, c, rfl, rfl, hB_14, k14_b1, ho_14, hj, hq_14⟩ J14 hJ14 r14
   have hvb : j < n → j * v + v ≤ m * v := fun h => by have h9 : (j + 1) * v ≤ m * v := Nat.mul_le_mul_right v (by omega); rw [Nat.add_mul, Nat.one_mul] at h9; exact h9
   refine xb 5 3 k14_b1 ?_
   refine xid 4 ((↑j : Int) < (↑n : Int)) (fun hc15 => ?_) (fun hc15 => ?_)
   · refine xb 7 3 k14_b1 ?_
     refine xx 1 _ n j 1 (Strs.elem hVs N.hV (k := j) (by omega)).1 ?_
     refine xl 0 ((Strs.elem (hVs.below hB_14) N.hV (k := j) (by omega)).2) ?_
     refine xbi 0 (t2 := 9) fun _ _ _ _ zJ zQ zo zx zy zK => op_appS (Vs.getD j []) (q + v) (((headB t leaf n m v) ++ keyPad K n m ++ valPad Vs (j + 1)).map bv) zo Tryz.underlying29 Tryz.underlying9 (by kernel_rfl) zx ho_14 zy (by rw [N.hw j (by omega)]; omega) hB_14.size (by rw [N.hw j (by omega)]) (by rw [valPad_succ]; simp) fun p16 c16 W16 o16 hg16 hb16 => ?_
     refine zK _ _ ?_
     refine xwm 6 ((↑j : Int) + 1) (↑(j + 1) : Int) ?_
     have hB'5 := hB_14.trans hb16
     have k14_b1'1 := k14_b1.grown hg16 ho_14 (by decide)
     exact ze 2 (hJ14 _ _ _ ⟨j + 1, _, _, _, rfl, rfl, hB'5, k14_b1'1, o16, by omega, by rw [Nat.add_mul, Nat.one_mul]; omega⟩ (by omega))
   have hjn : j = n := by omega
   have ho2 : World.ownsRow W14 w.heap.size 5 1 (.slice p q c) q (((headB t leaf n m v) ++ keyPad K n m ++ valPad Vs n ++ List.replicate 0 0).map bv) := by
     have e9 : valPad Vs n = valPad Vs j := by rw [hjn]
     rw [List.replicate_zero, List.append_nil, e9]; exact ho_14
   refine zl 7 79 (fun zm zkv V => ∃ (z q : Nat) (p : Option Addr) (c : Nat), zkv = [(2, .slice none 0 0), (3, .int .i64 0), (6, .slice p q c)] ∧ zm = 244 - q ∧ Below w.heap.size w V ∧ Blk V b1 ([.int .i64 t, .bool leaf, .slice ak n ck, .slice av n cv]) 87 ∧ V.ownsRow w.heap.size 5 1 (.slice p q c) q (((headB t leaf n m v) ++ keyPad K n m ++ valPad Vs n ++ List.replicate z 0).map bv) ∧ q = 12 + m * 8 + n * v + z ∧ q ≤ 244) ⟨0, q, p, c, rfl, rfl, hB_14, k14_b1, ho2, by rw [← hjn]; omega, by have h9 : n * v ≤ m * v := Nat.mul_le_mul_right v (by omega); have h8 : j * v = n * v := congrArg (fun x => x * v) hjn; omega⟩ ?_
   rintro _ _ W17 ⟨z, q, p, c, rfl, rfl, hB_17, k17_b1, ho, hz, hq2⟩ J17 hJ17 r17
   refine xid 8 ((↑q : Int) < (244 : Int)) (fun hc18 => ?_) (fun hc18 => ?_)
   · refine xbs 5 1 [.int .u8 0] 5 fun b19 W19 n19 => ?_
     have r19_ho := own_ne ho n19
     have ho'2 := own_below ho n19.below
     have hB'6 := Bl.next hB_17 n19.below
     refine xbi 0 fun _ _ _ _ zJ zQ zo zx zy zK => op_app (m := 1) (news := [.int .u8 0]) (.int .u8 0) 1 1 (q + 1) (((headB t leaf n m v) ++ keyPad K n m ++ valPad Vs n ++ List.replicate (z + 1) 0).map bv) zo Tryz.underlying29 (by kernel_rfl) rfl (by decide) zx ho'2 zy (n19.blk.sl 1 1 (by decide) (by decide)) rfl (by simp [Value.oneCell']) (by unfold maxLen; omega) (by omega) hB'6.size (by rfl) (by rw [List.replicate_succ']; simp [bv]) fun p20 c20 W20 o20 hg20 hb20 => ?_
     refine zK _ _ ?_
     have hB'7 := hB'6.trans hb20
     have k17_b1'1 := (k17_b1.below n19.below).grown hg20 ho'2 (by decide)
     exact ze 3 (hJ17 _ _ _ ⟨z + 1, _, _, _, rfl, rfl, hB'7, k17_b1'1, o20, by omega, by omega⟩ (by omega))
   refine xe 13 (.tuple #[.slice p q c, .int .i64 0]) ?_
   obtain rfl : q = 244 := by omega
   rw [nodeP_form (headB_len _ _ _ _ _) hfit hnm (fun j hj => N.hw j hj)]
   exact ⟨_, rfl, hB_17, _, _, rfl, by rw [show 232 - m * 8 - n * v = z by omega]; exact ho⟩
 have hlf : leaf = false := by assumption
 have g5 := n5.ge (Bl.next (Bl.next (Bl.next n1.below hb2) hb3) hb4)
 have hC0 := headB_cells (t := t) (leaf := leaf) (n := n) (m := m) (v := v) (by omega) (by omega) (by omega) (by omega)
 have ho0 : World.ownsRow W5 w.heap.size 5 1 (.slice (some ⟨b5, 0, none⟩) 12 12) 12 (((headB t leaf n m v) ++ keyPad K n 0).map bv) := by
   rw [show keyPad K n 0 = [] from rfl, List.append_nil, hC0, show flagN leaf = 0 by rw [hlf]; rfl]
   exact own_of_blk (size := 1) (n := 12) n5.blk g5 rfl (by decide)
 have hB'8 := Bl.next (Bl.next (Bl.next (Bl.next n1.below hb2) hb3) hb4) n5.below
 refine zl 9 79 (fun zm zkv V => ∃ (i q : Nat) (p : Option Addr) (c : Nat), zkv = [(1, .pointer (some ⟨b1, 0, none⟩)), (2, .slice none 0 0), (3, .int .i64 0), (5, .int .i64 (↑m : Int)), (6, .slice p q c), (7, .int .i64 (↑i : Int))] ∧ zm = m - ((↑i : Int)).toNat ∧ Below w.heap.size w V ∧ Blk V b1 ([.int .i64 t, .bool leaf, .slice ak n ck, .slice av n cv]) 87 ∧ V.ownsRow w.heap.size 5 1 (.slice p q c) q (((headB t leaf n m v) ++ keyPad K n i).map bv) ∧ i ≤ m ∧ q = 12 + i * 8) ⟨0, 12, (some ⟨b5, 0, none⟩), 12, rfl, rfl, hB'8, k1'4, ho0, Nat.zero_le _, rfl⟩ ?_
 rintro _ _ W21 ⟨i, q, p, c, rfl, rfl, hB_21, k21_b1, ho, hi, hq⟩ J21 hJ21 r21
 refine xid 8 ((↑i : Int) < (↑m : Int)) (fun hc22 => ?_) (fun hc22 => ?_)
 · refine xb 8 2 k21_b1 ?_
   refine xid 4 ((↑i : Int) < (↑n : Int)) (fun hc23 => ?_) (fun hc23 => ?_)
   · refine xb 3 2 k21_b1 ?_
     refine xx 1 _ n i 1 (IntsN.elem hKs N.hK (k := i) (by omega)).1 ?_
     refine xl 0 ((IntsN.elem (hKs.below hB_21) N.hK (k := i) (by omega)).2) ?_
     refine xc 0 (args := #[.int .i64 (K.getD i 0), .int .i64 8]) (ref_BytesN (K.getD i 0) 8 8 _ (N.hk0 i (by omega)).1 (by have := (N.hk0 i (by omega)).2; omega) rfl (by decide)) ?_
     rintro _ W24 ⟨_, rfl, hb24, pk, ck, rfl, hk8⟩
     have ho'3 := own_below ho hb24
     have hk8'2 := own_mono hk8 hB_21.size
     have hB'9 := Bl.next hB_21 hb24
     refine xbi 0 fun _ _ _ _ zJ zQ zo zx zy zK => op_app (m := 8) (news := (leB (K.getD i 0) 8).map bv) (.int .u8 0) 1 1 (q + 8) (((headB t leaf n m v) ++ keyPad K n (i + 1)).map bv) zo Tryz.underlying29 (by kernel_rfl) rfl (by decide) zx ho'3 zy (own_sl hk8'2) (by simp [leB_len]) (bv_one _) (by unfold maxLen; omega) (by omega) hB'9.size (by rfl) (by rw [keyPad_succ, if_pos (by omega)]; simp) fun p25 c25 W25 o25 hg25 hb25 => ?_
     refine zK _ _ ?_
     refine xwm 6 ((↑i : Int) + 1) (↑(i + 1) : Int) ?_
     have hB'10 := hB'9.trans hb25
     have k21_b1'1 := (k21_b1.below hb24).grown hg25 ho'3 (by decide)
     exact ze 2 (hJ21 _ _ _ ⟨i + 1, _, _, _, rfl, rfl, hB'10, k21_b1'1, o25, by omega, by omega⟩ (by omega))
   refine xbi 2 (t2 := 3) fun _ _ _ _ zJ zQ zo zx zy zK => op_appZo (kq := .i64) 8 (q + 8) (((headB t leaf n m v) ++ keyPad K n (i + 1)).map bv) zo Tryz.underlying29 Tryz.underlying3 (by kernel_rfl) zx ho zy (by omega) (by omega) hB_21.size (by rfl) (by rw [keyPad_succ, if_neg (by omega)]; simp [bv]) fun p26 c26 W26 o26 hg26 hb26 => ?_
   refine zK _ _ ?_
   refine xwm 6 ((↑i : Int) + 1) (↑(i + 1) : Int) ?_
   have hB'11 := hB_21.trans hb26
   have k21_b1'2 := k21_b1.grown hg26 ho (by decide)
   exact ze 2 (hJ21 _ _ _ ⟨i + 1, _, _, _, rfl, rfl, hB'11, k21_b1'2, o26, by omega, by omega⟩ (by omega))
 have him : i = m := by omega
 have ho1 : World.ownsRow W21 w.heap.size 5 1 (.slice p q c) q (((headB t leaf n m v) ++ keyPad K n m ++ valPad Vs 0).map bv) := by
   have e9 : keyPad K n m = keyPad K n i := by rw [him]
   rw [e9, show valPad Vs 0 = [] from rfl, List.append_nil]; exact ho
 refine zl 12 79 (fun zm zkv V => ∃ (j q : Nat) (p : Option Addr) (c : Nat), zkv = [(1, .pointer (some ⟨b1, 0, none⟩)), (2, .slice none 0 0), (3, .int .i64 0), (6, .slice p q c), (8, .int .i64 (↑j : Int))] ∧ zm = n - ((↑j : Int)).toNat ∧ Below w.heap.size w V ∧ Blk V b1 ([.int .i64 t, .bool leaf, .slice ak n ck, .slice av n cv]) 87 ∧ V.ownsRow w.heap.size 5 1 (.slice p q c) q (((headB t leaf n m v) ++ keyPad K n m ++ valPad Vs j).map bv) ∧ j ≤ n ∧ q = 12 + m * 8 + j * v) ⟨0, q, p, c, rfl, rfl, hB_21, k21_b1, ho1, Nat.zero_le _, by omega⟩ ?_
 rintro _ _ W27 ⟨j, q, p, c, rfl, rfl, hB_27, k27_b1, ho_27, hj, hq_27⟩ J27 hJ27 r27
 have hvb : j < n → j * v + v ≤ m * v := fun h => by have h9 : (j + 1) * v ≤ m * v := Nat.mul_le_mul_right v (by omega); rw [Nat.add_mul, Nat.one_mul] at h9; exact h9
 refine xb 5 3 k27_b1 ?_
 refine xid 4 ((↑j : Int) < (↑n : Int)) (fun hc28 => ?_) (fun hc28 => ?_)
 · refine xb 7 3 k27_b1 ?_
   refine xx 1 _ n j 1 (Strs.elem hVs N.hV (k := j) (by omega)).1 ?_
   refine xl 0 ((Strs.elem (hVs.below hB_27) N.hV (k := j) (by omega)).2) ?_
   refine xbi 0 (t2 := 9) fun _ _ _ _ zJ zQ zo zx zy zK => op_appS (Vs.getD j []) (q + v) (((headB t leaf n m v) ++ keyPad K n m ++ valPad Vs (j + 1)).map bv) zo Tryz.underlying29 Tryz.underlying9 (by kernel_rfl) zx ho_27 zy (by rw [N.hw j (by omega)]; omega) hB_27.size (by rw [N.hw j (by omega)]) (by rw [valPad_succ]; simp) fun p29 c29 W29 o29 hg29 hb29 => ?_
   refine zK _ _ ?_
   refine xwm 6 ((↑j : Int) + 1) (↑(j + 1) : Int) ?_
   have hB'12 := hB_27.trans hb29
   have k27_b1'1 := k27_b1.grown hg29 ho_27 (by decide)
   exact ze 2 (hJ27 _ _ _ ⟨j + 1, _, _, _, rfl, rfl, hB'12, k27_b1'1, o29, by omega, by rw [Nat.add_mul, Nat.one_mul]; omega⟩ (by omega))
 have hjn : j = n := by omega
 have ho2 : World.ownsRow W27 w.heap.size 5 1 (.slice p q c) q (((headB t leaf n m v) ++ keyPad K n m ++ valPad Vs n ++ List.replicate 0 0).map bv) := by
   have e9 : valPad Vs n = valPad Vs j := by rw [hjn]
   rw [List.replicate_zero, List.append_nil, e9]; exact ho_27
 refine zl 7 79 (fun zm zkv V => ∃ (z q : Nat) (p : Option Addr) (c : Nat), zkv = [(2, .slice none 0 0), (3, .int .i64 0), (6, .slice p q c)] ∧ zm = 244 - q ∧ Below w.heap.size w V ∧ Blk V b1 ([.int .i64 t, .bool leaf, .slice ak n ck, .slice av n cv]) 87 ∧ V.ownsRow w.heap.size 5 1 (.slice p q c) q (((headB t leaf n m v) ++ keyPad K n m ++ valPad Vs n ++ List.replicate z 0).map bv) ∧ q = 12 + m * 8 + n * v + z ∧ q ≤ 244) ⟨0, q, p, c, rfl, rfl, hB_27, k27_b1, ho2, by rw [← hjn]; omega, by have h9 : n * v ≤ m * v := Nat.mul_le_mul_right v (by omega); have h8 : j * v = n * v := congrArg (fun x => x * v) hjn; omega⟩ ?_
 rintro _ _ W30 ⟨z, q, p, c, rfl, rfl, hB_30, k30_b1, ho, hz, hq2⟩ J30 hJ30 r30
 refine xid 8 ((↑q : Int) < (244 : Int)) (fun hc31 => ?_) (fun hc31 => ?_)
 · refine xbs 5 1 [.int .u8 0] 5 fun b32 W32 n32 => ?_
   have r32_ho := own_ne ho n32
   have ho'4 := own_below ho n32.below
   have hB'13 := Bl.next hB_30 n32.below
   refine xbi 0 fun _ _ _ _ zJ zQ zo zx zy zK => op_app (m := 1) (news := [.int .u8 0]) (.int .u8 0) 1 1 (q + 1) (((headB t leaf n m v) ++ keyPad K n m ++ valPad Vs n ++ List.replicate (z + 1) 0).map bv) zo Tryz.underlying29 (by kernel_rfl) rfl (by decide) zx ho'4 zy (n32.blk.sl 1 1 (by decide) (by decide)) rfl (by simp [Value.oneCell']) (by unfold maxLen; omega) (by omega) hB'13.size (by rfl) (by rw [List.replicate_succ']; simp [bv]) fun p33 c33 W33 o33 hg33 hb33 => ?_
   refine zK _ _ ?_
   have hB'14 := hB'13.trans hb33
   have k30_b1'1 := (k30_b1.below n32.below).grown hg33 ho'4 (by decide)
   exact ze 3 (hJ30 _ _ _ ⟨z + 1, _, _, _, rfl, rfl, hB'14, k30_b1'1, o33, by omega, by omega⟩ (by omega))
 refine xe 13 (.tuple #[.slice p q c, .int .i64 0]) ?_
 obtain rfl : q = 244 := by omega
 rw [nodeP_form (headB_len _ _ _ _ _) hfit hnm (fun j hj => N.hw j hj)]
 exact ⟨_, rfl, hB_30, _, _, rfl, by rw [show 232 - m * 8 - n * v = z by omega]; exact ho⟩
end Go.Proofs.YtbopakjiahojdaaGreatDoor
namespace Go.Proofs.YtbopakjiahojdaaGreatDoor
open Go.RowKit Go.Extern.Stop Go.Stop Go.Extern
set_option linter.unusedVariables false
attribute [local irreducible] wpList wpAnyH Code.wp Oper.wp Go

theorem ovN_small {n m : Nat} (hm : 1 ≤ m) (h : n ≤ m) : ovN n m = 1 := by
  unfold ovN
  have : (n + m - 1) / m ≤ 1 := by
    rw [Nat.div_le_iff_le_mul_add_pred (by omega)]; omega
  omega
theorem ovN_step {n m : Nat} (hm : 1 ≤ m) (h : m < n) : ovN n m = ovN (n - m) m + 1 := by
  unfold ovN
  have e : n + m - 1 = (n - m + m - 1) + m := by omega
  rw [e, Nat.add_div_right _ (by omega)]
  have : 1 ≤ (n - m + m - 1) / m := by
    rw [Nat.le_div_iff_mul_le (by omega)]; omega
  omega
theorem ovN_32768 {n : Nat} {t : Int} (hn : n ≤ 32768) (h1 : 1 ≤ t) (h2 : t ≤ 5) : ovN n (maxN t true) ≤ 32768 := by
  have h6 : 6 ≤ maxN t true := by unfold maxN; repeat' split
                                  all_goals first | decide | simp_all
  unfold ovN
  have : (n + maxN t true - 1) / maxN t true ≤ 32768 := by
    rw [Nat.div_le_iff_le_mul_add_pred (by omega)]
    have := Nat.mul_le_mul_right 32768 h6
    omega
  omega
set_option maxRecDepth 100000 in
set_option maxHeartbeats 1000000 in
theorem ref15_Sizes (n m : Nat) (w : World) (hn : n ≤ 32768) (hm : 1 ≤ m) (hm2 : m ≤ 32768) :
    Calls Tryz.prog 106 #[.int .i64 (↑n : Int), .int .i64 (↑m : Int)] w (RetS (fun w' r => ∃ p c, r = .slice p (ovN n m) c) w) := by
 refine zin 30 Tryz.func106 ?_
 refine xgk 11 [7, 8] (show (decide ((↑n : Int) < (0 : Int)) : Bool) = false from decide_eq_false (by omega)) ?_
 refine xgk 4 [10, 11, 12] (show (decide ((↑n : Int) > (32768 : Int)) : Bool) = false from decide_eq_false (by omega)) ?_
 refine xk 5 (show (decide ((↑m : Int) < (1 : Int)) : Bool) = false from decide_eq_false (by omega)) ?_
 have hB := Below.refl w.heap.size w
 refine zl 9 30 (fun zm zkv V => ∃ (j k : Nat) (p : Option Addr) (c : Nat) (xs : List Value), zkv = [(0, .int .i64 (↑k : Int)), (1, .int .i64 (↑m : Int)), (4, .slice none 0 0), (5, .slice p j c)] ∧ zm = ((↑k : Int)).toNat + 1 ∧ Below w.heap.size w V ∧ V.ownsRow w.heap.size 3 1 (.slice p j c) j xs ∧ j + ovN k m = ovN n m ∧ k ≤ n ∧ j + k ≤ n) ⟨0, n, none, 0, [], rfl, rfl, hB, World.ownsRow_nil _ _ _ _, Nat.zero_add _, Nat.le_refl _, by omega⟩ ?_
 rintro _ _ W3 ⟨j, k, p, c, xs, rfl, rfl, hB_3, ho, hj, hk, hjn⟩ J3 hJ3 r3
 refine xid 8 ((↑k : Int) > (↑m : Int)) (fun hc4 => ?_) (fun hc4 => ?_)
 · refine xbs 7 1 [.int .i64 (↑m : Int)] 3 fun b5 W5 n5 => ?_
   have r5_ho := own_ne ho n5
   have ho'1 := own_below ho n5.below
   have hB'1 := Bl.next hB_3 n5.below
   refine xbi 0 fun _ _ _ _ zJ zQ zo zx zy zK => op_app (m := 1) (news := [.int .i64 (↑m : Int)]) (.int .i64 0) 1 8 (j + 1) (xs ++ [.int .i64 (↑m : Int)]) zo Tryz.underlying31 (by kernel_rfl) rfl (by decide) zx ho'1 zy (n5.blk.sl 1 1 (by decide) (by decide)) rfl (by simp [Value.oneCell']) (by unfold maxLen; omega) (by omega) hB'1.size (by rfl) (by rfl) fun p6 c6 W6 o6 hg6 hb6 => ?_
   refine zK _ _ ?_
   refine xwm 6 ((↑k : Int) - (↑m : Int)) (↑(k - m) : Int) ?_
   have hB'2 := hB'1.trans hb6
   exact ze 3 (hJ3 _ _ _ ⟨j + 1, (k - m), _, _, _, rfl, rfl, hB'2, o6, by have := ovN_step hm (n := k) (by omega); omega, by omega, by omega⟩ (by omega))
 refine xbs 9 1 [.int .i64 (↑k : Int)] 3 fun b7 W7 n7 => ?_
 have r7_ho := own_ne ho n7
 have ho'2 := own_below ho n7.below
 have hB'3 := Bl.next hB_3 n7.below
 refine xbi 0 fun _ _ _ _ zJ zQ zo zx zy zK => op_app (m := 1) (news := [.int .i64 (↑k : Int)]) (.int .i64 0) 1 8 (j + 1) (xs ++ [.int .i64 (↑k : Int)]) zo Tryz.underlying31 (by kernel_rfl) rfl (by decide) zx ho'2 zy (n7.blk.sl 1 1 (by decide) (by decide)) rfl (by simp [Value.oneCell']) (by unfold maxLen; omega) (by omega) hB'3.size (by rfl) (by rfl) fun p8 c8 W8 o8 hg8 hb8 => ?_
 refine zK _ _ ?_
 have hB'4 := hB'3.trans hb8
 refine xe 4 (.slice p8 (j + 1) c8) ?_
 have e := ovN_small hm (n := k) (by omega)
 exact ⟨_, rfl, hB'4, _, _, by rw [show ovN n m = j + 1 by omega]⟩
set_option maxRecDepth 100000 in
set_option maxHeartbeats 4000000 in
theorem ref15_Levels (t : Int) (n : Nat) (w : World) (h1 : 1 ≤ t) (h2 : t ≤ 5) (hn : n ≤ 32768) :
    Calls Tryz.prog 78 #[.int .i64 t, .int .i64 (↑n : Int)] w (RetS (fun w' r => ∃ p c, r = .slice p (levL t n).length c ∧ w'.ownsRow w.heap.size 3 1 (.slice p (levL t n).length c) (levL t n).length ((levL t n).map nv)) w) := by
 have hm1 := (maxN_pos t true).1
 have hm2 := (maxN_pos t true).2
 have hov := ovN_le n (maxN t true) hm1
 have hop := ovN_pos n (maxN t true)
 refine zin 37 Tryz.func78 ?_
 refine xr 9 (args := #[.int .i64 t, .bool true]) (ref07_Max t true _ rfl h1 h2 _) fun W1 hb1 => ?_
 refine xgk 2 [9, 10] (show (((↑(maxN t true) : Int) == (0 : Int)) : Bool) = false from by simp; omega) ?_
 refine xgk 4 [12, 13, 14] (show (decide ((↑n : Int) < (0 : Int)) : Bool) = false from decide_eq_false (by omega)) ?_
 refine xk 5 (show (decide ((↑n : Int) > (32768 : Int)) : Bool) = false from decide_eq_false (by omega)) ?_
 refine xr 6 (args := #[.int .i64 t, .bool true]) (ref07_Max t true _ rfl h1 h2 _) fun W4 hb4 => ?_
 refine xc 0 (args := #[.int .i64 (↑n : Int), .int .i64 (↑(maxN t true) : Int)]) (ref15_Sizes n (maxN t true) _ hn hm1 (by omega)) ?_
 rintro _ W5 ⟨_, rfl, hb5, p1, c1, rfl⟩
 refine xbs 7 1 [.int .i64 (↑(ovN n (maxN t true)) : Int)] 3 fun b6 W6 n6 => ?_
 have g6 := n6.ge (Bl.next (Bl.next hb1 hb4) hb5)
 have hB := Bl.next (Bl.next (Bl.next hb1 hb4) hb5) n6.below
 refine zl 5 37 (fun zm zkv V => ∃ (j x : Nat) (xs : List Nat) (p : Option Addr) (c : Nat), zkv = [(0, .int .i64 t), (4, .slice none 0 0), (5, .int .i64 (↑x : Int)), (6, .slice p (j + 1) c)] ∧ zm = 40000 - (j + 1) ∧ Below w.heap.size w V ∧ V.ownsRow w.heap.size 3 1 (.slice p (j + 1) c) (j + 1) ((xs ++ [x]).map nv) ∧ xs.length = j ∧ 1 ≤ x ∧ x ≤ 32768 ∧ xs ++ levs x = levL t n ∧ j + x ≤ 40000) ⟨0, (ovN n (maxN t true)), [], (some ⟨b6, 0, none⟩), 1, rfl, rfl, hB, own_of_blk (size := 1) (n := 1) n6.blk g6 rfl (by unfold maxLen; decide), rfl, hop, ovN_32768 hn h1 h2, rfl, by omega⟩ ?_
 rintro _ _ W7 ⟨j, x, xs, p, c, rfl, rfl, hB_7, ho, hxl, hx1, hx2, hxs, hj⟩ J7 hJ7 r7
 refine xid 7 ((↑x : Int) > (1 : Int)) (fun hc8 => ?_) (fun hc8 => ?_)
 · refine xr 7 (args := #[.int .i64 t, .bool false]) (ref07_Max t false 18 rfl h1 h2 _) fun W9 hb9 => ?_
   refine xc 0 (args := #[.int .i64 (↑x : Int), .int .i64 18]) (ref15_Sizes x 18 _ hx2 (by decide) (by decide)) ?_
   rintro _ W10 ⟨_, rfl, hb10, p2, c2, rfl⟩
   refine xbs 7 1 [.int .i64 (↑(ovN x 18) : Int)] 3 fun b11 W11 n11 => ?_
   have ho'1 := own_below (own_below ho hb9) hb10
   have r11_ho := own_ne ho'1 n11
   have ho'2 := own_below ho'1 n11.below
   have hB'1 := Bl.next (Bl.next (Bl.next hB_7 hb9) hb10) n11.below
   refine xbi 0 fun _ _ _ _ zJ zQ zo zx zy zK => op_app (m := 1) (news := [.int .i64 (↑(ovN x 18) : Int)]) (.int .i64 0) 1 8 (j + 1 + 1) (((xs ++ [x]) ++ [ovN x 18]).map nv) zo Tryz.underlying31 (by kernel_rfl) rfl (by decide) zx ho'2 zy (n11.blk.sl 1 1 (by decide) (by decide)) rfl (by simp [Value.oneCell']) (by unfold maxLen; omega) (by omega) hB'1.size (by rfl) (by simp [nv]) fun p12 c12 W12 o12 hg12 hb12 => ?_
   refine zK _ _ ?_
   have h18 := ov18 (x := x) (by omega)
   have hB'2 := hB'1.trans hb12
   exact ze 3 (hJ7 _ _ _ ⟨j + 1, (ovN x 18), xs ++ [x], _, _, rfl, rfl, hB'2, o12, by simp [hxl], ovN_pos _ _, by omega, by rw [← hxs, levs_more (x := x) (by omega)]; simp, by omega⟩ (by omega))
 refine xe 12 (.slice p (j + 1) c) ?_
 have e : levL t n = xs ++ [x] := by rw [← hxs, levs_one (x := x) (by omega)]
 have el : (levL t n).length = j + 1 := by rw [e]; simp [hxl]
 exact ⟨_, rfl, hB_7, p, c, by rw [el], by rw [el, e]; exact ho⟩
set_option maxRecDepth 100000 in
set_option maxHeartbeats 4000000 in
theorem ref15_Nodes (t : Int) (n : Nat) (w : World) (h1 : 1 ≤ t) (h2 : t ≤ 5) (hn : n ≤ 32768) :
    Calls Tryz.prog 44 #[.int .i64 t, .int .i64 (↑n : Int)] w (Ret (.int .i64 (nodN t n : Int)) w) := by
 refine zin 24 Tryz.func44 ?_
 refine xc 9 (args := #[.int .i64 t, .int .i64 (↑n : Int)]) (ref15_Levels t n _ h1 h2 hn) ?_
 rintro _ W1 ⟨_, rfl, hb1, p, c, rfl, ho⟩
 have hs1 := Nat.le_refl w.heap.size
 have ho'1 := own_mono ho hs1
 refine zl 15 24 (fun zm zkv V => ∃ (k : Nat), zkv = [(4, .int .i64 0), (5, .slice p ((levL t n).length) c), (6, .int .i64 (↑((levL t n).take k).sum : Int)), (7, .int .i64 (↑k : Int))] ∧ zm = (levL t n).length - ((↑k : Int)).toNat ∧ Below w.heap.size w V ∧ V.ownsRow w.heap.size 3 1 (.slice p (levL t n).length c) (levL t n).length ((levL t n).map nv) ∧ k ≤ (levL t n).length) ⟨0, rfl, rfl, hb1, ho'1, Nat.zero_le _⟩ ?_
 rintro _ _ W2 ⟨k, rfl, rfl, hB_2, ho, hk⟩ J2 hJ2 r2
 have hl1 := levL_len t n
 have hs1 := nodN_le t n
 unfold nodN at hs1
 have hs2 := take_le (L := levL t n) (k + 1)
 have hs3 : k < (levL t n).length → ((levL t n).take (k + 1)).sum = ((levL t n).take k).sum + (levL t n).getD k 0 := take_sum
 refine xid 9 ((↑k : Int) < (↑((levL t n).length) : Int)) (fun hc3 => ?_) (fun hc3 => ?_)
 · refine xx 8 _ ((levL t n).length) k 1 (nv_elem (own_sl ho) rfl (k := k) (by omega)).1 ?_
   refine xl 0 ((nv_elem (own_sl ho) rfl (k := k) (by omega)).2) ?_
   refine xwm 0 ((↑((levL t n).take k).sum : Int) + (↑((levL t n).getD k 0) : Int)) (↑(((levL t n).take k).sum + ((levL t n).getD k 0)) : Int) ?_
   refine xwm 6 ((↑k : Int) + 1) (↑(k + 1) : Int) ?_
   refine xv1 2 6 (show (.int .i64 (↑(((levL t n).take k).sum + ((levL t n).getD k 0)) : Int) : Value) = .int .i64 (↑((levL t n).take (k + 1)).sum : Int) from by rw [take_sum (by omega)]) ?_
   exact ze 0 (hJ2 _ _ _ ⟨k + 1, rfl, rfl, hB_2, ho, by omega⟩ (by omega))
 refine xe 12 (.int .i64 (↑((levL t n).take k).sum : Int)) ?_
 have e : k = (levL t n).length := by omega
 subst e
 rw [List.take_length]
 exact ⟨rfl, hB_2⟩
end Go.Proofs.YtbopakjiahojdaaGreatDoor
namespace Go.Proofs.YtbopakjiahojdaaGreatDoor
open Go.RowKit Go.Extern.Stop Go.Stop Go.Extern
set_option linter.unusedVariables false
attribute [local irreducible] wpList wpAnyH Code.wp Oper.wp Go

theorem ImgR.mono {B B' b : Nat} {p : Option Addr} {n c : Nat} {l : List UInt8} {w : World} (h : ImgR B b p n c l w) (hB : B' ≤ B) : ImgR B' b p n c l w := ⟨h.blk, own_mono h.row hB, h.hn⟩
theorem image_OfR (a : Option Addr) (c n m : Nat) (l : List UInt8) (w : World) (hn : l.length = n) (hm : min (n / 256) 14400 * 256 = m) (h : Bys w (.slice a n c) l) (hl : n ≤ 100000000) (hc : n ≤ c) :
    Calls Tryz.prog 21 #[.slice a n c] w (RetS (fun w' r => ∃ b p c2, r = .pointer (some ⟨b, 0, none⟩) ∧ w.heap.size ≤ b ∧ ImgR w.heap.size b p m c2 (l.take m) w') w) := by
  subst hn hm
  refine (image_Of a c l w h hl hc).mono ?_
  rintro e W ⟨_, rfl, hb, b, p, c2, rfl, h1, h2, h3⟩
  exact ⟨_, rfl, hb, b, p, c2, rfl, h1, h2, h3, by omega⟩
def WroteR (B b : Nat) (p : Option Addr) (n c : Nat) (l : List UInt8) (w : World) (e : Ending) (w' : World) : Prop :=
  e = .returned .nilIface ∧ Below B w w' ∧ Only [5] w w' ∧ ImgR B b p n c l w'
theorem block_WriteR (B b : Nat) (p : Option Addr) (n c k : Nat) (ki : Int) (l : List UInt8) (kind : Int) (a : Option Addr) (ca m : Nat) (li : List UInt8) (w : World) (hki : ki = (k : Int)) (hm : li.length = m) (hI : ImgR B b p n c l w) (hk : k < n / 256) (h1 : 1 ≤ kind) (h2 : kind ≤ 4) (hin : Bys w (.slice a m ca) li) (hl : m ≤ 244) (hBw : B ≤ w.heap.size) :
    Calls Tryz.prog 34 #[.pointer (some ⟨b, 0, none⟩), .int .i64 ki, .int .i64 kind, .slice a m ca] w (WroteR B b p n c (putB l (k * 256) (sealB kind k li)) w) := by
  subst hki hm
  obtain ⟨g, rfl, hc⟩ := hI.base (by omega)
  refine (block_Write B b g n c k l kind a ca li w hI.blk hI.row hI.hn hc hk h1 h2 hin hl hBw).mono ?_
  rintro e W ⟨rfl, hb, hO, _, ho⟩
  exact ⟨rfl, hb, hO, hI.blk.only hO (by decide), ho, hI.hn⟩
end Go.Proofs.YtbopakjiahojdaaGreatDoor
namespace Go.Proofs.YtbopakjiahojdaaGreatDoor
open Go.RowKit Go.Extern.Stop Go.Stop Go.Extern
set_option linter.unusedVariables false
attribute [local irreducible] wpList wpAnyH Code.wp Oper.wp Go

theorem seal_Seal_err (kind no : Int) (a : Option Addr) (c : Nat) (li : List UInt8) (w : World) (h : Bys w (.slice a li.length c) li) (hs : sealE kind no li ≠ 0) :
    Calls Tryz.prog 61 #[.int .i64 kind, .int .i64 no, .slice a li.length c] w (Ret (.tuple #[.slice none 0 0, .int .i64 (sealE kind no li)]) w) := by
  refine (seal_SealG kind no a c li w h).mono ?_
  rintro e W (⟨_, rfl, hb⟩ | ⟨h0, _⟩)
  · exact ⟨rfl, hb⟩
  · exact absurd h0 hs
theorem seal_Seal_yes (kind no : Int) (a : Option Addr) (c : Nat) (li : List UInt8) (w : World) (h : Bys w (.slice a li.length c) li) (hs : sealE kind no li = 0) :
    Calls Tryz.prog 61 #[.int .i64 kind, .int .i64 no, .slice a li.length c] w (fun e w' => li.length ≤ 244 ∧ ∃ p c, e = .returned (.tuple #[.slice p 256 c, .int .i64 0]) ∧ Below w.heap.size w w') := by
  refine (seal_SealG kind no a c li w h).mono ?_
  rintro e W (⟨h0, _⟩ | ⟨_, _, hl, p, c2, rfl, hb, ho⟩)
  · exact absurd hs h0
  · exact ⟨hl, p, c2, rfl, hb⟩
theorem sealE_zero {kind no : Int} {li : List UInt8} (h : sealE kind no li = 0) : knownB kind no = true ∧ li.length ≤ 244 := by
  unfold sealE at h
  split at h
  · split at h
    · exact ⟨by assumption, by assumption⟩
    · cases h
  · cases h
set_option maxRecDepth 100000 in
set_option maxHeartbeats 1000000 in
theorem image_Write_out (b : Nat) (p : Option Addr) (n c : Nat) (k : Int) (x : Value) (w : World) (hk : Blk w b [.slice p n c] 98) (hn : n ≤ 100000000) (ho : ¬ (0 ≤ k ∧ k < (n / 256 : Nat))) :
    Calls Tryz.prog 62 #[.pointer (some ⟨b, 0, none⟩), .int .i64 k, x] w (Ret (.int .i64 3) w) := by
 refine zin 24 Tryz.func62 ?_
 refine xr 9 (args := #[.pointer (some ⟨b, 0, none⟩), .int .i64 k]) (image_block_out b p n c k _ (hk.below (Below.refl w.heap.size _)) hn ho) fun W1 hb1 => ?_
 exact xe 23 (.int .i64 3) ⟨rfl, hb1⟩
set_option maxRecDepth 100000 in
set_option maxHeartbeats 1000000 in
theorem blkW_bad (B b : Nat) (p : Option Addr) (n c : Nat) (l : List UInt8) (no kind : Int) (a : Option Addr) (ca : Nat) (li : List UInt8) (w : World) (hI : ImgR B b p n c l w) (hin : Bys w (.slice a li.length ca) li) (hs : sealE kind no li ≠ 0) :
    Calls Tryz.prog 34 #[.pointer (some ⟨b, 0, none⟩), .int .i64 no, .int .i64 kind, .slice a li.length ca] w (RetS (fun w' r => ErrV w' [some no] (some (sealE kind no li)) r) w) := by
 refine zin 28 Tryz.func34 ?_
 refine xr 10 (args := #[.int .i64 kind, .int .i64 no, .slice a li.length ca]) (seal_Seal_err kind no a ca li _ (hin.below (Below.refl w.heap.size _)) hs) fun W1 hb1 => ?_
 refine xk 14 (show (((sealE kind no li) == (0 : Int)) : Bool) = false from beq_false_of_ne hs) ?_
 refine xc 7 (args := #[.int .i64 no, .iface 40 (.int .i64 (sealE kind no li))]) (block_told no (sealE kind no li) _) ?_
 rintro _ W2 ⟨_, rfl, hb2, hv2⟩
 rw [if_neg hs, if_neg hs] at hv2
 have hq2 := hv2
 obtain ⟨bf2, vf2, rfl, _, _⟩ := hq2
 have hB := Bl.next hb1 hb2
 exact xe 4 (.iface 133 (.pointer (some ⟨bf2, 0, none⟩))) ⟨_, rfl, hB, hv2⟩
set_option maxRecDepth 100000 in
set_option maxHeartbeats 1000000 in
theorem blkW_out (B b : Nat) (p : Option Addr) (n c : Nat) (l : List UInt8) (no kind : Int) (a : Option Addr) (ca : Nat) (li : List UInt8) (w : World) (hI : ImgR B b p n c l w) (hin : Bys w (.slice a li.length ca) li) (hs : sealE kind no li = 0) (ho : ¬ (0 ≤ no ∧ no < (n / 256 : Nat))) :
    Calls Tryz.prog 34 #[.pointer (some ⟨b, 0, none⟩), .int .i64 no, .int .i64 kind, .slice a li.length ca] w (RetS (fun w' r => ErrV w' [some no] (some 3) r) w) := by
 refine zin 28 Tryz.func34 ?_
 refine xc 10 (args := #[.int .i64 kind, .int .i64 no, .slice a li.length ca]) (seal_Seal_yes kind no a ca li _ (hin.below (Below.refl w.heap.size _)) hs) ?_
 rintro _ W1 ⟨_, p2, c2, rfl, hb1⟩
 refine xr 19 (args := #[.pointer (some ⟨b, 0, none⟩), .int .i64 no, .slice p2 256 c2]) (image_Write_out b p n c no _ _ (hI.below hb1).blk (by have := hI.hn; omega) ho) fun W2 hb2 => ?_
 refine xc 8 (args := #[.int .i64 no, .iface 40 (.int .i64 3)]) (block_told no 3 _) ?_
 rintro _ W3 ⟨_, rfl, hb3, hv3⟩
 rw [if_neg (by decide), if_neg (by decide)] at hv3
 have hq3 := hv3
 obtain ⟨bf3, vf3, rfl, _, _⟩ := hq3
 have hB'1 := Bl.next (Bl.next hb1 hb2) hb3
 exact xe 4 (.iface 133 (.pointer (some ⟨bf3, 0, none⟩))) ⟨_, rfl, hB'1, hv3⟩
def erL (no er : Int) : List (Option Int) := if er = 0 then [] else [some no]
def erT (er : Int) : Option Int := if er = 0 then none else some er
theorem erL_blocks (no er : Int) : blocksOf (erL no er) = fltL no er := by unfold erL fltL; split <;> rfl
theorem erL_code (no er : Int) : codeOf (erL no er) (erT er) = er := by
  unfold erL erT
  split
  · rename_i h; rw [h]; rfl
  · rfl
theorem erL_len (no er : Int) : (erL no er).length ≤ 1000000 := by unfold erL; split <;> simp
def WroteG (B b : Nat) (p : Option Addr) (n c : Nat) (l : List UInt8) (no er : Int) (w : World) (e : Ending) (w' : World) : Prop :=
  ∃ v, e = .returned v ∧ Below B w w' ∧ Only [5] w w' ∧ ImgR B b p n c l w' ∧ ErrV w' (erL no er) (erT er) v
theorem block_WriteG (B b : Nat) (p : Option Addr) (k n c : Nat) (l : List UInt8) (no kind : Int) (a : Option Addr) (ca : Nat) (li : List UInt8) (w : World) (hn : n = k * 256) (hI : ImgR B b p n c l w) (hin : Bys w (.slice a li.length ca) li) (hBw : B ≤ w.heap.size) :
    Calls Tryz.prog 34 #[.pointer (some ⟨b, 0, none⟩), .int .i64 no, .int .i64 kind, .slice a li.length ca] w (WroteG B b p n c (wrL kind no k li l) no (wrE kind no k li) w) := by
  have hk : n / 256 = k := by omega
  by_cases hs : sealE kind no li = 0
  · obtain ⟨hkb, hl4⟩ := sealE_zero hs
    obtain ⟨h1, h2, h3, h4⟩ := knownB_all hkb
    by_cases ho : 0 ≤ no ∧ no < (k : Int)
    · have he : wrE kind no k li = 0 := by unfold wrE; rw [if_pos hs, if_pos ho]
      obtain ⟨j, rfl⟩ : ∃ j : Nat, no = j := ⟨no.toNat, by omega⟩
      rw [wrL, if_pos he, he]
      refine (block_WriteR B b p n c j (j : Int) l kind a ca li.length li w rfl rfl hI (by omega) h1 h2 hin hl4 hBw).mono ?_
      rintro e W ⟨rfl, hb, hO, hI2⟩
      exact ⟨_, rfl, hb, hO, hI2, rfl⟩
    · have he : wrE kind no k li = 3 := by unfold wrE; rw [if_pos hs, if_neg ho]
      rw [wrL, if_neg (by rw [he]; decide), he]
      refine (blkW_out B b p n c l no kind a ca li w hI hin hs (by rw [hk]; exact ho)).mono ?_
      rintro e W ⟨v, rfl, hb, hv⟩
      exact ⟨_, rfl, hb.mono hBw, Only.of_below hb, hI.below hb, hv⟩
  · have he : wrE kind no k li = sealE kind no li := by unfold wrE; rw [if_neg hs]
    rw [wrL, if_neg (by rw [he]; exact hs), he]
    refine (blkW_bad B b p n c l no kind a ca li w hI hin hs).mono ?_
    rintro e W ⟨v, rfl, hb, hv⟩
    exact ⟨_, rfl, hb.mono hBw, Only.of_below hb, hI.below hb, by rw [erL, erT, if_neg hs, if_neg hs]; exact hv⟩
theorem ref_OfN (a : Option Addr) (c n k : Nat) (l : List UInt8) (w : World) (hn : l.length = n) (hk : min (n / 256) 14400 = k) (h : Bys w (.slice a n c) l) (hl : n ≤ 100000000) :
    Calls Tryz.prog 9 #[.slice a n c] w (RetS (fun w' r => ∃ bm p c2, r = .pointer (some ⟨bm, 0, none⟩) ∧ w.heap.size ≤ bm ∧ RefI w.heap.size bm p k c2 (l.take (k * 256)) w') w) := by
  subst hn hk; exact ref_Of a c l w h hl
set_option maxRecDepth 100000 in
set_option maxHeartbeats 1000000 in
theorem law11_same (no er : Int) (v : Value) (a5 : Option Addr) (c5 : Nat) (w : World) (hg : ErrT w) (hv : ErrV w (erL no er) (erT er) v) (hs : Ints w (.slice a5 (fltL no er).length c5) (fltL no er)) :
    Calls Tryz.prog 36 #[v, .agg #[.slice a5 ((fltL no er).length) c5, .int .i64 er]] w (Ret (.bool true) w) := by
 refine zin 9 Tryz.func36 ?_
 refine xa 2 [.slice a5 ((fltL no er).length) c5, .int .i64 er] 33 fun b1 W1 n1 => ?_
 refine xd 4 .z ?_
 have k1 := n1.blk.below (below_drew W1)
 refine xlv (.e [0] 2) k1.rp ?_
 have hB := Bl.next n1.below (below_drew W1)
 have hv'1 := (hv.below n1.below).below (below_drew W1)
 refine yc (.o [] 1) (args := #[v]) .z (law05_Told (erT er) (erL no er) v _ (erL_len no er) (hg.below hB) hv'1) ?_
 rintro _ W2 ⟨vt, rfl, hb2, hq⟩
 refine ⟨hb2, ?_⟩
 rw [erL_blocks, erL_code] at hq
 have hB'1 := Bl.next hB hb2
 refine xr (.o [] 3) (args := #[vt, .agg #[.slice a5 ((fltL no er).length) c5, .int .i64 er]]) (ref05_Same (fltL no er) er vt _ _ hq ⟨_, rfl, Sl.below hs hB'1⟩) fun W3 hb3 => ?_
 have hB'2 := Bl.next hB'1 hb3
 exact xe (.r [4] 3) (.bool true) ⟨rfl, hB'2⟩
end Go.Proofs.YtbopakjiahojdaaGreatDoor
