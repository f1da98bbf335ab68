/- Package crc: the register runs as the plain functions below. crc.Sum of one slice, and package seal: Salt, known, sum and Seal. More rules for printed walks. No program is named here. Errors as the program has them: what errors.As, errors.Is and errors.Unwrap of Go's library return at a chain of Faults over an Errno, at a nil error, and where one of another kind stands between. errors.Unwrap, errors.As at an Errno, and errors.Is at an Errno, as contracts. errors.As at an Errno, fault.Code, fault.At and fault.First, as contracts. errors.Is of one Errno at another, as a contract. Package image at an image of no bytes, block.told at an Errno, and block.Super at an image of no bytes. Package image: Of, Blocks, block, Write and Bytes at an image whose bytes lie in a row of its own. Package alloc at an image of its own: New, Next, Lay, Left, Used. node.Width and node.Max at the five trees; package tall: over, Levels, Nodes, Sizes. Reading numbers: code.Get, code.Unpack, code.Zero at places that are there. Strings compared, and the bytes of a number that was read. No program is named here. Lemmas for the law AllocOnce: remainders, bytes as a string, blocks laid one behind the other. code.Zero, seal.Open. More rules for printed walks: copying a string's bytes into a row, a slice cut at its head, slices of strings. No program is named here. Package node at a node that is right: flag, key, Right, Put. node.Read, whatever the bytes. Further steps of a walk: append of a string to a row of the call's own, a store into a place of such a row, and where an appended row lies. value.ReadRoot, whatever the string. -/
import Derived.Test.YtbhjgcokpmiopaaGreatProg
import Derived.LaidEql
import Derived.Stop.Asserts
import Derived.RowKitTokens
import Derived.Deep.LoopGhost
import Derived.Deep.MidRow
import Derived.Lib.BufferWrite
import Derived.Lib.AppendStr
import Derived.Laws.IdiomStrings
import Derived.Test.YtbhjgcokpmiopaaGreatMg1
namespace Go.Proofs.YtbhjgcokpmiopaaGreat
open Go.RowKit Go.Extern.Stop Go.Stop Go.Extern
set_option linter.unusedVariables false
attribute [local irreducible] wpList wpAnyH Code.wp Oper.wp Go

theorem u32_wrap {n : Nat} (h : n < 4294967296) : IntKind.u32.wrap (n : Int) = (n : Int) := by
  simp [IntKind.wrap, IntKind.bits, IntKind.signed]; omega
theorem u32_xor {a b : Nat} (ha : a < 4294967296) (hb : b < 4294967296) : IntKind.u32.wrap (↑(BitVec.ofInt 32 (a : Int) ^^^ BitVec.ofInt 32 (b : Int)).toNat : Int) = ((a ^^^ b : Nat) : Int) := by
  rw [BitVec.ofInt_natCast, BitVec.ofInt_natCast, BitVec.toNat_xor, BitVec.toNat_ofNat, BitVec.toNat_ofNat, Nat.mod_eq_of_lt ha, Nat.mod_eq_of_lt hb]
  exact u32_wrap (Nat.xor_lt_two_pow (n := 32) ha hb)
theorem u32_and {a b : Nat} (ha : a < 4294967296) (hb : b < 4294967296) : IntKind.u32.wrap (↑(BitVec.ofInt 32 (a : Int) &&& BitVec.ofInt 32 (b : Int)).toNat : Int) = ((a &&& b : Nat) : Int) := by
  rw [BitVec.ofInt_natCast, BitVec.ofInt_natCast, BitVec.toNat_and, BitVec.toNat_ofNat, BitVec.toNat_ofNat, Nat.mod_eq_of_lt ha, Nat.mod_eq_of_lt hb]
  exact u32_wrap (Nat.lt_of_le_of_lt Nat.and_le_left ha)
theorem fdiv_cast (a : Nat) (k : Nat) : Int.fdiv (a : Int) (2 ^ k) = ((a / 2 ^ k : Nat) : Int) := by
  rw [Int.fdiv_eq_ediv_of_nonneg _ (Int.pow_nonneg (by decide))]
  simp
/-- one step of a register -/
def step1 (r : Nat) : Nat := if r % 2 = 1 then (r / 2) ^^^ 2197175160 else r / 2
def stepN : Nat → Nat → Nat
  | 0, r => r
  | j + 1, r => step1 (stepN j r)
def half (n : Nat) : Nat := stepN 4 n
theorem step1_lt {r : Nat} (h : r < 4294967296) : step1 r < 4294967296 := by
  unfold step1
  split
  · exact Nat.xor_lt_two_pow (n := 32) (by omega) (by decide)
  · omega
theorem stepN_lt {j r : Nat} (h : r < 4294967296) : stepN j r < 4294967296 := by
  induction j with
  | zero => exact h
  | succ j ih => exact step1_lt ih
theorem half_lt {r : Nat} (h : r < 4294967296) : half r < 4294967296 := stepN_lt h
def halvesK (k : Nat) : List Value := (List.range 16).map fun i => .int .u32 (if i < k then (half i : Int) else 0)
def halvesC : List Value := (List.range 16).map fun i => .int .u32 (half i : Int)
theorem halvesK_set {k : Nat} (h : k < 16) : (halvesK k).set k (.int .u32 (half k : Int)) = halvesK (k + 1) := by
  apply List.ext_getElem?
  intro i
  by_cases hi : i < 16
  · by_cases e : k = i
    · subst e
      rw [List.getElem?_set_self (by simpa [halvesK] using h)]
      simp [halvesK, List.getElem?_range hi]
    · rw [List.getElem?_set_ne e]
      simp only [halvesK, List.getElem?_map, List.getElem?_range hi, Option.map_some]
      by_cases h3 : i < k
      · rw [if_pos h3, if_pos (by omega)]
      · rw [if_neg h3, if_neg (by omega)]
  · rw [List.getElem?_eq_none (by simp [halvesK]; omega), List.getElem?_eq_none (by simp [halvesK]; omega)]
theorem halvesK_all : halvesK 16 = halvesC := by
  unfold halvesK halvesC
  apply List.map_congr_left
  intro i hi
  rw [if_pos (List.mem_range.1 hi)]
theorem halvesC_get {k : Nat} (h : k < 16) : halvesC[k]? = some (.int .u32 (half k : Int)) := by
  simp [halvesC, List.getElem?_range h]
/-- the lowest bit -/
theorem and_one (a : Nat) : a &&& 1 = a % 2 := Nat.and_one_is_mod a
theorem and_15 (a : Nat) : a &&& 15 = a % 16 := Nat.and_two_pow_sub_one_eq_mod a 4
set_option maxRecDepth 100000 in
set_option maxHeartbeats 1000000 in
theorem crc_halves (w : World) :
    Calls Tryz.prog 101 #[] w (Ret (.agg halvesC.toArray) w) := by
 refine zin 26 Tryz.func101 ?_
 refine xa 2 [.int .u32 0, .int .u32 0, .int .u32 0, .int .u32 0, .int .u32 0, .int .u32 0, .int .u32 0, .int .u32 0, .int .u32 0, .int .u32 0, .int .u32 0, .int .u32 0, .int .u32 0, .int .u32 0, .int .u32 0, .int .u32 0] 167 fun b1 W1 n1 => ?_
 refine xa 4 [.int .u32 0, .int .u32 0, .int .u32 0, .int .u32 0, .int .u32 0, .int .u32 0, .int .u32 0, .int .u32 0, .int .u32 0, .int .u32 0, .int .u32 0, .int .u32 0, .int .u32 0, .int .u32 0, .int .u32 0, .int .u32 0] 167 fun b2 W2 n2 => ?_
 have d2_b1 := n2.ne n1.blk
 have hB := Bl.next n1.below n2.below
 have k1'1 := n1.blk.below n2.below
 refine zl 9 26 (fun zm zkv V => ∃ (k : Nat), zkv = [(0, .pointer (some ⟨b1, 0, none⟩)), (1, .pointer (some ⟨b2, 0, none⟩)), (5, .int .i64 (↑k : Int))] ∧ zm = 16 - ((↑k : Int)).toNat ∧ Below w.heap.size w V ∧ Blk V b1 ([.int .u32 0, .int .u32 0, .int .u32 0, .int .u32 0, .int .u32 0, .int .u32 0, .int .u32 0, .int .u32 0, .int .u32 0, .int .u32 0, .int .u32 0, .int .u32 0, .int .u32 0, .int .u32 0, .int .u32 0, .int .u32 0]) 167 ∧ Blk V b2 (halvesK k) 167 ∧ k ≤ 16) ⟨0, rfl, rfl, hB, k1'1, n2.blk, by decide⟩ ?_
 rintro _ _ W3 ⟨k, rfl, rfl, hB_3, k3_b1, k3_b2, hk⟩ J3 hJ3 r3
 refine xid 6 ((↑k : Int) < (16 : Int)) (fun hc4 => ?_) (fun hc4 => ?_)
 · refine xq 13 (congrArg (Value.int .u32) (show (IntKind.u32.wrap (↑k : Int) : Int) = (↑k : Int) from u32_wrap (by omega))) ?_
   refine zl 10 26 (fun zm zkv V => ∃ (j : Nat), zkv = [(0, .pointer (some ⟨b1, 0, none⟩)), (1, .pointer (some ⟨b2, 0, none⟩)), (2, .int .i64 (↑k : Int)), (3, .int .u32 (↑(stepN j k) : Int)), (5, .int .i64 (↑k : Int)), (10, .int .i64 (↑j : Int))] ∧ zm = 4 - ((↑j : Int)).toNat ∧ Below w.heap.size w V ∧ Blk V b1 ([.int .u32 0, .int .u32 0, .int .u32 0, .int .u32 0, .int .u32 0, .int .u32 0, .int .u32 0, .int .u32 0, .int .u32 0, .int .u32 0, .int .u32 0, .int .u32 0, .int .u32 0, .int .u32 0, .int .u32 0, .int .u32 0]) 167 ∧ Blk V b2 (halvesK k) 167 ∧ j ≤ 4) ⟨0, rfl, rfl, hB_3, k3_b1, k3_b2, by decide⟩ ?_
   rintro _ _ W5 ⟨j, rfl, rfl, hB_5, k5_b1, k5_b2, hj⟩ J5 hJ5 r5
   have hr : stepN j k < 4294967296 := stepN_lt (by omega)
   refine xid 6 ((↑j : Int) < (4 : Int)) (fun hc6 => ?_) (fun hc6 => ?_)
   · refine xq 7 (congrArg (Value.int .u32) (show (IntKind.u32.wrap (↑(BitVec.ofInt 32 (↑(stepN j k) : Int) &&& BitVec.ofInt 32 (1 : Int)).toNat : Int) : Int) = (↑((stepN j k) % 2) : Int) from (u32_and (b := 1) hr (by decide)).trans (by rw [and_one]))) ?_
     refine xq 6 (congrArg (Value.int .u32) (show (Int.fdiv (↑(stepN j k) : Int) (2 ^ 1) : Int) = (↑((stepN j k) / 2) : Int) from fdiv_cast _ 1)) ?_
     refine xie 9 (↑((stepN j k) % 2) : Int) (1 : Int) (fun hc7 => ?_) (fun hc7 => ?_)
     · refine xq 2 (congrArg (Value.int .u32) (show (IntKind.u32.wrap (↑(BitVec.ofInt 32 (↑((stepN j k) / 2) : Int) ^^^ BitVec.ofInt 32 (2197175160 : Int)).toNat : Int) : Int) = (↑(((stepN j k) / 2) ^^^ 2197175160) : Int) from u32_xor (b := 2197175160) (by omega) (by decide))) ?_
       refine xw 5 ((↑j : Int) + 1) ?_
       refine xv1 2 3 (show (.int .u32 (↑(((stepN j k) / 2) ^^^ 2197175160) : Int) : Value) = .int .u32 (↑(stepN (j + 1) k) : Int) from by rw [show stepN (j + 1) k = (((stepN j k) / 2) ^^^ 2197175160) by simp only [stepN, step1]; first | rw [if_pos (by omega)] | rw [if_neg (by omega)]]) ?_
       exact ze 0 (hJ5 _ _ _ ⟨j + 1, rfl, rfl, hB_5, k5_b1, k5_b2, by omega⟩ (by omega))
     refine xw 4 ((↑j : Int) + 1) ?_
     refine xv1 2 3 (show (.int .u32 (↑((stepN j k) / 2) : Int) : Value) = .int .u32 (↑(stepN (j + 1) k) : Int) from by rw [show stepN (j + 1) k = ((stepN j k) / 2) by simp only [stepN, step1]; first | rw [if_pos (by omega)] | rw [if_neg (by omega)]]) ?_
     exact ze 0 (hJ5 _ _ _ ⟨j + 1, rfl, rfl, hB_5, k5_b1, k5_b2, by omega⟩ (by omega))
   refine xia 8 (fun _ _ _ _ zo zx zy V => run_indexP (k := k) (b := b2) (off := 0) (i := (↑k : Int)) (ki := .i64) 1 k zo zx zy rfl (by omega) (by omega) Tryz.underlying167 (by kernel_rfl) V) ?_
   refine xsg 0 k5_b2 k (.int .u32 (↑(stepN j k) : Int)) (by first | decide | (simp [halvesK]; omega)) fun W8 u8 k8 => ?_
   replace k8 : Blk W8 b2 (halvesK (k + 1)) 167 := by rw [← (show (halvesK k).set k (.int .u32 (↑(stepN j k) : Int)) = halvesK (k + 1) from by rw [show j = 4 by omega]; exact halvesK_set (by omega))]; exact k8
   have g2 := n2.ge n1.below
   refine xw 4 ((↑k : Int) + 1) ?_
   have hB'1 := u8.below hB_5 g2
   have k5_b1'1 := u8.blk k5_b1 (Ne.symm (Ne.symm d2_b1))
   exact ze 2 (hJ3 _ _ _ ⟨k + 1, rfl, rfl, hB'1, k5_b1'1, k8, by omega⟩ (by omega))
 refine xlv 7 k3_b2.rp ?_
 refine xsvg 0 k3_b1 0 (halvesK k) (by simp [halvesK, Value.oneCell']) (by simp [halvesK]) fun W9 u9 k9 => ?_
 change Blk _ _ (halvesK k) _ at k9
 have g1 := n1.ge (Below.refl w.heap.size _)
 have hB'2 := u9.below hB_3 g1
 refine xec 3 k9 (.agg (halvesK k).toArray) ?_
 rw [show k = 16 by omega, halvesK_all]
 exact ⟨rfl, hB'2⟩
/-- a byte comes to a register -/
def crcStep (r : Nat) (x : UInt8) : Nat := ((((r ^^^ x.toNat) / 16) ^^^ half ((r ^^^ x.toNat) % 16)) / 16) ^^^ half ((((r ^^^ x.toNat) / 16) ^^^ half ((r ^^^ x.toNat) % 16)) % 16)
def crcRun (r : Nat) (l : List UInt8) : Nat := l.foldl crcStep r
theorem u8_lt (x : UInt8) : x.toNat < 4294967296 := Nat.lt_trans x.toNat_lt (by decide)
theorem half16_lt (n : Nat) : half (n % 16) < 4294967296 := half_lt (by omega)
theorem crcStep_lt {r : Nat} (h : r < 4294967296) (x : UInt8) : crcStep r x < 4294967296 := by
  have h1 : r ^^^ x.toNat < 4294967296 := Nat.xor_lt_two_pow (n := 32) h (u8_lt x)
  have h2 : ((r ^^^ x.toNat) / 16) ^^^ half ((r ^^^ x.toNat) % 16) < 4294967296 := Nat.xor_lt_two_pow (n := 32) (by omega) (half16_lt _)
  exact Nat.xor_lt_two_pow (n := 32) (by omega) (half16_lt _)
theorem crcRun_lt {r : Nat} (h : r < 4294967296) (l : List UInt8) : crcRun r l < 4294967296 := by
  unfold crcRun
  induction l generalizing r with
  | nil => exact h
  | cons x l ih => exact ih (crcStep_lt h x)
theorem crcRun_take {r : Nat} {l : List UInt8} {k : Nat} (h : k < l.length) : crcRun r (l.take (k + 1)) = crcStep (crcRun r (l.take k)) (l.getD k 0) := by
  unfold crcRun
  rw [List.take_succ_eq_append_getElem h, List.foldl_append]
  simp [List.getD, List.getElem?_eq_getElem h]
theorem Bys.elem {w : World} {b : Option Addr} {c : Nat} {l : List UInt8} (h : Bys w (.slice b l.length c) l) {k : Nat} (hk : k < l.length) : b.isSome = true ∧ w.cell? (elemAddr b (k * 1)) = some (.int .u8 ((l.getD k 0).toNat : Int)) := by
  refine Sl.elem h ?_
  rw [Nat.mul_one, List.getElem?_map, List.getElem?_eq_getElem hk]
  simp [List.getD, List.getElem?_eq_getElem hk, bv]
theorem u32_byte (x : UInt8) : IntKind.u32.wrap (x.toNat : Int) = (x.toNat : Int) := u32_wrap (u8_lt x)
set_option maxRecDepth 100000 in
set_option maxHeartbeats 1000000 in
theorem crc_run (r : Nat) (hr0 : r < 4294967296) (a : Option Addr) (c : Nat) (l : List UInt8) (w : World) (h : Bys w (.slice a l.length c) l) (hl : l.length ≤ 100000000) :
    Calls Tryz.prog 100 #[.int .u32 (↑r : Int), .slice a l.length c] w (Ret (.int .u32 (crcRun r l : Int)) w) := by
 refine zin 35 Tryz.func100 ?_
 refine xr 7 (args := #[]) (crc_halves _) fun W1 hb1 => ?_
 refine xa 0 [.int .u32 0, .int .u32 0, .int .u32 0, .int .u32 0, .int .u32 0, .int .u32 0, .int .u32 0, .int .u32 0, .int .u32 0, .int .u32 0, .int .u32 0, .int .u32 0, .int .u32 0, .int .u32 0, .int .u32 0, .int .u32 0] 167 fun b2 W2 n2 => ?_
 refine xsvg 0 n2.blk 0 halvesC (by simp [halvesC, Value.oneCell']) (by simp [halvesC]) fun W3 u3 k3 => ?_
 change Blk _ _ halvesC _ at k3
 have g2 := n2.ge hb1
 have hB := u3.below (Bl.next hb1 n2.below) g2
 refine zl 11 35 (fun zm zkv V => ∃ (k : Nat), zkv = [(0, .int .u32 (↑(crcRun r (l.take k)) : Int)), (4, .int .u32 0), (5, .pointer (some ⟨b2, 0, none⟩)), (9, .slice a l.length c), (10, .int .i64 (↑l.length : Int)), (11, .int .i64 (↑k : Int))] ∧ zm = l.length - ((↑k : Int)).toNat ∧ Below w.heap.size w V ∧ Blk V b2 halvesC 167 ∧ k ≤ l.length) ⟨0, rfl, rfl, hB, k3, Nat.zero_le _⟩ ?_
 rintro _ _ W4 ⟨k, rfl, rfl, hB_4, k4_b2, hk⟩ J4 hJ4 r4
 have h0 : crcRun r (l.take k) < 4294967296 := crcRun_lt hr0 _
 have h1 : (crcRun r (l.take k)) ^^^ (l.getD k 0).toNat < 4294967296 := Nat.xor_lt_two_pow (n := 32) h0 (u8_lt _)
 have h2 : (((crcRun r (l.take k)) ^^^ (l.getD k 0).toNat) / 16) ^^^ half (((crcRun r (l.take k)) ^^^ (l.getD k 0).toNat) % 16) < 4294967296 := Nat.xor_lt_two_pow (n := 32) (by omega) (half16_lt _)
 refine xid 6 ((↑k : Int) < (↑l.length : Int)) (fun hc5 => ?_) (fun hc5 => ?_)
 · refine xx 6 _ l.length k 1 (Bys.elem h (k := k) (by omega)).1 ?_
   refine xl 0 ((Bys.elem (h.below hB_4) (k := k) (by omega)).2) ?_
   refine xq 7 (congrArg (Value.int .u32) (show (IntKind.u32.wrap (↑(l.getD k 0).toNat : Int) : Int) = (↑(l.getD k 0).toNat : Int) from u32_byte _)) ?_
   refine xq 0 (congrArg (Value.int .u32) (show (IntKind.u32.wrap (↑(BitVec.ofInt 32 (↑(crcRun r (l.take k)) : Int) ^^^ BitVec.ofInt 32 (↑(l.getD k 0).toNat : Int)).toNat : Int) : Int) = (↑((crcRun r (l.take k)) ^^^ (l.getD k 0).toNat) : Int) from u32_xor h0 (u8_lt _))) ?_
   refine xq 6 (congrArg (Value.int .u32) (show (Int.fdiv (↑((crcRun r (l.take k)) ^^^ (l.getD k 0).toNat) : Int) (2 ^ 4) : Int) = (↑(((crcRun r (l.take k)) ^^^ (l.getD k 0).toNat) / 16) : Int) from fdiv_cast _ 4)) ?_
   refine xq 1 (congrArg (Value.int .u32) (show (IntKind.u32.wrap (↑(BitVec.ofInt 32 (↑((crcRun r (l.take k)) ^^^ (l.getD k 0).toNat) : Int) &&& BitVec.ofInt 32 (15 : Int)).toNat : Int) : Int) = (↑(((crcRun r (l.take k)) ^^^ (l.getD k 0).toNat) % 16) : Int) from (u32_and (b := 15) h1 (by decide)).trans (by rw [and_15]))) ?_
   refine xia 0 (fun _ _ _ _ zo zx zy V => run_indexP (k := (((crcRun r (l.take k)) ^^^ (l.getD k 0).toNat) % 16)) (b := b2) (off := 0) (i := (↑(((crcRun r (l.take k)) ^^^ (l.getD k 0).toNat) % 16) : Int)) (ki := .u32) 1 (((crcRun r (l.take k)) ^^^ (l.getD k 0).toNat) % 16) zo zx zy rfl (by omega) (by omega) Tryz.underlying167 (by kernel_rfl) V) ?_
   refine xl 0 (k4_b2.cell (i := (((crcRun r (l.take k)) ^^^ (l.getD k 0).toNat) % 16)) (halvesC_get (by omega))) ?_
   refine xq 0 (congrArg (Value.int .u32) (show (IntKind.u32.wrap (↑(BitVec.ofInt 32 (↑(((crcRun r (l.take k)) ^^^ (l.getD k 0).toNat) / 16) : Int) ^^^ BitVec.ofInt 32 (↑(half (((crcRun r (l.take k)) ^^^ (l.getD k 0).toNat) % 16)) : Int)).toNat : Int) : Int) = (↑((((crcRun r (l.take k)) ^^^ (l.getD k 0).toNat) / 16) ^^^ half (((crcRun r (l.take k)) ^^^ (l.getD k 0).toNat) % 16)) : Int) from u32_xor (Nat.lt_of_le_of_lt (Nat.div_le_self _ _) h1) (half16_lt _))) ?_
   refine xq 5 (congrArg (Value.int .u32) (show (Int.fdiv (↑((((crcRun r (l.take k)) ^^^ (l.getD k 0).toNat) / 16) ^^^ half (((crcRun r (l.take k)) ^^^ (l.getD k 0).toNat) % 16)) : Int) (2 ^ 4) : Int) = (↑(((((crcRun r (l.take k)) ^^^ (l.getD k 0).toNat) / 16) ^^^ half (((crcRun r (l.take k)) ^^^ (l.getD k 0).toNat) % 16)) / 16) : Int) from fdiv_cast _ 4)) ?_
   refine xq 1 (congrArg (Value.int .u32) (show (IntKind.u32.wrap (↑(BitVec.ofInt 32 (↑((((crcRun r (l.take k)) ^^^ (l.getD k 0).toNat) / 16) ^^^ half (((crcRun r (l.take k)) ^^^ (l.getD k 0).toNat) % 16)) : Int) &&& BitVec.ofInt 32 (15 : Int)).toNat : Int) : Int) = (↑(((((crcRun r (l.take k)) ^^^ (l.getD k 0).toNat) / 16) ^^^ half (((crcRun r (l.take k)) ^^^ (l.getD k 0).toNat) % 16)) % 16) : Int) from (u32_and (b := 15) h2 (by decide)).trans (by rw [and_15]))) ?_
   refine xia 0 (fun _ _ _ _ zo zx zy V => run_indexP (k := (((((crcRun r (l.take k)) ^^^ (l.getD k 0).toNat) / 16) ^^^ half (((crcRun r (l.take k)) ^^^ (l.getD k 0).toNat) % 16)) % 16)) (b := b2) (off := 0) (i := (↑(((((crcRun r (l.take k)) ^^^ (l.getD k 0).toNat) / 16) ^^^ half (((crcRun r (l.take k)) ^^^ (l.getD k 0).toNat) % 16)) % 16) : Int)) (ki := .u32) 1 (((((crcRun r (l.take k)) ^^^ (l.getD k 0).toNat) / 16) ^^^ half (((crcRun r (l.take k)) ^^^ (l.getD k 0).toNat) % 16)) % 16) zo zx zy rfl (by omega) (by omega) Tryz.underlying167 (by kernel_rfl) V) ?_
   refine xl 0 (k4_b2.cell (i := (((((crcRun r (l.take k)) ^^^ (l.getD k 0).toNat) / 16) ^^^ half (((crcRun r (l.take k)) ^^^ (l.getD k 0).toNat) % 16)) % 16)) (halvesC_get (by omega))) ?_
   refine xq 0 (congrArg (Value.int .u32) (show (IntKind.u32.wrap (↑(BitVec.ofInt 32 (↑(((((crcRun r (l.take k)) ^^^ (l.getD k 0).toNat) / 16) ^^^ half (((crcRun r (l.take k)) ^^^ (l.getD k 0).toNat) % 16)) / 16) : Int) ^^^ BitVec.ofInt 32 (↑(half (((((crcRun r (l.take k)) ^^^ (l.getD k 0).toNat) / 16) ^^^ half (((crcRun r (l.take k)) ^^^ (l.getD k 0).toNat) % 16)) % 16)) : Int)).toNat : Int) : Int) = (↑((((((crcRun r (l.take k)) ^^^ (l.getD k 0).toNat) / 16) ^^^ half (((crcRun r (l.take k)) ^^^ (l.getD k 0).toNat) % 16)) / 16) ^^^ half (((((crcRun r (l.take k)) ^^^ (l.getD k 0).toNat) / 16) ^^^ half (((crcRun r (l.take k)) ^^^ (l.getD k 0).toNat) % 16)) % 16)) : Int) from u32_xor (Nat.lt_of_le_of_lt (Nat.div_le_self _ _) h2) (half16_lt _))) ?_
   refine xw 5 ((↑k : Int) + 1) ?_
   refine xv1 2 0 (show (.int .u32 (↑((((((crcRun r (l.take k)) ^^^ (l.getD k 0).toNat) / 16) ^^^ half (((crcRun r (l.take k)) ^^^ (l.getD k 0).toNat) % 16)) / 16) ^^^ half (((((crcRun r (l.take k)) ^^^ (l.getD k 0).toNat) / 16) ^^^ half (((crcRun r (l.take k)) ^^^ (l.getD k 0).toNat) % 16)) % 16)) : Int) : Value) = .int .u32 (↑(crcRun r (l.take (k + 1))) : Int) from by rw [crcRun_take (by omega)]; rfl) ?_
   exact ze 0 (hJ4 _ _ _ ⟨k + 1, rfl, rfl, hB_4, k4_b2, by omega⟩ (by omega))
 refine xe 12 (.int .u32 (↑(crcRun r (l.take k)) : Int)) ?_
 rw [List.take_of_length_le (by omega)]
 exact ⟨rfl, hB_4⟩
end Go.Proofs.YtbhjgcokpmiopaaGreat
namespace Go.Proofs.YtbhjgcokpmiopaaGreat
open Go.RowKit Go.Extern.Stop Go.Stop Go.Extern
set_option linter.unusedVariables false
attribute [local irreducible] wpList wpAnyH Code.wp Oper.wp Go

def crcSum (l : List UInt8) : Nat := crcRun 4294967295 l ^^^ 4294967295
theorem crcSum_lt (l : List UInt8) : crcSum l < 4294967296 := Nat.xor_lt_two_pow (n := 32) (crcRun_lt (by decide) l) (by decide)
theorem i64_nat {n : Nat} (h : n < 9223372036854775808) : IntKind.i64.wrap (n : Int) = (n : Int) := IntWalk.i64_in _ (by omega)
theorem i64_xor {a b : Nat} (ha : a < 4294967296) (hb : b < 4294967296) : IntKind.i64.wrap (↑(BitVec.ofInt 64 (a : Int) ^^^ BitVec.ofInt 64 (b : Int)).toNat : Int) = ((a ^^^ b : Nat) : Int) := by
  rw [BitVec.ofInt_natCast, BitVec.ofInt_natCast, BitVec.toNat_xor, BitVec.toNat_ofNat, BitVec.toNat_ofNat, Nat.mod_eq_of_lt (by omega), Nat.mod_eq_of_lt (by omega)]
  have := Nat.xor_lt_two_pow (n := 32) ha hb
  exact i64_nat (by omega)
set_option maxRecDepth 100000 in
set_option maxHeartbeats 1000000 in
theorem crc_Sum1 (g : Nat) (a : Option Addr) (c : Nat) (l : List UInt8) (w : World) (hk : Blk w g [.slice a l.length c] 45) (h : Bys w (.slice a l.length c) l) (hl : l.length ≤ 100000000) :
    Calls Tryz.prog 95 #[.slice (some ⟨g, 0, none⟩) 1 1] w (Ret (.int .i64 (crcSum l : Int)) w) := by
 refine zin 19 Tryz.func95 ?_
 refine xu 19 3 ?_
 refine xb 14 0 hk ?_
 refine xr 6 (args := #[.int .u32 4294967295, .slice a l.length c]) (crc_run 4294967295 (by decide) a c l _ (h.below (Below.refl w.heap.size _)) hl) fun W1 hb1 => ?_
 refine xq 24 (congrArg (Value.int .u32) (show (IntKind.u32.wrap (↑(BitVec.ofInt 32 (↑(crcRun 4294967295 l) : Int) ^^^ BitVec.ofInt 32 (4294967295 : Int)).toNat : Int) : Int) = (↑(crcSum l) : Int) from u32_xor (b := 4294967295) (crcRun_lt (by decide) l) (by decide))) ?_
 refine xq 0 (congrArg (Value.int .i64) (show (IntKind.i64.wrap (↑(crcSum l) : Int) : Int) = (↑(crcSum l) : Int) from i64_nat (by have := crcSum_lt l; omega))) ?_
 exact xe 4 (.int .i64 (↑(crcSum l) : Int)) ⟨rfl, hb1⟩
theorem crc_Sum1N (g : Nat) (a : Option Addr) (n c : Nat) (l : List UInt8) (w : World) (hn : l.length = n) (hk : Blk w g [.slice a n c] 45) (h : Bys w (.slice a n c) l) (hl : n ≤ 100000000) :
    Calls Tryz.prog 95 #[.slice (some ⟨g, 0, none⟩) 1 1] w (Ret (.int .i64 (crcSum l : Int)) w) := by
  subst hn; exact crc_Sum1 g a c l w hk h hl
/-- the salt of a kind -/
def saltN (kind : Int) : Nat := if kind = 1 then 160774 else if kind = 2 then 121107 else if kind = 3 then 240779 else if kind = 4 then 160478 else 0
theorem saltN_lt (kind : Int) : saltN kind < 4294967296 := by unfold saltN; (repeat' split) <;> omega
set_option maxRecDepth 100000 in
set_option maxHeartbeats 1000000 in
theorem seal_Salt (kind : Int) (w : World) :
    Calls Tryz.prog 96 #[.int .i64 kind] w (Ret (.int .i64 (saltN kind : Int)) w) := by
 refine zin 12 Tryz.func96 ?_
 refine xie 18 kind (1 : Int) (fun hc1 => ?_) (fun hc1 => ?_)
 · exact xe 8 (.int .i64 160774) ⟨by simp_all [saltN], (Below.refl w.heap.size _)⟩
 refine xie 6 kind (2 : Int) (fun hc2 => ?_) (fun hc2 => ?_)
 · exact xe 8 (.int .i64 121107) ⟨by simp_all [saltN], (Below.refl w.heap.size _)⟩
 refine xie 6 kind (3 : Int) (fun hc3 => ?_) (fun hc3 => ?_)
 · exact xe 8 (.int .i64 240779) ⟨by simp_all [saltN], (Below.refl w.heap.size _)⟩
 refine xie 6 kind (4 : Int) (fun hc4 => ?_) (fun hc4 => ?_)
 · exact xe 8 (.int .i64 160478) ⟨by simp_all [saltN], (Below.refl w.heap.size _)⟩
 exact xe 9 (.int .i64 0) ⟨by simp_all [saltN], (Below.refl w.heap.size _)⟩
set_option maxRecDepth 100000 in
set_option maxHeartbeats 1000000 in
theorem seal_known (kind no : Int) (h1 : 1 ≤ kind) (h2 : kind ≤ 4) (h3 : 0 ≤ no) (h4 : no < 14400) (w : World) :
    Calls Tryz.prog 76 #[.int .i64 kind, .int .i64 no] w (Ret (.bool true) w) := by
 refine zin 19 Tryz.func76 ?_
 refine xgk 10 [6, 7] (show (decide (kind ≥ (1 : Int)) : Bool) = true from decide_eq_true h1) ?_
 refine xgk 4 [9, 10, 11] (show (decide (kind ≤ (4 : Int)) : Bool) = true from decide_eq_true h2) ?_
 refine xgk 4 [13, 14, 15] (show (decide (no ≥ (0 : Int)) : Bool) = true from decide_eq_true h3) ?_
 exact xe 7 (.bool (decide (no < (14400 : Int)))) ⟨by rw [decide_eq_true h4], (Below.refl w.heap.size _)⟩
theorem Bys.take {w : World} {a : Option Addr} {n c : Nat} {l : List UInt8} (h : Bys w (.slice a n c) l) (hn : l.length = n) (m : Nat) (hm : m ≤ n) : Bys w (.slice a m c) (l.take m) := by
  have hlen : (l.take m).length = m := by simp; omega
  rcases h with ⟨a', c', h1, h2, h3⟩ | ⟨b, off, cap, h1, h2, h3, h4⟩
  · obtain rfl : m = 0 := by omega
    simp only [Value.slice.injEq] at h1
    exact .inl ⟨a, c, rfl, by simp, by simp⟩
  · simp only [Value.slice.injEq] at h1
    obtain ⟨rfl, _, rfl⟩ := h1
    refine .inr ⟨b, off, c, by rw [hlen], by omega, h3, fun j x hj => h4 j x ?_⟩
    have hjm : j < m := by have := (List.getElem?_eq_some_iff.1 hj).1; simp at this; omega
    rwa [List.map_take, List.getElem?_take_of_lt hjm] at hj
/-- the sum that a block must have -/
def sumB (l : List UInt8) (kind : Int) : Nat := crcSum (l.take 252) ^^^ saltN kind
theorem sumB_lt (l : List UInt8) (kind : Int) : sumB l kind < 4294967296 := Nat.xor_lt_two_pow (n := 32) (crcSum_lt _) (saltN_lt _)
set_option maxRecDepth 100000 in
set_option maxHeartbeats 1000000 in
theorem seal_sum (kind : Int) (a : Option Addr) (c : Nat) (l : List UInt8) (w : World) (hn : l.length = 256) (hc : 256 ≤ c) (h : Bys w (.slice a 256 c) l) :
    Calls Tryz.prog 80 #[.slice a 256 c, .int .i64 kind] w (Ret (.int .i64 (sumB l kind : Int)) w) := by
 refine zin 12 Tryz.func80 ?_
 refine xsH 8 (fun _ _ _ _ zo zx zy V => run_sliceH (k := 252) (b := a) (n := 256) (c := c) (i := 252) (ki := .i64) zo zx zy rfl (by omega) Tryz.underlying45 (by kernel_rfl) V) ?_
 refine xbs 0 1 [.slice a 252 c] 45 fun b1 W1 n1 => ?_
 refine xr 0 (args := #[.slice (some ⟨b1, 0, none⟩) 1 1]) (crc_Sum1N b1 a 252 c (l.take 252) _ (by simp; omega) n1.blk ((h.take hn 252 (by decide)).below n1.below) (by decide)) fun W2 hb2 => ?_
 refine xr 1 (args := #[.int .i64 kind]) (seal_Salt kind _) fun W3 hb3 => ?_
 refine xq 0 (congrArg (Value.int .i64) (show (IntKind.i64.wrap (↑(BitVec.ofInt 64 (↑(crcSum (l.take 252)) : Int) ^^^ BitVec.ofInt 64 (↑(saltN kind) : Int)).toNat : Int) : Int) = (↑(sumB l kind) : Int) from i64_xor (crcSum_lt _) (saltN_lt _))) ?_
 have hB'1 := Bl.next (Bl.next n1.below hb2) hb3
 exact xe 4 (.int .i64 (↑(sumB l kind) : Int)) ⟨rfl, hB'1⟩
theorem putB_len {l : List UInt8} {k : Nat} {x : List UInt8} (h : k + x.length ≤ l.length) : (putB l k x).length = l.length := by simp [putB]; omega
theorem zerosB (n : Nat) : zeros (Value.int .u8 0).cells.toList n = (List.replicate n (0 : UInt8)).map bv := by
  rw [show (Value.int .u8 0).cells.toList = [Value.int .u8 0] from rfl, zeros, List.map_replicate]
  induction n with
  | zero => rfl
  | succ n ih => rw [List.replicate_succ, List.flatten_cons, ih, List.replicate_succ]; rfl
theorem bys_of {w : World} {v : Value} {n : Nat} {l : List UInt8} (h : Sl w v n (l.map bv)) (hn : l.length = n) : Bys w v l := by subst hn; exact h
theorem own_cap {w : World} {base n c size : Nat} {e : TypeId} {p : Option Addr} {xs : List Value} (h : w.ownsRow base e size (.slice p n c) n xs) (hn : 0 < n) : n ≤ c := by
  rcases h.2 with ⟨_, h0⟩ | ⟨g, cap, cur, hv, _, _, hc, _⟩
  · omega
  · simp only [Value.slice.injEq] at hv; omega
theorem putN {m : Nat} {l : List UInt8} {k : Nat} {x : List UInt8} {w : World} {e : Ending} {w' : World} (hm : l.length = m) (hk : k + x.length ≤ m) (h : RetS (fun w' r => ∃ v, r = .tuple #[v, .int .i64 0] ∧ OwnB w.heap.size w' v (putB l k x)) w e w') :
    RetS (fun w' r => ∃ p c, r = .tuple #[.slice p m c, .int .i64 0] ∧ w'.ownsRow w.heap.size 5 1 (.slice p m c) m ((putB l k x).map bv)) w e w' := by
  obtain ⟨r, h1, h2, v, h3, h4⟩ := h
  unfold OwnB at h4
  rw [putB_len (by omega), hm] at h4
  obtain ⟨p, c, rfl⟩ := (own_sl h4).slice
  exact ⟨r, h1, h2, p, c, h3, h4⟩
theorem Put_4N (a : Option Addr) (m c k : Nat) (ki : Int) (l : List UInt8) (n : Int) (w : World) (hm : l.length = m) (hki : ki = (k : Int)) (h : Bys w (.slice a m c) l) (hl : m ≤ 100000) (hk : k + 4 ≤ m) (h0 : 0 ≤ n) (hb : n < 4294967296) :
    Calls Tryz.prog 92 #[.slice a m c, .int .i64 ki, .int .i64 4, .int .i64 n] w (RetS (fun w' r => ∃ p c, r = .tuple #[.slice p m c, .int .i64 0] ∧ w'.ownsRow w.heap.size 5 1 (.slice p m c) m ((putB l k (leB n 4)).map bv)) w) := by
  subst hki
  refine (show Calls _ _ #[.slice a m c, .int .i64 (k : Int), .int .i64 4, .int .i64 n] w _ from ?_)
  have := Put_4 a c k l n w (by rw [hm]; exact h) (by omega) (by omega) h0 hb
  rw [hm] at this
  exact this.mono fun e w' q => putN hm (by rw [leB_len]; omega) q
theorem Put_2N (a : Option Addr) (m c k : Nat) (ki : Int) (l : List UInt8) (n : Int) (w : World) (hm : l.length = m) (hki : ki = (k : Int)) (h : Bys w (.slice a m c) l) (hl : m ≤ 100000) (hk : k + 2 ≤ m) (h0 : 0 ≤ n) (hb : n < 65536) :
    Calls Tryz.prog 92 #[.slice a m c, .int .i64 ki, .int .i64 2, .int .i64 n] w (RetS (fun w' r => ∃ p c, r = .tuple #[.slice p m c, .int .i64 0] ∧ w'.ownsRow w.heap.size 5 1 (.slice p m c) m ((putB l k (leB n 2)).map bv)) w) := by
  subst hki
  have := Put_2 a c k l n w (by rw [hm]; exact h) (by omega) (by omega) h0 hb
  rw [hm] at this
  exact this.mono fun e w' q => putN hm (by rw [leB_len]; omega) q
def seal1 (li : List UInt8) : List UInt8 := putB (List.replicate 256 0) 8 li
def seal2 (no : Int) (li : List UInt8) : List UInt8 := putB (seal1 li) 0 (leB no 4)
def seal3 (kind no : Int) (li : List UInt8) : List UInt8 := putB (seal2 no li) 4 (leB kind 2)
/-- a sealed block -/
def sealB (kind no : Int) (li : List UInt8) : List UInt8 := putB (seal3 kind no li) 252 (leB (sumB (seal3 kind no li) kind) 4)
theorem seal1_len {li : List UInt8} (h : li.length ≤ 244) : (seal1 li).length = 256 := by rw [seal1, putB_len (by rw [List.length_replicate]; omega), List.length_replicate]
theorem seal2_len {no : Int} {li : List UInt8} (h : li.length ≤ 244) : (seal2 no li).length = 256 := by rw [seal2, putB_len (by rw [leB_len, seal1_len h]; omega), seal1_len h]
theorem seal3_len {kind no : Int} {li : List UInt8} (h : li.length ≤ 244) : (seal3 kind no li).length = 256 := by rw [seal3, putB_len (by rw [leB_len, seal2_len h]; omega), seal2_len h]
theorem sealB_len {kind no : Int} {li : List UInt8} (h : li.length ≤ 244) : (sealB kind no li).length = 256 := by rw [sealB, putB_len (by rw [leB_len, seal3_len h]; omega), seal3_len h]
set_option maxRecDepth 100000 in
set_option maxHeartbeats 1000000 in
theorem seal_Seal (kind no : Int) (h1 : 1 ≤ kind) (h2 : kind ≤ 4) (h3 : 0 ≤ no) (h4 : no < 14400) (a : Option Addr) (c : Nat) (li : List UInt8) (w : World) (hl : li.length ≤ 244) (h : Bys w (.slice a li.length c) li) :
    Calls Tryz.prog 70 #[.int .i64 kind, .int .i64 no, .slice a li.length c] w (RetS (fun w' r => ∃ p c, r = .tuple #[.slice p 256 c, .int .i64 0] ∧ w'.ownsRow w.heap.size 5 1 (.slice p 256 c) 256 ((sealB kind no li).map bv)) w) := by
 refine zin 54 Tryz.func70 ?_
 refine xr 11 (args := #[.int .i64 kind, .int .i64 no]) (seal_known kind no h1 h2 h3 h4 _) fun W1 hb1 => ?_
 refine xk 14 (show (decide ((↑li.length : Int) > (244 : Int)) : Bool) = false from decide_eq_false (by omega)) ?_
 refine xmk 4 fun _ _ _ _ zJ zQ zo zx zy zK => op_make 256 (.int .u8 0) 1 1 ((List.replicate 256 (0 : UInt8)).map bv) zo zx zy Tryz.underlying45 (by kernel_rfl) rfl (by omega) (by omega) (zerosB 256) fun b2 W2 n2 => ?_
 refine zK _ _ ?_
 have o2 := own_of_blk (size := 1) (n := 256) n2.blk (n2.ge hb1) (by simp) (by unfold maxLen; omega)
 have hB := Bl.next hb1 n2.below
 refine xbi 8 (t2 := 45) fun _ _ _ _ zJ zQ zo zx zy zK => op_copy (dLen := 248) (dCap := 248) (off := 8) li.length (li.map bv) ((seal1 li).map bv) zo Tryz.underlying45 (by kernel_rfl) zx zy (h.below hB) o2 (by simp) (by omega) (by omega) (bv_one li) hB.size (by simp [seal1, putB, List.map_drop]) fun W3 o3 hg3 hb3 => ?_
 refine zK _ _ ?_
 refine xbs 9 2 [.int .i64 0, .int .i64 4, .int .i64 no, .int .i64 4, .int .i64 2, .int .i64 kind] 139 fun b4 W4 n4 => ?_
 refine xu 5 4 ?_
 refine xlv 14 (n4.blk.rpp 0 3) ?_
 refine xa 0 [.int .i64 0, .int .i64 0, .int .i64 0] 139 fun b5 W5 n5 => ?_
 have d5_b4 := n5.ne n4.blk
 refine xsv 0 n5.blk [.int .i64 0, .int .i64 4, .int .i64 no] fun W6 u6 k6 => ?_
 have g5 := n5.ge (Bl.next (hB.trans hb3) n4.below)
 refine xb 5 0 k6 ?_
 refine xb 1 1 k6 ?_
 refine xb 1 2 k6 ?_
 have o3'1 := u6.own2 (own_below (own_below o3 n4.below) n5.below) n5.blk (by decide)
 refine xc 0 (args := #[.slice (some ⟨b2, 0, none⟩) 256 256, .int .i64 0, .int .i64 4, .int .i64 no]) (Put_4N (some ⟨b2, 0, none⟩) 256 256 0 0 (seal1 li) (no) _ (seal1_len hl) rfl (bys_of (own_sl o3'1) (seal1_len hl)) (by decide) (by decide) (h3) (by omega)) ?_
 rintro _ W7 ⟨_, rfl, hb7, p1, c1, rfl, o1⟩
 have hs7 := (u6.below (Bl.next (Bl.next (hB.trans hb3) n4.below) n5.below) g5).size
 have k4'1 := (u6.blk (n4.blk.below n5.below) (Ne.symm (Ne.symm d5_b4))).below hb7
 refine xlv 26 (k4'1.rpp 3 3) ?_
 refine xa 0 [.int .i64 0, .int .i64 0, .int .i64 0] 139 fun b8 W8 n8 => ?_
 have d8_b4 := n8.ne k4'1
 have k6'1 := k6.below hb7
 have d8_b5 := n8.ne k6'1
 refine xsv 0 n8.blk [.int .i64 4, .int .i64 2, .int .i64 kind] fun W9 u9 k9 => ?_
 have g8 := n8.ge (Bl.next (u6.below (Bl.next (Bl.next (hB.trans hb3) n4.below) n5.below) g5) hb7)
 refine xb 5 0 k9 ?_
 refine xb 1 1 k9 ?_
 refine xb 1 2 k9 ?_
 have o1'1 := u9.own2 (own_below (own_mono o1 hs7) n8.below) n8.blk (by decide)
 refine xc 0 (args := #[.slice p1 256 c1, .int .i64 4, .int .i64 2, .int .i64 kind]) (Put_2N p1 256 c1 4 4 (seal2 no li) (kind) _ (seal2_len hl) rfl (bys_of (own_sl o1'1) (seal2_len hl)) (by decide) (by decide) (by omega) (by omega)) ?_
 rintro _ W10 ⟨_, rfl, hb10, p2, c2, rfl, o2⟩
 have hs10 := (u9.below (Bl.next (Bl.next (u6.below (Bl.next (Bl.next (hB.trans hb3) n4.below) n5.below) g5) hb7) n8.below) g8).size
 have o2'1 := own_mono o2 hs10
 refine xr 29 (args := #[.slice p2 256 c2, .int .i64 kind]) (seal_sum kind p2 c2 (seal3 kind no li) _ (seal3_len hl) (own_cap o2'1 (by decide)) (bys_of (own_sl o2'1) (seal3_len hl))) fun W11 hb11 => ?_
 have o2'2 := own_below o2'1 hb11
 refine xc 0 (args := #[.slice p2 256 c2, .int .i64 252, .int .i64 4, .int .i64 (↑(sumB (seal3 kind no li) kind) : Int)]) (Put_4N p2 256 c2 252 252 (seal3 kind no li) ((sumB (seal3 kind no li) kind : Int)) _ (seal3_len hl) rfl (bys_of (own_sl o2'2) (seal3_len hl)) (by decide) (by decide) (Int.natCast_nonneg _) (by have := sumB_lt (seal3 kind no li) kind; omega)) ?_
 have o3'2 := own_below o3'1 hb7
 rintro _ W12 ⟨_, rfl, hb12, p3, c3, rfl, o3⟩
 have hs12 := (Bl.next (Bl.next (u9.below (Bl.next (Bl.next (u6.below (Bl.next (Bl.next (hB.trans hb3) n4.below) n5.below) g5) hb7) n8.below) g8) hb10) hb11).size
 have hB'1 := Bl.next (Bl.next (Bl.next (u9.below (Bl.next (Bl.next (u6.below (Bl.next (Bl.next (hB.trans hb3) n4.below) n5.below) g5) hb7) n8.below) g8) hb10) hb11) hb12
 have o3'3 := own_mono o3 hs12
 exact xe 14 (.tuple #[.slice p3 256 c3, .int .i64 0]) ⟨_, rfl, hB'1, _, _, rfl, o3'3⟩
end Go.Proofs.YtbhjgcokpmiopaaGreat
namespace Go.Proofs.YtbhjgcokpmiopaaGreat
open Go.RowKit
set_option linter.unusedVariables false
section
variable {P : Program} {Q : Exit → Act → World → Prop} {a : Act} {w : World} {K : Act → World → Prop}
/-- a cut of a slice at both bounds, its capacity cut too -/
theorem run_slice3 {o : Oper} {t e : TypeId} {x y y2 y3 : Operand} {b off n k h c : Nat} {i j j2 : Int} {ki kj kj2 : IntKind} (size off' d : Nat) (ho : o.op = .slice t x (some y) (some y2) (some y3)) (hx : a.eval x = .slice (some ⟨b, off, none⟩) n c) (hy : a.eval y = .int ki i) (hi : i = (k : Int)) (hy2 : a.eval y2 = .int kj j) (hj : j = (h : Int)) (hy3 : a.eval y3 = .int kj2 j2) (hj2 : j2 = (h : Int))
    (hk : k < h) (hc : h ≤ c) (hoff : off + k * size = off') (hd : h - k = d) (ht : P.underlying t = some (.slice e)) (hs : (P.info? e).map (·.size) = some size) (w : World) : (execOp a.eval o).run P w = .ok (.value (.slice (some ⟨b, off', none⟩) d d)) w := by
  cases hq : P.info? e with
  | none => simp [hq] at hs
  | some q =>
    have hj : q.size = size := by simpa [hq] using hs
    subst hi hj hj2 hoff hd
    have h1 : (0 : Int) ≤ (k : Int) := by omega
    have h2 : (0 : Int) ≤ (h : Int) := by omega
    have h3 : (k : Int) ≤ (h : Int) := by omega
    have h4 : (h : Int) ≤ (c : Int) := by omega
    have h5 : ¬ h = k := by omega
    simp_all [execOp, Instr.sliceAt, Instr.slice, Instr.sliceBounds, Instr.sliceBound, asIntOf, run_underlying ht, sizeOf, typeInfo, Addr.add_mid]
/-- where a slice begins that is cut at k -/
def cutA (b : Option Addr) (k c size : Nat) : Option Addr := if c = k then b else b.map (·.add (k * size))
theorem run_sliceLA {o : Oper} {t e : TypeId} {x y : Operand} {b : Option Addr} {n k c : Nat} {i : Int} {ki : IntKind} (size : Nat) (ho : o.op = .slice t x (some y) none none) (hx : a.eval x = .slice b n c) (hy : a.eval y = .int ki i) (hi : i = (k : Int)) (hk : k ≤ n)
    (ht : P.underlying t = some (.slice e)) (hs : (P.info? e).map (·.size) = some size) (w : World) : (execOp a.eval o).run P w = .ok (.value (.slice (cutA b k c size) (n - k) (c - k))) w := by
  cases hq : P.info? e with
  | none => simp [hq] at hs
  | some j =>
    have hj : j.size = size := by simpa [hq] using hs
    subst hi
    have h1 : (0 : Int) ≤ (k : Int) := by omega
    have h2 : (k : Int) ≤ (n : Int) := by omega
    by_cases h3 : c = k
    · simp [execOp, ho, hx, hy, Instr.sliceAt, Instr.slice, Instr.sliceBounds, Instr.sliceBound, asIntOf, run_underlying ht, sizeOf, typeInfo, hq, hk, h3, cutA]
    · simp [execOp, ho, hx, hy, Instr.sliceAt, Instr.slice, Instr.sliceBounds, Instr.sliceBound, asIntOf, run_underlying ht, sizeOf, typeInfo, hq, hj, hk, h3, cutA]
end
end Go.Proofs.YtbhjgcokpmiopaaGreat
namespace Go.Proofs.YtbhjgcokpmiopaaGreat
open Go.RowKit Go.Extern.Stop Go.Stop Go.Extern
set_option linter.unusedVariables false

/-- v is an error: Faults at the blocks of the list (no number: an error of another kind that wraps one), an Errno below, or nothing. -/
def ErrV (w : World) : List (Option Int) → Option Int → Value → Prop
  | [], none, v => v = .nilIface
  | [], some c, v => v = .iface 46 (.int .i64 c)
  | some b :: r, t, v => ∃ blk v', v = .iface 146 (.pointer (some ⟨blk, 0, none⟩)) ∧ Blk w blk [.int .i64 b, v'] 148 ∧ ErrV w r t v'
  | none :: r, t, v => False
theorem ErrV.kept {w w' : World} (hb : ∀ blk cs, Blk w blk cs 148 → Blk w' blk cs 148) : ∀ {l : List (Option Int)} {t : Option Int} {v : Value}, ErrV w l t v → ErrV w' l t v
  | [], none, v, h => h
  | [], some c, v, h => h
  | some b :: r, t, v, ⟨blk, v', h1, h2, h4⟩ => ⟨blk, v', h1, hb _ _ h2, ErrV.kept hb h4⟩
  | none :: r, t, v, h => h.elim
theorem ErrV.below {w w' : World} (hb : Below w.heap.size w w') {l : List (Option Int)} {t : Option Int} {v : Value} (h : ErrV w l t v) : ErrV w' l t v := h.kept fun _ _ k => k.below hb
/-- whether there is an error -/
def noErr (l : List (Option Int)) (t : Option Int) : Bool := l.isEmpty && t.isNone
theorem ErrV.nil_or {w : World} {l : List (Option Int)} {t : Option Int} {v : Value} (h : ErrV w l t v) : (noErr l t = true ∧ v = .nilIface) ∨ (noErr l t = false ∧ ∃ ty x, v = .iface ty x) := by
  match l, t, h with
  | [], none, h => exact .inl ⟨rfl, h⟩
  | [], some c, h => exact .inr ⟨rfl, _, _, h⟩
  | some b :: r, t, ⟨_, _, h, _⟩ => exact .inr ⟨rfl, _, _, h⟩
  | none :: r, t, h => exact h.elim
theorem noErr_true {l : List (Option Int)} {t : Option Int} (h : noErr l t = true) : l = [] ∧ t = none := by
  cases l <;> cases t <;> simp_all [noErr]

/-! ### what the model's entries for internal/reflectlite give at these types -/
theorem Tryz.kindN (w : World) : ((ReflectliteType.abiMethod fun t => (fun a : Nat => Value.int IntKind.u8 (a : Int)) <$> Rtype.kind t) #[.pointer (some ⟨0, 46, none⟩)]).run Tryz.prog w = .ok (.int .u8 2) w := by kernel_rfl
theorem as_rlm (z : Sem Value) (f : TypeId → Addr → Nat → Nat → Sem Value) (v : Value) :
    ReflectliteValue.method z f #[v] = (do match ← ReflectliteValue.parts v with | none => z | some (t, a, fl) => f t a fl (fl % 32)) := rfl
theorem Tryz.implementsN (w : World) : (ReflectliteType.relation "Implements" ReflectliteType.implements_ #[.agg #[.pointer (some ⟨0, 46, none⟩)], .iface 154 (.agg #[.pointer (some ⟨0, 26, none⟩)])]).run Tryz.prog w = .ok (.bool true) w := by kernel_rfl
theorem Tryz.typeOfN (v : Value) (w : World) : (ReflectliteType.typeOf #[.iface 46 v]).run Tryz.prog w = .ok (.iface 154 (.agg #[.pointer (some ⟨0, 46, none⟩)])) w := by kernel_rfl
theorem Tryz.typeOfF (v : Value) (w : World) : (ReflectliteType.typeOf #[.iface 146 v]).run Tryz.prog w = .ok (.iface 154 (.agg #[.pointer (some ⟨0, 146, none⟩)])) w := by kernel_rfl
theorem Tryz.assignN (w : World) : (ReflectliteType.relation "AssignableTo" ReflectliteType.assignableTo #[.agg #[.pointer (some ⟨0, 46, none⟩)], .iface 154 (.agg #[.pointer (some ⟨0, 46, none⟩)])]).run Tryz.prog w = .ok (.bool true) w := by kernel_rfl
theorem Tryz.assignF (w : World) : (ReflectliteType.relation "AssignableTo" ReflectliteType.assignableTo #[.agg #[.pointer (some ⟨0, 146, none⟩)], .iface 154 (.agg #[.pointer (some ⟨0, 46, none⟩)])]).run Tryz.prog w = .ok (.bool false) w := by kernel_rfl
theorem Tryz.valueOfN (c : Int) (w : World) : (ReflectliteValue.unpack (.iface 46 (.int .i64 c))).run Tryz.prog w
    = .ok (.agg #[.pointer (some ⟨0, 46, none⟩), .pointer (some ⟨w.heap.size, 0, none⟩), .int .u64 130]) (w.alloc (.cells #[.int .i64 c] 46)) := by kernel_rfl
theorem Tryz.mkN (p : Addr) (w : World) : (ReflectliteValue.mk 46 p ReflectliteValue.flagAddr).run Tryz.prog w = .ok (.agg #[.pointer (some ⟨0, 46, none⟩), .pointer (some p), .int .u64 386]) w := by kernel_rfl
theorem as_rls (v x : Value) : ReflectliteValue.set #[v, x] = (do
    let (some (dst, a, fl), some (src, b, _)) := (← ReflectliteValue.parts v, ← ReflectliteValue.parts x)
      | unsupported (.noEntry "extern/(internal/reflectlite.Value).Set.zeroValue")
    if fl / ReflectliteValue.flagAddr % 2 == 0 then unsupported (.noEntry "extern/(internal/reflectlite.Value).Set.unaddressable")
    let val ← loadVar src b
    if ← Rtype.directlyAssignable dst src then storeVar dst a val
    else if ← Rtype.implements dst src then
      if (← Rtype.kind src) == 20 then
        match val with
        | .nilIface => unsupported (.noEntry "extern/reflectlite: a nil value of one interface type handed on as a value of another")
        | _ => storeVar dst a val
      else storeVar dst a (.iface src val)
    else panicString ("reflectlite.Set: value of type " ++ (← Rtype.spelt src) ++ " is not assignable to type " ++ (← Rtype.spelt dst))
    pure (.tuple #[])) := rfl
theorem Tryz.partsNa (a : Addr) (w : World) : (ReflectliteValue.parts (.agg #[.pointer (some ⟨0, 46, none⟩), .pointer (some a), .int .u64 386])).run Tryz.prog w = .ok (some (46, a, 386)) w := by kernel_rfl
theorem Tryz.partsN (a : Addr) (w : World) : (ReflectliteValue.parts (.agg #[.pointer (some ⟨0, 46, none⟩), .pointer (some a), .int .u64 130])).run Tryz.prog w = .ok (some (46, a, 130)) w := by kernel_rfl
theorem Tryz.directN (w : World) : (Rtype.directlyAssignable 46 46).run Tryz.prog w = .ok true w := by kernel_rfl
theorem Tryz.setN (ta b : Addr) (c : Int) (old : Value) (W : World) (hb : W.cell? b = some (.int .i64 c)) (ht : W.cell? ta = some old) (hf : W.frozen? ta = false) :
    (ReflectliteValue.set #[.agg #[.pointer (some ⟨0, 46, none⟩), .pointer (some ta), .int .u64 386], .agg #[.pointer (some ⟨0, 46, none⟩), .pointer (some b), .int .u64 130]]).run Tryz.prog W
      = .ok (.tuple #[]) (W.setCell ta (.int .i64 c)) := by
  rw [as_rls]
  simp only [Sem.run_bind, Tryz.partsNa, Tryz.partsN, Result.andThen]
  simp [ReflectliteValue.flagAddr, loadVar, isAgg, underlying, Tryz.underlying46, hb, Result.andThen, Tryz.directN, storeVar, Value.cells, storeCells, Addr.add]
  rw [run_store Tryz.prog W ta _ _ (by rfl)]
  simp [ht, hf]

/-! ### what the library's assertions find -/
theorem Tryz.noIsF (v : Value) (xT : TypeId) (w : World) : (Instr.typeAssert (.iface 146 v) xT 156 true).run Tryz.prog w = .ok (.tuple #[.nilIface, .bool false]) w := run_typeAssert_lacksB Tryz.underlying156 (by kernel_rfl) (by kernel_rfl) v xT w
theorem Tryz.hasUnwrapF (v : Value) (xT : TypeId) (w : World) : (Instr.typeAssert (.iface 146 v) xT 159 true).run Tryz.prog w = .ok (.tuple #[.iface 146 v, .bool true]) w := run_typeAssert_hasB Tryz.underlying159 (by kernel_rfl) v xT w
theorem Tryz.noIsN (v : Value) (xT : TypeId) (w : World) : (Instr.typeAssert (.iface 46 v) xT 156 true).run Tryz.prog w = .ok (.tuple #[.nilIface, .bool false]) w := run_typeAssert_lacksB Tryz.underlying156 (by kernel_rfl) (by kernel_rfl) v xT w
theorem Tryz.noUnwrapN (v : Value) (xT : TypeId) (w : World) : (Instr.typeAssert (.iface 46 v) xT 159 true).run Tryz.prog w = .ok (.tuple #[.nilIface, .bool false]) w := run_typeAssert_lacksB Tryz.underlying159 (by kernel_rfl) (by kernel_rfl) v xT w
theorem Tryz.noUnwrapsN (v : Value) (xT : TypeId) (w : World) : (Instr.typeAssert (.iface 46 v) xT 161 true).run Tryz.prog w = .ok (.tuple #[.nilIface, .bool false]) w := run_typeAssert_lacksB Tryz.underlying161 (by kernel_rfl) (by kernel_rfl) v xT w
theorem Tryz.isFF (v : Value) (w : World) : (Instr.typeAssert (.iface 146 v) 26 146 true).run Tryz.prog w = .ok (.tuple #[v, .bool true]) w := by kernel_rfl
theorem Tryz.isNF (v : Value) (w : World) : (Instr.typeAssert (.iface 46 v) 26 146 true).run Tryz.prog w = .ok (.tuple #[.pointer none, .bool false]) w := by kernel_rfl
theorem Tryz.isnilF (w : World) : (Instr.typeAssert .nilIface 26 146 true).run Tryz.prog w = .ok (.tuple #[.pointer none, .bool false]) w := by kernel_rfl

end Go.Proofs.YtbhjgcokpmiopaaGreat
namespace Go.Proofs.YtbhjgcokpmiopaaGreat
open Go.RowKit Go.Extern.Stop Go.Stop Go.Extern
set_option linter.unusedVariables false

theorem Tryz.methUnwrapF (v : Value) (w : World) : (Go.method 300 146 v "Unwrap").run Tryz.prog w = .ok (119, v) w := by kernel_rfl
theorem Tryz.nilUnwrapF (a : Addr) (w : World) : (nilAhead 300 146 (.pointer (some a)) "Unwrap").run Tryz.prog w = .ok (some false) w := by kernel_rfl
set_option maxHeartbeats 400000 in
theorem fault_unwrapM (blk : Nat) (v' : Value) (w : World) (h : w.cell? ⟨blk, 1, none⟩ = some v') :
    Calls Tryz.prog 119 #[.pointer (some ⟨blk, 0, none⟩)] w fun e w' => e = .returned v' ∧ w' = w := by
  go_enter Tryz.func119, Tryz.ntmps119
  go_wp2_with fail
  go_ret
  exact ⟨rfl, rfl⟩
theorem Tryz.methAssign (h : Value) (w : World) : (Go.method 300 154 (.agg #[h]) "AssignableTo").run Tryz.prog w = .ok (122, .agg #[h]) w := by kernel_rfl
theorem Tryz.methKind (h : Value) (w : World) : (Go.method 300 154 (.agg #[h]) "Kind").run Tryz.prog w = .ok (120, h) w := by kernel_rfl
theorem Tryz.methElem (h : Value) (w : World) : (Go.method 300 154 (.agg #[h]) "Elem").run Tryz.prog w = .ok (124, .agg #[h]) w := by kernel_rfl
theorem Tryz.methImplements (h : Value) (w : World) : (Go.method 300 154 (.agg #[h]) "Implements").run Tryz.prog w = .ok (125, .agg #[h]) w := by kernel_rfl

/-- where errors.as ends: it has set the target, or it has not -/
def AsPost (T : Nat) (t : Option Int) (w : World) (e : Ending) (w' : World) : Prop :=
  match t with
  | some c => e = .returned (.bool true) ∧ ∃ w1, Below w.heap.size w w1 ∧ w' = w1.setCell ⟨T, 0, none⟩ (.int .i64 c)
  | none => e = .returned (.bool false) ∧ Below w.heap.size w w'

end Go.Proofs.YtbhjgcokpmiopaaGreat
namespace Go.Proofs.YtbhjgcokpmiopaaGreat
open Go.RowKit Go.Extern.Stop Go.Stop Go.Extern
set_option linter.unusedVariables false

/-- the number of an error -/
def codeOf (l : List (Option Int)) (t : Option Int) : Int := if noErr l t then 0 else t.getD 18

def atL (b : Int) (l : List (Option Int)) (t : Option Int) : List (Option Int) := if noErr l t then l else some b :: l
set_option maxHeartbeats 400000 in
theorem fault_At (b : Int) (t : Option Int) (l : List (Option Int)) (v : Value) (w : World) (hv : ErrV w l t v) :
    Calls Tryz.prog 74 #[.int .i64 b, v] w (RetS (fun w' r => ErrV w' (atL b l t) t r) w) := by
  rcases hv.nil_or with ⟨hz, rfl⟩ | ⟨hz, ty, x, rfl⟩
  · simp only [atL, hz, if_true]
    go_enter Tryz.func74, Tryz.ntmps74
    go_wp2_with fail
    go_ret
    exact ⟨_, rfl, Below.refl _ _, hv⟩
  simp only [atL, hz, Bool.false_eq_true, if_false]
  go_enter Tryz.func74, Tryz.ntmps74
  go_wp2_with fail
  go_ret
  have k := Blk.new w [.int .i64 b, .iface ty x] 148
  exact ⟨_, rfl, Bl.box _ _, w.heap.size, _, rfl, k, hv.below (Bl.box _ _)⟩

/-- the blocks of an error -/
def errM (l : List (Option Int)) (t : Option Int) : Nat := l.length + if t.isSome then 1 else 0
def blocksOf (l : List (Option Int)) : List Int := l.filterMap id
end Go.Proofs.YtbhjgcokpmiopaaGreat
namespace Go.Proofs.YtbhjgcokpmiopaaGreat
open Go.RowKit Go.Extern.Stop Go.Stop Go.Extern
set_option linter.unusedVariables false

theorem errno_eq {P : Program} (w : World) {ti tn : TypeId} {ms : Array (String × TypeId)} {i : TypeInfo} {k : IntKind} (a b : Int)
    (hi : P.underlying ti = some (.interface ms)) (hn : P.underlying tn = some (.int k)) (hinfo : P.info? tn = some i) (hcomp : i.comparable = true) :
    (binOp .eql ti (.iface tn (.int k a)) (.iface tn (.int k b))).run P w = .ok (.bool (a == b)) w := by
  have h : ∀ d : Nat, (Op.equalIn (d + 2) ti (.iface tn (.int k a)) (.iface tn (.int k b))).run P w = .ok (a == b) w := fun d => by simp [Op.equalIn, run_underlying hi, run_underlying hn, typeInfo, hinfo, hcomp]
  simp only [binOp]
  simp [Op.equal, Op.maxDepth, h 9998]
theorem Tryz.eqN (a b : Int) (w : World) : (binOp .eql 26 (.iface 46 (.int .i64 a)) (.iface 46 (.int .i64 b))).run Tryz.prog w = .ok (.bool (a == b)) w := by
  obtain ⟨i, h1, h2⟩ := Option.map_eq_some_iff.1 (show (Tryz.prog.info? 46).map (·.comparable) = some true by kernel_rfl)
  exact errno_eq w a b Tryz.underlying26 Tryz.underlying46 h1 h2
theorem Tryz.methComparable (h : Value) (w : World) : (Go.method 300 154 (.agg #[h]) "Comparable").run Tryz.prog w = .ok (123, .agg #[h]) w := by kernel_rfl
theorem Tryz.comparableN (w : World) : (callFunc 123 #[.agg #[.pointer (some ⟨0, 46, none⟩)]]).run Tryz.prog w = .ok (Next.value (.bool true)) w := by kernel_rfl

set_option maxRecDepth 100000 in
set_option maxHeartbeats 2000000 in
theorem errors_isN (c d : Int) (w : World) : Calls Tryz.prog 94 #[.iface 46 (.int .i64 c), .iface 46 (.int .i64 d), .bool true] w (Ret (.bool (c == d)) w) := by
  have y1 := Tryz.eqN
  have y2 := Tryz.noIsN
  have y3 := Tryz.noUnwrapN
  have y4 := Tryz.noUnwrapsN
  go_enter Tryz.func94, Tryz.ntmps94
  go_wp2_with fail
  go_loopw [0] (fun v wr => v = .iface 46 (.int .i64 c) ∧ wr = w) (fun _ _ => 0)
  case atStart => exact ⟨rfl, rfl⟩
  case round =>
    obtain ⟨rfl, rfl⟩ := hrel
    by_cases h : c = d
    · have h' : (c == d) = true := by simpa using h
      have HH := Lib.hid h; clear h
      go_wp2_with fail
      go_ret
      exact ⟨by rw [h']; rfl, Below.refl _ _⟩
    · have h' : (c == d) = false := by simpa using h
      have HH := Lib.hid h; clear h
      go_wp2_with fail
      go_ret
      exact ⟨by rw [h']; rfl, Below.refl _ _⟩
set_option maxRecDepth 100000 in
set_option maxHeartbeats 2000000 in
theorem errors_IsN (c d : Int) (w : World) : Calls Tryz.prog 73 #[.iface 46 (.int .i64 c), .iface 46 (.int .i64 d)] w (Ret (.bool (c == d)) w) := by
  have h66 := @run_callFunc_extern Tryz.prog 93 _ ReflectliteType.typeOf Tryz.func93 (by kernel_rfl) (by kernel_rfl) (by kernel_rfl) (by kernel_rfl)
  have y1 := Tryz.typeOfN
  have y2 := Tryz.methComparable
  have y3 := Tryz.comparableN
  go_enter Tryz.func73, Tryz.ntmps73
  go_wp2_with fail
  refine (errors_isN c d _).mono ?_
  rintro e w' ⟨rfl, hb⟩
  go_wp2_with fail
  go_ret
  exact ⟨rfl, hb⟩
end Go.Proofs.YtbhjgcokpmiopaaGreat
namespace Go.Proofs.YtbhjgcokpmiopaaGreat
open Go.RowKit Go.Extern.Stop Go.Stop Go.Extern
set_option linter.unusedVariables false

set_option maxHeartbeats 1000000 in
theorem block_told (no c : Int) (w : World) : Calls Tryz.prog 47 #[.int .i64 no, .iface 46 (.int .i64 c)] w (RetS (fun w' r => ErrV w' (if c = 0 then [] else [some no]) (if c = 0 then none else some c) r) w) := by
  by_cases h : c = 0
  · subst h
    go_enter Tryz.func47, Tryz.ntmps47
    go_wp2_with fail
    refine (errors_IsN 0 0 _).mono ?_
    rintro e w1 ⟨rfl, hb⟩
    rw [show ((0 : Int) == 0) = true from rfl]
    go_wp2_with fail
    go_ret
    exact ⟨_, rfl, hb, rfl⟩
  · have h' : (c == 0) = false := by simpa using h
    simp only [h, if_false]
    have HC := Lib.hid h; clear h
    go_enter Tryz.func47, Tryz.ntmps47
    go_wp2_with fail
    refine (errors_IsN c 0 _).mono ?_
    rintro e w1 ⟨rfl, hb⟩
    rw [h']
    go_wp2_with fail
    refine (fault_At no (some c) [] _ w1 rfl).mono ?_
    rintro e w2 ⟨r, rfl, hb2, h2⟩
    go_wp2_with fail
    go_ret
    exact ⟨_, rfl, Bl.next hb hb2, h2⟩

theorem Tryz.nilBytes (w : World) : (binOp .eql 45 (.slice none 0 0) (.slice none 0 0)).run Tryz.prog w = .ok (.bool true) w := by kernel_rfl
set_option maxRecDepth 100000 in
set_option maxHeartbeats 1000000 in
theorem image_Of_nil (w : World) : Calls Tryz.prog 13 #[.slice none 0 0] w fun e w' => e = .returned (.pointer (some ⟨w.heap.size, 0, none⟩)) ∧ w' = w.alloc (.cells #[.slice none 0 0] 71) := by
  have y := Tryz.nilBytes
  go_enter Tryz.func13, Tryz.ntmps13
  go_wp2
  go_ret
  exact ⟨rfl, rfl⟩
set_option maxRecDepth 100000 in
set_option maxHeartbeats 1000000 in
theorem image_Read_nil (b : Nat) (k : Int) (w : World) (h : Blk w b [.slice none 0 0] 71) (hk : 0 ≤ k) : Calls Tryz.prog 46 #[.pointer (some ⟨b, 0, none⟩), .int .i64 k] w (Ret (.tuple #[.slice none 0 0, .int .i64 3]) w) := by
  have c0 := h.cell (i := 0) rfl
  have hk' : ¬ (k < 0) := by omega
  have y := Tryz.nilBytes
  go_enter Tryz.func46, Tryz.ntmps46
  go_wp2
  exact bodyPost_ret (v := .tuple #[.slice none 0 0, .int .i64 3]) (by simp [results, Tryz.results46, go_sem]) rfl ⟨rfl, Below.refl _ _⟩

theorem range_below {w w' : World} {b o : Nat} {cs : List Value} (h : w.rangeAt b o cs) (hb : Below w.heap.size w w') : w'.rangeAt b o cs := fun j v hj => getC hb (h j v hj)
theorem Blk.range {w : World} {b : Nat} {cs : List Value} {t : TypeId} (h : Blk w b cs t) : w.rangeAt b 0 cs := fun j v hj => by rw [Nat.zero_add]; exact h.cell hj
theorem Blk.there {w : World} {b : Nat} {cs : List Value} {t : TypeId} (h : Blk w b cs t) {n : Nat} (hn : n = cs.length) : w.there b 0 n := fun j hj => by
  rw [Nat.zero_add]
  exact ⟨by rw [h.cell (List.getElem?_eq_getElem (by omega))]; rfl, h.frozen j⟩
end Go.Proofs.YtbhjgcokpmiopaaGreat
namespace Go.Proofs.YtbhjgcokpmiopaaGreat
open Go.RowKit Go.Extern.Stop Go.Stop Go.Extern
set_option linter.unusedVariables false
attribute [local irreducible] wpList wpAnyH Code.wp Oper.wp Go

theorem quo_nat (n k : Nat) (hn : n < 9223372036854775808) (hk : 0 < k) : IntKind.i64.wrap (Int.tdiv (n : Int) (k : Int)) = ((n / k : Nat) : Int) := by
  rw [Int.tdiv_eq_ediv_of_nonneg (Int.natCast_nonneg _), ← Int.natCast_ediv]
  exact i64_nat (Nat.lt_of_le_of_lt (Nat.div_le_self _ _) hn)
theorem min_cast (a b : Nat) : (if (b : Int) < (a : Int) then (b : Int) else (a : Int)) = ((min a b : Nat) : Int) := by split <;> omega
/-- an image at block b: its bytes are l, in a row of its own -/
def Img (B : Nat) (w : World) (b : Nat) (p : Option Addr) (c : Nat) (l : List UInt8) : Prop := Blk w b [.slice p l.length c] 71 ∧ w.ownsRow B 5 1 (.slice p l.length c) l.length (l.map bv)
set_option maxRecDepth 100000 in
set_option maxHeartbeats 1000000 in
theorem image_Blocks (b : Nat) (p : Option Addr) (n c : Nat) (w : World) (hk : Blk w b [.slice p n c] 71) (hn : n ≤ 100000000) :
    Calls Tryz.prog 14 #[.pointer (some ⟨b, 0, none⟩)] w (Ret (.int .i64 ((n / 256 : Nat) : Int)) w) := by
 refine zin 11 Tryz.func14 ?_
 refine xb 20 0 hk ?_
 refine xq 1 (congrArg (Value.int .i64) (show (IntKind.i64.wrap (Int.tdiv (↑n : Int) 256) : Int) = (↑(n / 256) : Int) from quo_nat n 256 (by omega) (by decide))) ?_
 exact xe 4 (.int .i64 (↑(n / 256) : Int)) ⟨rfl, (Below.refl w.heap.size _)⟩
set_option maxRecDepth 100000 in
set_option maxHeartbeats 1000000 in
theorem image_Of (a : Option Addr) (c : Nat) (l : List UInt8) (w : World) (h : Bys w (.slice a l.length c) l) (hl : l.length ≤ 100000000) (hc : l.length ≤ c) :
    Calls Tryz.prog 13 #[.slice a l.length c] w (RetS (fun w' r => ∃ b p c, r = .pointer (some ⟨b, 0, none⟩) ∧ w.heap.size ≤ b ∧ Blk w' b [.slice p (min (l.length / 256) 14400 * 256) c] 71 ∧ w'.ownsRow w.heap.size 5 1 (.slice p (min (l.length / 256) 14400 * 256) c) (min (l.length / 256) 14400 * 256) ((l.take (min (l.length / 256) 14400 * 256)).map bv)) w) := by
 refine zin 15 Tryz.func13 ?_
 refine xq 9 (congrArg (Value.int .i64) (show (IntKind.i64.wrap (Int.tdiv (↑l.length : Int) 256) : Int) = (↑(l.length / 256) : Int) from quo_nat l.length 256 (by omega) (by decide))) ?_
 refine xq 0 (congrArg (Value.int .i64) (show (if (14400 : Int) < (↑(l.length / 256) : Int) then (14400 : Int) else (↑(l.length / 256) : Int) : Int) = (↑(min (l.length / 256) 14400) : Int) from min_cast (l.length / 256) 14400)) ?_
 refine xwm 7 ((↑(min (l.length / 256) 14400) : Int) * 256) (↑((min (l.length / 256) 14400) * 256) : Int) ?_
 refine xsH 0 (fun _ _ _ _ zo zx zy V => run_sliceH (k := ((min (l.length / 256) 14400) * 256)) (b := a) (n := l.length) (c := c) (i := (↑((min (l.length / 256) 14400) * 256) : Int)) (ki := .i64) zo zx zy rfl (by omega) Tryz.underlying45 (by kernel_rfl) V) ?_
 refine xc 0 (args := #[.slice a ((min (l.length / 256) 14400) * 256) c]) (clone_bytesN a (min (l.length / 256) 14400 * 256) c (l.take (min (l.length / 256) 14400 * 256)) _ (by simp; omega) ((h.take rfl _ (by omega)).below (Below.refl w.heap.size _)) (by omega)) ?_
 rintro _ W1 ⟨_, rfl, hb1, ho⟩
 have hs1 := Nat.le_refl w.heap.size
 have ho'1 := own_mono ho hs1
 unfold OwnB at ho'1
 rw [show (l.take (min (l.length / 256) 14400 * 256)).length = min (l.length / 256) 14400 * 256 by simp; omega] at ho'1
 obtain ⟨pd, cd, rfl⟩ := (own_sl ho'1).slice
 refine xa 1 [.slice pd (min (l.length / 256) 14400 * 256) cd] 71 fun b2 W2 n2 => ?_
 have hB := Bl.next hb1 n2.below
 have g2 := n2.ge hb1
 have ho'2 := own_below ho'1 n2.below
 exact xe 4 (.pointer (some ⟨b2, 0, none⟩)) ⟨_, rfl, hB, _, _, _, rfl, g2, n2.blk, ho'2⟩
set_option maxRecDepth 100000 in
set_option maxHeartbeats 1000000 in
theorem image_block (b g : Nat) (n c k : Nat) (w : World) (hk : Blk w b [.slice (some ⟨g, 0, none⟩) n c] 71) (hn : n ≤ 100000000) (hc : n ≤ c) (hkn : k < n / 256) :
    Calls Tryz.prog 72 #[.pointer (some ⟨b, 0, none⟩), .int .i64 (↑k : Int)] w (Ret (.tuple #[.slice (some ⟨g, k * 256, none⟩) 256 256, .int .i64 0]) w) := by
 refine zin 33 Tryz.func72 ?_
 refine xgk 21 [13, 14] (show (decide ((↑k : Int) < (0 : Int)) : Bool) = false from decide_eq_false (by omega)) ?_
 refine xr 2 (args := #[.pointer (some ⟨b, 0, none⟩)]) (image_Blocks b _ n c _ (hk.below (Below.refl w.heap.size _)) hn) fun W2 hb2 => ?_
 refine xk 5 (show (decide ((↑k : Int) ≥ (↑(n / 256) : Int)) : Bool) = false from decide_eq_false (by omega)) ?_
 refine xwm 6 ((↑k : Int) * 256) (↑(k * 256) : Int) ?_
 refine xwm 1 ((↑k : Int) + 1) (↑(k + 1) : Int) ?_
 refine xwm 0 ((↑(k + 1) : Int) * 256) (↑((k + 1) * 256) : Int) ?_
 have hk'1 := hk.below hb2
 refine xb 9 0 hk'1 ?_
 refine xs3 3 (fun _ _ _ _ _ _ zo zx zy zz zm V => run_slice3 (k := (k * 256)) (h := ((k + 1) * 256)) (b := g) (off := 0) (n := n) (c := c) (i := (↑(k * 256) : Int)) (ki := .i64) (j := (↑((k + 1) * 256) : Int)) (kj := .i64) (j2 := (↑((k + 1) * 256) : Int)) (kj2 := .i64) 1 (k * 256) 256 zo zx zy rfl zz rfl zm rfl (by omega) (by omega) (by omega) (by omega) Tryz.underlying45 (by kernel_rfl) V) ?_
 exact xe 5 (.tuple #[.slice (some ⟨g, (k * 256), none⟩) 256 256, .int .i64 0]) ⟨rfl, hb2⟩
/-- what is left when a row of bytes was written: nothing below B, nothing but bytes -/
def WroteB (B g n c : Nat) (l : List UInt8) (v : Value) (w : World) (e : Ending) (w' : World) : Prop :=
  e = .returned v ∧ Below B w w' ∧ Only [5] w w' ∧ Fr [g] w w' ∧ w'.ownsRow B 5 1 (.slice (some ⟨g, 0, none⟩) n c) n (l.map bv)
set_option maxRecDepth 100000 in
set_option maxHeartbeats 1000000 in
theorem image_Write (B b g : Nat) (n c k : Nat) (l : List UInt8) (a : Option Addr) (cx : Nat) (lx : List UInt8) (w : World) (hk : Blk w b [.slice (some ⟨g, 0, none⟩) n c] 71) (ho : w.ownsRow B 5 1 (.slice (some ⟨g, 0, none⟩) n c) n (l.map bv)) (hn : n ≤ 100000000) (hc : n ≤ c) (hkn : k < n / 256) (hx : Bys w (.slice a 256 cx) lx) (hlx : lx.length = 256) (hBw : B ≤ w.heap.size) :
    Calls Tryz.prog 71 #[.pointer (some ⟨b, 0, none⟩), .int .i64 (↑k : Int), .slice a 256 cx] w (WroteB B g n c (putB l (k * 256) lx) (.int .i64 0) w) := by
 replace hx : Sl w (.slice a 256 cx) 256 (lx.map bv) := by
   have := hx
   unfold Bys at this
   rwa [hlx] at this
 refine zin 24 Tryz.func71 ?_
 refine xr 9 (args := #[.pointer (some ⟨b, 0, none⟩), .int .i64 (↑k : Int)]) (image_block b g n c k _ hk hn hc hkn) fun W1 hb1 => ?_
 have ho'1 := own_below ho hb1
 have hx'1 := hx.below hb1
 have hB := Bl.nextB (Below.refl B w) hBw hb1
 refine xbi 32 (t2 := 45) fun _ _ _ _ zJ zQ zo zx zy zK => op_copy (dLen := 256) (dCap := 256) (off := (k * 256)) 256 (lx.map bv) ((putB l (k * 256) lx).map bv) zo Tryz.underlying45 (by kernel_rfl) zx zy hx'1 ho'1 (by simpa using hlx) (by omega) (by omega) (bv_one _) (Nat.le_trans hBw hB.size) (by simp [putB, hlx, List.map_take, List.map_drop]) fun W2 o2 hg2 hb2 => ?_
 refine zK _ _ ?_
 have hB'1 := hB.trans hb2
 have hO := (show Only [5] w _ from (Only.of_below hb1)).trans (Only.of_grown hg2 ho'1 (by decide))
 have hX := (show Fr [g] w _ from (Fr.of_below hb1)).trans (Fr.of_grown hg2 (by simp))
 exact xe 8 (.int .i64 0) ⟨rfl, hB'1, hO, hX, o2⟩
set_option maxRecDepth 100000 in
set_option maxHeartbeats 1000000 in
theorem block_Write (B b g : Nat) (n c k : Nat) (l : List UInt8) (kind : Int) (a : Option Addr) (ca : Nat) (li : List UInt8) (w : World) (hk : Blk w b [.slice (some ⟨g, 0, none⟩) n c] 71) (ho : w.ownsRow B 5 1 (.slice (some ⟨g, 0, none⟩) n c) n (l.map bv)) (hn : n ≤ 3686400) (hc : n ≤ c) (hkn : k < n / 256) (h1 : 1 ≤ kind) (h2 : kind ≤ 4) (hin : Bys w (.slice a li.length ca) li) (hl : li.length ≤ 244) (hBw : B ≤ w.heap.size) :
    Calls Tryz.prog 44 #[.pointer (some ⟨b, 0, none⟩), .int .i64 (↑k : Int), .int .i64 kind, .slice a li.length ca] w (WroteB B g n c (putB l (k * 256) (sealB kind k li)) .nilIface w) := by
 refine zin 28 Tryz.func44 ?_
 refine xc 10 (args := #[.int .i64 kind, .int .i64 (↑k : Int), .slice a li.length ca]) (seal_Seal kind k h1 h2 (by omega) (by omega) a ca li _ hl hin) ?_
 rintro _ W1 ⟨_, rfl, hb1, p, c2, rfl, o⟩
 have hs1 := Nat.le_refl w.heap.size
 have hk'1 := hk.below hb1
 have ho'1 := own_below ho hb1
 have o'1 := own_mono o hs1
 have hB := Bl.nextB (Below.refl B w) hBw hb1
 refine xc 19 (args := #[.pointer (some ⟨b, 0, none⟩), .int .i64 (↑k : Int), .slice p 256 c2]) (image_Write B b g n c k l p c2 (sealB kind k li) _ hk'1 ho'1 (by omega) hc hkn (bys_of (own_sl o'1) (sealB_len hl)) (sealB_len hl) (Nat.le_trans hBw hB.size)) ?_
 rintro _ W2 ⟨rfl, hb2, hO2, hX2, ho2⟩
 refine xc 8 (args := #[.int .i64 (↑k : Int), .iface 46 (.int .i64 0)]) (block_told k 0 _) ?_
 rintro _ W3 ⟨r, rfl, hb3, hr⟩
 obtain rfl : r = .nilIface := hr
 have hB'1 := Bl.nextB (hB.trans hb2) hBw hb3
 have hO := ((show Only [5] w _ from (Only.of_below hb1)).trans hO2).trans (Only.of_below hb3)
 have hX := ((show Fr [g] w _ from (Fr.of_below hb1)).trans (hX2.mono (by simp))).trans (Fr.of_below hb3)
 have ho2'1 := own_below ho2 hb3
 exact xe 4 .nilIface ⟨rfl, hB'1, hO, hX, ho2'1⟩
end Go.Proofs.YtbhjgcokpmiopaaGreat
namespace Go.Proofs.YtbhjgcokpmiopaaGreat
open Go.RowKit Go.Extern.Stop Go.Stop Go.Extern
set_option linter.unusedVariables false
attribute [local irreducible] wpList wpAnyH Code.wp Oper.wp Go

/-- j numbers from f on -/
def rngJ (f j : Nat) : List Int := (List.range j).map fun i => ((f + i : Nat) : Int)
theorem rngJ_succ (f j : Nat) : rngJ f (j + 1) = rngJ f j ++ [((f + j : Nat) : Int)] := by simp [rngJ, List.range_succ]
theorem rngJ_get {f N k : Nat} (h : k < N) : (rngJ f N).getD k 0 = ((f + k : Nat) : Int) := by simp [rngJ, List.getD, List.getElem?_range h]
theorem rngJ_len (f j : Nat) : (rngJ f j).length = j := by simp [rngJ]
/-- an allocator that has handed out k of N numbers from f on, of an image whose bytes are l -/
structure Al (B ba b g n c : Nat) (pa : Option Addr) (ca f N k : Nat) (l : List UInt8) (w : World) : Prop where
  blkA : Blk w ba [.slice pa N ca, .int .i64 (k : Int), .pointer (some ⟨b, 0, none⟩)] 64
  blkI : Blk w b [.slice (some ⟨g, 0, none⟩) n c] 71
  data : w.ownsRow B 5 1 (.slice (some ⟨g, 0, none⟩) n c) n (l.map bv)
  nums : w.ownsRow B 3 1 (.slice pa N ca) N ((rngJ f N).map (Value.int .i64))
/-- what never changes of it -/
structure AlC (B ba n c ca f N : Nat) : Prop where
  hn : n ≤ 3686400
  hc : n ≤ c
  hca : N ≤ ca
  hf : f + N ≤ n / 256
  hB : B ≤ ba
set_option maxRecDepth 100000 in
set_option maxHeartbeats 1000000 in
theorem alloc_New (b : Nat) (p0 : Option Addr) (n c f : Nat) (w : World) (hk : Blk w b [.slice p0 n c] 71) (hn : n ≤ 3686400) (h1 : 1 ≤ f) (h2 : f ≤ n / 256) :
    Calls Tryz.prog 12 #[.pointer (some ⟨b, 0, none⟩), .int .i64 (↑f : Int)] w (RetS (fun w' r => ∃ ba p c2, r = .tuple #[.pointer (some ⟨ba, 0, none⟩), .nilIface] ∧ w.heap.size ≤ ba ∧ Blk w' ba [.slice p (n / 256 - f) c2, .int .i64 0, .pointer (some ⟨b, 0, none⟩)] 64 ∧ w'.ownsRow w.heap.size 3 1 (.slice p (n / 256 - f) c2) (n / 256 - f) ((rngJ f (n / 256 - f)).map (Value.int .i64))) w) := by
 refine zin 37 Tryz.func12 ?_
 refine xgk 16 [12, 13, 14] (show (decide ((↑f : Int) < (1 : Int)) : Bool) = false from decide_eq_false (by omega)) ?_
 refine xr 2 (args := #[.pointer (some ⟨b, 0, none⟩)]) (image_Blocks b p0 n c _ hk (by omega)) fun W2 hb2 => ?_
 refine xk 4 (show (decide ((↑f : Int) > (↑(n / 256) : Int)) : Bool) = false from decide_eq_false (by omega)) ?_
 have hk'1 := hk.below hb2
 refine zl 15 37 (fun zm zkv V => ∃ (j : Nat) (p : Option Addr) (c2 : Nat), zkv = [(0, .pointer (some ⟨b, 0, none⟩)), (4, .pointer none), (5, .nilIface), (6, .slice p j c2), (7, .int .i64 (↑(f + j) : Int))] ∧ zm = n / 256 - ((↑(f + j) : Int)).toNat ∧ Below w.heap.size w V ∧ Blk V b ([.slice p0 n c]) 71 ∧ V.ownsRow w.heap.size 3 1 (.slice p j c2) j ((rngJ f j).map (Value.int .i64)) ∧ f + j ≤ n / 256) ⟨0, _, _, rfl, rfl, hb2, hk'1, World.ownsRow_nil _ _ _ _, by omega⟩ ?_
 rintro _ _ W3 ⟨j, p, c2, rfl, rfl, hB_3, k3_b, ho, hj⟩ J3 hJ3 r3
 refine xr 5 (args := #[.pointer (some ⟨b, 0, none⟩)]) (image_Blocks b p0 n c _ k3_b (by omega)) fun W4 hb4 => ?_
 refine xid 3 ((↑(f + j) : Int) < (↑(n / 256) : Int)) (fun hc5 => ?_) (fun hc5 => ?_)
 · refine xbs 7 1 [.int .i64 (↑(f + j) : Int)] 3 fun b6 W6 n6 => ?_
   have ho'1 := own_below ho hb4
   have r6_ho := own_ne ho'1 n6
   have ho'2 := own_below ho'1 n6.below
   have hB'1 := Bl.next (Bl.next hB_3 hb4) n6.below
   refine xbi 0 fun _ _ _ _ zJ zQ zo zx zy zK => op_app (m := 1) (news := [.int .i64 (↑(f + j) : Int)]) (.int .i64 0) 1 8 (j + 1) ((rngJ f (j + 1)).map (Value.int .i64)) zo Tryz.underlying24 (by kernel_rfl) rfl (by decide) zx ho'2 zy (n6.blk.sl 1 1 (by decide) (by decide)) rfl (by simp [Value.oneCell']) (by unfold maxLen; omega) (by omega) hB'1.size (by rfl) (by rw [rngJ_succ]; simp) fun p7 c7 W7 o7 hg7 hb7 => ?_
   refine zK _ _ ?_
   refine xwm 6 ((↑(f + j) : Int) + 1) (↑((f + j) + 1) : Int) ?_
   have hB'2 := hB'1.trans hb7
   have k3_b'1 := ((k3_b.below hb4).below n6.below).grown hg7 ho'2 (by decide)
   exact ze 2 (hJ3 _ _ _ ⟨j + 1, _, _, rfl, rfl, hB'2, k3_b'1, o7, by omega⟩ (by omega))
 refine xa 11 [.slice p j c2, .int .i64 0, .pointer (some ⟨b, 0, none⟩)] 64 fun b8 W8 n8 => ?_
 have hB'3 := Bl.next (Bl.next hB_3 hb4) n8.below
 have g8 := n8.ge (Bl.next hB_3 hb4)
 have ho'3 := own_below (own_below ho hb4) n8.below
 refine xe 5 (.tuple #[.pointer (some ⟨b8, 0, none⟩), .nilIface]) ?_
 obtain rfl : j = n / 256 - f := by omega
 exact ⟨_, rfl, hB'3, _, _, _, rfl, g8, n8.blk, ho'3⟩
set_option maxRecDepth 100000 in
set_option maxHeartbeats 1000000 in
theorem alloc_nobody (ba b : Nat) (v x : Value) (w : World) (hk : Blk w ba [v, x, .pointer (some ⟨b, 0, none⟩)] 64) :
    Calls Tryz.prog 25 #[.pointer (some ⟨ba, 0, none⟩)] w (Ret (.bool false) w) := by
 refine zin 12 Tryz.func25 ?_
 refine xb 13 2 hk ?_
 exact xe 6 (.bool false) ⟨rfl, (Below.refl w.heap.size _)⟩
set_option maxRecDepth 100000 in
set_option maxHeartbeats 1000000 in
theorem alloc_left (ba : Nat) (p : Option Addr) (N c k : Nat) (m : Value) (w : World) (hk : Blk w ba [.slice p N c, .int .i64 (k : Int), m] 64) (h1 : k ≤ N) :
    Calls Tryz.prog 35 #[.pointer (some ⟨ba, 0, none⟩)] w (Ret (.slice (cutA p k c 1) (N - k) (c - k)) w) := by
 refine zin 12 Tryz.func35 ?_
 refine xd 6 .z ?_
 have hk'1 := hk.below (below_drew w)
 refine xb (.e [0, 1, 2] 3) 0 hk'1 ?_
 refine xb (.e [4, 5, 6] 7) 1 hk'1 ?_
 refine xsL (.e [] 8) (fun _ _ _ _ zo zx zy V => run_sliceLA (k := k) (b := p) (n := N) (c := c) (i := (↑k : Int)) (ki := .i64) 1 zo zx zy rfl (by omega) Tryz.underlying24 (by kernel_rfl) V) ?_
 have hB := (below_drew w)
 exact xe (.r [9] 3) (.slice (cutA p k c 1) (N - k) (c - k)) ⟨rfl, hB⟩
set_option maxRecDepth 100000 in
set_option maxHeartbeats 1000000 in
theorem alloc_Left (ba b : Nat) (p : Option Addr) (N c k : Nat) (w : World) (hk : Blk w ba [.slice p N c, .int .i64 (k : Int), .pointer (some ⟨b, 0, none⟩)] 64) (h1 : k ≤ N) :
    Calls Tryz.prog 17 #[.pointer (some ⟨ba, 0, none⟩)] w (Ret (.int .i64 ((N - k : Nat) : Int)) w) := by
 refine zin 10 Tryz.func17 ?_
 refine xr 9 (args := #[.pointer (some ⟨ba, 0, none⟩)]) (alloc_nobody ba b _ _ _ hk) fun W1 hb1 => ?_
 have hk'1 := hk.below hb1
 refine xr 10 (args := #[.pointer (some ⟨ba, 0, none⟩)]) (alloc_left ba p N c k _ _ hk'1 h1) fun W2 hb2 => ?_
 have hB := Bl.next hb1 hb2
 exact xe 5 (.int .i64 (↑(N - k) : Int)) ⟨rfl, hB⟩
set_option maxRecDepth 100000 in
set_option maxHeartbeats 1000000 in
theorem alloc_Used (ba b : Nat) (v : Value) (k : Nat) (w : World) (hk : Blk w ba [v, .int .i64 (k : Int), .pointer (some ⟨b, 0, none⟩)] 64) :
    Calls Tryz.prog 7 #[.pointer (some ⟨ba, 0, none⟩)] w (Ret (.int .i64 (k : Int)) w) := by
 refine zin 10 Tryz.func7 ?_
 refine xr 9 (args := #[.pointer (some ⟨ba, 0, none⟩)]) (alloc_nobody ba b _ _ _ hk) fun W1 hb1 => ?_
 have hk'1 := hk.below hb1
 refine xb 11 1 hk'1 ?_
 exact xe 4 (.int .i64 (↑k : Int)) ⟨rfl, hb1⟩
/-- what is left when a number was taken -/
def Took (B ba : Nat) (p : Option Addr) (N c k : Nat) (m : Value) (L : List Int) (v : Value) (w : World) (e : Ending) (w' : World) : Prop :=
  e = .returned v ∧ Below B w w' ∧ Only [64] w w' ∧ Fr [ba] w w' ∧ Blk w' ba [.slice p N c, .int .i64 ((k + 1 : Nat) : Int), m] 64 ∧ w'.ownsRow B 3 1 (.slice p N c) N (L.map (Value.int .i64))
theorem IntsN.elem {w : World} {b : Option Addr} {n c : Nat} {l : List Int} (h : Sl w (.slice b n c) n (l.map (Value.int .i64))) (hl : l.length = n) {k : Nat} (hk : k < n) : b.isSome = true ∧ w.cell? (elemAddr b (k * 1)) = some (.int .i64 (l.getD k 0)) := by
  subst hl; exact Ints.elem h hk
set_option maxRecDepth 100000 in
set_option maxHeartbeats 1000000 in
theorem alloc_take (B ba : Nat) (p : Option Addr) (N c k : Nat) (L : List Int) (hL : L.length = N) (m : Value) (w : World) (hk : Blk w ba [.slice p N c, .int .i64 (k : Int), m] 64) (ho : w.ownsRow B 3 1 (.slice p N c) N (L.map (Value.int .i64))) (hB0 : B ≤ ba) (hBw : B ≤ w.heap.size) (hN : N ≤ 1000000) (hkN : k < N) :
    Calls Tryz.prog 69 #[.pointer (some ⟨ba, 0, none⟩)] w (Took B ba p N c k m L (.tuple #[.int .i64 (L.getD k 0), .bool true]) w) := by
 refine zin 32 Tryz.func69 ?_
 refine xd 8 .z ?_
 have hk'1 := hk.below (below_drew w)
 refine xb (.e [0, 1, 2] 3) 1 hk'1 ?_
 refine xb (.e [4, 5, 6] 7) 0 hk'1 ?_
 refine xk (.r [8, 9] 2) (show (decide ((↑k : Int) ≥ (↑N : Int)) : Bool) = false from decide_eq_false (by omega)) ?_
 refine xb 7 1 hk'1 ?_
 refine xwm 0 ((↑k : Int) + 1) (↑(k + 1) : Int) ?_
 refine xs 2 hk'1 [.slice p N c, .int .i64 (↑(k + 1) : Int), m] fun W1 u1 k1 => ?_
 refine xd 3 .z ?_
 have k1'1 := k1.below (below_drew W1)
 refine xb (.e [0, 1, 2] 3) 0 k1'1 ?_
 refine xb (.e [4, 5, 6] 7) 1 k1'1 ?_
 refine xwm (.e [] 8) ((↑(k + 1) : Int) - 1) (↑k : Int) ?_
 have ho'1 := own_below (u1.own2 (own_below ho (below_drew w)) hk'1 (by decide)) (below_drew W1)
 refine xx (.e [] 9) _ N k 1 (IntsN.elem (own_sl ho'1) hL (k := k) (by omega)).1 ?_
 refine xl (.e [] 10) ((IntsN.elem (own_sl ho'1) hL (k := k) (by omega)).2) ?_
 have hB := Bl.nextB (u1.below (Bl.nextB (Below.refl B w) hBw (below_drew w)) hB0) hBw (below_drew W1)
 have hO := ((show Only [64] w _ from (Only.of_below (below_drew w))).trans (Only.of_upd u1 hk'1 (by decide))).trans (Only.of_below (below_drew W1))
 have hX := ((show Fr [ba] w _ from (Fr.of_below (below_drew w))).trans (Fr.of_upd u1 (by simp))).trans (Fr.of_below (below_drew W1))
 exact xe (.r [11, 12] 3) (.tuple #[.int .i64 (L.getD k 0), .bool true]) ⟨rfl, hB, hO, hX, k1'1, ho'1⟩
set_option maxRecDepth 100000 in
set_option maxHeartbeats 1000000 in
theorem alloc_take_none (ba : Nat) (p : Option Addr) (N c k : Nat) (m : Value) (w : World) (hk : Blk w ba [.slice p N c, .int .i64 (k : Int), m] 64) (hkN : N ≤ k) :
    Calls Tryz.prog 69 #[.pointer (some ⟨ba, 0, none⟩)] w (Ret (.tuple #[.int .i64 0, .bool false]) w) := by
 refine zin 32 Tryz.func69 ?_
 refine xd 8 .z ?_
 have hk'1 := hk.below (below_drew w)
 refine xb (.e [0, 1, 2] 3) 1 hk'1 ?_
 refine xb (.e [4, 5, 6] 7) 0 hk'1 ?_
 refine xk (.r [8, 9] 2) (show (decide ((↑k : Int) ≥ (↑N : Int)) : Bool) = true from decide_eq_true (by omega)) ?_
 have hB := (below_drew w)
 exact xe 8 (.tuple #[.int .i64 0, .bool false]) ⟨rfl, hB⟩
set_option maxRecDepth 100000 in
set_option maxHeartbeats 1000000 in
theorem alloc_Next (B ba : Nat) (p : Option Addr) (N c k : Nat) (L : List Int) (hL : L.length = N) (b q : Nat) (hq : L.getD k 0 = (q : Int)) (w : World) (hk : Blk w ba [.slice p N c, .int .i64 (k : Int), .pointer (some ⟨b, 0, none⟩)] 64) (ho : w.ownsRow B 3 1 (.slice p N c) N (L.map (Value.int .i64))) (hB0 : B ≤ ba) (hBw : B ≤ w.heap.size) (hN : N ≤ 1000000) (hkN : k < N) :
    Calls Tryz.prog 43 #[.pointer (some ⟨ba, 0, none⟩)] w (Took B ba p N c k (.pointer (some ⟨b, 0, none⟩)) L (.tuple #[.int .i64 (q : Int), .nilIface]) w) := by
 refine zin 20 Tryz.func43 ?_
 refine xr 10 (args := #[.pointer (some ⟨ba, 0, none⟩)]) (alloc_nobody ba b _ _ _ hk) fun W1 hb1 => ?_
 have hk'1 := hk.below hb1
 have ho'1 := own_below ho hb1
 have hB := Bl.nextB (Below.refl B w) hBw hb1
 refine xc 10 (args := #[.pointer (some ⟨ba, 0, none⟩)]) (alloc_take B ba p N c k L hL _ _ hk'1 ho'1 hB0 (Nat.le_trans hBw hB.size) hN hkN) ?_
 rintro _ W2 ⟨rfl, hb2, hO2, hX2, kA, ho⟩
 rw [hq]
 have hB'1 := hB.trans hb2
 have hO := (show Only [64] w _ from (Only.of_below hb1)).trans hO2
 have hX := (show Fr [ba] w _ from (Fr.of_below hb1)).trans (hX2.mono (by simp))
 exact xe 25 (.tuple #[.int .i64 (↑q : Int), .nilIface]) ⟨rfl, hB'1, hO, hX, kA, ho⟩
set_option maxRecDepth 100000 in
set_option maxHeartbeats 1000000 in
theorem alloc_Next_none (ba b : Nat) (p : Option Addr) (N c k : Nat) (w : World) (hk : Blk w ba [.slice p N c, .int .i64 (k : Int), .pointer (some ⟨b, 0, none⟩)] 64) (hkN : N ≤ k) :
    Calls Tryz.prog 43 #[.pointer (some ⟨ba, 0, none⟩)] w (Ret (.tuple #[.int .i64 0, .iface 46 (.int .i64 14)]) w) := by
 refine zin 20 Tryz.func43 ?_
 refine xr 10 (args := #[.pointer (some ⟨ba, 0, none⟩)]) (alloc_nobody ba b _ _ _ hk) fun W1 hb1 => ?_
 have hk'1 := hk.below hb1
 refine xr 10 (args := #[.pointer (some ⟨ba, 0, none⟩)]) (alloc_take_none ba p N c k _ _ hk'1 hkN) fun W2 hb2 => ?_
 have hB := Bl.next hb1 hb2
 exact xe 24 (.tuple #[.int .i64 0, .iface 46 (.int .i64 14)]) ⟨rfl, hB⟩
set_option maxRecDepth 100000 in
set_option maxHeartbeats 1000000 in
theorem alloc_Lay_none (ba b : Nat) (p : Option Addr) (N c k : Nat) (kind x : Value) (w : World) (hk : Blk w ba [.slice p N c, .int .i64 (k : Int), .pointer (some ⟨b, 0, none⟩)] 64) (hkN : N ≤ k) :
    Calls Tryz.prog 24 #[.pointer (some ⟨ba, 0, none⟩), kind, x] w (Ret (.tuple #[.int .i64 0, .iface 46 (.int .i64 14)]) w) := by
 refine zin 35 Tryz.func24 ?_
 refine xr 9 (args := #[.pointer (some ⟨ba, 0, none⟩)]) (alloc_Next_none ba b p N c k _ hk hkN) fun W1 hb1 => ?_
 exact xe 24 (.tuple #[.int .i64 0, .iface 46 (.int .i64 14)]) ⟨rfl, hb1⟩
/-- an allocator's next number is handed out, and its block written -/
def Laid (B ba b g n c : Nat) (pa : Option Addr) (ca f N k : Nat) (l : List UInt8) (kind : Int) (li : List UInt8) (w : World) (e : Ending) (w' : World) : Prop :=
  e = .returned (.tuple #[.int .i64 ((f + k : Nat) : Int), .nilIface]) ∧ Below B w w' ∧ Only [64, 5] w w' ∧ Fr [ba, g] w w' ∧ Al B ba b g n c pa ca f N (k + 1) (putB l ((f + k) * 256) (sealB kind ((f + k : Nat) : Int) li)) w'
theorem Only.mono {T T' : List TypeId} {w w' : World} (h : Only T w w') (hT : ∀ t, T'.contains t = false → T.contains t = false) : Only T' w w' := fun k cs t fr hk ht => h k cs t fr hk (hT t ht)
theorem only_aa {w w' : World} (h : Only [64] w w') : Only [64, 5] w w' := h.mono fun t ht => by simp at ht ⊢; exact ht.1
theorem only_ab {w w' : World} (h : Only [5] w w') : Only [64, 5] w w' := h.mono fun t ht => by simp at ht ⊢; exact ht.2
set_option maxRecDepth 100000 in
set_option maxHeartbeats 1000000 in
theorem alloc_Lay (B ba b g n c : Nat) (p : Option Addr) (ca f N k : Nat) (l : List UInt8) (kind : Int) (a : Option Addr) (ci : Nat) (li : List UInt8) (w : World) (hC : AlC B ba n c ca f N) (hA : Al B ba b g n c p ca f N k l w) (hkN : k < N) (h1 : 1 ≤ kind) (h2 : kind ≤ 4) (hin : ∀ W, Below B w W → Only [64] w W → Bys W (.slice a li.length ci) li) (hl : li.length ≤ 244) (hBw : B ≤ w.heap.size) :
    Calls Tryz.prog 24 #[.pointer (some ⟨ba, 0, none⟩), .int .i64 kind, .slice a li.length ci] w (Laid B ba b g n c p ca f N k l kind li w) := by
 obtain ⟨hk, hi, hd, ho⟩ := hA
 refine zin 35 Tryz.func24 ?_
 refine xc 9 (args := #[.pointer (some ⟨ba, 0, none⟩)]) (alloc_Next B ba p N ca k (rngJ f N) (rngJ_len f N) b (f + k) (rngJ_get hkN) _ hk ho hC.hB (Nat.le_trans hBw (Below.refl B _).size) (by have := hC.hf; have := hC.hn; omega) hkN) ?_
 rintro _ W1 ⟨rfl, hb1, hO1, hX1, kA, ho⟩
 replace hin := hin _ hb1 hO1
 refine xb 23 2 kA ?_
 have hi'1 := hi.only hO1 (by decide)
 have hd'1 := own_only hd hO1 (by decide)
 refine xc 3 (args := #[.pointer (some ⟨b, 0, none⟩), .int .i64 (↑(f + k) : Int), .int .i64 kind, .slice a li.length ci]) (block_Write B b g n c (f + k) l kind a ci li _ hi'1 hd'1 hC.hn hC.hc (by have := hC.hf; omega) h1 h2 hin hl (Nat.le_trans hBw hb1.size)) ?_
 rintro _ W2 ⟨rfl, hb2, hO2, hX2, hd⟩
 have hB'1 := hb1.trans hb2
 have hO := (show Only [64, 5] w _ from (only_aa hO1)).trans (only_ab hO2)
 have hX := (show Fr [ba, g] w _ from (hX1.mono (by simp))).trans (hX2.mono (by simp))
 have kA'1 := kA.only hO2 (by decide)
 have hi'2 := hi'1.only hO2 (by decide)
 have ho'1 := own_only ho hO2 (by decide)
 exact xe 20 (.tuple #[.int .i64 (↑(f + k) : Int), .nilIface]) ⟨rfl, hB'1, hO, hX, kA'1, hi'2, hd, ho'1⟩
end Go.Proofs.YtbhjgcokpmiopaaGreat
namespace Go.Proofs.YtbhjgcokpmiopaaGreat
open Go.RowKit Go.Extern.Stop Go.Stop Go.Extern
set_option linter.unusedVariables false
attribute [local irreducible] wpList wpAnyH Code.wp Oper.wp Go

set_option maxRecDepth 100000 in
set_option maxHeartbeats 1000000 in
theorem node_Width1l (w : World) :
    Calls Tryz.prog 59 #[.int .i64 1, .bool true] w (Ret (.int .i64 4) w) := by
 refine zin 31 Tryz.func59 ?_
 exact xe 94 (.int .i64 4) ⟨rfl, (Below.refl w.heap.size _)⟩
set_option maxRecDepth 100000 in
set_option maxHeartbeats 1000000 in
theorem node_Max1l (w : World) :
    Calls Tryz.prog 57 #[.int .i64 1, .bool true] w (Ret (.int .i64 18) w) := by
 refine zin 16 Tryz.func57 ?_
 refine xr 9 (args := #[.int .i64 1, .bool true]) (node_Width1l _) fun W1 hb1 => ?_
 exact xe 24 (.int .i64 18) ⟨rfl, hb1⟩
set_option maxRecDepth 100000 in
set_option maxHeartbeats 1000000 in
theorem node_Width1i (w : World) :
    Calls Tryz.prog 59 #[.int .i64 1, .bool false] w (Ret (.int .i64 4) w) := by
 refine zin 31 Tryz.func59 ?_
 exact xe 41 (.int .i64 4) ⟨rfl, (Below.refl w.heap.size _)⟩
set_option maxRecDepth 100000 in
set_option maxHeartbeats 1000000 in
theorem node_Max1i (w : World) :
    Calls Tryz.prog 57 #[.int .i64 1, .bool false] w (Ret (.int .i64 18) w) := by
 refine zin 16 Tryz.func57 ?_
 refine xr 9 (args := #[.int .i64 1, .bool false]) (node_Width1i _) fun W1 hb1 => ?_
 exact xe 24 (.int .i64 18) ⟨rfl, hb1⟩
set_option maxRecDepth 100000 in
set_option maxHeartbeats 1000000 in
theorem node_Width2l (w : World) :
    Calls Tryz.prog 59 #[.int .i64 2, .bool true] w (Ret (.int .i64 8) w) := by
 refine zin 31 Tryz.func59 ?_
 exact xe 101 (.int .i64 8) ⟨rfl, (Below.refl w.heap.size _)⟩
set_option maxRecDepth 100000 in
set_option maxHeartbeats 1000000 in
theorem node_Max2l (w : World) :
    Calls Tryz.prog 57 #[.int .i64 2, .bool true] w (Ret (.int .i64 12) w) := by
 refine zin 16 Tryz.func57 ?_
 refine xr 9 (args := #[.int .i64 2, .bool true]) (node_Width2l _) fun W1 hb1 => ?_
 exact xe 24 (.int .i64 12) ⟨rfl, hb1⟩
set_option maxRecDepth 100000 in
set_option maxHeartbeats 1000000 in
theorem node_Width2i (w : World) :
    Calls Tryz.prog 59 #[.int .i64 2, .bool false] w (Ret (.int .i64 4) w) := by
 refine zin 31 Tryz.func59 ?_
 exact xe 41 (.int .i64 4) ⟨rfl, (Below.refl w.heap.size _)⟩
set_option maxRecDepth 100000 in
set_option maxHeartbeats 1000000 in
theorem node_Max2i (w : World) :
    Calls Tryz.prog 57 #[.int .i64 2, .bool false] w (Ret (.int .i64 18) w) := by
 refine zin 16 Tryz.func57 ?_
 refine xr 9 (args := #[.int .i64 2, .bool false]) (node_Width2i _) fun W1 hb1 => ?_
 exact xe 24 (.int .i64 18) ⟨rfl, hb1⟩
set_option maxRecDepth 100000 in
set_option maxHeartbeats 1000000 in
theorem node_Width3l (w : World) :
    Calls Tryz.prog 59 #[.int .i64 3, .bool true] w (Ret (.int .i64 24) w) := by
 refine zin 31 Tryz.func59 ?_
 exact xe 93 (.int .i64 24) ⟨rfl, (Below.refl w.heap.size _)⟩
set_option maxRecDepth 100000 in
set_option maxHeartbeats 1000000 in
theorem node_Max3l (w : World) :
    Calls Tryz.prog 57 #[.int .i64 3, .bool true] w (Ret (.int .i64 6) w) := by
 refine zin 16 Tryz.func57 ?_
 refine xr 9 (args := #[.int .i64 3, .bool true]) (node_Width3l _) fun W1 hb1 => ?_
 exact xe 24 (.int .i64 6) ⟨rfl, hb1⟩
set_option maxRecDepth 100000 in
set_option maxHeartbeats 1000000 in
theorem node_Width3i (w : World) :
    Calls Tryz.prog 59 #[.int .i64 3, .bool false] w (Ret (.int .i64 4) w) := by
 refine zin 31 Tryz.func59 ?_
 exact xe 41 (.int .i64 4) ⟨rfl, (Below.refl w.heap.size _)⟩
set_option maxRecDepth 100000 in
set_option maxHeartbeats 1000000 in
theorem node_Max3i (w : World) :
    Calls Tryz.prog 57 #[.int .i64 3, .bool false] w (Ret (.int .i64 18) w) := by
 refine zin 16 Tryz.func57 ?_
 refine xr 9 (args := #[.int .i64 3, .bool false]) (node_Width3i _) fun W1 hb1 => ?_
 exact xe 24 (.int .i64 18) ⟨rfl, hb1⟩
set_option maxRecDepth 100000 in
set_option maxHeartbeats 1000000 in
theorem node_Width4l (w : World) :
    Calls Tryz.prog 59 #[.int .i64 4, .bool true] w (Ret (.int .i64 16) w) := by
 refine zin 31 Tryz.func59 ?_
 exact xe 98 (.int .i64 16) ⟨rfl, (Below.refl w.heap.size _)⟩
set_option maxRecDepth 100000 in
set_option maxHeartbeats 1000000 in
theorem node_Max4l (w : World) :
    Calls Tryz.prog 57 #[.int .i64 4, .bool true] w (Ret (.int .i64 9) w) := by
 refine zin 16 Tryz.func57 ?_
 refine xr 9 (args := #[.int .i64 4, .bool true]) (node_Width4l _) fun W1 hb1 => ?_
 exact xe 24 (.int .i64 9) ⟨rfl, hb1⟩
set_option maxRecDepth 100000 in
set_option maxHeartbeats 1000000 in
theorem node_Width4i (w : World) :
    Calls Tryz.prog 59 #[.int .i64 4, .bool false] w (Ret (.int .i64 4) w) := by
 refine zin 31 Tryz.func59 ?_
 exact xe 41 (.int .i64 4) ⟨rfl, (Below.refl w.heap.size _)⟩
set_option maxRecDepth 100000 in
set_option maxHeartbeats 1000000 in
theorem node_Max4i (w : World) :
    Calls Tryz.prog 57 #[.int .i64 4, .bool false] w (Ret (.int .i64 18) w) := by
 refine zin 16 Tryz.func57 ?_
 refine xr 9 (args := #[.int .i64 4, .bool false]) (node_Width4i _) fun W1 hb1 => ?_
 exact xe 24 (.int .i64 18) ⟨rfl, hb1⟩
set_option maxRecDepth 100000 in
set_option maxHeartbeats 1000000 in
theorem node_Width5l (w : World) :
    Calls Tryz.prog 59 #[.int .i64 5, .bool true] w (Ret (.int .i64 4) w) := by
 refine zin 31 Tryz.func59 ?_
 exact xe 94 (.int .i64 4) ⟨rfl, (Below.refl w.heap.size _)⟩
set_option maxRecDepth 100000 in
set_option maxHeartbeats 1000000 in
theorem node_Max5l (w : World) :
    Calls Tryz.prog 57 #[.int .i64 5, .bool true] w (Ret (.int .i64 18) w) := by
 refine zin 16 Tryz.func57 ?_
 refine xr 9 (args := #[.int .i64 5, .bool true]) (node_Width5l _) fun W1 hb1 => ?_
 exact xe 24 (.int .i64 18) ⟨rfl, hb1⟩
set_option maxRecDepth 100000 in
set_option maxHeartbeats 1000000 in
theorem node_Width5i (w : World) :
    Calls Tryz.prog 59 #[.int .i64 5, .bool false] w (Ret (.int .i64 4) w) := by
 refine zin 31 Tryz.func59 ?_
 exact xe 41 (.int .i64 4) ⟨rfl, (Below.refl w.heap.size _)⟩
set_option maxRecDepth 100000 in
set_option maxHeartbeats 1000000 in
theorem node_Max5i (w : World) :
    Calls Tryz.prog 57 #[.int .i64 5, .bool false] w (Ret (.int .i64 18) w) := by
 refine zin 16 Tryz.func57 ?_
 refine xr 9 (args := #[.int .i64 5, .bool false]) (node_Width5i _) fun W1 hb1 => ?_
 exact xe 24 (.int .i64 18) ⟨rfl, hb1⟩
/-- the bytes of a value -/
def widN (t : Int) (leaf : Bool) : Nat := if leaf = false then 4 else if t = 2 then 8 else if t = 3 then 24 else if t = 4 then 16 else 4
/-- the entries of a full node -/
def maxN (t : Int) (leaf : Bool) : Nat := if leaf = false then 18 else if t = 2 then 12 else if t = 3 then 6 else if t = 4 then 9 else 18
theorem node_Width (t : Int) (leaf : Bool) (h1 : 1 ≤ t) (h2 : t ≤ 5) (w : World) : Calls Tryz.prog 59 #[.int .i64 t, .bool leaf] w (Ret (.int .i64 (widN t leaf : Int)) w) := by
  obtain rfl | rfl | rfl | rfl | rfl : t = 1 ∨ t = 2 ∨ t = 3 ∨ t = 4 ∨ t = 5 := by omega
  all_goals cases leaf
  · exact node_Width1i w
  · exact node_Width1l w
  · exact node_Width2i w
  · exact node_Width2l w
  · exact node_Width3i w
  · exact node_Width3l w
  · exact node_Width4i w
  · exact node_Width4l w
  · exact node_Width5i w
  · exact node_Width5l w
theorem node_Max (t : Int) (leaf : Bool) (h1 : 1 ≤ t) (h2 : t ≤ 5) (w : World) : Calls Tryz.prog 57 #[.int .i64 t, .bool leaf] w (Ret (.int .i64 (maxN t leaf : Int)) w) := by
  obtain rfl | rfl | rfl | rfl | rfl : t = 1 ∨ t = 2 ∨ t = 3 ∨ t = 4 ∨ t = 5 := by omega
  all_goals cases leaf
  · exact node_Max1i w
  · exact node_Max1l w
  · exact node_Max2i w
  · exact node_Max2l w
  · exact node_Max3i w
  · exact node_Max3l w
  · exact node_Max4i w
  · exact node_Max4l w
  · exact node_Max5i w
  · exact node_Max5l w
theorem maxN_pos (t : Int) (leaf : Bool) : 1 ≤ maxN t leaf ∧ maxN t leaf ≤ 18 := by unfold maxN; repeat' split
                                                                                    all_goals decide
theorem run_quo {P : Program} {a : Act} {o : Oper} {t : TypeId} {x y : Operand} {t2 : TypeId} {p q r : Int} {k : IntKind} (ho : o.op = .binOp .quo t x y t2) (hx : a.eval x = .int k p) (hy : a.eval y = .int k q) (hq : q ≠ 0) (hr : k.wrap (Int.tdiv p q) = r) (w : World) :
    (execOp a.eval o).run P w = .ok (.value (.int k r)) w := by
  subst hr
  have hb : (binOp .quo t (.int k p) (.int k q)).run P w = .ok (.int k (k.wrap (p.tdiv q))) w := by
    simp [binOp, Op.intDiv, hq]
  have hg : (eqGuard .quo t x y (.int k p) (.int k q)).run P w = .ok () w := rfl
  simp only [execOp, ho, hx, hy, Sem.run_bind, hg, Result.andThen_ok, hb]
  rfl
/-- so many nodes of m entries each hold n entries; one at least -/
def ovN (n m : Nat) : Nat := max 1 ((n + m - 1) / m)
theorem max_cast (a b : Nat) : (if (b : Int) > (a : Int) then (b : Int) else (a : Int)) = ((max a b : Nat) : Int) := by split <;> omega
theorem ovN_pos (n m : Nat) : 1 ≤ ovN n m := by unfold ovN; omega
theorem ovN_le (n m : Nat) (hm : 1 ≤ m) : ovN n m ≤ n + 1 := by
  have : (n + m - 1) / m ≤ n := by
    rw [Nat.div_le_iff_le_mul_add_pred (by omega)]
    have := Nat.le_mul_of_pos_left n hm
    omega
  unfold ovN; omega
theorem ov18 {x : Nat} (h : 2 ≤ x) : ovN x 18 ≤ x / 2 := by unfold ovN; omega
set_option maxRecDepth 100000 in
set_option maxHeartbeats 1000000 in
theorem tall_over (n m : Nat) (w : World) (hn : n ≤ 1000000) (hm : 1 ≤ m) (hm2 : m ≤ 1000000) :
    Calls Tryz.prog 58 #[.int .i64 (↑n : Int), .int .i64 (↑m : Int)] w (Ret (.int .i64 (ovN n m : Int)) w) := by
 refine zin 12 Tryz.func58 ?_
 refine xwm 9 ((↑n : Int) + (↑m : Int)) (↑(n + m) : Int) ?_
 refine xwm 0 ((↑(n + m) : Int) - 1) (↑((n + m) - 1) : Int) ?_
 refine xbo 1 (t := 3) (t2 := 3) (fun _ _ _ _ zo zx zy V hV => run_quo (r := (↑((n + m - 1) / m) : Int)) zo zx zy (by omega) (quo_nat (n + m - 1) m (by omega) (by omega)) V) ?_
 refine xq 0 (congrArg (Value.int .i64) (show (if (↑((n + m - 1) / m) : Int) > (1 : Int) then (↑((n + m - 1) / m) : Int) else (1 : Int) : Int) = (↑(ovN n m) : Int) from max_cast 1 ((n + m - 1) / m))) ?_
 exact xe 4 (.int .i64 (↑(ovN n m) : Int)) ⟨rfl, (Below.refl w.heap.size _)⟩
def lenOf : Value → Nat
  | .slice _ n _ => n
  | _ => 0
def nv (n : Nat) : Value := .int .i64 (n : Int)
/-- the levels of a tree from x nodes on -/
def levs (x : Nat) : List Nat := if h : x ≤ 1 then [x] else x :: levs (ovN x 18)
termination_by x
decreasing_by have := ov18 (x := x) (by omega); omega
theorem levs_one {x : Nat} (h : x ≤ 1) : levs x = [x] := by rw [levs]; simp [h]
theorem levs_more {x : Nat} (h : ¬ x ≤ 1) : levs x = x :: levs (ovN x 18) := by rw [levs]; simp [h]
theorem levs_sum {x : Nat} (h : 1 ≤ x) : (levs x).sum ≤ 2 * x := by
  induction x using Nat.strongRecOn with
  | _ x ih =>
    by_cases h1 : x ≤ 1
    · rw [levs_one h1]; simp; omega
    · rw [levs_more h1, List.sum_cons]
      have h2 := ov18 (x := x) (by omega)
      have := ih (ovN x 18) (by omega) (ovN_pos _ _)
      omega
theorem levs_len {x : Nat} (h : 1 ≤ x) : (levs x).length ≤ x := by
  induction x using Nat.strongRecOn with
  | _ x ih =>
    by_cases h1 : x ≤ 1
    · rw [levs_one h1]; simpa using h
    · rw [levs_more h1, List.length_cons]
      have h2 := ov18 (x := x) (by omega)
      have := ih (ovN x 18) (by omega) (ovN_pos _ _)
      omega
/-- a slice of numbers -/
theorem nv_elem {w : World} {b : Option Addr} {n c : Nat} {l : List Nat} (h : Sl w (.slice b n c) n (l.map nv)) (hl : l.length = n) {k : Nat} (hk : k < n) : b.isSome = true ∧ w.cell? (elemAddr b (k * 1)) = some (.int .i64 ((l.getD k 0 : Nat) : Int)) := by
  have e : l.map nv = (l.map fun x : Nat => (x : Int)).map (Value.int .i64) := by simp [nv]
  rw [e] at h
  have := IntsN.elem h (by simpa using hl) hk
  rw [show (l.map fun x : Nat => (x : Int)).getD k 0 = ((l.getD k 0 : Nat) : Int) by simp [List.getD, List.getElem?_eq_getElem (show k < l.length by omega)]] at this
  exact this
theorem getD_last {xs : List Nat} {x j : Nat} (h : xs.length = j) : (xs ++ [x]).getD j 0 = x := by subst h; simp [List.getD]
theorem take_sum {L : List Nat} {k : Nat} (h : k < L.length) : (L.take (k + 1)).sum = (L.take k).sum + L.getD k 0 := by
  rw [List.take_add_one, List.sum_append]; simp [List.getD, List.getElem?_eq_getElem h]
theorem take_le {L : List Nat} (k : Nat) : (L.take k).sum ≤ L.sum := by
  conv => rhs; rw [← List.take_append_drop k L, List.sum_append]
  omega
/-- the levels of a tree of n entries -/
def levL (t : Int) (n : Nat) : List Nat := levs (ovN n (maxN t true))
/-- its nodes -/
def nodN (t : Int) (n : Nat) : Nat := (levL t n).sum
theorem levL_len (t : Int) (n : Nat) : (levL t n).length ≤ n + 1 := by
  have := levs_len (ovN_pos n (maxN t true)); have := ovN_le n (maxN t true) (maxN_pos t true).1; unfold levL; omega
theorem nodN_le (t : Int) (n : Nat) : nodN t n ≤ 2 * n + 2 := by
  have := levs_sum (ovN_pos n (maxN t true)); have := ovN_le n (maxN t true) (maxN_pos t true).1; unfold nodN levL; omega
set_option maxRecDepth 100000 in
set_option maxHeartbeats 4000000 in
theorem tall_Levels (t : Int) (n : Nat) (w : World) (h1 : 1 ≤ t) (h2 : t ≤ 5) (hn : n ≤ 32768) :
    Calls Tryz.prog 34 #[.int .i64 t, .int .i64 (↑n : Int)] w (RetS (fun w' r => ∃ p c, r = .slice p (levL t n).length c ∧ w'.ownsRow w.heap.size 3 1 (.slice p (levL t n).length c) (levL t n).length ((levL t n).map nv)) w) := by
 have hm1 := (maxN_pos t true).1
 have hm2 := (maxN_pos t true).2
 have hov := ovN_le n (maxN t true) hm1
 have hop := ovN_pos n (maxN t true)
 refine zin 45 Tryz.func34 ?_
 refine xr 8 (args := #[.int .i64 t, .bool true]) (node_Max t true h1 h2 _) fun W1 hb1 => ?_
 refine xr 1 (args := #[.int .i64 t, .bool false]) (node_Max t false h1 h2 _) fun W2 hb2 => ?_
 refine xgk 10 [13, 14] (show (((↑(maxN t true) : Int) == (0 : Int)) : Bool) = false from by simp; omega) ?_
 refine xgk 4 [16, 17, 18] (show (decide ((↑n : Int) < (0 : Int)) : Bool) = false from decide_eq_false (by omega)) ?_
 refine xk 5 (show (decide ((↑n : Int) > (32768 : Int)) : Bool) = false from decide_eq_false (by omega)) ?_
 refine xr 6 (args := #[.int .i64 (↑n : Int), .int .i64 (↑(maxN t true) : Int)]) (tall_over n (maxN t true) _ (by omega) hm1 (by omega)) fun W5 hb5 => ?_
 refine xbs 0 1 [.int .i64 (↑(ovN n (maxN t true)) : Int)] 3 fun b6 W6 n6 => ?_
 have g6 := n6.ge (Bl.next (Bl.next hb1 hb2) hb5)
 have hB := Bl.next (Bl.next (Bl.next hb1 hb2) hb5) n6.below
 refine zl 5 45 (fun zm zkv V => ∃ (j x : Nat) (xs : List Nat) (p : Option Addr) (c : Nat), zkv = [(4, .slice none 0 0), (6, .int .i64 18), (7, .slice p (j + 1) c)] ∧ zm = 40000 - (j + 1) ∧ Below w.heap.size w V ∧ V.ownsRow w.heap.size 3 1 (.slice p (j + 1) c) (j + 1) ((xs ++ [x]).map nv) ∧ xs.length = j ∧ 1 ≤ x ∧ x ≤ 32769 ∧ xs ++ levs x = levL t n ∧ j + x ≤ 40000) ⟨0, (ovN n (maxN t true)), [], _, _, rfl, rfl, hB, own_of_blk (size := 1) (n := 1) n6.blk g6 rfl (by unfold maxLen; decide), rfl, hop, by omega, rfl, by omega⟩ ?_
 rintro _ _ W7 ⟨j, x, xs, p, c, rfl, rfl, hB_7, ho, hxl, hx1, hx2, hxs, hj⟩ J7 hJ7 r7
 refine xwm 6 ((↑(j + 1) : Int) - 1) (↑j : Int) ?_
 refine xx 0 _ (j + 1) j 1 (nv_elem (own_sl ho) (by simp [hxl]) (k := j) (by omega)).1 ?_
 refine xl 0 (by have := (nv_elem (own_sl ho) (by simp [hxl]) (k := j) (by omega)).2; rwa [getD_last hxl] at this) ?_
 refine xid 3 ((↑x : Int) > (1 : Int)) (fun hc8 => ?_) (fun hc8 => ?_)
 · refine xwm 8 ((↑(j + 1) : Int) - 1) (↑j : Int) ?_
   refine xx 0 _ (j + 1) j 1 (nv_elem (own_sl ho) (by simp [hxl]) (k := j) (by omega)).1 ?_
   refine xl 0 (by have := (nv_elem (own_sl ho) (by simp [hxl]) (k := j) (by omega)).2; rwa [getD_last hxl] at this) ?_
   refine xr 1 (args := #[.int .i64 (↑x : Int), .int .i64 18]) (tall_over x 18 _ (by omega) (by decide) (by decide)) fun W9 hb9 => ?_
   refine xbs 0 1 [.int .i64 (↑(ovN x 18) : Int)] 3 fun b10 W10 n10 => ?_
   have ho'1 := own_below ho hb9
   have r10_ho := own_ne ho'1 n10
   have ho'2 := own_below ho'1 n10.below
   have hB'1 := Bl.next (Bl.next hB_7 hb9) n10.below
   refine xbi 0 fun _ _ _ _ zJ zQ zo zx zy zK => op_app (m := 1) (news := [.int .i64 (↑(ovN x 18) : Int)]) (.int .i64 0) 1 8 (j + 1 + 1) (((xs ++ [x]) ++ [ovN x 18]).map nv) zo Tryz.underlying24 (by kernel_rfl) rfl (by decide) zx ho'2 zy (n10.blk.sl 1 1 (by decide) (by decide)) rfl (by simp [Value.oneCell']) (by unfold maxLen; omega) (by omega) hB'1.size (by rfl) (by simp [nv]) fun p11 c11 W11 o11 hg11 hb11 => ?_
   refine zK _ _ ?_
   have h18 := ov18 (x := x) (by omega)
   have hB'2 := hB'1.trans hb11
   exact ze 3 (hJ7 _ _ _ ⟨j + 1, (ovN x 18), xs ++ [x], _, _, rfl, rfl, hB'2, o11, by simp [hxl], ovN_pos _ _, by omega, by rw [← hxs, levs_more (x := x) (by omega)]; simp, by omega⟩ (by omega))
 refine xe 12 (.slice p (j + 1) c) ?_
 have e : levL t n = xs ++ [x] := by rw [← hxs, levs_one (x := x) (by omega)]
 have el : (levL t n).length = j + 1 := by rw [e]; simp [hxl]
 exact ⟨_, rfl, hB_7, p, c, by rw [el], by rw [el, e]; exact ho⟩
set_option maxRecDepth 100000 in
set_option maxHeartbeats 4000000 in
theorem tall_Nodes (t : Int) (n : Nat) (w : World) (h1 : 1 ≤ t) (h2 : t ≤ 5) (hn : n ≤ 32768) :
    Calls Tryz.prog 16 #[.int .i64 t, .int .i64 (↑n : Int)] w (Ret (.int .i64 (nodN t n : Int)) w) := by
 refine zin 21 Tryz.func16 ?_
 refine xc 15 (args := #[.int .i64 t, .int .i64 (↑n : Int)]) (tall_Levels t n _ h1 h2 hn) ?_
 rintro _ W1 ⟨_, rfl, hb1, p, c, rfl, ho⟩
 have hs1 := Nat.le_refl w.heap.size
 have ho'1 := own_mono ho hs1
 refine zl 5 21 (fun zm zkv V => ∃ (k : Nat), zkv = [(4, .int .i64 0), (5, .int .i64 (↑((levL t n).take k).sum : Int)), (10, .slice p ((levL t n).length) c), (11, .int .i64 (↑((levL t n).length) : Int)), (12, .int .i64 (↑k : Int))] ∧ zm = (levL t n).length - ((↑k : Int)).toNat ∧ Below w.heap.size w V ∧ V.ownsRow w.heap.size 3 1 (.slice p (levL t n).length c) (levL t n).length ((levL t n).map nv) ∧ k ≤ (levL t n).length) ⟨0, rfl, rfl, hb1, ho'1, Nat.zero_le _⟩ ?_
 rintro _ _ W2 ⟨k, rfl, rfl, hB_2, ho, hk⟩ J2 hJ2 r2
 have hl1 := levL_len t n
 have hs1 := nodN_le t n
 unfold nodN at hs1
 have hs2 := take_le (L := levL t n) (k + 1)
 have hs3 : k < (levL t n).length → ((levL t n).take (k + 1)).sum = ((levL t n).take k).sum + (levL t n).getD k 0 := take_sum
 refine xid 6 ((↑k : Int) < (↑((levL t n).length) : Int)) (fun hc3 => ?_) (fun hc3 => ?_)
 · refine xx 6 _ ((levL t n).length) k 1 (nv_elem (own_sl ho) rfl (k := k) (by omega)).1 ?_
   refine xl 0 ((nv_elem (own_sl ho) rfl (k := k) (by omega)).2) ?_
   refine xwm 6 ((↑((levL t n).take k).sum : Int) + (↑((levL t n).getD k 0) : Int)) (↑(((levL t n).take k).sum + ((levL t n).getD k 0)) : Int) ?_
   refine xwm 5 ((↑k : Int) + 1) (↑(k + 1) : Int) ?_
   refine xv1 2 5 (show (.int .i64 (↑(((levL t n).take k).sum + ((levL t n).getD k 0)) : Int) : Value) = .int .i64 (↑((levL t n).take (k + 1)).sum : Int) from by rw [take_sum (by omega)]) ?_
   exact ze 0 (hJ2 _ _ _ ⟨k + 1, rfl, rfl, hB_2, ho, by omega⟩ (by omega))
 refine xe 12 (.int .i64 (↑((levL t n).take k).sum : Int)) ?_
 have e : k = (levL t n).length := by omega
 subst e
 rw [List.take_length]
 exact ⟨rfl, hB_2⟩
/-- node i's entries, when n entries are laid into nodes of m -/
def sizN (n m i : Nat) : Nat := min m (n - i * m)
theorem siz_le {n m i : Nat} (hm : 1 ≤ m) (h : i < ovN n m) : i * m ≤ n := by
  unfold ovN at h
  rcases Nat.eq_zero_or_pos i with rfl | hi
  · omega
  · have h1 : i + 1 ≤ (n + m - 1) / m := by omega
    have h2 := (Nat.le_div_iff_mul_le (by omega)).1 h1
    rw [Nat.add_mul] at h2
    omega
def sizK (n m k : Nat) : List Value := (List.range (ovN n m)).map fun i => .int .i64 (if i < k then (sizN n m i : Int) else 0)
def sizL (n m : Nat) : List Nat := (List.range (ovN n m)).map (sizN n m)
theorem sizK_zero (n m : Nat) : zeros (Value.int .i64 0).cells.toList (ovN n m) = sizK n m 0 := by
  rw [show (Value.int .i64 0).cells.toList = [Value.int .i64 0] from rfl, zeros, sizK]
  simp [List.map_const']
theorem sizK_all (n m : Nat) : sizK n m (ovN n m) = (sizL n m).map nv := by
  unfold sizK sizL nv
  rw [List.map_map]
  apply List.map_congr_left
  intro i hi
  rw [List.mem_range] at hi
  simp [hi]
theorem sizK_set {n m k : Nat} (h : k < ovN n m) : (sizK n m k).set k (.int .i64 (sizN n m k : Int)) = sizK n m (k + 1) := by
  apply List.ext_getElem?
  intro i
  by_cases hi : i < ovN n m
  · by_cases e : k = i
    · subst e
      rw [List.getElem?_set_self (by simpa [sizK] using h)]
      simp [sizK, List.getElem?_range h]
    · rw [List.getElem?_set_ne e]
      simp only [sizK, List.getElem?_map, List.getElem?_range hi, Option.map_some]
      by_cases e2 : i < k
      · simp [e2, show i < k + 1 by omega]
      · simp [e2, show ¬ i < k + 1 by omega]
  · rw [List.getElem?_eq_none (by simp [sizK]; omega), List.getElem?_eq_none (by simp [sizK]; omega)]
theorem sizL_len (n m : Nat) : (sizL n m).length = ovN n m := by simp [sizL]
set_option maxRecDepth 100000 in
set_option maxHeartbeats 4000000 in
theorem tall_Sizes (n m : Nat) (w : World) (hn : n ≤ 32768) (hm : 1 ≤ m) (hm2 : m ≤ 32768) :
    Calls Tryz.prog 60 #[.int .i64 (↑n : Int), .int .i64 (↑m : Int)] w (RetS (fun w' r => ∃ p c, r = .slice p (ovN n m) c ∧ w'.ownsRow w.heap.size 3 1 (.slice p (ovN n m) c) (ovN n m) ((sizL n m).map nv)) w) := by
 have hov := ovN_le n m hm
 refine zin 40 Tryz.func60 ?_
 refine xgk 11 [8, 9] (show (decide ((↑n : Int) < (0 : Int)) : Bool) = false from decide_eq_false (by omega)) ?_
 refine xgk 4 [11, 12, 13] (show (decide ((↑n : Int) > (32768 : Int)) : Bool) = false from decide_eq_false (by omega)) ?_
 refine xk 5 (show (decide ((↑m : Int) < (1 : Int)) : Bool) = false from decide_eq_false (by omega)) ?_
 refine xq 5 (congrArg (Value.int .i64) (show (if (32768 : Int) < (↑m : Int) then (32768 : Int) else (↑m : Int) : Int) = (↑m : Int) from if_neg (by omega))) ?_
 refine xr 7 (args := #[.int .i64 (↑n : Int), .int .i64 (↑m : Int)]) (tall_over n m _ (by omega) hm (by omega)) fun W3 hb3 => ?_
 refine xmk 0 fun _ _ _ _ zJ zQ zo zx zy zK => op_make (ovN n m) (.int .i64 0) 1 8 (sizK n m 0) zo zx zy Tryz.underlying24 (by kernel_rfl) rfl (by omega) (by omega) (sizK_zero n m) fun b4 W4 n4 => ?_
 refine zK _ _ ?_
 have hB := Bl.next hb3 n4.below
 refine zl 12 40 (fun zm zkv V => ∃ (k : Nat), zkv = [(0, .int .i64 (↑n : Int)), (1, .int .i64 (↑m : Int)), (4, .slice none 0 0), (5, .slice (some ⟨b4, 0, none⟩) (ovN n m) (ovN n m)), (24, .int .i64 (↑(ovN n m) : Int)), (25, .int .i64 (↑k : Int))] ∧ zm = ovN n m - ((↑k : Int)).toNat ∧ Below w.heap.size w V ∧ Blk V b4 (sizK n m k) 3 ∧ k ≤ ovN n m) ⟨0, rfl, rfl, hB, n4.blk, Nat.zero_le _⟩ ?_
 rintro _ _ W5 ⟨k, rfl, rfl, hB_5, k5_b4, hk⟩ J5 hJ5 r5
 have hkm : k < ovN n m → k * m ≤ n := siz_le hm
 refine xid 6 ((↑k : Int) < (↑(ovN n m) : Int)) (fun hc6 => ?_) (fun hc6 => ?_)
 · refine xwm 17 ((↑k : Int) * (↑m : Int)) (↑(k * m) : Int) ?_
   refine xwm 0 ((↑n : Int) - (↑(k * m) : Int)) (↑(n - (k * m)) : Int) ?_
   refine xxb 1 b4 0 (ovN n m) k 1 ?_
   refine xsg 0 k5_b4 (0 + k * 1) (.int .i64 (if (↑(n - (k * m)) : Int) < (↑m : Int) then (↑(n - (k * m)) : Int) else (↑m : Int))) (by simp [sizK]; omega) fun W7 u7 k7 => ?_
   replace k7 : Blk W7 b4 (sizK n m (k + 1)) 3 := by rw [← (show (sizK n m k).set (0 + k * 1) (.int .i64 (if (↑(n - (k * m)) : Int) < (↑m : Int) then (↑(n - (k * m)) : Int) else (↑m : Int))) = sizK n m (k + 1) from by rw [show 0 + k * 1 = k by omega, show (if (↑(n - (k * m)) : Int) < (↑m : Int) then (↑(n - (k * m)) : Int) else (↑m : Int)) = (↑(sizN n m k) : Int) from min_cast m (n - k * m)]; exact sizK_set (by omega))]; exact k7
   have g4 := n4.ge hb3
   refine xwm 4 ((↑k : Int) + 1) (↑(k + 1) : Int) ?_
   have hB'1 := u7.below hB_5 g4
   exact ze 2 (hJ5 _ _ _ ⟨k + 1, rfl, rfl, hB'1, k7, by omega⟩ (by omega))
 have g4 := n4.ge hb3
 refine xe 12 (.slice (some ⟨b4, 0, none⟩) (ovN n m) (ovN n m)) ?_
 have e : k = ovN n m := by omega
 subst e
 have ho := own_of_blk (size := 1) (n := ovN n m) k5_b4 g4 (by simp [sizK]) (by unfold maxLen; omega)
 rw [sizK_all] at ho
 exact ⟨_, rfl, hB_5, _, _, rfl, ho⟩
end Go.Proofs.YtbhjgcokpmiopaaGreat
namespace Go.Proofs.YtbhjgcokpmiopaaGreat
open Go.RowKit Go.Extern.Stop Go.Stop Go.Extern
set_option linter.unusedVariables false
attribute [local irreducible] wpList wpAnyH Code.wp Oper.wp Go

/-- the number of w bytes from k on, the lowest first -/
def rawN (l : List UInt8) : Nat → Nat → Nat
  | _, 0 => 0
  | k, w + 1 => (l.getD k 0).toNat + 256 * rawN l (k + 1) w
theorem rawN_lt (l : List UInt8) : ∀ (w k : Nat), rawN l k w < 256 ^ w
  | 0, k => by simp [rawN]
  | w + 1, k => by
    have := rawN_lt l w (k + 1)
    have h := (l.getD k 0).toNat_lt
    rw [rawN, Nat.pow_succ]; omega
theorem rawN_lt8 (l : List UInt8) (k w : Nat) (hw : w ≤ 8) : rawN l k w < 18446744073709551616 := Nat.lt_of_lt_of_le (rawN_lt l w k) (by rw [show (18446744073709551616 : Nat) = 256 ^ 8 from rfl]; exact Nat.pow_le_pow_right (by decide) hw)
theorem rawN_lt7 (l : List UInt8) (k w : Nat) (hw : w ≤ 7) : rawN l k w < 72057594037927936 := Nat.lt_of_lt_of_le (rawN_lt l w k) (by rw [show (72057594037927936 : Nat) = 256 ^ 7 from rfl]; exact Nat.pow_le_pow_right (by decide) hw)
theorem rawN_lt4 (l : List UInt8) (k w : Nat) (hw : w ≤ 4) : rawN l k w < 4294967296 := Nat.lt_of_lt_of_le (rawN_lt l w k) (by rw [show (4294967296 : Nat) = 256 ^ 4 from rfl]; exact Nat.pow_le_pow_right (by decide) hw)
theorem u64_step {n b : Nat} (hn : n < 72057594037927936) (hb : b < 256) : IntKind.u64.wrap (↑(BitVec.ofInt 64 (IntKind.u64.wrap ((n : Int) * 2 ^ 8)) ||| BitVec.ofInt 64 (b : Int)).toNat : Int) = ((b + 256 * n : Nat) : Int) := by
  have h1 : IntKind.u64.wrap ((n : Int) * 2 ^ 8) = ((n * 2 ^ 8 : Nat) : Int) := by
    rw [show (n : Int) * 2 ^ 8 = ((n * 2 ^ 8 : Nat) : Int) by omega]; exact IntWalk.u64_in _ (by constructor <;> omega)
  rw [h1, BitVec.ofInt_natCast, BitVec.ofInt_natCast, BitVec.toNat_or, BitVec.toNat_ofNat, BitVec.toNat_ofNat, Nat.mod_eq_of_lt (by omega), Nat.mod_eq_of_lt (by omega)]
  rw [← Nat.shiftLeft_eq, ← Nat.shiftLeft_add_eq_or_of_lt (by exact hb : b < 2 ^ 8), Nat.shiftLeft_eq, IntWalk.u64_in _ (by constructor <;> omega)]
  congr 1; omega
theorem u64_nat {n : Nat} (h : n < 18446744073709551616) : IntKind.u64.wrap (n : Int) = (n : Int) := IntWalk.u64_in _ (by constructor <;> omega)
theorem there_ok (a : Option Addr) (m c k w : Nat) (hw : w = 1 ∨ w = 2 ∨ w = 4 ∨ w = 8) (hk : k + w ≤ m) (hm : m ≤ 100000000) (W : World) :
    Calls Tryz.prog 84 #[.slice a m c, .int .i64 (↑k : Int), .int .i64 (↑w : Int)] W (Ret (.int .i64 0) W) := by
  rcases hw with rfl | rfl | rfl | rfl
  · exact there_1 a m c k hk hm W
  · exact there_2 a m c k hk hm W
  · exact there_4 a m c k hk hm W
  · exact there_8 a m c k hk hm W
set_option maxRecDepth 100000 in
set_option maxHeartbeats 2000000 in
theorem Get_ok (a : Option Addr) (c k w : Nat) (l : List UInt8) (W : World) (hw : w = 1 ∨ w = 2 ∨ w = 4 ∨ w = 8) (hk : k + w ≤ l.length) (hl : l.length ≤ 100000000) (h : Bys W (.slice a l.length c) l) (hq : rawN l k w < 9223372036854775808) :
    Calls Tryz.prog 49 #[.slice a l.length c, .int .i64 (↑k : Int), .int .i64 (↑w : Int)] W (Ret (.tuple #[.int .i64 (rawN l k w : Int), .int .i64 0]) W) := by
 refine zin 38 Tryz.func49 ?_
 refine xr 12 (args := #[.slice a l.length c, .int .i64 (↑k : Int), .int .i64 (↑w : Int)]) (there_ok a l.length c k w hw hk hl _) fun W1 hb1 => ?_
 refine xw 21 ((↑w : Int) - 1) ?_
 refine zl 4 38 (fun zm zkv V => ∃ (j r : Nat), zkv = [(0, .slice a l.length c), (1, .int .i64 (↑k : Int)), (6, .int .i64 0), (7, .int .i64 0), (9, .int .u64 (↑(rawN l (k + j) r) : Int)), (10, .int .i64 ((↑j : Int) - 1))] ∧ zm = (((↑j : Int) - 1) + 1).toNat ∧ Below W.heap.size W V ∧ j + r = w) ⟨w, 0, rfl, rfl, hb1, by omega⟩ ?_
 rintro _ _ W2 ⟨j, r, rfl, rfl, hB_2, hjr⟩ J2 hJ2 r2
 refine xid 7 ((↑j : Int) - 1 ≥ (0 : Int)) (fun hc3 => ?_) (fun hc3 => ?_)
 · refine xq 10 (congrArg (Value.int .i64) (show IntKind.i64.wrap ((↑k : Int) + ((↑j : Int) - 1)) = (↑(k + (j - 1)) : Int) from (show IntKind.i64.wrap ((↑k : Int) + ((↑j : Int) - 1)) = ((↑k : Int) + ((↑j : Int) - 1)) from by first | exact IntWalk.i64_in _ (by omega) | (simp only [IntKind.wrap]; omega)).trans (by omega))) ?_
   refine xx 0 _ l.length (k + (j - 1)) 1 (Bys.elem h (k := (k + (j - 1))) (by omega)).1 ?_
   refine xl 0 ((Bys.elem (h.below hB_2) (k := (k + (j - 1))) (by omega)).2) ?_
   refine xq 0 (congrArg (Value.int .u64) (show (IntKind.u64.wrap (↑(l.getD (k + (j - 1)) 0).toNat : Int) : Int) = (↑(l.getD (k + (j - 1)) 0).toNat : Int) from u64_nat (by have := (l.getD (k + (j - 1)) 0).toNat_lt; omega))) ?_
   refine xq 0 (congrArg (Value.int .u64) (show (IntKind.u64.wrap (↑(BitVec.ofInt 64 (IntKind.u64.wrap ((↑(rawN l (k + j) r) : Int) * 2 ^ 8)) ||| BitVec.ofInt 64 (↑(l.getD (k + (j - 1)) 0).toNat : Int)).toNat : Int) : Int) = (↑(rawN l (k + (j - 1)) (r + 1)) : Int) from (u64_step (rawN_lt7 l (k + j) r (by omega)) (l.getD (k + (j - 1)) 0).toNat_lt).trans (congrArg (fun x : Nat => (x : Int)) (by rw [rawN, show k + (j - 1) + 1 = k + j by omega])))) ?_
   refine xq 6 (congrArg (Value.int .i64) (show IntKind.i64.wrap ((↑j : Int) - 1 - 1) = ((↑(j - 1 : Nat) : Int) - 1) from (show IntKind.i64.wrap ((↑j : Int) - 1 - 1) = ((↑j : Int) - 1 - 1) from by first | exact IntWalk.i64_in _ (by omega) | (simp only [IntKind.wrap]; omega)).trans (by omega))) ?_
   exact ze 2 (hJ2 _ _ _ ⟨j - 1, r + 1, rfl, rfl, hB_2, by omega⟩ (by omega))
 refine xk 12 (show (decide ((↑(rawN l (k + j) r) : Int) ≥ (9223372036854775808 : Int)) : Bool) = false from by rw [(show rawN l (k + j) r = rawN l k w from by rw [show j = 0 by omega, show r = w by omega]; rfl)]; exact decide_eq_false (by omega)) ?_
 refine xq 5 (congrArg (Value.int .i64) (show (IntKind.i64.wrap (↑(rawN l (k + j) r) : Int) : Int) = (↑(rawN l k w) : Int) from by rw [(show rawN l (k + j) r = rawN l k w from by rw [show j = 0 by omega, show r = w by omega]; rfl)]; exact i64_nat hq)) ?_
 exact xe 5 (.tuple #[.int .i64 (↑(rawN l k w) : Int), .int .i64 0]) ⟨rfl, hB_2⟩
set_option maxRecDepth 100000 in
set_option maxHeartbeats 2000000 in
theorem Get_big (a : Option Addr) (c k w : Nat) (l : List UInt8) (W : World) (hw : w = 1 ∨ w = 2 ∨ w = 4 ∨ w = 8) (hk : k + w ≤ l.length) (hl : l.length ≤ 100000000) (h : Bys W (.slice a l.length c) l) (hq : ¬ rawN l k w < 9223372036854775808) :
    Calls Tryz.prog 49 #[.slice a l.length c, .int .i64 (↑k : Int), .int .i64 (↑w : Int)] W (Ret (.tuple #[.int .i64 0, .int .i64 2]) W) := by
 refine zin 38 Tryz.func49 ?_
 refine xr 12 (args := #[.slice a l.length c, .int .i64 (↑k : Int), .int .i64 (↑w : Int)]) (there_ok a l.length c k w hw hk hl _) fun W1 hb1 => ?_
 refine xw 21 ((↑w : Int) - 1) ?_
 refine zl 4 38 (fun zm zkv V => ∃ (j r : Nat), zkv = [(0, .slice a l.length c), (1, .int .i64 (↑k : Int)), (6, .int .i64 0), (7, .int .i64 0), (9, .int .u64 (↑(rawN l (k + j) r) : Int)), (10, .int .i64 ((↑j : Int) - 1))] ∧ zm = (((↑j : Int) - 1) + 1).toNat ∧ Below W.heap.size W V ∧ j + r = w) ⟨w, 0, rfl, rfl, hb1, by omega⟩ ?_
 rintro _ _ W2 ⟨j, r, rfl, rfl, hB_2, hjr⟩ J2 hJ2 r2
 refine xid 7 ((↑j : Int) - 1 ≥ (0 : Int)) (fun hc3 => ?_) (fun hc3 => ?_)
 · refine xq 10 (congrArg (Value.int .i64) (show IntKind.i64.wrap ((↑k : Int) + ((↑j : Int) - 1)) = (↑(k + (j - 1)) : Int) from (show IntKind.i64.wrap ((↑k : Int) + ((↑j : Int) - 1)) = ((↑k : Int) + ((↑j : Int) - 1)) from by first | exact IntWalk.i64_in _ (by omega) | (simp only [IntKind.wrap]; omega)).trans (by omega))) ?_
   refine xx 0 _ l.length (k + (j - 1)) 1 (Bys.elem h (k := (k + (j - 1))) (by omega)).1 ?_
   refine xl 0 ((Bys.elem (h.below hB_2) (k := (k + (j - 1))) (by omega)).2) ?_
   refine xq 0 (congrArg (Value.int .u64) (show (IntKind.u64.wrap (↑(l.getD (k + (j - 1)) 0).toNat : Int) : Int) = (↑(l.getD (k + (j - 1)) 0).toNat : Int) from u64_nat (by have := (l.getD (k + (j - 1)) 0).toNat_lt; omega))) ?_
   refine xq 0 (congrArg (Value.int .u64) (show (IntKind.u64.wrap (↑(BitVec.ofInt 64 (IntKind.u64.wrap ((↑(rawN l (k + j) r) : Int) * 2 ^ 8)) ||| BitVec.ofInt 64 (↑(l.getD (k + (j - 1)) 0).toNat : Int)).toNat : Int) : Int) = (↑(rawN l (k + (j - 1)) (r + 1)) : Int) from (u64_step (rawN_lt7 l (k + j) r (by omega)) (l.getD (k + (j - 1)) 0).toNat_lt).trans (congrArg (fun x : Nat => (x : Int)) (by rw [rawN, show k + (j - 1) + 1 = k + j by omega])))) ?_
   refine xq 6 (congrArg (Value.int .i64) (show IntKind.i64.wrap ((↑j : Int) - 1 - 1) = ((↑(j - 1 : Nat) : Int) - 1) from (show IntKind.i64.wrap ((↑j : Int) - 1 - 1) = ((↑j : Int) - 1 - 1) from by first | exact IntWalk.i64_in _ (by omega) | (simp only [IntKind.wrap]; omega)).trans (by omega))) ?_
   exact ze 2 (hJ2 _ _ _ ⟨j - 1, r + 1, rfl, rfl, hB_2, by omega⟩ (by omega))
 refine xk 12 (show (decide ((↑(rawN l (k + j) r) : Int) ≥ (9223372036854775808 : Int)) : Bool) = true from by rw [(show rawN l (k + j) r = rawN l k w from by rw [show j = 0 by omega, show r = w by omega]; rfl)]; exact decide_eq_true (by omega)) ?_
 exact xe 8 (.tuple #[.int .i64 0, .int .i64 2]) ⟨rfl, hB_2⟩
/-- the numbers of these widths, one behind the other, from a place on -/
def unpL (l : List UInt8) : Nat → List Nat → List Nat
  | _, [] => []
  | k, w :: r => rawN l k w :: unpL l (k + w) r
theorem unpL_len (l : List UInt8) : ∀ (ws : List Nat) (k : Nat), (unpL l k ws).length = ws.length
  | [], k => rfl
  | w :: r, k => by simp [unpL, unpL_len l r]
theorem unpL_snoc (l : List UInt8) (w : Nat) : ∀ (ws : List Nat) (k : Nat), unpL l k (ws ++ [w]) = unpL l k ws ++ [rawN l (k + ws.sum) w]
  | [], k => by simp [unpL]
  | x :: r, k => by simp [unpL, unpL_snoc l w r, Nat.add_assoc]
theorem unpL_get (l : List UInt8) : ∀ (ws : List Nat) (k i : Nat), i < ws.length → (unpL l k ws).getD i 0 = rawN l (k + (ws.take i).sum) (ws.getD i 0)
  | [], k, i, h => by simp at h
  | w :: r, k, 0, h => by simp [unpL]
  | w :: r, k, i + 1, h => by
    have := unpL_get l r (k + w) i (by simpa using h)
    simp only [List.getD_eq_getElem?_getD] at this ⊢
    simp [unpL, this, Nat.add_assoc]
theorem take_snoc {ws : List Nat} {i : Nat} (h : i < ws.length) : ws.take (i + 1) = ws.take i ++ [ws.getD i 0] := by
  rw [List.take_succ_eq_append_getElem h]; simp [List.getD, h]
theorem take_sum_le {ws : List Nat} {i : Nat} (h : i < ws.length) : (ws.take i).sum + ws.getD i 0 ≤ ws.sum := by
  have h1 := take_sum h; have h2 := take_le (L := ws) (i + 1); omega
def getV (l : List UInt8) (k w : Nat) : Int := if rawN l k w < 9223372036854775808 then (rawN l k w : Int) else 0
def getE (l : List UInt8) (k w : Nat) : Int := if rawN l k w < 9223372036854775808 then 0 else 2
theorem getE_zero {l : List UInt8} {k w : Nat} (h : getE l k w = 0) : rawN l k w < 9223372036854775808 := by unfold getE at h; split at h; assumption; cases h
theorem getE_two {l : List UInt8} {k w : Nat} (h : getE l k w ≠ 0) : ¬ rawN l k w < 9223372036854775808 ∧ getE l k w = 2 := by unfold getE at h ⊢; split at h; exact absurd rfl h; rename_i h2; exact ⟨h2, if_neg h2⟩
theorem getE_ok {l : List UInt8} {k w : Nat} (h : rawN l k w < 9223372036854775808) : getE l k w = 0 := if_pos h
theorem getV_ok {l : List UInt8} {k w : Nat} (h : rawN l k w < 9223372036854775808) : getV l k w = (rawN l k w : Int) := if_pos h
theorem Get_gen (a : Option Addr) (c k w : Nat) (l : List UInt8) (W : World) (hw : w = 1 ∨ w = 2 ∨ w = 4 ∨ w = 8) (hk : k + w ≤ l.length) (hl : l.length ≤ 100000000) (h : Bys W (.slice a l.length c) l) :
    Calls Tryz.prog 49 #[.slice a l.length c, .int .i64 (↑k : Int), .int .i64 (↑w : Int)] W (Ret (.tuple #[.int .i64 (getV l k w), .int .i64 (getE l k w)]) W) := by
  by_cases hq : rawN l k w < 9223372036854775808
  · rw [getV_ok hq, getE_ok hq]; exact Get_ok a c k w l W hw hk hl h hq
  · rw [getV, getE, if_neg hq, if_neg hq]; exact Get_big a c k w l W hw hk hl h hq
set_option maxRecDepth 100000 in
set_option maxHeartbeats 2000000 in
theorem Unpack_ok (a : Option Addr) (c : Nat) (l : List UInt8) (aw : Option Addr) (cw : Nat) (ws : List Nat) (W : World) (hk : ∀ i, i < ws.length → ws.getD i 0 = 1 ∨ ws.getD i 0 = 2 ∨ ws.getD i 0 = 4 ∨ ws.getD i 0 = 8) (hs : ws.sum ≤ l.length) (hl : l.length ≤ 100000000) (hw : ws.length ≤ 1000) (h : Bys W (.slice a l.length c) l) (hws : Sl W (.slice aw ws.length cw) ws.length (ws.map nv)) (hq : ∀ i, i < ws.length → (unpL l 0 ws).getD i 0 < 9223372036854775808) :
    Calls Tryz.prog 98 #[.slice a l.length c, .slice aw ws.length cw] W (RetS (fun w' r => ∃ p c, r = .tuple #[.slice p ws.length c, .int .i64 0] ∧ w'.ownsRow W.heap.size 3 1 (.slice p ws.length c) ws.length ((unpL l 0 ws).map nv)) W) := by
 refine zin 37 Tryz.func98 ?_
 have hB := Below.refl W.heap.size W
 refine zl 25 37 (fun zm zkv V => ∃ (i : Nat) (p : Option Addr) (c2 : Nat), zkv = [(0, .slice a l.length c), (6, .slice p i c2), (7, .int .i64 (↑(ws.take i).sum : Int)), (12, .slice aw ws.length cw), (13, .int .i64 (↑ws.length : Int)), (14, .int .i64 (↑i : Int))] ∧ zm = ws.length - ((↑i : Int)).toNat ∧ Below W.heap.size W V ∧ V.ownsRow W.heap.size 3 1 (.slice p i c2) i ((unpL l 0 (ws.take i)).map nv) ∧ i ≤ ws.length) ⟨0, _, _, rfl, rfl, hB, World.ownsRow_nil _ _ _ _, Nat.zero_le _⟩ ?_
 rintro _ _ W1 ⟨i, p, c2, rfl, rfl, hB_1, ho, hi⟩ J1 hJ1 r1
 have hts : i < ws.length → (ws.take i).sum + ws.getD i 0 ≤ ws.sum := take_sum_le
 have hui : i < ws.length → (unpL l 0 ws).getD i 0 = rawN l (ws.take i).sum (ws.getD i 0) := fun h => by rw [unpL_get l ws 0 i h, Nat.zero_add]
 refine xid 6 ((↑i : Int) < (↑ws.length : Int)) (fun hc2 => ?_) (fun hc2 => ?_)
 · refine xx 6 _ ws.length i 1 (nv_elem hws rfl (k := i) (by omega)).1 ?_
   refine xl 0 ((nv_elem (hws.below hB_1) rfl (k := i) (by omega)).2) ?_
   refine xr 8 (args := #[.slice a l.length c, .int .i64 (↑(ws.take i).sum : Int), .int .i64 (↑(ws.getD i 0) : Int)]) (Get_gen a c (ws.take i).sum (ws.getD i 0) l _ (hk i (by omega)) (by omega) hl (h.below hB_1)) fun W3 hb3 => ?_
   refine xk 14 (show (((getE l (ws.take i).sum (ws.getD i 0)) != (0 : Int)) : Bool) = false from by rw [getE_ok (by rw [← hui (by omega)]; exact hq i (by omega))]; rfl) ?_
   refine xbs 6 1 [.int .i64 (getV l (ws.take i).sum (ws.getD i 0))] 3 fun b4 W4 n4 => ?_
   have ho'1 := own_below ho hb3
   have r4_ho := own_ne ho'1 n4
   have ho'2 := own_below ho'1 n4.below
   have hB'1 := Bl.next (Bl.next hB_1 hb3) n4.below
   refine xbi 0 fun _ _ _ _ zJ zQ zo zx zy zK => op_app (m := 1) (news := [.int .i64 (getV l (ws.take i).sum (ws.getD i 0))]) (.int .i64 0) 1 8 (i + 1) ((unpL l 0 (ws.take (i + 1))).map nv) zo Tryz.underlying24 (by kernel_rfl) rfl (by decide) zx ho'2 zy (n4.blk.sl 1 1 (by decide) (by decide)) rfl (by simp [Value.oneCell']) (by unfold maxLen; omega) (by omega) hB'1.size (by rfl) (by rw [take_snoc (by omega), unpL_snoc, Nat.zero_add, List.map_append]; simp only [List.map_cons, List.map_nil, nv]; rw [getV_ok (by rw [← hui (by omega)]; exact hq i (by omega))]) fun p5 c5 W5 o5 hg5 hb5 => ?_
   refine zK _ _ ?_
   refine xwm 6 ((↑(ws.take i).sum : Int) + (↑(ws.getD i 0) : Int)) (↑((ws.take i).sum + (ws.getD i 0)) : Int) ?_
   refine xwm 5 ((↑i : Int) + 1) (↑(i + 1) : Int) ?_
   refine xv1 2 7 (show (.int .i64 (↑((ws.take i).sum + (ws.getD i 0)) : Int) : Value) = .int .i64 (↑(ws.take (i + 1)).sum : Int) from by rw [take_snoc (by omega), List.sum_append]; simp) ?_
   have hB'2 := hB'1.trans hb5
   exact ze 0 (hJ1 _ _ _ ⟨i + 1, _, _, rfl, rfl, hB'2, o5, by omega⟩ (by omega))
 refine xe 13 (.tuple #[.slice p i c2, .int .i64 0]) ?_
 obtain rfl : i = ws.length := by omega
 rw [List.take_length] at ho
 exact ⟨_, rfl, hB_1, _, _, rfl, ho⟩
set_option maxRecDepth 100000 in
set_option maxHeartbeats 2000000 in
theorem Unpack_bad (a : Option Addr) (c : Nat) (l : List UInt8) (aw : Option Addr) (cw : Nat) (ws : List Nat) (W : World) (hk : ∀ i, i < ws.length → ws.getD i 0 = 1 ∨ ws.getD i 0 = 2 ∨ ws.getD i 0 = 4 ∨ ws.getD i 0 = 8) (hs : ws.sum ≤ l.length) (hl : l.length ≤ 100000000) (hw : ws.length ≤ 1000) (h : Bys W (.slice a l.length c) l) (hws : Sl W (.slice aw ws.length cw) ws.length (ws.map nv)) (hq : ¬ ∀ i, i < ws.length → (unpL l 0 ws).getD i 0 < 9223372036854775808) :
    Calls Tryz.prog 98 #[.slice a l.length c, .slice aw ws.length cw] W (Ret (.tuple #[.slice none 0 0, .int .i64 2]) W) := by
 refine zin 37 Tryz.func98 ?_
 have hB := Below.refl W.heap.size W
 refine zl 25 37 (fun zm zkv V => ∃ (i : Nat) (p : Option Addr) (c2 : Nat), zkv = [(0, .slice a l.length c), (6, .slice p i c2), (7, .int .i64 (↑(ws.take i).sum : Int)), (12, .slice aw ws.length cw), (13, .int .i64 (↑ws.length : Int)), (14, .int .i64 (↑i : Int))] ∧ zm = ws.length - ((↑i : Int)).toNat ∧ Below W.heap.size W V ∧ V.ownsRow W.heap.size 3 1 (.slice p i c2) i ((unpL l 0 (ws.take i)).map nv) ∧ i ≤ ws.length ∧ (∀ j, j < i → (unpL l 0 ws).getD j 0 < 9223372036854775808)) ⟨0, _, _, rfl, rfl, hB, World.ownsRow_nil _ _ _ _, Nat.zero_le _, ?_⟩ ?_
 · exact fun j hj => absurd hj (by omega)
 rintro _ _ W1 ⟨i, p, c2, rfl, rfl, hB_1, ho, hi, hall⟩ J1 hJ1 r1
 have hts : i < ws.length → (ws.take i).sum + ws.getD i 0 ≤ ws.sum := take_sum_le
 have hui : i < ws.length → (unpL l 0 ws).getD i 0 = rawN l (ws.take i).sum (ws.getD i 0) := fun h => by rw [unpL_get l ws 0 i h, Nat.zero_add]
 refine xid 6 ((↑i : Int) < (↑ws.length : Int)) (fun hc2 => ?_) (fun hc2 => ?_)
 · refine xx 6 _ ws.length i 1 (nv_elem hws rfl (k := i) (by omega)).1 ?_
   refine xl 0 ((nv_elem (hws.below hB_1) rfl (k := i) (by omega)).2) ?_
   refine xr 8 (args := #[.slice a l.length c, .int .i64 (↑(ws.take i).sum : Int), .int .i64 (↑(ws.getD i 0) : Int)]) (Get_gen a c (ws.take i).sum (ws.getD i 0) l _ (hk i (by omega)) (by omega) hl (h.below hB_1)) fun W3 hb3 => ?_
   refine xin 14 (getE l (ws.take i).sum (ws.getD i 0)) (0 : Int) (fun hc4 => ?_) (fun hc4 => ?_)
   · have hgr := getE_two hc4
     have hB'1 := Bl.next hB_1 hb3
     refine xe 14 (.tuple #[.slice none 0 0, .int .i64 (getE l (ws.take i).sum (ws.getD i 0))]) ?_
     rw [hgr.2]; exact ⟨rfl, hB'1⟩
   have hgr := getE_zero hc4
   refine xbs 6 1 [.int .i64 (getV l (ws.take i).sum (ws.getD i 0))] 3 fun b5 W5 n5 => ?_
   have ho'1 := own_below ho hb3
   have r5_ho := own_ne ho'1 n5
   have ho'2 := own_below ho'1 n5.below
   have hB'2 := Bl.next (Bl.next hB_1 hb3) n5.below
   refine xbi 0 fun _ _ _ _ zJ zQ zo zx zy zK => op_app (m := 1) (news := [.int .i64 (getV l (ws.take i).sum (ws.getD i 0))]) (.int .i64 0) 1 8 (i + 1) ((unpL l 0 (ws.take (i + 1))).map nv) zo Tryz.underlying24 (by kernel_rfl) rfl (by decide) zx ho'2 zy (n5.blk.sl 1 1 (by decide) (by decide)) rfl (by simp [Value.oneCell']) (by unfold maxLen; omega) (by omega) hB'2.size (by rfl) (by rw [take_snoc (by omega), unpL_snoc, Nat.zero_add, List.map_append]; simp only [List.map_cons, List.map_nil, nv]; rw [getV_ok hgr]) fun p6 c6 W6 o6 hg6 hb6 => ?_
   refine zK _ _ ?_
   refine xwm 6 ((↑(ws.take i).sum : Int) + (↑(ws.getD i 0) : Int)) (↑((ws.take i).sum + (ws.getD i 0)) : Int) ?_
   refine xwm 5 ((↑i : Int) + 1) (↑(i + 1) : Int) ?_
   refine xv1 2 7 (show (.int .i64 (↑((ws.take i).sum + (ws.getD i 0)) : Int) : Value) = .int .i64 (↑(ws.take (i + 1)).sum : Int) from by rw [take_snoc (by omega), List.sum_append]; simp) ?_
   have hB'3 := hB'2.trans hb6
   exact ze 0 (hJ1 _ _ _ ⟨i + 1, _, _, rfl, rfl, hB'3, o6, by omega, fun j hj => (Nat.lt_or_ge j i).elim (fun q => hall j q) (fun q => by obtain rfl : j = i := (by omega); rw [hui (by omega)]; exact hgr)⟩ (by omega))
 refine xe 13 (.tuple #[.slice p i c2, .int .i64 0]) ?_
 exact absurd (fun j hj => hall j (by omega)) hq
end Go.Proofs.YtbhjgcokpmiopaaGreat
namespace Go.Proofs.YtbhjgcokpmiopaaGreat
open Go.RowKit
set_option linter.unusedVariables false
theorem loop_eq (bs : ByteArray) (i : Nat) (r : List UInt8) : ByteArray.toList.loop bs i r = r.reverse ++ bs.data.toList.drop i := by
  have hs : bs.data.toList.length = bs.size := by rw [Array.length_toList]; rfl
  rw [ByteArray.toList.loop]
  split
  · rename_i h
    have h' : i < bs.data.toList.length := by omega
    rw [loop_eq bs (i + 1) _, List.drop_eq_getElem_cons h']
    have e : bs.get! i = bs.data.toList[i] := by
      have h2 : i < bs.data.size := by rw [← Array.length_toList]; exact h'
      show bs.data[i]! = _
      rw [getElem!_pos bs.data i h2]; simp
    rw [e]; simp
  · rename_i h
    rw [List.drop_eq_nil_of_le (by omega)]; simp
termination_by bs.size - i
theorem str_list (a : List UInt8) : (⟨a.toArray⟩ : ByteArray).toList = a := by
  unfold ByteArray.toList; rw [loop_eq]; simp
theorem str_beq (a b : List UInt8) : ((⟨a.toArray⟩ : ByteArray).toList == (⟨b.toArray⟩ : ByteArray).toList) = (a == b) := by rw [str_list, str_list]
theorem byte_at_raw (l : List UInt8) : ∀ (w k i : Nat), i < w → rawN l k w / 256 ^ i % 256 = (l.getD (k + i) 0).toNat
  | 0, k, i, h => absurd h (by omega)
  | w + 1, k, 0, _ => by
    have := (l.getD k 0).toNat_lt
    rw [rawN]; simp only [Nat.pow_zero, Nat.div_one, Nat.add_zero]; omega
  | w + 1, k, i + 1, h => by
    have := (l.getD k 0).toNat_lt
    have ih := byte_at_raw l w (k + 1) i (by omega)
    rw [rawN, Nat.pow_succ, Nat.mul_comm (256 ^ i) 256, ← Nat.div_div_eq_div_mul, show ((l.getD k 0).toNat + 256 * rawN l (k + 1) w) / 256 = rawN l (k + 1) w by omega, ih, show k + 1 + i = k + (i + 1) by omega]
/-- the bytes of a number that was read are the bytes that were read -/
theorem leB_raw {l : List UInt8} {k w : Nat} (h : k + w ≤ l.length) : leB (rawN l k w : Int) w = (l.drop k).take w := by
  apply List.ext_getElem
  · simp [leB_len]; omega
  intro i h1 h2
  have hw : i < w := by simpa [leB_len] using h1
  have e := byte_at_raw l w k i hw
  apply UInt8.toNat_inj.1
  simp only [leB, List.getElem_map, List.getElem_range, byteAt, Int.toNat_natCast, UInt8.toNat_ofNat', List.getElem_take, List.getElem_drop]
  have e2 : l.getD (k + i) 0 = l[k + i]'(by omega) := by simp [List.getD, show k + i < l.length by omega]
  rw [e2] at e
  rw [← e]
theorem leB_inj {m n w : Nat} (hm : m < 256 ^ w) (hn : n < 256 ^ w) (h : leB (m : Int) w = leB (n : Int) w) : m = n := by
  have e : ∀ i, i < w → m / 256 ^ i % 256 = n / 256 ^ i % 256 := fun i hi => by
    have := congrArg (fun l => (l.getD i 0).toNat) h
    simpa [leB, byteAt, List.getD, List.getElem?_range hi, UInt8.toNat_ofNat'] using this
  clear h
  induction w generalizing m n with
  | zero => simp at hm hn; omega
  | succ w ih =>
    have h0 := e 0 (by omega)
    have h1 : m / 256 = n / 256 := ih (by rw [Nat.pow_succ] at hm; omega) (by rw [Nat.pow_succ] at hn; omega) fun i hi => by
      have := e (i + 1) (by omega)
      rw [Nat.pow_succ, Nat.mul_comm (256 ^ i) 256, ← Nat.div_div_eq_div_mul, ← Nat.div_div_eq_div_mul] at this
      exact this
    simp only [Nat.pow_zero, Nat.div_one] at h0
    omega
theorem str_bne (a b : List UInt8) : (!((⟨a.toArray⟩ : ByteArray).toList == (⟨b.toArray⟩ : ByteArray).toList)) = !(a == b) := by rw [str_beq]
theorem not_t {b : Bool} (h : (!b) = true) : b = false := by simpa using h
theorem not_f {b : Bool} (h : (!b) = false) : b = true := by simpa using h
end Go.Proofs.YtbhjgcokpmiopaaGreat
namespace Go.Proofs.YtbhjgcokpmiopaaGreat
open Go.RowKit Go.Extern.Stop Go.Stop Go.Extern
set_option linter.unusedVariables false
attribute [local irreducible] wpList wpAnyH Code.wp Oper.wp Go

theorem tmod_bd (x : Int) {m : Nat} (hm : 0 < m) : -(m : Int) < Int.tmod x m ∧ Int.tmod x m < m := by
  have h1 := Int.tmod_lt_of_pos x (b := (m : Int)) (by omega)
  have h2 := Int.tmod_lt_of_pos (-x) (b := (m : Int)) (by omega)
  rw [Int.neg_tmod] at h2
  omega
theorem tmod_nn {x : Int} (hx : 0 ≤ x) (m : Nat) : 0 ≤ Int.tmod x m := Int.tmod_nonneg _ hx
theorem run_rem {P : Program} {a : Act} {o : Oper} {t : TypeId} {x y : Operand} {t2 : TypeId} {p q r : Int} {k : IntKind} (ho : o.op = .binOp .rem t x y t2) (hx : a.eval x = .int k p) (hy : a.eval y = .int k q) (hq : q ≠ 0) (hr : Int.tmod p q = r) (w : World) :
    (execOp a.eval o).run P w = .ok (.value (.int k r)) w := by
  subst hr
  have hb : (binOp .rem t (.int k p) (.int k q)).run P w = .ok (.int k (p.tmod q)) w := by
    simp [binOp, Op.intDiv, hq]
  have hg : (eqGuard .rem t x y (.int k p) (.int k q)).run P w = .ok () w := rfl
  simp only [execOp, ho, hx, hy, Sem.run_bind, hg, Result.andThen_ok, hb]
  rfl
theorem run_bstr {P : Program} {a : Act} {o : Oper} {src dst e : TypeId} {x : Operand} {b : Option Addr} {n c : Nat} {l : List UInt8} {w : World} (ho : o.op = .convert src dst x) (hx : a.eval x = .slice b n c) (h : Bys w (.slice b n c) l) (hl : l.length = n)
    (hs : P.underlying src = some (.slice e)) (he : P.underlying e = some (.int .u8)) (hd : P.underlying dst = some .string) : (execOp a.eval o).run P w = .ok (.value (.string ⟨l.toArray⟩)) w := by
  have hr : (convert src dst (.slice b n c)).run P w = .ok (.string ⟨l.toArray⟩) w := by
    subst hl
    rcases Sl.at h with hn | ⟨g, off, rfl, hc⟩
    · obtain rfl : l = [] := by simpa using hn
      cases b with
      | none => rw [run_convert_bytes_string w src dst e none _ c hs he hd]; rfl
      | some p => exact run_convert_bytes_back w src dst e p c [] hs he hd (fun j hj => by simp at hj)
    · exact run_convert_bytes_back w src dst e _ c l hs he hd (fun j hj => by rw [Addr.add_mid]; exact hc j _ (by simp [List.getElem?_eq_getElem hj, bv]))
  simp only [execOp, ho, hx, Sem.run_bind, hr]; rfl
theorem u8_nat (n : Nat) : IntKind.u8.wrap (n : Int) = ((UInt8.ofNat n).toNat : Int) := by simp [IntKind.wrap, IntKind.bits, IntKind.signed]
theorem Al.below {B ba b g n c : Nat} {pa : Option Addr} {ca f N k : Nat} {l : List UInt8} {w W : World} (h : Al B ba b g n c pa ca f N k l w) (hb : Below w.heap.size w W) : Al B ba b g n c pa ca f N k l W := ⟨h.blkA.below hb, h.blkI.below hb, own_below h.data hb, own_below h.nums hb⟩
theorem own_someN {w : World} {base n c size : Nat} {e : TypeId} {p : Option Addr} {xs : List Value} (h : w.ownsRow base e size (.slice p n c) n xs) (hn : 0 < n) : ∃ g, p = some ⟨g, 0, none⟩ ∧ n ≤ c := by
  rcases h.2 with ⟨_, h0⟩ | ⟨g, cap, cur, hv, _, _, hc, _⟩
  · omega
  · simp only [Value.slice.injEq] at hv; exact ⟨g, hv.1, by omega⟩
/-- k blocks from f on, each sealed -/
def layB (l : List UInt8) (kind : Int) (f : Nat) : Nat → List UInt8
  | 0 => l
  | k + 1 => putB (layB l kind f k) ((f + k) * 256) (sealB kind ((f + k : Nat) : Int) [UInt8.ofNat (f + k)])
set_option maxRecDepth 100000 in
theorem layB_len {l : List UInt8} {kind : Int} {f : Nat} : ∀ {k : Nat}, (f + k) * 256 ≤ l.length → (layB l kind f k).length = l.length
  | 0, _ => by simp only [layB]
  | k + 1, h => by
    have ih := layB_len (kind := kind) (f := f) (k := k) (l := l) (by omega)
    rw [layB, putB_len (by rw [sealB_len (by simp), ih]; omega), ih]
theorem putB_take {l : List UInt8} {k m : Nat} {x : List UInt8} (h : m ≤ k) (hk : k ≤ l.length) : (putB l k x).take m = l.take m := by
  unfold putB
  rw [List.append_assoc, List.take_append_of_le_length (by rw [List.length_take]; omega), List.take_take, Nat.min_eq_left h]
set_option maxRecDepth 100000 in
theorem layB_take {l : List UInt8} {kind : Int} {f : Nat} : ∀ {k : Nat}, (f + k) * 256 ≤ l.length → (layB l kind f k).take (256 * f) = l.take (256 * f)
  | 0, _ => by simp only [layB]
  | k + 1, h => by
    rw [layB, putB_take (by omega) (by rw [layB_len (by omega)]; omega), layB_take (by omega)]
theorem Bys.cap {w : World} {a : Option Addr} {n c : Nat} {l : List UInt8} (h : Bys w (.slice a n c) l) (hl : l.length = n) : n ≤ c := by
  rcases h with ⟨a', c', h1, h2, _⟩ | ⟨b, off, cap, h1, h2, _, _⟩
  · omega
  · simp only [Value.slice.injEq] at h1; omega
theorem image_OfN (a : Option Addr) (c n m : Nat) (l : List UInt8) (w : World) (hn : l.length = n) (hm : min (n / 256) 14400 * 256 = m) (h : Bys w (.slice a n c) l) (hl : n ≤ 100000000) (hc : n ≤ c) :
    Calls Tryz.prog 13 #[.slice a n c] w (RetS (fun w' r => ∃ b p c, r = .pointer (some ⟨b, 0, none⟩) ∧ w.heap.size ≤ b ∧ Blk w' b [.slice p m c] 71 ∧ w'.ownsRow w.heap.size 5 1 (.slice p m c) m ((l.take m).map bv)) w) := by
  subst hn hm; exact image_Of a c l w h hl hc
theorem alloc_NewN (b : Nat) (p0 : Option Addr) (n c f N : Nat) (fi : Int) (hfi : fi = (f : Int)) (hN : n / 256 - f = N) (w : World) (hk : Blk w b [.slice p0 n c] 71) (hn : n ≤ 3686400) (h1 : 1 ≤ f) (h2 : f ≤ n / 256) :
    Calls Tryz.prog 12 #[.pointer (some ⟨b, 0, none⟩), .int .i64 fi] w (RetS (fun w' r => ∃ ba p c2, r = .tuple #[.pointer (some ⟨ba, 0, none⟩), .nilIface] ∧ w.heap.size ≤ ba ∧ Blk w' ba [.slice p N c2, .int .i64 0, .pointer (some ⟨b, 0, none⟩)] 64 ∧ w'.ownsRow w.heap.size 3 1 (.slice p N c2) N ((rngJ f N).map (Value.int .i64))) w) := by
  subst hfi hN; exact alloc_New b p0 n c f w hk hn h1 h2
end Go.Proofs.YtbhjgcokpmiopaaGreat
namespace Go.Proofs.YtbhjgcokpmiopaaGreat
open Go.RowKit Go.Extern.Stop Go.Stop Go.Extern
set_option linter.unusedVariables false
attribute [local irreducible] wpList wpAnyH Code.wp Oper.wp Go

section
variable {P : Program} {a : Act}
/-- a cut of a slice at both bounds -/
theorem run_sliceLHA {o : Oper} {t e : TypeId} {x y y2 : Operand} {b : Option Addr} {n k h c : Nat} {i j : Int} {ki kj : IntKind} (size : Nat) (ho : o.op = .slice t x (some y) (some y2) none) (hx : a.eval x = .slice b n c) (hy : a.eval y = .int ki i) (hi : i = (k : Int)) (hy2 : a.eval y2 = .int kj j) (hj : j = (h : Int)) (hk : k ≤ h) (hc : h ≤ c)
    (ht : P.underlying t = some (.slice e)) (hs : (P.info? e).map (·.size) = some size) (w : World) : (execOp a.eval o).run P w = .ok (.value (.slice (cutA b k c size) (h - k) (c - k))) w := by
  cases hq : P.info? e with
  | none => simp [hq] at hs
  | some q =>
    have hj' : q.size = size := by simpa [hq] using hs
    subst hi hj
    have h1 : (0 : Int) ≤ (k : Int) := by omega
    have h2 : (0 : Int) ≤ (h : Int) := by omega
    have h3 : (k : Int) ≤ (h : Int) := by omega
    have h4 : (h : Int) ≤ (c : Int) := by omega
    by_cases h5 : c = k
    · simp_all [execOp, Instr.sliceAt, Instr.slice, Instr.sliceBounds, Instr.sliceBound, asIntOf, run_underlying ht, sizeOf, typeInfo, cutA]
    · simp_all [execOp, Instr.sliceAt, Instr.slice, Instr.sliceBounds, Instr.sliceBound, asIntOf, run_underlying ht, sizeOf, typeInfo, cutA]
end
theorem Bys.cut {w : World} {b : Option Addr} {n c : Nat} {l : List UInt8} (h : Bys w (.slice b n c) l) (hl : l.length = n) (k m : Nat) (hk : k ≤ m) (hm : m ≤ n) : Bys w (.slice (cutA b k c 1) (m - k) (c - k)) ((l.drop k).take (m - k)) := by
  have hlen : ((l.drop k).take (m - k)).length = m - k := by simp; omega
  have hcap := Bys.cap h hl
  rcases h with ⟨a', c', h1, h2, h3⟩ | ⟨g, off, cap, h1, h2, h3, h4⟩
  · obtain rfl : k = 0 := by omega
    obtain rfl : m = 0 := by omega
    refine .inl ⟨cutA b 0 c 1, c - 0, ?_, by simp, by simp⟩
    simp
  · simp only [Value.slice.injEq] at h1
    obtain ⟨rfl, _, rfl⟩ := h1
    by_cases hz : m - k = 0
    · refine .inl ⟨cutA (some ⟨g, off, none⟩) k c 1, c - k, by rw [hz], by omega, ?_⟩
      rw [hz]; rfl
    · refine .inr ⟨g, off + k * 1, c - k, ?_, by omega, by omega, fun j x hj => ?_⟩
      · rw [cutA, if_neg (by omega), hlen]; simp [Addr.add]
      · rw [List.getElem?_map, List.getElem?_take] at hj
        split at hj
        · rw [List.getElem?_drop] at hj
          have := h4 (k + j) x (by rw [List.getElem?_map]; exact hj)
          rwa [Nat.mul_one, Nat.add_assoc]
        · cases hj
/-- whether all bytes are 0 -/
def zeroB (l : List UInt8) : Bool := l.all (· == 0)
theorem zeroB_true {l : List UInt8} (h : ∀ j, j < l.length → l.getD j 0 = 0) : zeroB l = true := by
  unfold zeroB
  rw [List.all_eq_true]
  intro x hx
  obtain ⟨j, hj, rfl⟩ := List.mem_iff_getElem.1 hx
  have := h j hj
  simpa [List.getD, hj] using this
theorem zeroB_false {l : List UInt8} {j : Nat} (hj : j < l.length) (h : ((l.getD j 0).toNat : Int) ≠ 0) : zeroB l = false := by
  unfold zeroB
  rw [List.all_eq_false]
  refine ⟨l[j], List.getElem_mem hj, ?_⟩
  intro h2
  apply h
  have : l[j] = 0 := by simpa using h2
  simp [List.getD, hj, this]
theorem byte_zero {x : UInt8} (h : (x.toNat : Int) = 0) : x = 0 := by
  have h1 : x.toNat = 0 := by omega
  exact UInt8.toNat_inj.1 (by rw [h1]; rfl)
set_option maxRecDepth 100000 in
set_option maxHeartbeats 1000000 in
theorem zero_1 (n : Int) (w : World) :
    Calls Tryz.prog 86 #[.int .u8 n] w (Ret (.bool (n != 0)) w) := by
 refine zin 5 Tryz.func86 ?_
 exact xe 13 (.bool (n != (0 : Int))) ⟨rfl, (Below.refl w.heap.size _)⟩
set_option maxRecDepth 100000 in
set_option maxHeartbeats 2000000 in
theorem indexZero (a : Option Addr) (c : Nat) (l : List UInt8) (w : World) (hl : l.length ≤ 100000000) (h : Bys w (.slice a l.length c) l) :
    Calls Tryz.prog 97 #[.slice a l.length c, .func (.func 86) #[] #[]] w (fun e w' => (zeroB l = true ∧ e = .returned (.int .i64 (-1)) ∧ Below w.heap.size w w') ∨ (zeroB l = false ∧ ∃ i : Nat, e = .returned (.int .i64 (i : Int)) ∧ Below w.heap.size w w')) := by
 refine zin 19 Tryz.func97 ?_
 have hB := Below.refl w.heap.size w
 refine zl 14 19 (fun zm zkv V => ∃ (i : Nat), zkv = [(0, .slice a l.length c), (1, .func (.func 86) #[] #[]), (7, .int .i64 (↑l.length : Int)), (8, .int .i64 (↑i : Int))] ∧ zm = l.length - ((↑i : Int)).toNat ∧ Below w.heap.size w V ∧ i ≤ l.length ∧ (∀ j, j < i → l.getD j 0 = 0)) ⟨0, rfl, rfl, hB, Nat.zero_le _, ?_⟩ ?_
 · exact fun j hj => absurd hj (by omega)
 rintro _ _ W1 ⟨i, rfl, rfl, hB_1, hi, hz⟩ J1 hJ1 r1
 refine xid 6 ((↑i : Int) < (↑l.length : Int)) (fun hc2 => ?_) (fun hc2 => ?_)
 · refine xx 15 _ l.length i 1 (Bys.elem h (k := i) (by omega)).1 ?_
   refine xl 0 ((Bys.elem (h.below hB_1) (k := i) (by omega)).2) ?_
   refine xr 0 (args := #[.int .u8 (↑(l.getD i 0).toNat : Int)]) (zero_1 (↑(l.getD i 0).toNat : Int) _) fun W3 hb3 => ?_
   refine xin 2 (↑(l.getD i 0).toNat : Int) (0 : Int) (fun hc4 => ?_) (fun hc4 => ?_)
   · have hB'1 := Bl.next hB_1 hb3
     exact xe 12 (.int .i64 (↑i : Int)) (.inr ⟨zeroB_false (j := i) (by omega) (by assumption), _, rfl, hB'1⟩)
   refine xwm 4 ((↑i : Int) + 1) (↑(i + 1) : Int) ?_
   have hB'2 := Bl.next hB_1 hb3
   exact ze 2 (hJ1 _ _ _ ⟨i + 1, rfl, rfl, hB'2, by omega, fun j hj => (Nat.lt_or_ge j i).elim (hz j) (fun q => by obtain rfl : j = i := (by omega); exact byte_zero (by assumption))⟩ (by omega))
 exact xe 11 (.int .i64 (-1)) (.inl ⟨zeroB_true (fun j hj => hz j (by omega)), rfl, hB_1⟩)
set_option maxRecDepth 100000 in
set_option maxHeartbeats 1000000 in
theorem containsZero (a : Option Addr) (c : Nat) (l : List UInt8) (w : World) (hl : l.length ≤ 100000000) (h : Bys w (.slice a l.length c) l) :
    Calls Tryz.prog 85 #[.slice a l.length c, .func (.func 86) #[] #[]] w (Ret (.bool (!zeroB l)) w) := by
 refine zin 9 Tryz.func85 ?_
 refine xc 9 (args := #[.slice a l.length c, .func (.func 86) #[] #[]]) (indexZero a c l _ hl (h.below (Below.refl w.heap.size _))) ?_
 rintro e W1 hq1
 rcases hq1 with ⟨hz, rfl, hb1⟩ | ⟨hz, i0, rfl, hb1⟩
 · refine xe 5 (.bool false) ?_
   rw [hz]; exact ⟨rfl, hb1⟩
 refine xe 5 (.bool (decide ((↑i0 : Int) ≥ (0 : Int)))) ?_
 rw [hz, show decide ((↑i0 : Int) ≥ (0 : Int)) = true from decide_eq_true (by omega)]; exact ⟨rfl, hb1⟩
set_option maxRecDepth 100000 in
set_option maxHeartbeats 1000000 in
theorem code_Zero (a : Option Addr) (c : Nat) (l : List UInt8) (w : World) (hl : l.length ≤ 100000000) (h : Bys w (.slice a l.length c) l) :
    Calls Tryz.prog 50 #[.slice a l.length c] w (Ret (.bool (zeroB l)) w) := by
 refine zin 6 Tryz.func50 ?_
 refine xr 8 (args := #[.slice a l.length c, .func (.func 86) #[] #[]]) (containsZero a c l _ hl (h.below (Below.refl w.heap.size _))) fun W1 hb1 => ?_
 refine xe 5 (.bool (!(!zeroB l))) ?_
 rw [Bool.not_not]; exact ⟨rfl, hb1⟩
/-- a kind and a number that may be -/
def knownB (kind no : Int) : Bool := decide (1 ≤ kind ∧ kind ≤ 4 ∧ 0 ≤ no ∧ no < 14400)
set_option maxRecDepth 100000 in
set_option maxHeartbeats 1000000 in
theorem seal_knownB (kind no : Int) (w : World) :
    Calls Tryz.prog 76 #[.int .i64 kind, .int .i64 no] w (Ret (.bool (knownB kind no)) w) := by
 refine zin 19 Tryz.func76 ?_
 refine xg 10 [6, 7] (decide (kind ≥ (1 : Int))) (fun hc1 => ?_) (fun hc1 => ?_)
 · have hc1 := of_decide_eq_true hc1
   refine xg 4 [9, 10, 11] (decide (kind ≤ (4 : Int))) (fun hc2 => ?_) (fun hc2 => ?_)
   · have hc2 := of_decide_eq_true hc2
     refine xg 4 [13, 14, 15] (decide (no ≥ (0 : Int))) (fun hc3 => ?_) (fun hc3 => ?_)
     · have hc3 := of_decide_eq_true hc3
       exact xe 7 (.bool (decide (no < (14400 : Int)))) ⟨by rw [show knownB kind no = decide (no < 14400) from decide_eq_decide.2 ⟨fun h => h.2.2.2, fun h => ⟨by omega, by omega, by omega, h⟩⟩], (Below.refl w.heap.size _)⟩
     have hc3 := of_decide_eq_false hc3
     exact xe 7 (.bool false) ⟨by rw [show knownB kind no = false from decide_eq_false (by omega)], (Below.refl w.heap.size _)⟩
   have hc2 := of_decide_eq_false hc2
   exact xe 11 (.bool false) ⟨by rw [show knownB kind no = false from decide_eq_false (by omega)], (Below.refl w.heap.size _)⟩
 have hc1 := of_decide_eq_false hc1
 exact xe 15 (.bool false) ⟨by rw [show knownB kind no = false from decide_eq_false (by omega)], (Below.refl w.heap.size _)⟩
set_option maxRecDepth 100000 in
set_option maxHeartbeats 1000000 in
theorem seal_told (a : Option Addr) (c k w : Nat) (l : List UInt8) (W : World) (hw : w = 1 ∨ w = 2 ∨ w = 4) (hk : k + w ≤ l.length) (hl : l.length ≤ 100000000) (h : Bys W (.slice a l.length c) l) :
    Calls Tryz.prog 79 #[.slice a l.length c, .int .i64 (↑k : Int), .int .i64 (↑w : Int)] W (Ret (.int .i64 (rawN l k w : Int)) W) := by
 refine zin 17 Tryz.func79 ?_
 refine xr 10 (args := #[.slice a l.length c, .int .i64 (↑k : Int), .int .i64 (↑w : Int)]) (Get_ok a c k w l _ (by omega) hk hl (h.below (Below.refl W.heap.size _)) (by have := rawN_lt4 l k w (by omega); omega)) fun W1 hb1 => ?_
 exact xe 14 (.int .i64 (↑(rawN l k w) : Int)) ⟨rfl, hb1⟩
theorem seal_toldN (a : Option Addr) (n c k w : Nat) (ki wi : Int) (l : List UInt8) (W : World) (hn : l.length = n) (hki : ki = (k : Int)) (hwi : wi = (w : Int)) (hw : w = 1 ∨ w = 2 ∨ w = 4) (hk : k + w ≤ n) (hl : n ≤ 100000000) (h : Bys W (.slice a n c) l) :
    Calls Tryz.prog 79 #[.slice a n c, .int .i64 ki, .int .i64 wi] W (Ret (.int .i64 (rawN l k w : Int)) W) := by
  subst hn hki hwi; exact seal_told a c k w l W hw hk hl h
/-- what Open asks, in order -/
def askB (kind no : Int) (l : List UInt8) : Nat → Bool
  | 0 => !knownB kind no
  | 1 => (l.length : Int) != 256
  | 2 => (rawN l 252 4 : Int) != (sumB l kind : Int)
  | 3 => (rawN l 0 4 : Int) != no
  | 4 => (rawN l 4 2 : Int) != kind
  | _ => (rawN l 6 2 : Int) != 0
/-- the number of the first that is so; 0: none -/
def openE (kind no : Int) (l : List UInt8) : Int :=
  if askB kind no l 0 then 1 else if askB kind no l 1 then 7 else if askB kind no l 2 then 4 else if askB kind no l 3 then 5 else if askB kind no l 4 then 6 else if askB kind no l 5 then 7 else 0
theorem ask1 {kind no : Int} {l : List UInt8} (h : askB kind no l 1 = false) : l.length = 256 := by
  have : (l.length : Int) = 256 := eq_of_bne_false h
  omega
set_option maxRecDepth 100000 in
set_option maxHeartbeats 1000000 in
theorem open_1 (kind no : Int) (w : World) (l : List UInt8) (bk : Nat) (kk : Blk w bk [.int .i64 kind] 3) (bn : Nat) (kn : Blk w bn [.int .i64 no] 3) :
    Calls Tryz.prog 75 #[.pointer (some ⟨bk, 0, none⟩), .pointer (some ⟨bn, 0, none⟩)] w (Ret (.bool (askB kind no l 0)) w) := by
 refine zin 7 Tryz.func75 ?_
 refine xb 7 0 kk ?_
 refine xb 0 0 kn ?_
 refine xr 0 (args := #[.int .i64 kind, .int .i64 no]) (seal_knownB kind no _) fun W1 hb1 => ?_
 exact xe 5 (.bool (!(knownB kind no))) ⟨rfl, hb1⟩
set_option maxRecDepth 100000 in
set_option maxHeartbeats 1000000 in
theorem open_2 (kind no : Int) (w : World) (bb : Nat) (a : Option Addr) (c : Nat) (l : List UInt8) (kb : Blk w bb [.slice a l.length c] 45) :
    Calls Tryz.prog 77 #[.pointer (some ⟨bb, 0, none⟩)] w (Ret (.bool (askB kind no l 1)) w) := by
 refine zin 5 Tryz.func77 ?_
 refine xb 7 0 kb ?_
 exact xe 6 (.bool ((↑l.length : Int) != (256 : Int))) ⟨rfl, (Below.refl w.heap.size _)⟩
theorem seal_sumN (kind : Int) (a : Option Addr) (c n : Nat) (l : List UInt8) (w : World) (hn : l.length = n) (h256 : n = 256) (hc : 256 ≤ c) (h : Bys w (.slice a n c) l) :
    Calls Tryz.prog 80 #[.slice a n c, .int .i64 kind] w (Ret (.int .i64 (sumB l kind : Int)) w) := by
  subst h256; exact seal_sum kind a c l w hn hc h
set_option maxRecDepth 100000 in
set_option maxHeartbeats 1000000 in
theorem open_3 (kind no : Int) (w : World) (bb : Nat) (a : Option Addr) (c : Nat) (l : List UInt8) (kb : Blk w bb [.slice a l.length c] 45) (bk : Nat) (kk : Blk w bk [.int .i64 kind] 3) (hl : l.length = 256) (hc : 256 ≤ c) (h : Bys w (.slice a l.length c) l) :
    Calls Tryz.prog 78 #[.pointer (some ⟨bb, 0, none⟩), .pointer (some ⟨bk, 0, none⟩)] w (Ret (.bool (askB kind no l 2)) w) := by
 refine zin 9 Tryz.func78 ?_
 refine xd 6 .z ?_
 have kb'1 := kb.below (below_drew w)
 refine xb (.e [] 0) 0 kb'1 ?_
 refine xb (.e [] 2) 0 kb'1 ?_
 have kk'1 := kk.below (below_drew w)
 refine xb (.e [] 3) 0 kk'1 ?_
 have hB := (below_drew w)
 refine xr (.o [] 1) (args := #[.slice a l.length c, .int .i64 252, .int .i64 4]) (seal_toldN a l.length c 252 4 252 4 l _ rfl rfl rfl (by decide) (by omega) (by omega) (h.below hB)) fun W1 hb1 => ?_
 have hB'1 := Bl.next hB hb1
 refine xr (.o [] 4) (args := #[.slice a l.length c, .int .i64 kind]) (seal_sumN kind a c l.length l _ rfl hl hc (h.below hB'1)) fun W2 hb2 => ?_
 have hB'2 := Bl.next hB'1 hb2
 exact xe (.r [5, 6] 3) (.bool ((↑(rawN l 252 4) : Int) != (↑(sumB l kind) : Int))) ⟨rfl, hB'2⟩
set_option maxRecDepth 100000 in
set_option maxHeartbeats 1000000 in
theorem open_4 (kind no : Int) (w : World) (bb : Nat) (a : Option Addr) (c : Nat) (l : List UInt8) (kb : Blk w bb [.slice a l.length c] 45) (bn : Nat) (kn : Blk w bn [.int .i64 no] 3) (hl : l.length = 256) (hc : 256 ≤ c) (h : Bys w (.slice a l.length c) l) :
    Calls Tryz.prog 81 #[.pointer (some ⟨bb, 0, none⟩), .pointer (some ⟨bn, 0, none⟩)] w (Ret (.bool (askB kind no l 3)) w) := by
 refine zin 7 Tryz.func81 ?_
 refine xd 6 .z ?_
 have kb'1 := kb.below (below_drew w)
 refine xb (.e [] 0) 0 kb'1 ?_
 have kn'1 := kn.below (below_drew w)
 refine xb (.e [] 2) 0 kn'1 ?_
 have hB := (below_drew w)
 refine xr (.o [] 1) (args := #[.slice a l.length c, .int .i64 0, .int .i64 4]) (seal_toldN a l.length c 0 4 0 4 l _ rfl rfl rfl (by decide) (by omega) (by omega) (h.below hB)) fun W1 hb1 => ?_
 have hB'1 := Bl.next hB hb1
 exact xe (.r [3, 4] 3) (.bool ((↑(rawN l 0 4) : Int) != no)) ⟨rfl, hB'1⟩
set_option maxRecDepth 100000 in
set_option maxHeartbeats 1000000 in
theorem open_5 (kind no : Int) (w : World) (bb : Nat) (a : Option Addr) (c : Nat) (l : List UInt8) (kb : Blk w bb [.slice a l.length c] 45) (bk : Nat) (kk : Blk w bk [.int .i64 kind] 3) (hl : l.length = 256) (hc : 256 ≤ c) (h : Bys w (.slice a l.length c) l) :
    Calls Tryz.prog 82 #[.pointer (some ⟨bb, 0, none⟩), .pointer (some ⟨bk, 0, none⟩)] w (Ret (.bool (askB kind no l 4)) w) := by
 refine zin 7 Tryz.func82 ?_
 refine xd 6 .z ?_
 have kb'1 := kb.below (below_drew w)
 refine xb (.e [] 0) 0 kb'1 ?_
 have kk'1 := kk.below (below_drew w)
 refine xb (.e [] 2) 0 kk'1 ?_
 have hB := (below_drew w)
 refine xr (.o [] 1) (args := #[.slice a l.length c, .int .i64 4, .int .i64 2]) (seal_toldN a l.length c 4 2 4 2 l _ rfl rfl rfl (by decide) (by omega) (by omega) (h.below hB)) fun W1 hb1 => ?_
 have hB'1 := Bl.next hB hb1
 exact xe (.r [3, 4] 3) (.bool ((↑(rawN l 4 2) : Int) != kind)) ⟨rfl, hB'1⟩
set_option maxRecDepth 100000 in
set_option maxHeartbeats 1000000 in
theorem open_6 (kind no : Int) (w : World) (bb : Nat) (a : Option Addr) (c : Nat) (l : List UInt8) (kb : Blk w bb [.slice a l.length c] 45) (hl : l.length = 256) (hc : 256 ≤ c) (h : Bys w (.slice a l.length c) l) :
    Calls Tryz.prog 83 #[.pointer (some ⟨bb, 0, none⟩)] w (Ret (.bool (askB kind no l 5)) w) := by
 refine zin 5 Tryz.func83 ?_
 refine xb 7 0 kb ?_
 refine xr 0 (args := #[.slice a l.length c, .int .i64 6, .int .i64 2]) (seal_toldN a l.length c 6 2 6 2 l _ rfl rfl rfl (by decide) (by omega) (by omega) (h.below (Below.refl w.heap.size _))) fun W1 hb1 => ?_
 exact xe 5 (.bool ((↑(rawN l 6 2) : Int) != (0 : Int))) ⟨rfl, hb1⟩
/-- what Open hands back -/
def OpenP (kind no : Int) (l : List UInt8) (w : World) (e : Ending) (w' : World) : Prop :=
  (openE kind no l ≠ 0 ∧ e = .returned (.tuple #[.slice none 0 0, .int .i64 (openE kind no l)]) ∧ Below w.heap.size w w') ∨
  (openE kind no l = 0 ∧ ∃ p c, e = .returned (.tuple #[.slice p 244 c, .int .i64 0]) ∧ Below w.heap.size w w' ∧ w'.ownsRow w.heap.size 5 1 (.slice p 244 c) 244 (((l.drop 8).take 244).map bv))
set_option maxRecDepth 100000 in
set_option maxHeartbeats 4000000 in
theorem seal_Open (kind no : Int) (a : Option Addr) (c : Nat) (l : List UInt8) (w : World) (h : Bys w (.slice a l.length c) l) :
    Calls Tryz.prog 48 #[.slice a l.length c, .int .i64 kind, .int .i64 no] w (OpenP kind no l w) := by
 have hcap := h.cap rfl
 refine zin 39 Tryz.func48 ?_
 refine xa 2 [.slice a l.length c] 45 fun b1 W1 n1 => ?_
 refine xa 0 [.int .i64 kind] 3 fun b2 W2 n2 => ?_
 refine xa 0 [.int .i64 no] 3 fun b3 W3 n3 => ?_
 have d3_b2 := n3.ne n2.blk
 refine xbs 18 6 [.func (.func 75) #[] #[.pointer (some ⟨b2, 0, none⟩), .pointer (some ⟨b3, 0, none⟩)], .int .i64 1, .func (.func 77) #[] #[.pointer (some ⟨b1, 0, none⟩)], .int .i64 7, .func (.func 78) #[] #[.pointer (some ⟨b1, 0, none⟩), .pointer (some ⟨b2, 0, none⟩)], .int .i64 4, .func (.func 81) #[] #[.pointer (some ⟨b1, 0, none⟩), .pointer (some ⟨b3, 0, none⟩)], .int .i64 5, .func (.func 82) #[] #[.pointer (some ⟨b1, 0, none⟩), .pointer (some ⟨b2, 0, none⟩)], .int .i64 6, .func (.func 83) #[] #[.pointer (some ⟨b1, 0, none⟩)], .int .i64 7] 123 fun b4 W4 n4 => ?_
 refine xu 12 7 ?_
 refine xlv 14 (n4.blk.rpp 0 2) ?_
 refine xa 0 [.nilFunc, .int .i64 0] 123 fun b5 W5 n5 => ?_
 have d5_b4 := n5.ne n4.blk
 refine xsv 0 n5.blk [.func (.func 75) #[] #[.pointer (some ⟨b2, 0, none⟩), .pointer (some ⟨b3, 0, none⟩)], .int .i64 1] fun W6 u6 k6 => ?_
 have g5 := n5.ge (Bl.next (Bl.next (Bl.next n1.below n2.below) n3.below) n4.below)
 refine xb 5 0 k6 ?_
 have k2'1 := u6.blkT (((n2.blk.below n3.below).below n4.below).below n5.below) n5.blk (by decide)
 have k3 := u6.blkT ((n3.blk.below n4.below).below n5.below) n5.blk (by decide)
 refine xr 0 (args := #[.pointer (some ⟨b2, 0, none⟩), .pointer (some ⟨b3, 0, none⟩)]) (open_1 kind no _ l b2 k2'1 b3 k3) fun W7 hb7 => ?_
 refine xi 2 (askB kind no l 0) (fun hc8 => ?_) (fun hc8 => ?_)
 · have hk1 := hc8
   refine xd 1 .z ?_
   have k6'1 := (k6.below hb7).below (below_drew W7)
   refine xb (.e [0] 1) 1 k6'1 ?_
   have hB := Bl.next (Bl.next (u6.below (Bl.next (Bl.next (Bl.next (Bl.next n1.below n2.below) n3.below) n4.below) n5.below) g5) hb7) (below_drew W7)
   refine xe (.r [2, 3] 8) (.tuple #[.slice none 0 0, .int .i64 1]) ?_
   have he : openE kind no l = 1 := by simp [openE, hk1]
   exact .inl ⟨by rw [he]; decide, by rw [he], hB⟩
 have hk1 := hc8
 have k4'1 := (u6.blk (n4.blk.below n5.below) (Ne.symm (Ne.symm d5_b4))).below hb7
 refine xlv 22 (k4'1.rpp 2 2) ?_
 refine xa 0 [.nilFunc, .int .i64 0] 123 fun b9 W9 n9 => ?_
 have d9_b4 := n9.ne k4'1
 have k6'2 := k6.below hb7
 have d9_b5 := n9.ne k6'2
 refine xsv 0 n9.blk [.func (.func 77) #[] #[.pointer (some ⟨b1, 0, none⟩)], .int .i64 7] fun W10 u10 k10 => ?_
 have g9 := n9.ge (Bl.next (u6.below (Bl.next (Bl.next (Bl.next (Bl.next n1.below n2.below) n3.below) n4.below) n5.below) g5) hb7)
 refine xb 5 0 k10 ?_
 have k1 := u10.blkT (((u6.blkT ((((n1.blk.below n2.below).below n3.below).below n4.below).below n5.below) n5.blk (by decide)).below hb7).below n9.below) n9.blk (by decide)
 refine xr 0 (args := #[.pointer (some ⟨b1, 0, none⟩)]) (open_2 kind no _ b1 a c l k1) fun W11 hb11 => ?_
 refine xi 2 (askB kind no l 1) (fun hc12 => ?_) (fun hc12 => ?_)
 · have hk2 := hc12
   refine xd 1 .z ?_
   have k10'1 := (k10.below hb11).below (below_drew W11)
   refine xb (.e [0] 1) 1 k10'1 ?_
   have hB := Bl.next (Bl.next (u10.below (Bl.next (Bl.next (u6.below (Bl.next (Bl.next (Bl.next (Bl.next n1.below n2.below) n3.below) n4.below) n5.below) g5) hb7) n9.below) g9) hb11) (below_drew W11)
   refine xe (.r [2, 3] 8) (.tuple #[.slice none 0 0, .int .i64 7]) ?_
   have he : openE kind no l = 7 := by simp [openE, hk1, hk2]
   exact .inl ⟨by rw [he]; decide, by rw [he], hB⟩
 have hk2 := hc12
 have hl256 := ask1 hk2
 have k4'2 := (u10.blk (k4'1.below n9.below) (Ne.symm (Ne.symm d9_b4))).below hb11
 refine xlv 22 (k4'2.rpp 4 2) ?_
 refine xa 0 [.nilFunc, .int .i64 0] 123 fun b13 W13 n13 => ?_
 have d13_b4 := n13.ne k4'2
 have k6'3 := (u10.blk (k6'2.below n9.below) (Ne.symm (Ne.symm d9_b5))).below hb11
 have d13_b5 := n13.ne k6'3
 have k10'2 := k10.below hb11
 have d13_b9 := n13.ne k10'2
 have hB := Bl.next (u10.below (Bl.next (Bl.next (u6.below (Bl.next (Bl.next (Bl.next (Bl.next n1.below n2.below) n3.below) n4.below) n5.below) g5) hb7) n9.below) g9) hb11
 refine xsv 0 n13.blk [.func (.func 78) #[] #[.pointer (some ⟨b1, 0, none⟩), .pointer (some ⟨b2, 0, none⟩)], .int .i64 4] fun W14 u14 k14 => ?_
 have g13 := n13.ge hB
 refine xb 5 0 k14 ?_
 have k1'1 := u14.blkT ((k1.below hb11).below n13.below) n13.blk (by decide)
 have k2'2 := u14.blkT (((u10.blkT ((k2'1.below hb7).below n9.below) n9.blk (by decide)).below hb11).below n13.below) n13.blk (by decide)
 have hB'1 := u14.below (Bl.next hB n13.below) g13
 refine xr 0 (args := #[.pointer (some ⟨b1, 0, none⟩), .pointer (some ⟨b2, 0, none⟩)]) (open_3 kind no _ b1 a c l k1'1 b2 k2'2 (ask1 hk2) (by have := ask1 hk2; have := h.cap rfl; omega) (h.below hB'1)) fun W15 hb15 => ?_
 refine xi 2 (askB kind no l 2) (fun hc16 => ?_) (fun hc16 => ?_)
 · have hk3 := hc16
   refine xd 1 .z ?_
   have k14'1 := (k14.below hb15).below (below_drew W15)
   refine xb (.e [0] 1) 1 k14'1 ?_
   have hB'2 := Bl.next (Bl.next hB'1 hb15) (below_drew W15)
   refine xe (.r [2, 3] 8) (.tuple #[.slice none 0 0, .int .i64 4]) ?_
   have he : openE kind no l = 4 := by simp [openE, hk1, hk2, hk3]
   exact .inl ⟨by rw [he]; decide, by rw [he], hB'2⟩
 have hk3 := hc16
 have k4'3 := (u14.blk (k4'2.below n13.below) (Ne.symm (Ne.symm d13_b4))).below hb15
 refine xlv 22 (k4'3.rpp 6 2) ?_
 refine xa 0 [.nilFunc, .int .i64 0] 123 fun b17 W17 n17 => ?_
 have d17_b4 := n17.ne k4'3
 have k6'4 := (u14.blk (k6'3.below n13.below) (Ne.symm (Ne.symm d13_b5))).below hb15
 have d17_b5 := n17.ne k6'4
 have k10'3 := (u14.blk (k10'2.below n13.below) (Ne.symm (Ne.symm d13_b9))).below hb15
 have d17_b9 := n17.ne k10'3
 have k14'2 := k14.below hb15
 have d17_b13 := n17.ne k14'2
 refine xsv 0 n17.blk [.func (.func 81) #[] #[.pointer (some ⟨b1, 0, none⟩), .pointer (some ⟨b3, 0, none⟩)], .int .i64 5] fun W18 u18 k18 => ?_
 have g17 := n17.ge (Bl.next hB'1 hb15)
 refine xb 5 0 k18 ?_
 have k1'2 := u18.blkT ((k1'1.below hb15).below n17.below) n17.blk (by decide)
 have k3'1 := u18.blkT (((u14.blkT (((u10.blkT ((k3.below hb7).below n9.below) n9.blk (by decide)).below hb11).below n13.below) n13.blk (by decide)).below hb15).below n17.below) n17.blk (by decide)
 have hB'3 := u18.below (Bl.next (Bl.next hB'1 hb15) n17.below) g17
 refine xr 0 (args := #[.pointer (some ⟨b1, 0, none⟩), .pointer (some ⟨b3, 0, none⟩)]) (open_4 kind no _ b1 a c l k1'2 b3 k3'1 (ask1 hk2) (by have := ask1 hk2; have := h.cap rfl; omega) (h.below hB'3)) fun W19 hb19 => ?_
 refine xi 2 (askB kind no l 3) (fun hc20 => ?_) (fun hc20 => ?_)
 · have hk4 := hc20
   refine xd 1 .z ?_
   have k18'1 := (k18.below hb19).below (below_drew W19)
   refine xb (.e [0] 1) 1 k18'1 ?_
   have hB'4 := Bl.next (Bl.next hB'3 hb19) (below_drew W19)
   refine xe (.r [2, 3] 8) (.tuple #[.slice none 0 0, .int .i64 5]) ?_
   have he : openE kind no l = 5 := by simp [openE, hk1, hk2, hk3, hk4]
   exact .inl ⟨by rw [he]; decide, by rw [he], hB'4⟩
 have hk4 := hc20
 have k4'4 := (u18.blk (k4'3.below n17.below) (Ne.symm (Ne.symm d17_b4))).below hb19
 refine xlv 22 (k4'4.rpp 8 2) ?_
 refine xa 0 [.nilFunc, .int .i64 0] 123 fun b21 W21 n21 => ?_
 have d21_b4 := n21.ne k4'4
 have k6'5 := (u18.blk (k6'4.below n17.below) (Ne.symm (Ne.symm d17_b5))).below hb19
 have d21_b5 := n21.ne k6'5
 have k10'4 := (u18.blk (k10'3.below n17.below) (Ne.symm (Ne.symm d17_b9))).below hb19
 have d21_b9 := n21.ne k10'4
 have k14'3 := (u18.blk (k14'2.below n17.below) (Ne.symm (Ne.symm d17_b13))).below hb19
 have d21_b13 := n21.ne k14'3
 have k18'2 := k18.below hb19
 have d21_b17 := n21.ne k18'2
 refine xsv 0 n21.blk [.func (.func 82) #[] #[.pointer (some ⟨b1, 0, none⟩), .pointer (some ⟨b2, 0, none⟩)], .int .i64 6] fun W22 u22 k22 => ?_
 have g21 := n21.ge (Bl.next hB'3 hb19)
 refine xb 5 0 k22 ?_
 have k1'3 := u22.blkT ((k1'2.below hb19).below n21.below) n21.blk (by decide)
 have k2'3 := u22.blkT (((u18.blkT ((k2'2.below hb15).below n17.below) n17.blk (by decide)).below hb19).below n21.below) n21.blk (by decide)
 have hB'5 := u22.below (Bl.next (Bl.next hB'3 hb19) n21.below) g21
 refine xr 0 (args := #[.pointer (some ⟨b1, 0, none⟩), .pointer (some ⟨b2, 0, none⟩)]) (open_5 kind no _ b1 a c l k1'3 b2 k2'3 (ask1 hk2) (by have := ask1 hk2; have := h.cap rfl; omega) (h.below hB'5)) fun W23 hb23 => ?_
 refine xi 2 (askB kind no l 4) (fun hc24 => ?_) (fun hc24 => ?_)
 · have hk5 := hc24
   refine xd 1 .z ?_
   have k22'1 := (k22.below hb23).below (below_drew W23)
   refine xb (.e [0] 1) 1 k22'1 ?_
   have hB'6 := Bl.next (Bl.next hB'5 hb23) (below_drew W23)
   refine xe (.r [2, 3] 8) (.tuple #[.slice none 0 0, .int .i64 6]) ?_
   have he : openE kind no l = 6 := by simp [openE, hk1, hk2, hk3, hk4, hk5]
   exact .inl ⟨by rw [he]; decide, by rw [he], hB'6⟩
 have hk5 := hc24
 have k4'5 := (u22.blk (k4'4.below n21.below) (Ne.symm (Ne.symm d21_b4))).below hb23
 refine xlv 22 (k4'5.rpp 10 2) ?_
 refine xa 0 [.nilFunc, .int .i64 0] 123 fun b25 W25 n25 => ?_
 have d25_b4 := n25.ne k4'5
 have k6'6 := (u22.blk (k6'5.below n21.below) (Ne.symm (Ne.symm d21_b5))).below hb23
 have d25_b5 := n25.ne k6'6
 have k10'5 := (u22.blk (k10'4.below n21.below) (Ne.symm (Ne.symm d21_b9))).below hb23
 have d25_b9 := n25.ne k10'5
 have k14'4 := (u22.blk (k14'3.below n21.below) (Ne.symm (Ne.symm d21_b13))).below hb23
 have d25_b13 := n25.ne k14'4
 have k18'3 := (u22.blk (k18'2.below n21.below) (Ne.symm (Ne.symm d21_b17))).below hb23
 have d25_b17 := n25.ne k18'3
 have k22'2 := k22.below hb23
 have d25_b21 := n25.ne k22'2
 refine xsv 0 n25.blk [.func (.func 83) #[] #[.pointer (some ⟨b1, 0, none⟩)], .int .i64 7] fun W26 u26 k26 => ?_
 have g25 := n25.ge (Bl.next hB'5 hb23)
 refine xb 5 0 k26 ?_
 have k1'4 := u26.blkT ((k1'3.below hb23).below n25.below) n25.blk (by decide)
 have hB'7 := u26.below (Bl.next (Bl.next hB'5 hb23) n25.below) g25
 refine xr 0 (args := #[.pointer (some ⟨b1, 0, none⟩)]) (open_6 kind no _ b1 a c l k1'4  (ask1 hk2) (by have := ask1 hk2; have := h.cap rfl; omega) (h.below hB'7)) fun W27 hb27 => ?_
 refine xi 2 (askB kind no l 5) (fun hc28 => ?_) (fun hc28 => ?_)
 · have hk6 := hc28
   refine xd 1 .z ?_
   have k26'1 := (k26.below hb27).below (below_drew W27)
   refine xb (.e [0] 1) 1 k26'1 ?_
   have hB'8 := Bl.next (Bl.next hB'7 hb27) (below_drew W27)
   refine xe (.r [2, 3] 8) (.tuple #[.slice none 0 0, .int .i64 7]) ?_
   have he : openE kind no l = 7 := by simp [openE, hk1, hk2, hk3, hk4, hk5, hk6]
   exact .inl ⟨by rw [he]; decide, by rw [he], hB'8⟩
 have hk6 := hc28
 have k1'5 := k1'4.below hb27
 refine xb 22 0 k1'5 ?_
 refine xsB 0 (fun _ _ _ _ _ zo zx zy zz V => run_sliceLHA (k := 8) (h := 252) (b := a) (n := l.length) (c := c) (i := 8) (ki := .i64) (j := 252) (kj := .i64) 1 zo zx zy rfl zz rfl (by omega) (by omega) Tryz.underlying45 (by kernel_rfl) V) ?_
 have hB'9 := Bl.next hB'7 hb27
 refine xc 0 (args := #[.slice (cutA a 8 c 1) 244 (c - 8)]) (clone_bytesN (cutA a 8 c 1) 244 (c - 8) ((l.drop 8).take 244) _ (by have := ask1 hk2; simp; omega) ((Bys.cut h rfl 8 252 (by decide) (by have := ask1 hk2; omega)).below hB'9) (by decide)) ?_
 rintro _ W29 ⟨_, rfl, hb29, ho⟩
 have hs29 := (Bl.next hB'7 hb27).size
 have ho'1 := own_mono ho hs29
 unfold OwnB at ho'1
 rw [show ((l.drop 8).take 244).length = 244 from by have := ask1 hk2; simp; omega] at ho'1
 obtain ⟨p, c3, rfl⟩ := (own_sl ho'1).slice
 have hB'10 := Bl.next hB'9 hb29
 exact xe 5 (.tuple #[.slice p 244 c3, .int .i64 0]) (.inr ⟨by simp [openE, hk1, hk2, hk3, hk4, hk5, hk6], _, _, rfl, hB'10, ho'1⟩)
end Go.Proofs.YtbhjgcokpmiopaaGreat
namespace Go.Proofs.YtbhjgcokpmiopaaGreat
open Go.RowKit Go.Extern.Stop Go.Stop Go.Extern
set_option linter.unusedVariables false
section
variable {P : Program} {Q : Exit → Act → World → Prop} {a : Act} {w : World} {K : Act → World → Prop}
/-- 'copy' of a string into a row of the call's own -/
theorem op_copyS {o : Oper} {d x : Operand} {dT sT e : TypeId} {base g off n cap dLen dCap : Nat} {xs : List Value} (l : List UInt8) (xs' : List Value) (ho : o.op = .call { callee := .builtin .copy, args := #[d, x], argTypes := #[dT, sT] }) (hu : P.underlying dT = some (.slice e)) (hsz : (P.info? e).map (·.size) = some 1)
    (hd : a.eval d = .slice (some ⟨g, off, none⟩) dLen dCap) (hs : a.eval x = .string ⟨l.toArray⟩) (hown : w.ownsRow base e 1 (.slice (some ⟨g, 0, none⟩) n cap) n xs) (hm : l.length ≤ dLen) (hfit : off + l.length ≤ n)
    (hbase : base ≤ w.heap.size) (hxs : xs.take off ++ l.map bv ++ xs.drop (off + l.length) = xs')
    (h : ∀ W, W.ownsRow base e 1 (.slice (some ⟨g, 0, none⟩) n cap) n xs' → w.grownBy W (Value.slice (some ⟨g, 0, none⟩) n cap).ownBlock → Below base w W → K (a.put o.dst (.int .i64 (l.length : Int))) W) : o.wp P a w K Q := by
  obtain ⟨hl, hr⟩ := hown
  rcases hr with ⟨hv, _⟩ | ⟨g2, cap2, cur, hv, hge, hh, hnc, hcm, hcs, htk⟩
  · cases hv
  simp only [Value.slice.injEq, Option.some.injEq, Addr.mk.injEq] at hv
  obtain ⟨⟨rfl, _, _⟩, _, rfl⟩ := hv
  have hlen : xs.length = n := by simpa using hl
  have hcur : cur.toList.length = cap := by simpa using hcs
  have hml : (l.map bv).length = l.length := by simp
  have key : ∀ W, W.heap[g]? = some (.cells (cur.toList.take off ++ l.map bv ++ cur.toList.drop (off + l.length)).toArray e (0, 0)) → w.grownBy W (some g) → K (a.put o.dst (.int .i64 (l.length : Int))) W := by
    intro W hW hg
    refine h W ⟨?_, .inr ⟨g, cap, _, rfl, hge, hW, hnc, hcm, ?_, ?_⟩⟩ hg (grown_below (v := .slice (some ⟨g, 0, none⟩) n cap) hg ⟨hl, .inr ⟨g, cap, cur, rfl, hge, hh, hnc, hcm, hcs, htk⟩⟩ (Nat.le_refl _) hbase)
    · rw [← hxs]; simp; omega
    · simp only [List.size_toArray, List.length_append, List.length_take, List.length_drop, hcur, Nat.mul_one, hml]; omega
    · have hA : (cur.toList.take off ++ l.map bv).length = off + l.length := by simp only [List.length_append, List.length_take, hcur, hml]; omega
      rw [← hxs, ← htk]
      simp only [Nat.mul_one]
      rw [List.take_append, List.take_of_length_le (by rw [hA]; omega), hA, List.take_take, Nat.min_eq_left (by omega : off ≤ n), List.drop_take]
  have hsize : (⟨l.toArray⟩ : ByteArray).size = l.length := by show l.toArray.size = l.length; simp
  have hrun := Go.Lib.run_copy_row_string (P := P) w dT sT o.type e g off dLen dCap ⟨l.toArray⟩ cur e hu hsz hh (by rw [hsize]; exact hm) (by rw [hsize, hcs]; omega)
  rw [hsize] at hrun
  have hbc : Go.Lib.byteCells (⟨l.toArray⟩ : ByteArray).data.toList = l.map bv := rfl
  rw [hbc] at hrun
  have h2 : (execOp a.eval o).run P w = .ok (.value (.int .i64 (l.length : Int))) (w.setRow g (cur.toList.take off ++ l.map bv ++ cur.toList.drop (off + l.length)).toArray) := by
    simp [execOp, ho, resolve, invoke, builtin, hd, hs, hrun, Result.andThen, goInt]
  exact op_val h2 (key _ (setRow_heap w g _ _ e _ hh) ⟨rfl, rfl, rfl, by simp, fun k _ hk => setRow_other w g k _ (fun e => hk (by rw [e]))⟩)
/-- a slice of one-cell elements, cut to its head -/
theorem Sl.head {b : Option Addr} {n c : Nat} {xs : List Value} (h : Sl w (.slice b n c) n xs) (hn : xs.length = n) (m : Nat) (hm : m ≤ n) : Sl w (.slice b m c) m (xs.take m) := by
  rcases h with ⟨a', c', h1, h2, h3⟩ | ⟨b', off, cap, h1, h2, h3, h4⟩
  · obtain rfl : m = 0 := by omega
    simp only [Value.slice.injEq] at h1
    exact .inl ⟨b, c, rfl, rfl, by simp⟩
  · simp only [Value.slice.injEq] at h1
    obtain ⟨rfl, _, rfl⟩ := h1
    refine .inr ⟨b', off, c, rfl, by omega, h3, fun j x hj => h4 j x ?_⟩
    have hjm : j < m := by have := (List.getElem?_eq_some_iff.1 hj).1; simp at this; omega
    rwa [List.getElem?_take_of_lt hjm] at hj
/-- a string, its bytes a list -/
def sv (l : List UInt8) : Value := .string ⟨l.toArray⟩
theorem Strs.elem {b : Option Addr} {n c : Nat} {V : List (List UInt8)} (h : Sl w (.slice b n c) n (V.map sv)) (hl : V.length = n) {k : Nat} (hk : k < n) : b.isSome = true ∧ w.cell? (elemAddr b (k * 1)) = some (.string ⟨(V.getD k []).toArray⟩) := by
  rcases h with ⟨a', c', h1, h2, h3⟩ | ⟨b', off, cap, h1, h2, h3, h4⟩
  · omega
  · simp only [Value.slice.injEq] at h1
    obtain ⟨rfl, _, rfl⟩ := h1
    refine ⟨rfl, ?_⟩
    have := h4 k (sv (V.getD k [])) (by simp [List.getD, List.getElem?_eq_getElem (show k < V.length by omega)])
    rw [Nat.mul_one]
    show w.cell? ((⟨b', off, none⟩ : Addr).add k) = _
    rw [Addr.add_mid]
    exact this
end
end Go.Proofs.YtbhjgcokpmiopaaGreat
namespace Go.Proofs.YtbhjgcokpmiopaaGreat
open Go.RowKit Go.Extern.Stop Go.Stop Go.Extern
set_option linter.unusedVariables false
attribute [local irreducible] wpList wpAnyH Code.wp Oper.wp Go

theorem Sl.cap {w : World} {b : Option Addr} {n c : Nat} {xs : List Value} (h : Sl w (.slice b n c) n xs) : n ≤ c := by
  rcases h with ⟨a', c', h1, h2, _⟩ | ⟨b', off, cap, h1, h2, _, _⟩
  · omega
  · simp only [Value.slice.injEq] at h1; omega
def flagN (b : Bool) : Int := if b then 1 else 0
theorem flagN_bd (b : Bool) : 0 ≤ flagN b ∧ flagN b < 256 := by cases b <;> decide
/-- what a node that is right has -/
structure NodeOk (t : Int) (leaf : Bool) (n m v : Nat) (K : List Int) (Vs : List (List UInt8)) : Prop where
  ht1 : 1 ≤ t
  ht2 : t ≤ 5
  hm : maxN t leaf = m
  hv : widN t leaf = v
  hK : K.length = n
  hV : Vs.length = n
  hn : n ≤ m
  hl : leaf = false → 1 ≤ n
  hk0 : ∀ i, i < n → 0 ≤ K.getD i 0 ∧ K.getD i 0 ≤ 281474976710655
  hk1 : ∀ j, j + 1 < n → K.getD j 0 < K.getD (j + 1) 0
  hw : ∀ i, i < n → (Vs.getD i []).length = v
theorem widN_bd (t : Int) (leaf : Bool) : 4 ≤ widN t leaf ∧ widN t leaf ≤ 24 := by
  unfold widN
  repeat' split
  all_goals decide
theorem fitN (t : Int) (leaf : Bool) : 12 + maxN t leaf * 8 + maxN t leaf * widN t leaf ≤ 244 := by
  unfold widN maxN
  repeat' split
  all_goals decide
theorem take_getD {K : List Int} {i j : Nat} (h : j < i) : (K.take i).getD j 0 = K.getD j 0 := by simp [List.getD, List.getElem?_take_of_lt h]
theorem node_MaxN (t : Int) (leaf : Bool) (m : Nat) (hm : maxN t leaf = m) (h1 : 1 ≤ t) (h2 : t ≤ 5) (w : World) : Calls Tryz.prog 57 #[.int .i64 t, .bool leaf] w (Ret (.int .i64 (m : Int)) w) := by
  subst hm; exact node_Max t leaf h1 h2 w
theorem node_WidthN (t : Int) (leaf : Bool) (v : Nat) (hv : widN t leaf = v) (h1 : 1 ≤ t) (h2 : t ≤ 5) (w : World) : Calls Tryz.prog 59 #[.int .i64 t, .bool leaf] w (Ret (.int .i64 (v : Int)) w) := by
  subst hv; exact node_Width t leaf h1 h2 w
set_option maxRecDepth 100000 in
set_option maxHeartbeats 1000000 in
theorem node_flag (leaf : Bool) (w : World) :
    Calls Tryz.prog 89 #[.bool leaf] w (Ret (.int .i64 (flagN leaf)) w) := by
 refine zin 4 Tryz.func89 ?_
 refine xi 11 leaf (fun hc1 => ?_) (fun hc1 => ?_)
 · exact xe 7 (.int .i64 1) ⟨by simp_all [flagN], (Below.refl w.heap.size _)⟩
 exact xe 8 (.int .i64 0) ⟨by simp_all [flagN], (Below.refl w.heap.size _)⟩
set_option maxRecDepth 100000 in
set_option maxHeartbeats 1000000 in
theorem node_key (a : Option Addr) (i c : Nat) (L : List Int) (k : Int) (w : World) (hL : L.length = i) (h : Sl w (.slice a i c) i (L.map (Value.int .i64))) (h1 : 0 ≤ k) (h2 : k ≤ 281474976710655) (h3 : ∀ j, i = j + 1 → L.getD j 0 < k) (hi : i ≤ 1000) :
    Calls Tryz.prog 99 #[.slice a i c, .int .i64 k] w (Ret (.int .i64 0) w) := by
 refine zin 26 Tryz.func99 ?_
 refine xgk 12 [7, 8] (show (decide (k < (0 : Int)) : Bool) = false from decide_eq_false (by omega)) ?_
 refine xk 6 (show (decide (k > (281474976710655 : Int)) : Bool) = false from decide_eq_false (by omega)) ?_
 refine xg 6 [15, 16] (decide ((↑i : Int) > (0 : Int))) (fun hc2 => ?_) (fun hc2 => ?_)
 · have hc2 := of_decide_eq_true hc2
   refine xwm 3 ((↑i : Int) - 1) (↑(i - 1) : Int) ?_
   refine xx 0 _ i (i - 1) 1 (IntsN.elem h hL (k := (i - 1)) (by omega)).1 ?_
   refine xl 0 ((IntsN.elem h hL (k := (i - 1)) (by omega)).2) ?_
   refine xk 6 (show (decide ((L.getD (i - 1) 0) ≥ k) : Bool) = false from decide_eq_false (by have := h3 (i - 1) (by omega); omega)) ?_
   exact xe 9 (.int .i64 0) ⟨rfl, (Below.refl w.heap.size _)⟩
 have hc2 := of_decide_eq_false hc2
 exact xe 22 (.int .i64 0) ⟨rfl, (Below.refl w.heap.size _)⟩
set_option maxRecDepth 100000 in
set_option maxHeartbeats 4000000 in
theorem node_Right (t : Int) (leaf : Bool) (n m v : Nat) (K : List Int) (Vs : List (List UInt8)) (ak av : Option Addr) (ck cv : Nat) (w : World) (N : NodeOk t leaf n m v K Vs) (hKs : Sl w (.slice ak n ck) n (K.map (Value.int .i64))) (hVs : Sl w (.slice av n cv) n (Vs.map sv)) :
    Calls Tryz.prog 88 #[.agg #[.int .i64 t, .bool leaf, .slice ak n ck, .slice av n cv]] w (Ret (.bool true) w) := by
 have ht1 := N.ht1
 have ht2 := N.ht2
 have hnm := N.hn
 have hwb := widN_bd t leaf
 rw [N.hv] at hwb
 have hmb := maxN_pos t leaf
 rw [N.hm] at hmb
 have hfit := fitN t leaf
 rw [N.hm, N.hv] at hfit
 have hcap := Sl.cap hKs
 refine zin 70 Tryz.func88 ?_
 refine xa 2 [.int .i64 t, .bool leaf, .slice ak n ck, .slice av n cv] 112 fun b1 W1 n1 => ?_
 refine xb 6 0 n1.blk ?_
 refine xb 1 1 n1.blk ?_
 refine xr 0 (args := #[.int .i64 t, .bool leaf]) (node_WidthN t leaf v N.hv ht1 ht2 _) fun W2 hb2 => ?_
 refine xd 5 .z ?_
 refine xgk (.b [0, 1, 2]) [12, 13] (show (((↑v : Int) == (0 : Int)) : Bool) = false from by simp; omega) ?_
 have k1'1 := (n1.blk.below hb2).below (below_drew W2)
 refine xb (.e [3] 4) 2 k1'1 ?_
 refine xb (.e [5, 6] 7) 0 k1'1 ?_
 refine xb (.e [8] 9) 1 k1'1 ?_
 refine xr (.o [] 10) (args := #[.int .i64 t, .bool leaf]) (node_MaxN t leaf m N.hm ht1 ht2 _) fun W4 hb4 => ?_
 refine xgk (.b [11, 12, 13]) [22, 23, 24] (show (decide ((↑n : Int) > (↑m : Int)) : Bool) = false from decide_eq_false (by omega)) ?_
 have k1'2 := k1'1.below hb4
 refine xb (.e [14] 15) 3 k1'2 ?_
 refine xb (.e [16, 17] 18) 2 k1'2 ?_
 refine xgk (.b [19, 20, 21, 22]) [31, 32, 33] (show (((↑n : Int) != (↑n : Int)) : Bool) = false from by simp) ?_
 refine xb (.e [23] 24) 1 k1'2 ?_
 refine xg (.b [25, 26]) [36, 37] (!leaf) (fun hc7 => ?_) (fun hc7 => ?_)
 · refine xb (.e [27] 28) 2 k1'2 ?_
   refine xk (.r [29, 30, 31, 32] 2) (show (((↑n : Int) == (0 : Int)) : Bool) = false from by have := N.hl (by simp_all); simp; omega) ?_
   refine xb 6 2 k1'2 ?_
   have hB := Bl.next (Bl.next (Bl.next n1.below hb2) (below_drew W2)) hb4
   refine zl 5 70 (fun zm zkv V => ∃ (i : Nat), zkv = [(1, .pointer (some ⟨b1, 0, none⟩)), (3, .int .i64 (↑v : Int)), (45, .slice ak n ck), (46, .int .i64 (↑n : Int)), (47, .int .i64 (↑i : Int))] ∧ zm = n - ((↑i : Int)).toNat ∧ Below w.heap.size w V ∧ Blk V b1 ([.int .i64 t, .bool leaf, .slice ak n ck, .slice av n cv]) 112 ∧ i ≤ n) ⟨0, rfl, rfl, hB, k1'2, Nat.zero_le _⟩ ?_
   rintro _ _ W8 ⟨i, rfl, rfl, hB_8, k8_b1, hi⟩ J8 hJ8 r8
   refine xid 6 ((↑i : Int) < (↑n : Int)) (fun hc9 => ?_) (fun hc9 => ?_)
   · refine xx 7 _ n i 1 (IntsN.elem hKs N.hK (k := i) (by omega)).1 ?_
     refine xl 0 ((IntsN.elem (hKs.below hB_8) N.hK (k := i) (by omega)).2) ?_
     refine xb 7 2 k8_b1 ?_
     refine xsH 1 (fun _ _ _ _ zo zx zy V => run_sliceH (k := i) (b := ak) (n := n) (c := ck) (i := (↑i : Int)) (ki := .i64) zo zx zy rfl (by omega) Tryz.underlying24 (by kernel_rfl) V) ?_
     refine xr 1 (args := #[.slice ak i ck, .int .i64 (K.getD i 0)]) (node_key ak i ck (K.take i) (K.getD i 0) _ (by rw [List.length_take, N.hK]; omega) (by rw [List.map_take]; exact (hKs.below hB_8).head (by simpa using N.hK) i (by omega)) (N.hk0 i (by omega)).1 (N.hk0 i (by omega)).2 (fun j e => by subst e; rw [take_getD (by omega)]; exact N.hk1 j (by omega)) (by omega)) fun W10 hb10 => ?_
     have k8_b1'1 := k8_b1.below hb10
     refine xb 3 3 k8_b1'1 ?_
     refine xx 1 _ n i 1 (Strs.elem hVs N.hV (k := i) (by omega)).1 ?_
     have hB'1 := Bl.next hB_8 hb10
     refine xl 0 ((Strs.elem (hVs.below hB'1) N.hV (k := i) (by omega)).2) ?_
     refine xk 6 (show (((↑(Vs.getD i []).length : Int) != (↑v : Int)) : Bool) = false from by rw [N.hw i (by omega)]; simp) ?_
     refine xw 4 ((↑i : Int) + 1) ?_
     exact ze 2 (hJ8 _ _ _ ⟨i + 1, rfl, rfl, hB'1, k8_b1'1, by omega⟩ (by omega))
   exact xe 11 (.bool true) ⟨rfl, hB_8⟩
 refine xb (.r [27, 28, 29, 30, 31, 32] 9) 2 k1'2 ?_
 have hB := Bl.next (Bl.next (Bl.next n1.below hb2) (below_drew W2)) hb4
 refine zl 5 70 (fun zm zkv V => ∃ (i : Nat), zkv = [(1, .pointer (some ⟨b1, 0, none⟩)), (3, .int .i64 (↑v : Int)), (45, .slice ak n ck), (46, .int .i64 (↑n : Int)), (47, .int .i64 (↑i : Int))] ∧ zm = n - ((↑i : Int)).toNat ∧ Below w.heap.size w V ∧ Blk V b1 ([.int .i64 t, .bool leaf, .slice ak n ck, .slice av n cv]) 112 ∧ i ≤ n) ⟨0, rfl, rfl, hB, k1'2, Nat.zero_le _⟩ ?_
 rintro _ _ W11 ⟨i, rfl, rfl, hB_11, k11_b1, hi⟩ J11 hJ11 r11
 refine xid 6 ((↑i : Int) < (↑n : Int)) (fun hc12 => ?_) (fun hc12 => ?_)
 · refine xx 7 _ n i 1 (IntsN.elem hKs N.hK (k := i) (by omega)).1 ?_
   refine xl 0 ((IntsN.elem (hKs.below hB_11) N.hK (k := i) (by omega)).2) ?_
   refine xb 7 2 k11_b1 ?_
   refine xsH 1 (fun _ _ _ _ zo zx zy V => run_sliceH (k := i) (b := ak) (n := n) (c := ck) (i := (↑i : Int)) (ki := .i64) zo zx zy rfl (by omega) Tryz.underlying24 (by kernel_rfl) V) ?_
   refine xr 1 (args := #[.slice ak i ck, .int .i64 (K.getD i 0)]) (node_key ak i ck (K.take i) (K.getD i 0) _ (by rw [List.length_take, N.hK]; omega) (by rw [List.map_take]; exact (hKs.below hB_11).head (by simpa using N.hK) i (by omega)) (N.hk0 i (by omega)).1 (N.hk0 i (by omega)).2 (fun j e => by subst e; rw [take_getD (by omega)]; exact N.hk1 j (by omega)) (by omega)) fun W13 hb13 => ?_
   have k11_b1'1 := k11_b1.below hb13
   refine xb 3 3 k11_b1'1 ?_
   refine xx 1 _ n i 1 (Strs.elem hVs N.hV (k := i) (by omega)).1 ?_
   have hB'2 := Bl.next hB_11 hb13
   refine xl 0 ((Strs.elem (hVs.below hB'2) N.hV (k := i) (by omega)).2) ?_
   refine xk 6 (show (((↑(Vs.getD i []).length : Int) != (↑v : Int)) : Bool) = false from by rw [N.hw i (by omega)]; simp) ?_
   refine xw 4 ((↑i : Int) + 1) ?_
   exact ze 2 (hJ11 _ _ _ ⟨i + 1, rfl, rfl, hB'2, k11_b1'1, by omega⟩ (by omega))
 exact xe 11 (.bool true) ⟨rfl, hB_11⟩
end Go.Proofs.YtbhjgcokpmiopaaGreat
namespace Go.Proofs.YtbhjgcokpmiopaaGreat
open Go.RowKit Go.Extern.Stop Go.Stop Go.Extern
set_option linter.unusedVariables false
attribute [local irreducible] wpList wpAnyH Code.wp Oper.wp Go

def widG (t : Int) (leaf : Bool) : Nat := if 1 ≤ t ∧ t ≤ 5 then widN t leaf else 0
def maxG (t : Int) (leaf : Bool) : Nat := if 1 ≤ t ∧ t ≤ 5 then maxN t leaf else 0
theorem fitG (t : Int) (leaf : Bool) : 12 + maxG t leaf * 8 + maxG t leaf * widG t leaf ≤ 244 := by
  unfold maxG widG; split
  · exact fitN t leaf
  · decide
theorem maxG_le (t : Int) (leaf : Bool) : maxG t leaf ≤ 18 := by
  unfold maxG; split
  · exact (maxN_pos t leaf).2
  · decide
theorem widG_le (t : Int) (leaf : Bool) : widG t leaf ≤ 24 := by
  unfold widG; split
  · exact (widN_bd t leaf).2
  · decide
set_option maxRecDepth 100000 in
set_option maxHeartbeats 1000000 in
theorem node_Width_out (t : Int) (leaf : Bool) (w : World) (h : ¬ (1 ≤ t ∧ t ≤ 5)) :
    Calls Tryz.prog 59 #[.int .i64 t, .bool leaf] w (Ret (.int .i64 0) w) := by
 refine zin 31 Tryz.func59 ?_
 refine xg 17 [8, 9] (decide (t < (1 : Int))) (fun hc1 => ?_) (fun hc1 => ?_)
 · have hc1 := of_decide_eq_true hc1
   exact xe 15 (.int .i64 0) ⟨rfl, (Below.refl w.heap.size _)⟩
 have hc1 := of_decide_eq_false hc1
 refine xk 6 (show (decide (t > (5 : Int)) : Bool) = true from decide_eq_true (by omega)) ?_
 exact xe 8 (.int .i64 0) ⟨rfl, (Below.refl w.heap.size _)⟩
theorem node_WidthG (t : Int) (leaf : Bool) (w : World) : Calls Tryz.prog 59 #[.int .i64 t, .bool leaf] w (Ret (.int .i64 (widG t leaf : Int)) w) := by
  unfold widG
  by_cases h : 1 ≤ t ∧ t ≤ 5
  · rw [if_pos h]; exact node_Width t leaf h.1 h.2 w
  · rw [if_neg h]; exact node_Width_out t leaf w h
set_option maxRecDepth 100000 in
set_option maxHeartbeats 1000000 in
theorem node_Max_out (t : Int) (leaf : Bool) (w : World) (h : ¬ (1 ≤ t ∧ t ≤ 5)) :
    Calls Tryz.prog 57 #[.int .i64 t, .bool leaf] w (Ret (.int .i64 0) w) := by
 refine zin 16 Tryz.func57 ?_
 refine xr 9 (args := #[.int .i64 t, .bool leaf]) (node_Width_out t leaf _ h) fun W1 hb1 => ?_
 exact xe 18 (.int .i64 0) ⟨rfl, hb1⟩
theorem node_MaxG (t : Int) (leaf : Bool) (w : World) : Calls Tryz.prog 57 #[.int .i64 t, .bool leaf] w (Ret (.int .i64 (maxG t leaf : Int)) w) := by
  unfold maxG
  by_cases h : 1 ≤ t ∧ t ≤ 5
  · rw [if_pos h]; exact node_Max t leaf h.1 h.2 w
  · rw [if_neg h]; exact node_Max_out t leaf w h
/-- a key's number, by the last of the keys ahead -/
def keyR (L : List Int) (i : Nat) (k : Int) : Int := if k < 0 ∨ 281474976710655 < k then 2 else if 0 < i ∧ k ≤ L.getD (i - 1) 0 then 8 else 0
/-- the head of a node's bytes -/
def nodT (l : List UInt8) : Int := (rawN l 1 1 : Int)
def nodL (l : List UInt8) : Bool := (rawN l 0 1 : Int) == (1 : Int)
def nodC (l : List UInt8) : Nat := rawN l 2 2
def nodW (l : List UInt8) : Nat := widG (nodT l) (nodL l)
def nodM (l : List UInt8) : Nat := maxG (nodT l) (nodL l)
def shapeB (l : List UInt8) : Bool := decide (rawN l 0 1 ≤ 1 ∧ nodW l ≠ 0 ∧ rawN l 2 2 ≤ nodM l ∧ rawN l 4 2 = nodW l ∧ rawN l 6 2 = nodM l ∧ rawN l 8 4 = 0 ∧ (rawN l 0 1 = 1 ∨ 0 < rawN l 2 2))
def ShapeP (l : List UInt8) (w : World) (e : Ending) (w' : World) : Prop :=
  (shapeB l = false ∧ ∃ a b c, e = .returned (.tuple #[.agg #[.int .i64 a, .bool b, .slice none 0 0, .slice none 0 0], .int .i64 c, .bool false]) ∧ Below w.heap.size w w') ∨
  (shapeB l = true ∧ e = .returned (.tuple #[.agg #[.int .i64 (nodT l), .bool (nodL l), .slice none 0 0, .slice none 0 0], .int .i64 (nodC l : Int), .bool true]) ∧ Below w.heap.size w w')
theorem Unpack_okN (a : Option Addr) (n c : Nat) (l : List UInt8) (aw : Option Addr) (cw m : Nat) (ws : List Nat) (xs : List Nat) (W : World) (hn : l.length = n) (hm : ws.length = m) (hx : unpL l 0 ws = xs) (hk : ∀ i, i < ws.length → ws.getD i 0 = 1 ∨ ws.getD i 0 = 2 ∨ ws.getD i 0 = 4 ∨ ws.getD i 0 = 8) (hs : ws.sum ≤ n) (hl : n ≤ 100000000) (hw : ws.length ≤ 1000) (h : Bys W (.slice a n c) l) (hws : Sl W (.slice aw m cw) m (ws.map nv)) (hq : ∀ i, i < ws.length → (unpL l 0 ws).getD i 0 < 9223372036854775808) :
    Calls Tryz.prog 98 #[.slice a n c, .slice aw m cw] W (RetS (fun w' r => ∃ p c, r = .tuple #[.slice p m c, .int .i64 0] ∧ w'.ownsRow W.heap.size 3 1 (.slice p m c) m (xs.map nv)) W) := by
  subst hn hm hx; exact Unpack_ok a c l aw cw ws W hk hs hl hw h hws hq
def head6 (l : List UInt8) : List Nat := [rawN l 0 1, rawN l 1 1, rawN l 2 2, rawN l 4 2, rawN l 6 2, rawN l 8 4]
theorem head6_bd (l : List UInt8) (i : Nat) (hi : i < 6) : (unpL l 0 [1, 1, 2, 2, 2, 4]).getD i 0 < 9223372036854775808 := by
  have h1 := rawN_lt4 l 0 1 (by decide)
  have h2 := rawN_lt4 l 1 1 (by decide)
  have h3 := rawN_lt4 l 2 2 (by decide)
  have h4 := rawN_lt4 l 4 2 (by decide)
  have h5 := rawN_lt4 l 6 2 (by decide)
  have h6 := rawN_lt4 l 8 4 (by decide)
  obtain rfl | rfl | rfl | rfl | rfl | rfl : i = 0 ∨ i = 1 ∨ i = 2 ∨ i = 3 ∨ i = 4 ∨ i = 5 := by omega
  all_goals simp [unpL]
  all_goals omega
set_option maxRecDepth 100000 in
set_option maxHeartbeats 1000000 in
theorem node_keyG (a : Option Addr) (i c : Nat) (L : List Int) (k : Int) (w : World) (hL : L.length = i) (h : Sl w (.slice a i c) i (L.map (Value.int .i64))) (hi : i ≤ 1000) :
    Calls Tryz.prog 99 #[.slice a i c, .int .i64 k] w (Ret (.int .i64 (keyR L i k)) w) := by
 refine zin 26 Tryz.func99 ?_
 refine xg 12 [7, 8] (decide (k < (0 : Int))) (fun hc1 => ?_) (fun hc1 => ?_)
 · have hc1 := of_decide_eq_true hc1
   exact xe 15 (.int .i64 2) ⟨by rw [show keyR L i k = 2 from by unfold keyR; rw [if_pos (by omega)]], (Below.refl w.heap.size _)⟩
 have hc1 := of_decide_eq_false hc1
 refine xid 6 (k > (281474976710655 : Int)) (fun hc2 => ?_) (fun hc2 => ?_)
 · exact xe 8 (.int .i64 2) ⟨by rw [show keyR L i k = 2 from by unfold keyR; rw [if_pos (by omega)]], (Below.refl w.heap.size _)⟩
 refine xg 6 [15, 16] (decide ((↑i : Int) > (0 : Int))) (fun hc3 => ?_) (fun hc3 => ?_)
 · have hc3 := of_decide_eq_true hc3
   refine xwm 3 ((↑i : Int) - 1) (↑(i - 1) : Int) ?_
   refine xx 0 _ i (i - 1) 1 (IntsN.elem h hL (k := (i - 1)) (by omega)).1 ?_
   refine xl 0 ((IntsN.elem h hL (k := (i - 1)) (by omega)).2) ?_
   refine xid 6 ((L.getD (i - 1) 0) ≥ k) (fun hc4 => ?_) (fun hc4 => ?_)
   · exact xe 8 (.int .i64 8) ⟨by rw [show keyR L i k = 8 from by unfold keyR; rw [if_neg (by omega), if_pos (by omega)]], (Below.refl w.heap.size _)⟩
   exact xe 9 (.int .i64 0) ⟨by rw [show keyR L i k = 0 from by unfold keyR; rw [if_neg (by omega), if_neg (by omega)]], (Below.refl w.heap.size _)⟩
 have hc3 := of_decide_eq_false hc3
 exact xe 22 (.int .i64 0) ⟨by rw [show keyR L i k = 0 from by unfold keyR; rw [if_neg (by omega), if_neg (by omega)]], (Below.refl w.heap.size _)⟩
def keyN (l : List UInt8) (i : Nat) : Nat := rawN l (12 + i * 8) 8
def keysI (l : List UInt8) (n : Nat) : List Int := (List.range n).map fun i => (keyN l i : Int)
theorem keysI_len (l : List UInt8) (n : Nat) : (keysI l n).length = n := by simp [keysI]
theorem keysI_snoc (l : List UInt8) (n : Nat) : keysI l (n + 1) = keysI l n ++ [(keyN l n : Int)] := by simp [keysI, List.range_succ]
theorem keysI_get (l : List UInt8) {n i : Nat} (h : i < n) : (keysI l n).getD i 0 = (keyN l i : Int) := by simp [keysI, List.getD, List.getElem?_range h]
def valN (l : List UInt8) (i : Nat) : List UInt8 := (l.drop (12 + nodM l * 8 + i * nodW l)).take (nodW l)
def valsL (l : List UInt8) (n : Nat) : List (List UInt8) := (List.range n).map (valN l)
theorem valsL_len (l : List UInt8) (n : Nat) : (valsL l n).length = n := by simp [valsL]
theorem valsL_snoc (l : List UInt8) (n : Nat) : valsL l (n + 1) = valsL l n ++ [valN l n] := by simp [valsL, List.range_succ]
theorem valsL_get (l : List UInt8) {n i : Nat} (h : i < n) : (valsL l n).getD i [] = valN l i := by simp [valsL, List.getD, List.getElem?_range h]
def keyE (l : List UInt8) (i : Nat) : Int := if 281474976710655 < keyN l i then 2 else if 0 < i ∧ keyN l i ≤ keyN l (i - 1) then 8 else 0
def keysErr (l : List UInt8) : Nat → Int
  | 0 => 0
  | i + 1 => if keysErr l i ≠ 0 then keysErr l i else keyE l i
theorem keysErr_stop {l : List UInt8} {i : Nat} (h : keysErr l i ≠ 0) : ∀ n, i ≤ n → keysErr l n = keysErr l i
  | 0, h2 => by obtain rfl : i = 0 := by omega
                rfl
  | n + 1, h2 => by
    by_cases e : i = n + 1
    · rw [e]
    · have ih := keysErr_stop h n (by omega)
      rw [keysErr, if_pos (by rw [ih]; exact h), ih]
theorem keysErr_at {l : List UInt8} {i n : Nat} (h : keysErr l i = 0) (he : keyE l i ≠ 0) (hi : i < n) : keysErr l n = keyE l i := by
  have e : keysErr l (i + 1) = keyE l i := by rw [keysErr, if_neg (by rw [h]; decide)]
  rw [keysErr_stop (by rw [e]; exact he) n hi, e]
theorem keysErr_next {l : List UInt8} {i : Nat} (h : keysErr l i = 0) (he : keyE l i = 0) : keysErr l (i + 1) = 0 := by rw [keysErr, if_neg (by rw [h]; decide), he]
theorem keyE_R {l : List UInt8} {i : Nat} : keyR (keysI l i) i (keyN l i : Int) = keyE l i := by
  unfold keyR keyE
  by_cases h : 281474976710655 < keyN l i
  · rw [if_pos (by omega), if_pos h]
  · rw [if_neg (by omega), if_neg h]
    by_cases h2 : 0 < i
    · rw [keysI_get l (show i - 1 < i by omega)]
      by_cases h3 : keyN l i ≤ keyN l (i - 1)
      · rw [if_pos (by omega), if_pos (by omega)]
      · rw [if_neg (by omega), if_neg (by omega)]
    · rw [if_neg (by omega), if_neg (by omega)]
def node0 (l : List UInt8) : Nat := 12 + nodC l * 8
def node1 (l : List UInt8) : Nat := 12 + nodM l * 8
def node2 (l : List UInt8) : Nat := node1 l + nodC l * nodW l
def nodeZ (l : List UInt8) : Bool := zeroB ((l.drop (node0 l)).take (node1 l - node0 l)) && zeroB ((l.drop (node2 l)).take (244 - node2 l))
def nodeE (l : List UInt8) : Int := if shapeB l then (if nodeZ l then keysErr l (nodC l) else 7) else 7
def NodeP (l : List UInt8) (w : World) (e : Ending) (w' : World) : Prop :=
  (nodeE l ≠ 0 ∧ e = .returned (.tuple #[.agg #[.int .i64 0, .bool false, .slice none 0 0, .slice none 0 0], .int .i64 (nodeE l)]) ∧ Below w.heap.size w w') ∨
  (nodeE l = 0 ∧ ∃ kp kc vp vc, e = .returned (.tuple #[.agg #[.int .i64 (nodT l), .bool (nodL l), .slice kp (nodC l) kc, .slice vp (nodC l) vc], .int .i64 0]) ∧ Below w.heap.size w w' ∧
    w'.ownsRow w.heap.size 3 1 (.slice kp (nodC l) kc) (nodC l) ((keysI l (nodC l)).map (Value.int .i64)) ∧ w'.ownsRow w.heap.size 9 1 (.slice vp (nodC l) vc) (nodC l) ((valsL l (nodC l)).map sv))
theorem node_shapeP {l : List UInt8} (h : shapeB l = true) : nodC l ≤ nodM l := (of_decide_eq_true h).2.2.1
theorem code_ZeroN (a : Option Addr) (n c : Nat) (l : List UInt8) (w : World) (hn : l.length = n) (hl : n ≤ 100000000) (h : Bys w (.slice a n c) l) : Calls Tryz.prog 50 #[.slice a n c] w (Ret (.bool (zeroB l)) w) := by
  subst hn; exact code_Zero a c l w hl h
theorem valN_bys {a : Option Addr} {c i : Nat} {l : List UInt8} {w : World} (h : Bys w (.slice a 244 c) l) (hl : l.length = 244) (hb : 12 + nodM l * 8 + (i + 1) * nodW l ≤ 244) (hi : (i + 1) * nodW l = i * nodW l + nodW l) :
    Bys w (.slice (cutA a (12 + nodM l * 8 + i * nodW l) c 1) (12 + nodM l * 8 + (i + 1) * nodW l - (12 + nodM l * 8 + i * nodW l)) (c - (12 + nodM l * 8 + i * nodW l))) (valN l i) := by
  have := Bys.cut h hl (12 + nodM l * 8 + i * nodW l) (12 + nodM l * 8 + (i + 1) * nodW l) (by omega) hb
  rw [show 12 + nodM l * 8 + (i + 1) * nodW l - (12 + nodM l * 8 + i * nodW l) = nodW l by omega] at this ⊢
  exact this
theorem valN_lenN {i : Nat} {l : List UInt8} (hl : l.length = 244) (hb : 12 + nodM l * 8 + (i + 1) * nodW l ≤ 244) (hi : (i + 1) * nodW l = i * nodW l + nodW l) : (valN l i).length = 12 + nodM l * 8 + (i + 1) * nodW l - (12 + nodM l * 8 + i * nodW l) := by
  unfold valN; simp only [List.length_take, List.length_drop]; omega
def GetP (l : List UInt8) (k w : Nat) (W : World) (e : Ending) (w' : World) : Prop :=
  (rawN l k w < 9223372036854775808 ∧ e = .returned (.tuple #[.int .i64 (rawN l k w : Int), .int .i64 0]) ∧ Below W.heap.size W w') ∨ (¬ rawN l k w < 9223372036854775808 ∧ e = .returned (.tuple #[.int .i64 0, .int .i64 2]) ∧ Below W.heap.size W w')
theorem Get_P (a : Option Addr) (n c k w : Nat) (l : List UInt8) (W : World) (hn : l.length = n) (hw : w = 1 ∨ w = 2 ∨ w = 4 ∨ w = 8) (hk : k + w ≤ n) (hl : n ≤ 100000000) (h : Bys W (.slice a n c) l) (wi : Int) (hwi : wi = (w : Int)) :
    Calls Tryz.prog 49 #[.slice a n c, .int .i64 (↑k : Int), .int .i64 wi] W (GetP l k w W) := by
  subst hn hwi
  by_cases hq : rawN l k w < 9223372036854775808
  · refine (Get_ok a c k w l W hw hk hl h hq).mono ?_
    rintro e V ⟨rfl, hb⟩; exact .inl ⟨hq, rfl, hb⟩
  · refine (Get_big a c k w l W hw hk hl h hq).mono ?_
    rintro e V ⟨rfl, hb⟩; exact .inr ⟨hq, rfl, hb⟩
theorem node_keyP (l : List UInt8) (a : Option Addr) (i c : Nat) (w : World) (h : Sl w (.slice a i c) i ((keysI l i).map (Value.int .i64))) (hi : i ≤ 1000) :
    Calls Tryz.prog 99 #[.slice a i c, .int .i64 (↑(keyN l i) : Int)] w (fun e w' => (keyE l i = 0 ∧ e = .returned (.int .i64 0) ∧ Below w.heap.size w w') ∨ (keyE l i ≠ 0 ∧ e = .returned (.int .i64 (keyE l i)) ∧ Below w.heap.size w w')) := by
  refine (node_keyG a i c (keysI l i) (keyN l i) w (keysI_len l i) h hi).mono ?_
  rintro e W ⟨rfl, hb⟩
  rw [keyE_R]
  by_cases hz : keyE l i = 0
  · exact .inl ⟨hz, by rw [hz], hb⟩
  · exact .inr ⟨hz, rfl, hb⟩
end Go.Proofs.YtbhjgcokpmiopaaGreat
namespace Go.Proofs.YtbhjgcokpmiopaaGreat
open Go.RowKit Go.Extern.Stop Go.Stop Go.Extern
set_option linter.unusedVariables false
section
variable {P : Program} {a : Act} {w : World} {K : Act → World → Prop} {Q : Exit → Act → World → Prop}
theorem strCells_bv (l : List UInt8) : Lib.strCells ⟨l.toArray⟩ = l.map bv := by
  unfold Lib.strCells bv
  simp
theorem op_appS {o : Oper} {s x : Operand} {t u e : TypeId} {base : Nat} {v : Value} {n : Nat} {xs : List Value} (l : List UInt8) (n' : Nat) (xs' : List Value) (ho : o.op = .call { callee := .builtin .append, args := #[s, x], argTypes := #[t, u] })
    (ht : P.underlying t = some (.slice e)) (hu : P.underlying u = some .string) (hi : (P.info? e).map (fun i => (i.zero, i.size, i.bytes)) = some (some (.int .u8 0), 1, 1)) (hs : a.eval s = v) (hown : w.ownsRow base e 1 v n xs) (hx : a.eval x = .string ⟨l.toArray⟩)
    (hb : n + l.length ≤ 100000000) (hbase : base ≤ w.heap.size) (hn : n + l.length = n') (hxs : xs ++ l.map bv = xs')
    (h : ∀ b c W, W.ownsRow base e 1 (.slice b n' c) n' xs' → w.grownBy W v.ownBlock → Below base w W → K (a.put o.dst (.slice b n' c)) W) : o.wp P a w K Q := by
  cases hq : P.info? e with
  | none => simp [hq] at hi
  | some i =>
    simp only [hq, Option.map_some, Option.some.injEq, Prod.mk.injEq] at hi
    have hsz : (⟨l.toArray⟩ : ByteArray).size = l.length := by simp [ByteArray.size]
    obtain ⟨v', W, hr, h2, h3, _⟩ := Lib.run_append_own_string (P := P) w base t u o.type e i ht hu hq hi.1 hi.2.1 hi.2.2 v n xs hown ⟨l.toArray⟩ (by rw [hsz]; unfold maxLen; omega) (by rw [hsz]; omega) hbase
    rw [hsz, strCells_bv] at h2
    subst hn hxs
    obtain ⟨b, c, rfl⟩ := (own_sl h2).slice
    unfold Oper.wp execOp
    simp only [ho, resolve, invoke, builtin, Sem.run_bind, Sem.run_pure, Result.andThen_ok, List.map_toArray, List.map_cons, List.map_nil, hs, hx, hr]
    exact h b c W h2 h3 (grown_below h3 hown (Nat.le_refl _) hbase)
theorem elemAddr_own (g k : Nat) : elemAddr (some ⟨g, 0, none⟩) (k * 1) = ⟨g, k, none⟩ := by
  simp [elemAddr, Addr.add]; exact fun h => h.symm
theorem op_storeRow {o : Oper} {t e : TypeId} {x y : Operand} {g n c k base : Nat} {xs : List Value} {v : Value} (ho : o.op = .store t x y) (hx : a.eval x = .pointer (some (elemAddr (some ⟨g, 0, none⟩) (k * 1)))) (hy : a.eval y = v)
    (hi : (P.info? t).map (·.size) = some 1) (h1 : v.oneCell' = true) (hown : w.ownsRow base e 1 (.slice (some ⟨g, 0, none⟩) n c) n xs) (hk : k < n)
    (h : ∀ W, Upd w g W → W.ownsRow base e 1 (.slice (some ⟨g, 0, none⟩) n c) n (xs.set k v) → K (a.put o.dst undef) W) : o.wp P a w K Q := by
  obtain ⟨hl, h2⟩ := hown
  rcases h2 with ⟨h2, _⟩ | ⟨g', cap, cur, hv, hg, hh, hc, hm, hsz, htk⟩
  · cases h2
  · simp only [Value.slice.injEq, Option.some.injEq, Addr.mk.injEq] at hv
    obtain ⟨⟨rfl, _⟩, _, rfl⟩ := hv
    have hb : Blk w g cur.toList e := by unfold Blk; simpa using hh
    rw [elemAddr_own] at hx
    refine op_store ho hx hy hi h1 hb (by simp; omega) fun W hu hW => h W hu ⟨by simpa using hl, .inr ⟨g, c, (cur.toList.set k v).toArray, rfl, hg, hW, hc, hm, by simpa using hsz, ?_⟩⟩
    rw [← htk]
    simp [List.take_set]
end
section
variable {P : Program} {ops : Array Oper} {Q : Exit → Act → World → Prop} {a a' : Act} {w : World} {S : World → Prop} {md : Region.Mode} {L L' : Array Bool} {fuel : Nat}
theorem h_three {o o2 o3 : Oper} (i j m fuel : Nat) {f0 : Nat} (hf : f0 = fuel + 1) (hr : Region.ready md ops L = [i, j, m]) (ho : ops.toList[i]? = some o) (ho2 : ops.toList[j]? = some o2) (ho3 : ops.toList[m]? = some o3) (hw : Region.wanted o (yielded ops a.tmps) = true) (hw2 : Region.wanted o2 (yielded ops a.tmps) = true) (hw3 : Region.wanted o3 (yielded ops a.tmps) = true)
    (h : o.wp P a w (fun a' w' => S w' ∧ wpAnyH P md ops Q S fuel (L.setIfInBounds i true) a' w') Q) (h2 : o2.wp P a w (fun a' w' => S w' ∧ wpAnyH P md ops Q S fuel (L.setIfInBounds j true) a' w') Q) (h3 : o3.wp P a w (fun a' w' => S w' ∧ wpAnyH P md ops Q S fuel (L.setIfInBounds m true) a' w') Q) : wpAnyH P md ops Q S f0 L a w := by
  subst hf
  refine wpAnyH_all hr (by simp) fun k hk => ?_
  have ho' : ops[i]? = some o := by rw [← ho]; simp
  have ho2' : ops[j]? = some o2 := by rw [← ho2]; simp
  have ho3' : ops[m]? = some o3 := by rw [← ho3]; simp
  rcases List.mem_cons.1 hk with rfl | hk
  · unfold wpOp; simp only [ho', hw, if_true]; exact .inl h
  · rcases List.mem_cons.1 hk with rfl | hk
    · unfold wpOp; simp only [ho2', hw2, if_true]; exact .inl h2
    · obtain rfl : k = m := by simpa using hk
      unfold wpOp; simp only [ho3', hw3, if_true]; exact .inl h3
end
theorem res_tc {P : Program} {fn : Func} {tmps : Array Value} {w : World} {k j : Nat} {t : TypeId} {b off : Nat} {cs : List Value} {d : TypeDesc} {u : Value} (hfn : fn.results = #[.tmp j, .cell k t]) (e : tmps.getD k undef = .pointer (some ⟨b, off, none⟩)) (e2 : tmps.getD j undef = u) (hc : w.rangeAt b off cs)
    (hu : P.underlying t = some d) (hd : d.isRow = true) (hi : (P.info? t).map (·.size) = some cs.length) : (results fn tmps).run P w = .ok (.tuple #[u, .agg cs.toArray]) w := by
  have h := run_loadVar_mid w b off t cs d hc hu hd hi
  have e' : tmps[k]?.getD undef = .pointer (some ⟨b, off, none⟩) := by simpa using e
  have e2' : tmps[j]?.getD undef = u := by simpa using e2
  simp [results, hfn, e', e2', asAddr, h]
theorem own_ge {w : World} {base e size g n c : Nat} {xs : List Value} (h : w.ownsRow base e size (.slice (some ⟨g, 0, none⟩) n c) n xs) : base ≤ g := (h.lt g rfl).1
theorem own_blk {w : World} {base e size g n c : Nat} {xs : List Value} (h : w.ownsRow base e size (.slice (some ⟨g, 0, none⟩) n c) n xs) : ∃ cs, Blk w g cs e := by
  rcases h.2 with ⟨h2, _⟩ | ⟨g', cap, cur, hv, hg, hh, _⟩
  · cases h2
  · simp only [Value.slice.injEq, Option.some.injEq, Addr.mk.injEq] at hv
    obtain ⟨⟨rfl, _⟩, _⟩ := hv
    exact ⟨cur.toList, by unfold Blk; simpa using hh⟩
theorem own_blk_ne {w : World} {base e size g n c b : Nat} {t : TypeId} {xs cs : List Value} (k : Blk w b cs t) (h : w.ownsRow base e size (.slice (some ⟨g, 0, none⟩) n c) n xs) (hne : t ≠ e) : b ≠ g := by
  rintro rfl
  obtain ⟨cs', k'⟩ := own_blk h
  have h1 : w.heap[b]? = some (.cells cs.toArray t (0, 0)) := k
  rw [show w.heap[b]? = some (.cells cs'.toArray e (0, 0)) from k'] at h1
  simp only [Option.some.injEq, Obj.cells.injEq] at h1
  exact hne h1.2.1.symm
theorem Only.of_updRow {T : List TypeId} {w W : World} {base e size g n c : Nat} {xs : List Value} (u : Upd w g W) (h : w.ownsRow base e size (.slice (some ⟨g, 0, none⟩) n c) n xs) (hT : T.contains e = true) : Only T w W := by
  obtain ⟨cs, k⟩ := own_blk h
  exact Only.of_upd u k hT
theorem Upd.ownRow {w W : World} {base base2 e e2 size size2 g n c n2 : Nat} {v : Value} {xs ys : List Value} (u : Upd w g W) (h : w.ownsRow base2 e2 size2 v n2 ys) (o : w.ownsRow base e size (.slice (some ⟨g, 0, none⟩) n c) n xs) (hne : e2 ≠ e) : W.ownsRow base2 e2 size2 v n2 ys := by
  obtain ⟨cs, k⟩ := own_blk o
  exact u.own2 h k hne
end Go.Proofs.YtbhjgcokpmiopaaGreat
namespace Go.Proofs.YtbhjgcokpmiopaaGreat
open Go.RowKit Go.Extern.Stop Go.Stop Go.Extern
set_option linter.unusedVariables false
attribute [local irreducible] wpList wpAnyH Code.wp Oper.wp Go

theorem op_strBytes {P : Program} {a : Act} {w : World} {K : Act → World → Prop} {Q : Exit → Act → World → Prop} {o : Oper} {src dst e : TypeId} {x : Operand} (l : List UInt8) (ho : o.op = .convert src dst x) (hx : a.eval x = .string ⟨l.toArray⟩)
    (hs : P.underlying src = some .string) (hd : P.underlying dst = some (.slice e)) (he : P.underlying e = some (.int .u8)) (hl : l.length ≤ 1000000)
    (k : ∀ b c W, Below w.heap.size w W → Bys W (.slice (some ⟨b, 0, none⟩) l.length c) l → K (a.put o.dst (.slice (some ⟨b, 0, none⟩) l.length c)) W) : o.wp P a w K Q := by
  have hr := run_bytes_of_string (P := P) w src dst e ⟨l.toArray⟩ hs hd he
  have hsz : (⟨l.toArray⟩ : ByteArray).size = l.length := by simp [ByteArray.size]
  rw [hsz] at hr
  obtain ⟨W1, hW1⟩ : ∃ W1, W1 = w.drew.alloc (.cells (bytesRow ⟨l.toArray⟩ (grownCap w l.length 0 e)) e ((bytesRow ⟨l.toArray⟩ (grownCap w l.length 0 e)).size, (bytesRow ⟨l.toArray⟩ (grownCap w l.length 0 e)).size + 1)) := ⟨_, rfl⟩
  rw [← hW1] at hr
  have h2 : (execOp a.eval o).run P w = .ok (.value (.slice (some ⟨w.heap.size, 0, none⟩) l.length (grownCap w l.length 0 e))) W1 := by
    simp only [execOp, ho, hx, Sem.run_bind, hr]; rfl
  refine op_val h2 (k _ _ _ (by rw [hW1]; exact (below_drew w).trans (show Below w.drew.heap.size w.drew _ from Bl.box w.drew _)) (.inr ⟨w.heap.size, 0, _, rfl, grownCap_ge w l.length 0 e, grownCap_le_maxLen w l.length 0 e (by unfold maxLen; omega), fun j y hj => ?_⟩))
  have hjl : j < l.length := by have := (List.getElem?_eq_some_iff.1 hj).1; simpa using this
  have hb := bytesRow_at ⟨l.toArray⟩ (grownCap w l.length 0 e) j (by simpa using hjl)
  have hy : y = .int .u8 ((l.toArray[j]'(by simpa using hjl)).toNat : Int) := by
    rw [List.getElem?_map, List.getElem?_eq_getElem hjl] at hj
    simp only [Option.map_some, Option.some.injEq] at hj
    rw [← hj]; rfl
  have hh : W1.heap[w.heap.size]? = some (.cells (bytesRow ⟨l.toArray⟩ (grownCap w l.length 0 e)) e ((bytesRow ⟨l.toArray⟩ (grownCap w l.length 0 e)).size, (bytesRow ⟨l.toArray⟩ (grownCap w l.length 0 e)).size + 1)) := by rw [hW1]; exact heap_alloc_new w.drew _
  rw [hy]
  simp [World.cell?, hh, hb]
/-- a root's number, by the four bytes of a value -/
def rootE (s : List UInt8) : Int := if s.length = 4 then (if 1 ≤ rawN s 0 4 ∧ rawN s 0 4 ≤ 14399 then 0 else 2) else 7
def rootN (s : List UInt8) : Nat := if rootE s = 0 then rawN s 0 4 else 0
theorem loop_len (bs : ByteArray) (i : Nat) (r : List UInt8) (h : i ≤ bs.size) : (ByteArray.toList.loop bs i r).length = r.length + (bs.size - i) := by
  rw [ByteArray.toList.loop]
  split
  · rename_i h2
    rw [loop_len bs (i + 1) _ (by omega)]
    simp; omega
  · simp; omega
termination_by bs.size - i
theorem toList_len (bs : ByteArray) : bs.toList.length = bs.size := by
  unfold ByteArray.toList; rw [loop_len _ _ _ (Nat.zero_le _)]; simp
theorem four_ne (n : Int) : ((⟨(leB n 4).toArray⟩ : ByteArray).toList == (⟨#[]⟩ : ByteArray).toList) = false := by
  cases hq : ((⟨(leB n 4).toArray⟩ : ByteArray).toList == (⟨#[]⟩ : ByteArray).toList) with
  | false => rfl
  | true =>
    have e := congrArg List.length (eq_of_beq hq)
    rw [toList_len, toList_len] at e
    simp [ByteArray.size, leB_len] at e
set_option maxRecDepth 100000 in
set_option maxHeartbeats 1000000 in
theorem value_rootR (w : World) :
    Calls Tryz.prog 90 #[] w (RetS (fun w' r => ∃ b, r = .slice (some ⟨b, 0, none⟩) 1 1 ∧ w.heap.size ≤ b ∧ Blk w' b [.int .i64 4, .int .i64 1, .int .i64 14399] 134) w) := by
 refine zin 3 Tryz.func90 ?_
 refine xbs 8 1 [.int .i64 4, .int .i64 1, .int .i64 14399] 134 fun b1 W1 n1 => ?_
 have g1 := n1.ge (Below.refl w.heap.size _)
 exact xe 4 (.slice (some ⟨b1, 0, none⟩) 1 1) ⟨_, rfl, n1.below, _, rfl, g1, n1.blk⟩
set_option maxRecDepth 100000 in
set_option maxHeartbeats 1000000 in
theorem value_putR (gl : Nat) (an : Option Addr) (cn : Nat) (n : Int) (w : World) (hl : Blk w gl [.int .i64 4, .int .i64 1, .int .i64 14399] 134) (hn : Sl w (.slice an 1 cn) 1 [.int .i64 n]) (h1 : 1 ≤ n) (h2 : n ≤ 14399) :
    Calls Tryz.prog 54 #[.slice (some ⟨gl, 0, none⟩) 1 1, .slice an 1 cn] w (Ret (.string ⟨(leB n 4).toArray⟩) w) := by
 have hlo := h1
 have hhi := h2
 clear h2
 refine zin 51 Tryz.func54 ?_
 refine xu 19 2 ?_
 refine xlv 15 hl.rp ?_
 refine xa 0 [.int .i64 0, .int .i64 0, .int .i64 0] 134 fun b1 W1 n1 => ?_
 have d1_gl := n1.ne hl
 refine xsv 1 n1.blk [.int .i64 4, .int .i64 1, .int .i64 14399] fun W2 u2 k2 => ?_
 have g1 := n1.ge (Below.refl w.heap.size _)
 refine xd 4 .z ?_
 refine xx (.e [0, 1] 2) _ 1 0 1 (Ints.elem (l := [n]) hn (k := 0) (by simp)).1 ?_
 have hB := Bl.next (u2.below n1.below g1) (below_drew W2)
 refine xl (.e [] 3) ((Ints.elem (l := [n]) (hn.below hB) (k := 0) (by simp)).2) ?_
 have k2'1 := k2.below (below_drew W2)
 refine xb (.e [4] 5) 1 k2'1 ?_
 refine xgk (.b [6, 7]) [23, 24] (show (decide (n < (1 : Int)) : Bool) = false from decide_eq_false (by omega)) ?_
 refine xx (.e [8, 9] 10) _ 1 0 1 (Ints.elem (l := [n]) hn (k := 0) (by simp)).1 ?_
 refine xl (.e [] 11) ((Ints.elem (l := [n]) (hn.below hB) (k := 0) (by simp)).2) ?_
 refine xb (.e [12] 13) 2 k2'1 ?_
 refine xk (.r [14, 15] 2) (show (decide (n > (14399 : Int)) : Bool) = false from decide_eq_false (by omega)) ?_
 refine xd 3 .z ?_
 have k2'2 := k2'1.below (below_drew W2.drew)
 refine xb (.e [0] 1) 0 k2'2 ?_
 refine xx (.e [2, 3] 4) _ 1 0 1 (Ints.elem (l := [n]) hn (k := 0) (by simp)).1 ?_
 have hB'1 := Bl.next hB (below_drew W2.drew)
 refine xl (.e [] 5) ((Ints.elem (l := [n]) (hn.below hB'1) (k := 0) (by simp)).2) ?_
 refine xbs (.o [6] 7) 1 [.int .i64 4, .int .i64 n] 89 fun b4 W4 n4 => ?_
 have g4 := n4.ge hB'1
 refine yc (.o [] 8) (args := #[.slice (some ⟨b4, 0, none⟩) 1 1]) .z (Pack_4 b4 n (by omega) (by omega) _ n4.blk) ?_
 rintro _ W5 ⟨_, rfl, hb5, p2, c2, rfl, h2⟩
 have hs5 := (Bl.next hB'1 n4.below).size
 refine ⟨hb5, ?_⟩
 have o6 := World.ownsRow_nil W5 w.heap.size 5 1
 have h2'1 := own_mono h2 hs5
 have hB'2 := Bl.next (Bl.next hB'1 n4.below) hb5
 refine xbi (.r [9, 10, 11, 12, 13] 5) fun _ _ _ _ zJ zQ zo zx zy zK => op_app (m := 4) (news := (leB n 4).map bv) (.int .u8 0) 1 1 (4) ((leB n 4).map bv) zo Tryz.underlying45 (by kernel_rfl) rfl (by decide) zx o6 zy (own_sl h2'1) (by simp [leB_len]) (bv_one _) (by unfold maxLen; omega) (by omega) hB'2.size (by rfl) (by simp) fun p7 c7 W7 o7 hg7 hb7 => ?_
 refine zK _ _ ?_
 refine xcv0 24 (fun _ _ _ zo zx => run_bstr zo zx (bys_of (own_sl o7) (leB_len _ _)) (leB_len _ _) Tryz.underlying45 Tryz.underlying5 Tryz.underlying9) ?_
 have hB'3 := hB'2.trans hb7
 exact xe 4 (.string ⟨(leB n 4).toArray⟩) ⟨rfl, hB'3⟩
set_option maxRecDepth 100000 in
set_option maxHeartbeats 1000000 in
theorem value_putX (gl : Nat) (an : Option Addr) (cn : Nat) (n : Int) (w : World) (hl : Blk w gl [.int .i64 4, .int .i64 1, .int .i64 14399] 134) (hn : Sl w (.slice an 1 cn) 1 [.int .i64 n]) (h : ¬ (1 ≤ n ∧ n ≤ 14399)) :
    Calls Tryz.prog 54 #[.slice (some ⟨gl, 0, none⟩) 1 1, .slice an 1 cn] w (Ret (.string ⟨#[]⟩) w) := by
 refine zin 51 Tryz.func54 ?_
 refine xu 19 2 ?_
 refine xlv 15 hl.rp ?_
 refine xa 0 [.int .i64 0, .int .i64 0, .int .i64 0] 134 fun b1 W1 n1 => ?_
 have d1_gl := n1.ne hl
 refine xsv 1 n1.blk [.int .i64 4, .int .i64 1, .int .i64 14399] fun W2 u2 k2 => ?_
 have g1 := n1.ge (Below.refl w.heap.size _)
 refine xd 4 .z ?_
 refine xx (.e [0, 1] 2) _ 1 0 1 (Ints.elem (l := [n]) hn (k := 0) (by simp)).1 ?_
 have hB := Bl.next (u2.below n1.below g1) (below_drew W2)
 refine xl (.e [] 3) ((Ints.elem (l := [n]) (hn.below hB) (k := 0) (by simp)).2) ?_
 have k2'1 := k2.below (below_drew W2)
 refine xb (.e [4] 5) 1 k2'1 ?_
 refine xg (.b [6, 7]) [23, 24] (decide (n < (1 : Int))) (fun hc3 => ?_) (fun hc3 => ?_)
 · have hc3 := of_decide_eq_true hc3
   exact xe (.r [8, 9, 10, 11, 12, 13, 14, 15] 15) (.string ⟨#[]⟩) ⟨rfl, hB⟩
 have hc3 := of_decide_eq_false hc3
 refine xx (.e [8, 9] 10) _ 1 0 1 (Ints.elem (l := [n]) hn (k := 0) (by simp)).1 ?_
 refine xl (.e [] 11) ((Ints.elem (l := [n]) (hn.below hB) (k := 0) (by simp)).2) ?_
 refine xb (.e [12] 13) 2 k2'1 ?_
 refine xk (.r [14, 15] 2) (show (decide (n > (14399 : Int)) : Bool) = true from decide_eq_true (by omega)) ?_
 exact xe 12 (.string ⟨#[]⟩) ⟨rfl, hB⟩
set_option maxRecDepth 100000 in
set_option maxHeartbeats 1000000 in
theorem value_read_len (gl : Nat) (s : List UInt8) (w : World) (hl : Blk w gl [.int .i64 4, .int .i64 1, .int .i64 14399] 134) (hs : s.length ≤ 1000) (h4 : s.length ≠ 4) :
    Calls Tryz.prog 87 #[.slice (some ⟨gl, 0, none⟩) 1 1, .string ⟨s.toArray⟩] w (RetS (fun w' r => ∃ p c, r = .tuple #[.slice p 1 c, .int .i64 7] ∧ w'.ownsRow w.heap.size 3 1 (.slice p 1 c) 1 [.int .i64 0]) w) := by
 refine zin 54 Tryz.func87 ?_
 refine xu 25 2 ?_
 refine xlv 14 hl.rp ?_
 refine xa 0 [.int .i64 0, .int .i64 0, .int .i64 0] 134 fun b1 W1 n1 => ?_
 have d1_gl := n1.ne hl
 refine xsv 0 n1.blk [.int .i64 4, .int .i64 1, .int .i64 14399] fun W2 u2 k2 => ?_
 have g1 := n1.ge (Below.refl w.heap.size _)
 refine xb 6 0 k2 ?_
 refine xbs 0 1 [.int .i64 4] 3 fun b3 W3 n3 => ?_
 have o4 := World.ownsRow_nil W3 w.heap.size 3 1
 have hB := Bl.next (u2.below n1.below g1) n3.below
 refine xbi 0 fun _ _ _ _ zJ zQ zo zx zy zK => op_app (m := 1) (news := [.int .i64 4]) (.int .i64 0) 1 8 (1) ([Value.int .i64 4]) zo Tryz.underlying24 (by kernel_rfl) rfl (by decide) zx o4 zy (n3.blk.sl 1 1 (by decide) (by decide)) rfl (by simp [Value.oneCell']) (by unfold maxLen; omega) (by omega) hB.size (by rfl) (by rfl) fun p5 c5 W5 o5 hg5 hb5 => ?_
 refine zK _ _ ?_
 have k2'1 := (k2.below n3.below).grown hg5 o4 (by decide)
 refine xb 6 0 k2'1 ?_
 refine xk 31 (show (((↑s.length : Int) != (4 : Int)) : Bool) = true from bne_iff_ne.2 (by omega)) ?_
 refine xmk 4 fun _ _ _ _ zJ zQ zo zx zy zK => op_make 1 (.int .i64 0) 1 8 [Value.int .i64 0] zo zx zy Tryz.underlying24 (by kernel_rfl) rfl (by omega) (by omega) (rfl) fun b6 W6 n6 => ?_
 have hB'1 := hB.trans hb5
 have g6 := n6.ge hB'1
 have r6_o5 := own_ne o5 n6
 refine zK _ _ ?_
 have hB'2 := Bl.next hB'1 n6.below
 have o6 := own_of_blk (size := 1) (n := 1) n6.blk g6 (rfl) (by unfold maxLen; omega)
 exact xe 6 (.tuple #[.slice (some ⟨b6, 0, none⟩) 1 1, .int .i64 7]) ⟨_, rfl, hB'2, _, _, rfl, o6⟩
set_option maxRecDepth 100000 in
set_option maxHeartbeats 1000000 in
theorem value_read_ok (gl : Nat) (s : List UInt8) (w : World) (hl : Blk w gl [.int .i64 4, .int .i64 1, .int .i64 14399] 134) (hs : s.length ≤ 1000) (h4 : s.length = 4) (h1 : 1 ≤ rawN s 0 4) (h2 : rawN s 0 4 ≤ 14399) :
    Calls Tryz.prog 87 #[.slice (some ⟨gl, 0, none⟩) 1 1, .string ⟨s.toArray⟩] w (RetS (fun w' r => ∃ p c, r = .tuple #[.slice p 1 c, .int .i64 0] ∧ w'.ownsRow w.heap.size 3 1 (.slice p 1 c) 1 [.int .i64 (↑(rawN s 0 4) : Int)]) w) := by
 refine zin 54 Tryz.func87 ?_
 refine xu 25 2 ?_
 refine xlv 14 hl.rp ?_
 refine xa 0 [.int .i64 0, .int .i64 0, .int .i64 0] 134 fun b1 W1 n1 => ?_
 have d1_gl := n1.ne hl
 refine xsv 0 n1.blk [.int .i64 4, .int .i64 1, .int .i64 14399] fun W2 u2 k2 => ?_
 have g1 := n1.ge (Below.refl w.heap.size _)
 refine xb 6 0 k2 ?_
 refine xbs 0 1 [.int .i64 4] 3 fun b3 W3 n3 => ?_
 have o4 := World.ownsRow_nil W3 w.heap.size 3 1
 have hB := Bl.next (u2.below n1.below g1) n3.below
 refine xbi 0 fun _ _ _ _ zJ zQ zo zx zy zK => op_app (m := 1) (news := [.int .i64 4]) (.int .i64 0) 1 8 (1) ([Value.int .i64 4]) zo Tryz.underlying24 (by kernel_rfl) rfl (by decide) zx o4 zy (n3.blk.sl 1 1 (by decide) (by decide)) rfl (by simp [Value.oneCell']) (by unfold maxLen; omega) (by omega) hB.size (by rfl) (by rfl) fun p5 c5 W5 o5 hg5 hb5 => ?_
 refine zK _ _ ?_
 have k2'1 := (k2.below n3.below).grown hg5 o4 (by decide)
 refine xb 6 0 k2'1 ?_
 refine xk 31 (show (((↑s.length : Int) != (4 : Int)) : Bool) = false from by rw [h4]; rfl) ?_
 refine xcf 5 fun _ _ _ zJ zQ zo zx zK => op_strBytes s zo zx Tryz.underlying9 Tryz.underlying45 Tryz.underlying5 (by omega) ?_
 intro bz cz W6 hb6 hbz
 refine zK _ _ ?_
 have o5'1 := own_below o5 hb6
 refine xc 1 (args := #[.slice (some ⟨bz, 0, none⟩) s.length cz, .slice p5 1 c5]) (Unpack_okN (some ⟨bz, 0, none⟩) s.length cz s p5 c5 1 [4] [rawN s 0 4] _ rfl rfl rfl (by decide) (by simp; omega) (by omega) (by decide) hbz (own_sl o5'1) (fun i hi => by obtain rfl : i = 0 := (by simpa using hi); have := rawN_lt4 s 0 4 (by decide); simp [unpL]; omega)) ?_
 rintro _ W7 ⟨_, rfl, hb7, p5, c5, rfl, h5⟩
 have hs7 := (Bl.next (hB.trans hb5) hb6).size
 have hl'1 := ((((u2.blk (hl.below n1.below) (Ne.symm (Ne.symm d1_gl))).below n3.below).grown hg5 o4 (by decide)).below hb6).below hb7
 have h5'1 := own_mono h5 hs7
 refine xr 15 (args := #[.slice (some ⟨gl, 0, none⟩) 1 1, .slice p5 1 c5]) (value_putR gl p5 c5 (↑(rawN s 0 4) : Int) _ hl'1 (own_sl h5'1) (by omega) (by omega)) fun W8 hb8 => ?_
 refine xk 4 (show (((⟨(leB (↑(rawN s 0 4) : Int) 4).toArray⟩ : ByteArray).toList == (⟨#[]⟩ : ByteArray).toList) : Bool) = false from four_ne _) ?_
 have hB'1 := Bl.next (Bl.next (Bl.next (hB.trans hb5) hb6) hb7) hb8
 have h5'2 := own_below h5'1 hb8
 exact xe 10 (.tuple #[.slice p5 1 c5, .int .i64 0]) ⟨_, rfl, hB'1, _, _, rfl, h5'2⟩
set_option maxRecDepth 100000 in
set_option maxHeartbeats 1000000 in
theorem value_read_bad (gl : Nat) (s : List UInt8) (w : World) (hl : Blk w gl [.int .i64 4, .int .i64 1, .int .i64 14399] 134) (hs : s.length ≤ 1000) (h4 : s.length = 4) (h1 : ¬ (1 ≤ (rawN s 0 4 : Int) ∧ (rawN s 0 4 : Int) ≤ 14399)) :
    Calls Tryz.prog 87 #[.slice (some ⟨gl, 0, none⟩) 1 1, .string ⟨s.toArray⟩] w (RetS (fun w' r => ∃ p c, r = .tuple #[.slice p 1 c, .int .i64 2] ∧ w'.ownsRow w.heap.size 3 1 (.slice p 1 c) 1 [.int .i64 0]) w) := by
 refine zin 54 Tryz.func87 ?_
 refine xu 25 2 ?_
 refine xlv 14 hl.rp ?_
 refine xa 0 [.int .i64 0, .int .i64 0, .int .i64 0] 134 fun b1 W1 n1 => ?_
 have d1_gl := n1.ne hl
 refine xsv 0 n1.blk [.int .i64 4, .int .i64 1, .int .i64 14399] fun W2 u2 k2 => ?_
 have g1 := n1.ge (Below.refl w.heap.size _)
 refine xb 6 0 k2 ?_
 refine xbs 0 1 [.int .i64 4] 3 fun b3 W3 n3 => ?_
 have o4 := World.ownsRow_nil W3 w.heap.size 3 1
 have hB := Bl.next (u2.below n1.below g1) n3.below
 refine xbi 0 fun _ _ _ _ zJ zQ zo zx zy zK => op_app (m := 1) (news := [.int .i64 4]) (.int .i64 0) 1 8 (1) ([Value.int .i64 4]) zo Tryz.underlying24 (by kernel_rfl) rfl (by decide) zx o4 zy (n3.blk.sl 1 1 (by decide) (by decide)) rfl (by simp [Value.oneCell']) (by unfold maxLen; omega) (by omega) hB.size (by rfl) (by rfl) fun p5 c5 W5 o5 hg5 hb5 => ?_
 refine zK _ _ ?_
 have k2'1 := (k2.below n3.below).grown hg5 o4 (by decide)
 refine xb 6 0 k2'1 ?_
 refine xk 31 (show (((↑s.length : Int) != (4 : Int)) : Bool) = false from by rw [h4]; rfl) ?_
 refine xcf 5 fun _ _ _ zJ zQ zo zx zK => op_strBytes s zo zx Tryz.underlying9 Tryz.underlying45 Tryz.underlying5 (by omega) ?_
 intro bz cz W6 hb6 hbz
 refine zK _ _ ?_
 have o5'1 := own_below o5 hb6
 refine xc 1 (args := #[.slice (some ⟨bz, 0, none⟩) s.length cz, .slice p5 1 c5]) (Unpack_okN (some ⟨bz, 0, none⟩) s.length cz s p5 c5 1 [4] [rawN s 0 4] _ rfl rfl rfl (by decide) (by simp; omega) (by omega) (by decide) hbz (own_sl o5'1) (fun i hi => by obtain rfl : i = 0 := (by simpa using hi); have := rawN_lt4 s 0 4 (by decide); simp [unpL]; omega)) ?_
 rintro _ W7 ⟨_, rfl, hb7, p5, c5, rfl, h5⟩
 have hs7 := (Bl.next (hB.trans hb5) hb6).size
 have hl'1 := ((((u2.blk (hl.below n1.below) (Ne.symm (Ne.symm d1_gl))).below n3.below).grown hg5 o4 (by decide)).below hb6).below hb7
 have h5'1 := own_mono h5 hs7
 refine xr 15 (args := #[.slice (some ⟨gl, 0, none⟩) 1 1, .slice p5 1 c5]) (value_putX gl p5 c5 (↑(rawN s 0 4) : Int) _ hl'1 (own_sl h5'1) (by omega)) fun W8 hb8 => ?_
 refine xmk 9 fun _ _ _ _ zJ zQ zo zx zy zK => op_make 1 (.int .i64 0) 1 8 [Value.int .i64 0] zo zx zy Tryz.underlying24 (by kernel_rfl) rfl (by omega) (by omega) (rfl) fun b9 W9 n9 => ?_
 have hB'1 := Bl.next (Bl.next (Bl.next (hB.trans hb5) hb6) hb7) hb8
 have g9 := n9.ge hB'1
 have o5'2 := own_below (own_below o5'1 hb7) hb8
 have r9_o5 := own_ne o5'2 n9
 have h5'2 := own_below h5'1 hb8
 have r9_h5 := own_ne h5'2 n9
 refine zK _ _ ?_
 have hB'2 := Bl.next hB'1 n9.below
 have o9 := own_of_blk (size := 1) (n := 1) n9.blk g9 (rfl) (by unfold maxLen; omega)
 exact xe 6 (.tuple #[.slice (some ⟨b9, 0, none⟩) 1 1, .int .i64 2]) ⟨_, rfl, hB'2, _, _, rfl, o9⟩
theorem value_readR (gl : Nat) (s : List UInt8) (w : World) (hl : Blk w gl [.int .i64 4, .int .i64 1, .int .i64 14399] 134) (hs : s.length ≤ 1000) : Calls Tryz.prog 87 #[.slice (some ⟨gl, 0, none⟩) 1 1, .string ⟨s.toArray⟩] w (RetS (fun w' r => ∃ p c, r = .tuple #[.slice p 1 c, .int .i64 (rootE s)] ∧ w'.ownsRow w.heap.size 3 1 (.slice p 1 c) 1 [.int .i64 (rootN s : Int)]) w) := by
  by_cases h4 : s.length = 4
  · by_cases h1 : 1 ≤ rawN s 0 4 ∧ rawN s 0 4 ≤ 14399
    · have he : rootE s = 0 := by unfold rootE; rw [if_pos h4, if_pos h1]
      rw [he, rootN, if_pos he]
      exact value_read_ok gl s w hl hs h4 h1.1 h1.2
    · have he : rootE s = 2 := by unfold rootE; rw [if_pos h4, if_neg h1]
      rw [he, rootN, if_neg (by rw [he]; decide)]
      exact value_read_bad gl s w hl hs h4 (by omega)
  · have he : rootE s = 7 := by unfold rootE; rw [if_neg h4]
    rw [he, rootN, if_neg (by rw [he]; decide)]
    exact value_read_len gl s w hl hs h4
end Go.Proofs.YtbhjgcokpmiopaaGreat
