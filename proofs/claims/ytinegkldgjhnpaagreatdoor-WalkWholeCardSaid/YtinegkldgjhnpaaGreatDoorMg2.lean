/- Package crc: the register runs as the plain functions below. code.Put returns the bytes with the number in them. crc.Sum of one slice, and package seal: Salt, known, sum and Seal. More rules for printed walks. No program is named here. errors.Is of one Errno at another, as a contract. Package image at an image of no bytes, block.told at an Errno, and block.Super at an image of no bytes. Package image: Of, Blocks, block, Write and Bytes at an image whose bytes lie in a row of its own. Package alloc at an image of its own: New, Next, Lay, Left, Used. node.Width and node.Max at the five trees; package tall: over, Levels, Nodes, Sizes. Reading numbers: code.Get, code.Unpack, code.Zero at places that are there. Lemmas for the law AllocOnce: remainders, bytes as a string, blocks laid one behind the other. code.Zero, seal.Open. bits.Read. Errors that lie in memory stay what they are while a block of another type is written. Blocks of an image that are read: (*Image).Read, whatever the number. What was sealed opens: a plain law on lists of bytes. append(s, make([]byte, k)...) at a literal s. An error's text, as contracts. Package block at an image that is none, and the example of law 11. More rules for printed walks: copying a string's bytes into a row, a slice cut at its head, slices of strings. No program is named here. Further steps of a walk: append of a string to a row of the call's own, a store into a place of such a row, and where an appended row lies. The document's answer for the layers 1, 2 and 4: Bytes, Sum, Salt, known, Seal. -/
import Derived.Deep.MidRow
import Derived.Lib.AppendZerosOnto
import Derived.Lib.ItoaNum
import Derived.Lib.BufferWrite
import Derived.Lib.AppendStr
import Derived.Test.YtinegkldgjhnpaaGreatDoorMg1
namespace Go.Proofs.YtinegkldgjhnpaaGreatDoor
open Go.RowKit Go.Extern.Stop Go.Stop Go.Extern
set_option linter.unusedVariables false
attribute [local irreducible] wpList wpAnyH Code.wp Oper.wp Go

theorem u32_wrap {n : Nat} (h : n < 4294967296) : IntKind.u32.wrap (n : Int) = (n : Int) := by
  simp [IntKind.wrap, IntKind.bits, IntKind.signed]; omega
theorem u32_xor {a b : Nat} (ha : a < 4294967296) (hb : b < 4294967296) : IntKind.u32.wrap (↑(BitVec.ofInt 32 (a : Int) ^^^ BitVec.ofInt 32 (b : Int)).toNat : Int) = ((a ^^^ b : Nat) : Int) := by
  rw [BitVec.ofInt_natCast, BitVec.ofInt_natCast, BitVec.toNat_xor, BitVec.toNat_ofNat, BitVec.toNat_ofNat, Nat.mod_eq_of_lt ha, Nat.mod_eq_of_lt hb]
  exact u32_wrap (Nat.xor_lt_two_pow (n := 32) ha hb)
theorem u32_and {a b : Nat} (ha : a < 4294967296) (hb : b < 4294967296) : IntKind.u32.wrap (↑(BitVec.ofInt 32 (a : Int) &&& BitVec.ofInt 32 (b : Int)).toNat : Int) = ((a &&& b : Nat) : Int) := by
  rw [BitVec.ofInt_natCast, BitVec.ofInt_natCast, BitVec.toNat_and, BitVec.toNat_ofNat, BitVec.toNat_ofNat, Nat.mod_eq_of_lt ha, Nat.mod_eq_of_lt hb]
  exact u32_wrap (Nat.lt_of_le_of_lt Nat.and_le_left ha)
theorem fdiv_cast (a : Nat) (k : Nat) : Int.fdiv (a : Int) (2 ^ k) = ((a / 2 ^ k : Nat) : Int) := by
  rw [Int.fdiv_eq_ediv_of_nonneg _ (Int.pow_nonneg (by decide))]
  simp
/-- one step of a register -/
def step1 (r : Nat) : Nat := if r % 2 = 1 then (r / 2) ^^^ 2197175160 else r / 2
def stepN : Nat → Nat → Nat
  | 0, r => r
  | j + 1, r => step1 (stepN j r)
def half (n : Nat) : Nat := stepN 4 n
theorem step1_lt {r : Nat} (h : r < 4294967296) : step1 r < 4294967296 := by
  unfold step1
  split
  · exact Nat.xor_lt_two_pow (n := 32) (by omega) (by decide)
  · omega
theorem stepN_lt {j r : Nat} (h : r < 4294967296) : stepN j r < 4294967296 := by
  induction j with
  | zero => exact h
  | succ j ih => exact step1_lt ih
theorem half_lt {r : Nat} (h : r < 4294967296) : half r < 4294967296 := stepN_lt h
def halvesK (k : Nat) : List Value := (List.range 16).map fun i => .int .u32 (if i < k then (half i : Int) else 0)
def halvesC : List Value := (List.range 16).map fun i => .int .u32 (half i : Int)
theorem halvesK_set {k : Nat} (h : k < 16) : (halvesK k).set k (.int .u32 (half k : Int)) = halvesK (k + 1) := by
  apply List.ext_getElem?
  intro i
  by_cases hi : i < 16
  · by_cases e : k = i
    · subst e
      rw [List.getElem?_set_self (by simpa [halvesK] using h)]
      simp [halvesK, List.getElem?_range hi]
    · rw [List.getElem?_set_ne e]
      simp only [halvesK, List.getElem?_map, List.getElem?_range hi, Option.map_some]
      by_cases h3 : i < k
      · rw [if_pos h3, if_pos (by omega)]
      · rw [if_neg h3, if_neg (by omega)]
  · rw [List.getElem?_eq_none (by simp [halvesK]; omega), List.getElem?_eq_none (by simp [halvesK]; omega)]
theorem halvesK_all : halvesK 16 = halvesC := by
  unfold halvesK halvesC
  apply List.map_congr_left
  intro i hi
  rw [if_pos (List.mem_range.1 hi)]
theorem halvesC_get {k : Nat} (h : k < 16) : halvesC[k]? = some (.int .u32 (half k : Int)) := by
  simp [halvesC, List.getElem?_range h]
/-- the lowest bit -/
theorem and_one (a : Nat) : a &&& 1 = a % 2 := Nat.and_one_is_mod a
theorem and_15 (a : Nat) : a &&& 15 = a % 16 := Nat.and_two_pow_sub_one_eq_mod a 4
set_option maxRecDepth 100000 in
set_option maxHeartbeats 1000000 in
theorem crc_halves (w : World) :
    Calls Tryz.prog 169 #[] w (Ret (.agg halvesC.toArray) w) := by
 refine zin 26 Tryz.func169 ?_
 refine xa 2 [.int .u32 0, .int .u32 0, .int .u32 0, .int .u32 0, .int .u32 0, .int .u32 0, .int .u32 0, .int .u32 0, .int .u32 0, .int .u32 0, .int .u32 0, .int .u32 0, .int .u32 0, .int .u32 0, .int .u32 0, .int .u32 0] 270 fun b1 W1 n1 => ?_
 refine xa 4 [.int .u32 0, .int .u32 0, .int .u32 0, .int .u32 0, .int .u32 0, .int .u32 0, .int .u32 0, .int .u32 0, .int .u32 0, .int .u32 0, .int .u32 0, .int .u32 0, .int .u32 0, .int .u32 0, .int .u32 0, .int .u32 0] 270 fun b2 W2 n2 => ?_
 have d2_b1 := n2.ne n1.blk
 have hB := Bl.next n1.below n2.below
 have k1'1 := n1.blk.below n2.below
 refine zl 9 26 (fun zm zkv V => ∃ (k : Nat), zkv = [(0, .pointer (some ⟨b1, 0, none⟩)), (1, .pointer (some ⟨b2, 0, none⟩)), (5, .int .i64 (↑k : Int))] ∧ zm = 16 - ((↑k : Int)).toNat ∧ Below w.heap.size w V ∧ Blk V b1 ([.int .u32 0, .int .u32 0, .int .u32 0, .int .u32 0, .int .u32 0, .int .u32 0, .int .u32 0, .int .u32 0, .int .u32 0, .int .u32 0, .int .u32 0, .int .u32 0, .int .u32 0, .int .u32 0, .int .u32 0, .int .u32 0]) 270 ∧ Blk V b2 (halvesK k) 270 ∧ k ≤ 16) ⟨0, rfl, rfl, hB, k1'1, n2.blk, by decide⟩ ?_
 rintro _ _ W3 ⟨k, rfl, rfl, hB_3, k3_b1, k3_b2, hk⟩ J3 hJ3 r3
 refine xid 6 ((↑k : Int) < (16 : Int)) (fun hc4 => ?_) (fun hc4 => ?_)
 · refine xq 13 (congrArg (Value.int .u32) (show (IntKind.u32.wrap (↑k : Int) : Int) = (↑k : Int) from u32_wrap (by omega))) ?_
   refine zl 10 26 (fun zm zkv V => ∃ (j : Nat), zkv = [(0, .pointer (some ⟨b1, 0, none⟩)), (1, .pointer (some ⟨b2, 0, none⟩)), (2, .int .i64 (↑k : Int)), (3, .int .u32 (↑(stepN j k) : Int)), (5, .int .i64 (↑k : Int)), (10, .int .i64 (↑j : Int))] ∧ zm = 4 - ((↑j : Int)).toNat ∧ Below w.heap.size w V ∧ Blk V b1 ([.int .u32 0, .int .u32 0, .int .u32 0, .int .u32 0, .int .u32 0, .int .u32 0, .int .u32 0, .int .u32 0, .int .u32 0, .int .u32 0, .int .u32 0, .int .u32 0, .int .u32 0, .int .u32 0, .int .u32 0, .int .u32 0]) 270 ∧ Blk V b2 (halvesK k) 270 ∧ j ≤ 4) ⟨0, rfl, rfl, hB_3, k3_b1, k3_b2, by decide⟩ ?_
   rintro _ _ W5 ⟨j, rfl, rfl, hB_5, k5_b1, k5_b2, hj⟩ J5 hJ5 r5
   have hr : stepN j k < 4294967296 := stepN_lt (by omega)
   refine xid 6 ((↑j : Int) < (4 : Int)) (fun hc6 => ?_) (fun hc6 => ?_)
   · refine xq 7 (congrArg (Value.int .u32) (show (IntKind.u32.wrap (↑(BitVec.ofInt 32 (↑(stepN j k) : Int) &&& BitVec.ofInt 32 (1 : Int)).toNat : Int) : Int) = (↑((stepN j k) % 2) : Int) from (u32_and (b := 1) hr (by decide)).trans (by rw [and_one]))) ?_
     refine xq 6 (congrArg (Value.int .u32) (show (Int.fdiv (↑(stepN j k) : Int) (2 ^ 1) : Int) = (↑((stepN j k) / 2) : Int) from fdiv_cast _ 1)) ?_
     refine xie 9 (↑((stepN j k) % 2) : Int) (1 : Int) (fun hc7 => ?_) (fun hc7 => ?_)
     · refine xq 2 (congrArg (Value.int .u32) (show (IntKind.u32.wrap (↑(BitVec.ofInt 32 (↑((stepN j k) / 2) : Int) ^^^ BitVec.ofInt 32 (2197175160 : Int)).toNat : Int) : Int) = (↑(((stepN j k) / 2) ^^^ 2197175160) : Int) from u32_xor (b := 2197175160) (by omega) (by decide))) ?_
       refine xw 5 ((↑j : Int) + 1) ?_
       refine xv1 2 3 (show (.int .u32 (↑(((stepN j k) / 2) ^^^ 2197175160) : Int) : Value) = .int .u32 (↑(stepN (j + 1) k) : Int) from by rw [show stepN (j + 1) k = (((stepN j k) / 2) ^^^ 2197175160) by simp only [stepN, step1]; first | rw [if_pos (by omega)] | rw [if_neg (by omega)]]) ?_
       exact ze 0 (hJ5 _ _ _ ⟨j + 1, rfl, rfl, hB_5, k5_b1, k5_b2, by omega⟩ (by omega))
     refine xw 4 ((↑j : Int) + 1) ?_
     refine xv1 2 3 (show (.int .u32 (↑((stepN j k) / 2) : Int) : Value) = .int .u32 (↑(stepN (j + 1) k) : Int) from by rw [show stepN (j + 1) k = ((stepN j k) / 2) by simp only [stepN, step1]; first | rw [if_pos (by omega)] | rw [if_neg (by omega)]]) ?_
     exact ze 0 (hJ5 _ _ _ ⟨j + 1, rfl, rfl, hB_5, k5_b1, k5_b2, by omega⟩ (by omega))
   refine xia 8 (fun _ _ _ _ zo zx zy V => run_indexP (k := k) (b := b2) (off := 0) (i := (↑k : Int)) (ki := .i64) 1 k zo zx zy rfl (by omega) (by omega) Tryz.underlying270 (by kernel_rfl) V) ?_
   refine xsg 0 k5_b2 k (.int .u32 (↑(stepN j k) : Int)) (by first | decide | (simp [halvesK]; omega)) fun W8 u8 k8 => ?_
   replace k8 : Blk W8 b2 (halvesK (k + 1)) 270 := by rw [← (show (halvesK k).set k (.int .u32 (↑(stepN j k) : Int)) = halvesK (k + 1) from by rw [show j = 4 by omega]; exact halvesK_set (by omega))]; exact k8
   have g2 := n2.ge n1.below
   refine xw 4 ((↑k : Int) + 1) ?_
   have hB'1 := u8.below hB_5 g2
   have k5_b1'1 := u8.blk k5_b1 (Ne.symm (Ne.symm d2_b1))
   exact ze 2 (hJ3 _ _ _ ⟨k + 1, rfl, rfl, hB'1, k5_b1'1, k8, by omega⟩ (by omega))
 refine xlv 7 k3_b2.rp ?_
 refine xsvg 0 k3_b1 0 (halvesK k) (by simp [halvesK, Value.oneCell']) (by simp [halvesK]) fun W9 u9 k9 => ?_
 change Blk _ _ (halvesK k) _ at k9
 have g1 := n1.ge (Below.refl w.heap.size _)
 have hB'2 := u9.below hB_3 g1
 refine xec 3 k9 (.agg (halvesK k).toArray) ?_
 rw [show k = 16 by omega, halvesK_all]
 exact ⟨rfl, hB'2⟩
/-- a byte comes to a register -/
def crcStep (r : Nat) (x : UInt8) : Nat := ((((r ^^^ x.toNat) / 16) ^^^ half ((r ^^^ x.toNat) % 16)) / 16) ^^^ half ((((r ^^^ x.toNat) / 16) ^^^ half ((r ^^^ x.toNat) % 16)) % 16)
def crcRun (r : Nat) (l : List UInt8) : Nat := l.foldl crcStep r
theorem u8_lt (x : UInt8) : x.toNat < 4294967296 := Nat.lt_trans x.toNat_lt (by decide)
theorem half16_lt (n : Nat) : half (n % 16) < 4294967296 := half_lt (by omega)
theorem crcStep_lt {r : Nat} (h : r < 4294967296) (x : UInt8) : crcStep r x < 4294967296 := by
  have h1 : r ^^^ x.toNat < 4294967296 := Nat.xor_lt_two_pow (n := 32) h (u8_lt x)
  have h2 : ((r ^^^ x.toNat) / 16) ^^^ half ((r ^^^ x.toNat) % 16) < 4294967296 := Nat.xor_lt_two_pow (n := 32) (by omega) (half16_lt _)
  exact Nat.xor_lt_two_pow (n := 32) (by omega) (half16_lt _)
theorem crcRun_lt {r : Nat} (h : r < 4294967296) (l : List UInt8) : crcRun r l < 4294967296 := by
  unfold crcRun
  induction l generalizing r with
  | nil => exact h
  | cons x l ih => exact ih (crcStep_lt h x)
theorem crcRun_take {r : Nat} {l : List UInt8} {k : Nat} (h : k < l.length) : crcRun r (l.take (k + 1)) = crcStep (crcRun r (l.take k)) (l.getD k 0) := by
  unfold crcRun
  rw [List.take_succ_eq_append_getElem h, List.foldl_append]
  simp [List.getD, List.getElem?_eq_getElem h]
theorem Bys.elem {w : World} {b : Option Addr} {c : Nat} {l : List UInt8} (h : Bys w (.slice b l.length c) l) {k : Nat} (hk : k < l.length) : b.isSome = true ∧ w.cell? (elemAddr b (k * 1)) = some (.int .u8 ((l.getD k 0).toNat : Int)) := by
  refine Sl.elem h ?_
  rw [Nat.mul_one, List.getElem?_map, List.getElem?_eq_getElem hk]
  simp [List.getD, List.getElem?_eq_getElem hk, bv]
theorem u32_byte (x : UInt8) : IntKind.u32.wrap (x.toNat : Int) = (x.toNat : Int) := u32_wrap (u8_lt x)
set_option maxRecDepth 100000 in
set_option maxHeartbeats 1000000 in
theorem crc_run (r : Nat) (hr0 : r < 4294967296) (a : Option Addr) (c : Nat) (l : List UInt8) (w : World) (h : Bys w (.slice a l.length c) l) (hl : l.length ≤ 100000000) :
    Calls Tryz.prog 162 #[.int .u32 (↑r : Int), .slice a l.length c] w (Ret (.int .u32 (crcRun r l : Int)) w) := by
 refine zin 35 Tryz.func162 ?_
 refine xr 7 (args := #[]) (crc_halves _) fun W1 hb1 => ?_
 refine xa 0 [.int .u32 0, .int .u32 0, .int .u32 0, .int .u32 0, .int .u32 0, .int .u32 0, .int .u32 0, .int .u32 0, .int .u32 0, .int .u32 0, .int .u32 0, .int .u32 0, .int .u32 0, .int .u32 0, .int .u32 0, .int .u32 0] 270 fun b2 W2 n2 => ?_
 refine xsvg 0 n2.blk 0 halvesC (by simp [halvesC, Value.oneCell']) (by simp [halvesC]) fun W3 u3 k3 => ?_
 change Blk _ _ halvesC _ at k3
 have g2 := n2.ge hb1
 have hB := u3.below (Bl.next hb1 n2.below) g2
 refine zl 11 35 (fun zm zkv V => ∃ (k : Nat), zkv = [(0, .int .u32 (↑(crcRun r (l.take k)) : Int)), (4, .int .u32 0), (5, .pointer (some ⟨b2, 0, none⟩)), (9, .slice a l.length c), (10, .int .i64 (↑l.length : Int)), (11, .int .i64 (↑k : Int))] ∧ zm = l.length - ((↑k : Int)).toNat ∧ Below w.heap.size w V ∧ Blk V b2 halvesC 270 ∧ k ≤ l.length) ⟨0, rfl, rfl, hB, k3, Nat.zero_le _⟩ ?_
 rintro _ _ W4 ⟨k, rfl, rfl, hB_4, k4_b2, hk⟩ J4 hJ4 r4
 have h0 : crcRun r (l.take k) < 4294967296 := crcRun_lt hr0 _
 have h1 : (crcRun r (l.take k)) ^^^ (l.getD k 0).toNat < 4294967296 := Nat.xor_lt_two_pow (n := 32) h0 (u8_lt _)
 have h2 : (((crcRun r (l.take k)) ^^^ (l.getD k 0).toNat) / 16) ^^^ half (((crcRun r (l.take k)) ^^^ (l.getD k 0).toNat) % 16) < 4294967296 := Nat.xor_lt_two_pow (n := 32) (by omega) (half16_lt _)
 refine xid 6 ((↑k : Int) < (↑l.length : Int)) (fun hc5 => ?_) (fun hc5 => ?_)
 · refine xx 6 _ l.length k 1 (Bys.elem h (k := k) (by omega)).1 ?_
   refine xl 0 ((Bys.elem (h.below hB_4) (k := k) (by omega)).2) ?_
   refine xq 7 (congrArg (Value.int .u32) (show (IntKind.u32.wrap (↑(l.getD k 0).toNat : Int) : Int) = (↑(l.getD k 0).toNat : Int) from u32_byte _)) ?_
   refine xq 0 (congrArg (Value.int .u32) (show (IntKind.u32.wrap (↑(BitVec.ofInt 32 (↑(crcRun r (l.take k)) : Int) ^^^ BitVec.ofInt 32 (↑(l.getD k 0).toNat : Int)).toNat : Int) : Int) = (↑((crcRun r (l.take k)) ^^^ (l.getD k 0).toNat) : Int) from u32_xor h0 (u8_lt _))) ?_
   refine xq 6 (congrArg (Value.int .u32) (show (Int.fdiv (↑((crcRun r (l.take k)) ^^^ (l.getD k 0).toNat) : Int) (2 ^ 4) : Int) = (↑(((crcRun r (l.take k)) ^^^ (l.getD k 0).toNat) / 16) : Int) from fdiv_cast _ 4)) ?_
   refine xq 1 (congrArg (Value.int .u32) (show (IntKind.u32.wrap (↑(BitVec.ofInt 32 (↑((crcRun r (l.take k)) ^^^ (l.getD k 0).toNat) : Int) &&& BitVec.ofInt 32 (15 : Int)).toNat : Int) : Int) = (↑(((crcRun r (l.take k)) ^^^ (l.getD k 0).toNat) % 16) : Int) from (u32_and (b := 15) h1 (by decide)).trans (by rw [and_15]))) ?_
   refine xia 0 (fun _ _ _ _ zo zx zy V => run_indexP (k := (((crcRun r (l.take k)) ^^^ (l.getD k 0).toNat) % 16)) (b := b2) (off := 0) (i := (↑(((crcRun r (l.take k)) ^^^ (l.getD k 0).toNat) % 16) : Int)) (ki := .u32) 1 (((crcRun r (l.take k)) ^^^ (l.getD k 0).toNat) % 16) zo zx zy rfl (by omega) (by omega) Tryz.underlying270 (by kernel_rfl) V) ?_
   refine xl 0 (k4_b2.cell (i := (((crcRun r (l.take k)) ^^^ (l.getD k 0).toNat) % 16)) (halvesC_get (by omega))) ?_
   refine xq 0 (congrArg (Value.int .u32) (show (IntKind.u32.wrap (↑(BitVec.ofInt 32 (↑(((crcRun r (l.take k)) ^^^ (l.getD k 0).toNat) / 16) : Int) ^^^ BitVec.ofInt 32 (↑(half (((crcRun r (l.take k)) ^^^ (l.getD k 0).toNat) % 16)) : Int)).toNat : Int) : Int) = (↑((((crcRun r (l.take k)) ^^^ (l.getD k 0).toNat) / 16) ^^^ half (((crcRun r (l.take k)) ^^^ (l.getD k 0).toNat) % 16)) : Int) from u32_xor (Nat.lt_of_le_of_lt (Nat.div_le_self _ _) h1) (half16_lt _))) ?_
   refine xq 5 (congrArg (Value.int .u32) (show (Int.fdiv (↑((((crcRun r (l.take k)) ^^^ (l.getD k 0).toNat) / 16) ^^^ half (((crcRun r (l.take k)) ^^^ (l.getD k 0).toNat) % 16)) : Int) (2 ^ 4) : Int) = (↑(((((crcRun r (l.take k)) ^^^ (l.getD k 0).toNat) / 16) ^^^ half (((crcRun r (l.take k)) ^^^ (l.getD k 0).toNat) % 16)) / 16) : Int) from fdiv_cast _ 4)) ?_
   refine xq 1 (congrArg (Value.int .u32) (show (IntKind.u32.wrap (↑(BitVec.ofInt 32 (↑((((crcRun r (l.take k)) ^^^ (l.getD k 0).toNat) / 16) ^^^ half (((crcRun r (l.take k)) ^^^ (l.getD k 0).toNat) % 16)) : Int) &&& BitVec.ofInt 32 (15 : Int)).toNat : Int) : Int) = (↑(((((crcRun r (l.take k)) ^^^ (l.getD k 0).toNat) / 16) ^^^ half (((crcRun r (l.take k)) ^^^ (l.getD k 0).toNat) % 16)) % 16) : Int) from (u32_and (b := 15) h2 (by decide)).trans (by rw [and_15]))) ?_
   refine xia 0 (fun _ _ _ _ zo zx zy V => run_indexP (k := (((((crcRun r (l.take k)) ^^^ (l.getD k 0).toNat) / 16) ^^^ half (((crcRun r (l.take k)) ^^^ (l.getD k 0).toNat) % 16)) % 16)) (b := b2) (off := 0) (i := (↑(((((crcRun r (l.take k)) ^^^ (l.getD k 0).toNat) / 16) ^^^ half (((crcRun r (l.take k)) ^^^ (l.getD k 0).toNat) % 16)) % 16) : Int)) (ki := .u32) 1 (((((crcRun r (l.take k)) ^^^ (l.getD k 0).toNat) / 16) ^^^ half (((crcRun r (l.take k)) ^^^ (l.getD k 0).toNat) % 16)) % 16) zo zx zy rfl (by omega) (by omega) Tryz.underlying270 (by kernel_rfl) V) ?_
   refine xl 0 (k4_b2.cell (i := (((((crcRun r (l.take k)) ^^^ (l.getD k 0).toNat) / 16) ^^^ half (((crcRun r (l.take k)) ^^^ (l.getD k 0).toNat) % 16)) % 16)) (halvesC_get (by omega))) ?_
   refine xq 0 (congrArg (Value.int .u32) (show (IntKind.u32.wrap (↑(BitVec.ofInt 32 (↑(((((crcRun r (l.take k)) ^^^ (l.getD k 0).toNat) / 16) ^^^ half (((crcRun r (l.take k)) ^^^ (l.getD k 0).toNat) % 16)) / 16) : Int) ^^^ BitVec.ofInt 32 (↑(half (((((crcRun r (l.take k)) ^^^ (l.getD k 0).toNat) / 16) ^^^ half (((crcRun r (l.take k)) ^^^ (l.getD k 0).toNat) % 16)) % 16)) : Int)).toNat : Int) : Int) = (↑((((((crcRun r (l.take k)) ^^^ (l.getD k 0).toNat) / 16) ^^^ half (((crcRun r (l.take k)) ^^^ (l.getD k 0).toNat) % 16)) / 16) ^^^ half (((((crcRun r (l.take k)) ^^^ (l.getD k 0).toNat) / 16) ^^^ half (((crcRun r (l.take k)) ^^^ (l.getD k 0).toNat) % 16)) % 16)) : Int) from u32_xor (Nat.lt_of_le_of_lt (Nat.div_le_self _ _) h2) (half16_lt _))) ?_
   refine xw 5 ((↑k : Int) + 1) ?_
   refine xv1 2 0 (show (.int .u32 (↑((((((crcRun r (l.take k)) ^^^ (l.getD k 0).toNat) / 16) ^^^ half (((crcRun r (l.take k)) ^^^ (l.getD k 0).toNat) % 16)) / 16) ^^^ half (((((crcRun r (l.take k)) ^^^ (l.getD k 0).toNat) / 16) ^^^ half (((crcRun r (l.take k)) ^^^ (l.getD k 0).toNat) % 16)) % 16)) : Int) : Value) = .int .u32 (↑(crcRun r (l.take (k + 1))) : Int) from by rw [crcRun_take (by omega)]; rfl) ?_
   exact ze 0 (hJ4 _ _ _ ⟨k + 1, rfl, rfl, hB_4, k4_b2, by omega⟩ (by omega))
 refine xe 12 (.int .u32 (↑(crcRun r (l.take k)) : Int)) ?_
 rw [List.take_of_length_le (by omega)]
 exact ⟨rfl, hB_4⟩
end Go.Proofs.YtinegkldgjhnpaaGreatDoor
namespace Go.Proofs.YtinegkldgjhnpaaGreatDoor
open Go.RowKit Go.Extern.Stop Go.Stop Go.Extern
set_option linter.unusedVariables false
attribute [local irreducible] wpList wpAnyH Code.wp Oper.wp Go

set_option maxRecDepth 100000 in
set_option maxHeartbeats 1000000 in
theorem Put_2 (a : Option Addr) (c k : Nat) (l : List UInt8) (n : Int) (w : World) (h : Bys w (.slice a l.length c) l) (hl : l.length ≤ 100000) (hk : k + 2 ≤ l.length) (h0 : 0 ≤ n) (hb : n < 65536) :
    Calls Tryz.prog 95 #[.slice a l.length c, .int .i64 (↑k : Int), .int .i64 2, .int .i64 n] w (RetS (fun w' r => ∃ v, r = .tuple #[v, .int .i64 0] ∧ OwnB w.heap.size w' v (putB l k (leB n 2))) w) := by
 refine zin 33 Tryz.func95 ?_
 refine xr 12 (args := #[.slice a l.length c, .int .i64 (↑k : Int), .int .i64 2]) (there_2 a l.length c k hk (by omega) _) fun W1 hb1 => ?_
 refine xr 17 (args := #[.int .i64 n, .int .i64 2]) (fits_2 n h0 hb _) fun W2 hb2 => ?_
 have hB := Bl.next hb1 hb2
 refine xc 9 (args := #[.slice a l.length c]) (clone_bytes a c l _ (h.below hB) (by omega)) ?_
 rintro _ W3 ⟨_, rfl, hb3, ho⟩
 have hs3 := (Bl.next hb1 hb2).size
 have ho'1 := own_mono ho hs3
 obtain ⟨g, cap, rfl, hcap⟩ := OwnB.some ho'1 (by omega)
 refine xd 4 (.t w.heap.size [5]) ?_
 refine xsL (.e [0, 1] 2) (fun _ _ _ _ zo zx zy V => run_sliceL (k := k) (b := g) (off := 0) (n := l.length) (c := cap) (i := (↑k : Int)) (ki := .i64) 1 zo zx zy rfl (by omega) (by omega) Tryz.underlying22 (by kernel_rfl) V) ?_
 refine yc (.o [3, 4] 5) (args := #[.int .i64 n, .int .i64 2]) (.t w.heap.size [5]) (bytes_2 n h0 _) ?_
 rintro _ W4 ⟨_, rfl, hb4, h2⟩
 have hs4 := (Bl.next (Bl.next hB hb3) (below_drew W3)).size
 refine ⟨(SF.of_below _ hb4), ?_⟩
 have h2'1 := own_mono h2 hs4
 obtain ⟨p2, c2, rfl⟩ := (own_sl h2'1).slice
 have ho'2 := own_below (own_below ho'1 (below_drew W3)) hb4
 have hB'1 := Bl.next (Bl.next (Bl.next hB hb3) (below_drew W3)) hb4
 refine ybi (.o [] 6) (t2 := 22) (.t w.heap.size [5]) fun _ _ _ _ zJ zQ zo zx zy zK => op_copy (dLen := (l.length - k)) (dCap := (cap - k)) (off := (0 + k * 1)) ((leB n 2).length) ((leB n 2).map bv) ((putB l k (leB n 2)).map bv) zo Tryz.underlying22 (by kernel_rfl) zx zy (own_sl h2'1) ho'2 (by simp) (by simp [leB]; omega) (by simp [leB]; omega) (bv_one _) hB'1.size (by simp [putB, List.map_take, List.map_drop]) fun W5 o5 hg5 hb5 => ?_
 refine zK _ _ (sft_grown hb5 hg5 ho'2 (by decide)) ?_
 have hB'2 := hB'1.trans hb5
 refine xe 10 (.tuple #[.slice (some ⟨g, 0, none⟩) l.length cap, .int .i64 0]) ?_
 refine ⟨_, rfl, hB'2, _, rfl, ?_⟩
 unfold OwnB
 rw [show (putB l k (leB n 2)).length = l.length by simp [putB, leB]; omega]
 exact o5
set_option maxRecDepth 100000 in
set_option maxHeartbeats 1000000 in
theorem Put_4 (a : Option Addr) (c k : Nat) (l : List UInt8) (n : Int) (w : World) (h : Bys w (.slice a l.length c) l) (hl : l.length ≤ 100000) (hk : k + 4 ≤ l.length) (h0 : 0 ≤ n) (hb : n < 4294967296) :
    Calls Tryz.prog 95 #[.slice a l.length c, .int .i64 (↑k : Int), .int .i64 4, .int .i64 n] w (RetS (fun w' r => ∃ v, r = .tuple #[v, .int .i64 0] ∧ OwnB w.heap.size w' v (putB l k (leB n 4))) w) := by
 refine zin 33 Tryz.func95 ?_
 refine xr 12 (args := #[.slice a l.length c, .int .i64 (↑k : Int), .int .i64 4]) (there_4 a l.length c k hk (by omega) _) fun W1 hb1 => ?_
 refine xr 17 (args := #[.int .i64 n, .int .i64 4]) (fits_4 n h0 hb _) fun W2 hb2 => ?_
 have hB := Bl.next hb1 hb2
 refine xc 9 (args := #[.slice a l.length c]) (clone_bytes a c l _ (h.below hB) (by omega)) ?_
 rintro _ W3 ⟨_, rfl, hb3, ho⟩
 have hs3 := (Bl.next hb1 hb2).size
 have ho'1 := own_mono ho hs3
 obtain ⟨g, cap, rfl, hcap⟩ := OwnB.some ho'1 (by omega)
 refine xd 4 (.t w.heap.size [5]) ?_
 refine xsL (.e [0, 1] 2) (fun _ _ _ _ zo zx zy V => run_sliceL (k := k) (b := g) (off := 0) (n := l.length) (c := cap) (i := (↑k : Int)) (ki := .i64) 1 zo zx zy rfl (by omega) (by omega) Tryz.underlying22 (by kernel_rfl) V) ?_
 refine yc (.o [3, 4] 5) (args := #[.int .i64 n, .int .i64 4]) (.t w.heap.size [5]) (bytes_4 n h0 _) ?_
 rintro _ W4 ⟨_, rfl, hb4, h2⟩
 have hs4 := (Bl.next (Bl.next hB hb3) (below_drew W3)).size
 refine ⟨(SF.of_below _ hb4), ?_⟩
 have h2'1 := own_mono h2 hs4
 obtain ⟨p2, c2, rfl⟩ := (own_sl h2'1).slice
 have ho'2 := own_below (own_below ho'1 (below_drew W3)) hb4
 have hB'1 := Bl.next (Bl.next (Bl.next hB hb3) (below_drew W3)) hb4
 refine ybi (.o [] 6) (t2 := 22) (.t w.heap.size [5]) fun _ _ _ _ zJ zQ zo zx zy zK => op_copy (dLen := (l.length - k)) (dCap := (cap - k)) (off := (0 + k * 1)) ((leB n 4).length) ((leB n 4).map bv) ((putB l k (leB n 4)).map bv) zo Tryz.underlying22 (by kernel_rfl) zx zy (own_sl h2'1) ho'2 (by simp) (by simp [leB]; omega) (by simp [leB]; omega) (bv_one _) hB'1.size (by simp [putB, List.map_take, List.map_drop]) fun W5 o5 hg5 hb5 => ?_
 refine zK _ _ (sft_grown hb5 hg5 ho'2 (by decide)) ?_
 have hB'2 := hB'1.trans hb5
 refine xe 10 (.tuple #[.slice (some ⟨g, 0, none⟩) l.length cap, .int .i64 0]) ?_
 refine ⟨_, rfl, hB'2, _, rfl, ?_⟩
 unfold OwnB
 rw [show (putB l k (leB n 4)).length = l.length by simp [putB, leB]; omega]
 exact o5
end Go.Proofs.YtinegkldgjhnpaaGreatDoor
namespace Go.Proofs.YtinegkldgjhnpaaGreatDoor
open Go.RowKit Go.Extern.Stop Go.Stop Go.Extern
set_option linter.unusedVariables false
attribute [local irreducible] wpList wpAnyH Code.wp Oper.wp Go

def crcSum (l : List UInt8) : Nat := crcRun 4294967295 l ^^^ 4294967295
theorem crcSum_lt (l : List UInt8) : crcSum l < 4294967296 := Nat.xor_lt_two_pow (n := 32) (crcRun_lt (by decide) l) (by decide)
theorem i64_nat {n : Nat} (h : n < 9223372036854775808) : IntKind.i64.wrap (n : Int) = (n : Int) := IntWalk.i64_in _ (by omega)
theorem i64_xor {a b : Nat} (ha : a < 4294967296) (hb : b < 4294967296) : IntKind.i64.wrap (↑(BitVec.ofInt 64 (a : Int) ^^^ BitVec.ofInt 64 (b : Int)).toNat : Int) = ((a ^^^ b : Nat) : Int) := by
  rw [BitVec.ofInt_natCast, BitVec.ofInt_natCast, BitVec.toNat_xor, BitVec.toNat_ofNat, BitVec.toNat_ofNat, Nat.mod_eq_of_lt (by omega), Nat.mod_eq_of_lt (by omega)]
  have := Nat.xor_lt_two_pow (n := 32) ha hb
  exact i64_nat (by omega)
set_option maxRecDepth 100000 in
set_option maxHeartbeats 1000000 in
theorem crc_Sum1 (g : Nat) (a : Option Addr) (c : Nat) (l : List UInt8) (w : World) (hk : Blk w g [.slice a l.length c] 22) (h : Bys w (.slice a l.length c) l) (hl : l.length ≤ 100000000) :
    Calls Tryz.prog 132 #[.slice (some ⟨g, 0, none⟩) 1 1] w (Ret (.int .i64 (crcSum l : Int)) w) := by
 refine zin 19 Tryz.func132 ?_
 refine xu 19 3 ?_
 refine xb 14 0 hk ?_
 refine xr 6 (args := #[.int .u32 4294967295, .slice a l.length c]) (crc_run 4294967295 (by decide) a c l _ (h.below (Below.refl w.heap.size _)) hl) fun W1 hb1 => ?_
 refine xq 24 (congrArg (Value.int .u32) (show (IntKind.u32.wrap (↑(BitVec.ofInt 32 (↑(crcRun 4294967295 l) : Int) ^^^ BitVec.ofInt 32 (4294967295 : Int)).toNat : Int) : Int) = (↑(crcSum l) : Int) from u32_xor (b := 4294967295) (crcRun_lt (by decide) l) (by decide))) ?_
 refine xq 0 (congrArg (Value.int .i64) (show (IntKind.i64.wrap (↑(crcSum l) : Int) : Int) = (↑(crcSum l) : Int) from i64_nat (by have := crcSum_lt l; omega))) ?_
 exact xe 4 (.int .i64 (↑(crcSum l) : Int)) ⟨rfl, hb1⟩
theorem crc_Sum1N (g : Nat) (a : Option Addr) (n c : Nat) (l : List UInt8) (w : World) (hn : l.length = n) (hk : Blk w g [.slice a n c] 22) (h : Bys w (.slice a n c) l) (hl : n ≤ 100000000) :
    Calls Tryz.prog 132 #[.slice (some ⟨g, 0, none⟩) 1 1] w (Ret (.int .i64 (crcSum l : Int)) w) := by
  subst hn; exact crc_Sum1 g a c l w hk h hl
/-- the salt of a kind -/
def saltN (kind : Int) : Nat := if kind = 1 then 160774 else if kind = 2 then 121107 else if kind = 3 then 240779 else if kind = 4 then 160478 else 0
theorem saltN_lt (kind : Int) : saltN kind < 4294967296 := by unfold saltN; (repeat' split) <;> omega
set_option maxRecDepth 100000 in
set_option maxHeartbeats 1000000 in
theorem seal_Salt (kind : Int) (w : World) :
    Calls Tryz.prog 133 #[.int .i64 kind] w (Ret (.int .i64 (saltN kind : Int)) w) := by
 refine zin 12 Tryz.func133 ?_
 refine xie 18 kind (1 : Int) (fun hc1 => ?_) (fun hc1 => ?_)
 · exact xe 8 (.int .i64 160774) ⟨by simp_all [saltN], (Below.refl w.heap.size _)⟩
 refine xie 6 kind (2 : Int) (fun hc2 => ?_) (fun hc2 => ?_)
 · exact xe 8 (.int .i64 121107) ⟨by simp_all [saltN], (Below.refl w.heap.size _)⟩
 refine xie 6 kind (3 : Int) (fun hc3 => ?_) (fun hc3 => ?_)
 · exact xe 8 (.int .i64 240779) ⟨by simp_all [saltN], (Below.refl w.heap.size _)⟩
 refine xie 6 kind (4 : Int) (fun hc4 => ?_) (fun hc4 => ?_)
 · exact xe 8 (.int .i64 160478) ⟨by simp_all [saltN], (Below.refl w.heap.size _)⟩
 exact xe 9 (.int .i64 0) ⟨by simp_all [saltN], (Below.refl w.heap.size _)⟩
set_option maxRecDepth 100000 in
set_option maxHeartbeats 1000000 in
theorem seal_known (kind no : Int) (h1 : 1 ≤ kind) (h2 : kind ≤ 4) (h3 : 0 ≤ no) (h4 : no < 14400) (w : World) :
    Calls Tryz.prog 94 #[.int .i64 kind, .int .i64 no] w (Ret (.bool true) w) := by
 refine zin 19 Tryz.func94 ?_
 refine xgk 10 [6, 7] (show (decide (kind ≥ (1 : Int)) : Bool) = true from decide_eq_true h1) ?_
 refine xgk 4 [9, 10, 11] (show (decide (kind ≤ (4 : Int)) : Bool) = true from decide_eq_true h2) ?_
 refine xgk 4 [13, 14, 15] (show (decide (no ≥ (0 : Int)) : Bool) = true from decide_eq_true h3) ?_
 exact xe 7 (.bool (decide (no < (14400 : Int)))) ⟨by rw [decide_eq_true h4], (Below.refl w.heap.size _)⟩
theorem Bys.take {w : World} {a : Option Addr} {n c : Nat} {l : List UInt8} (h : Bys w (.slice a n c) l) (hn : l.length = n) (m : Nat) (hm : m ≤ n) : Bys w (.slice a m c) (l.take m) := by
  have hlen : (l.take m).length = m := by simp; omega
  rcases h with ⟨a', c', h1, h2, h3⟩ | ⟨b, off, cap, h1, h2, h3, h4⟩
  · obtain rfl : m = 0 := by omega
    simp only [Value.slice.injEq] at h1
    exact .inl ⟨a, c, rfl, by simp, by simp⟩
  · simp only [Value.slice.injEq] at h1
    obtain ⟨rfl, _, rfl⟩ := h1
    refine .inr ⟨b, off, c, by rw [hlen], by omega, h3, fun j x hj => h4 j x ?_⟩
    have hjm : j < m := by have := (List.getElem?_eq_some_iff.1 hj).1; simp at this; omega
    rwa [List.map_take, List.getElem?_take_of_lt hjm] at hj
/-- the sum that a block must have -/
def sumB (l : List UInt8) (kind : Int) : Nat := crcSum (l.take 252) ^^^ saltN kind
theorem sumB_lt (l : List UInt8) (kind : Int) : sumB l kind < 4294967296 := Nat.xor_lt_two_pow (n := 32) (crcSum_lt _) (saltN_lt _)
set_option maxRecDepth 100000 in
set_option maxHeartbeats 1000000 in
theorem seal_sum (kind : Int) (a : Option Addr) (c : Nat) (l : List UInt8) (w : World) (hn : l.length = 256) (hc : 256 ≤ c) (h : Bys w (.slice a 256 c) l) :
    Calls Tryz.prog 96 #[.slice a 256 c, .int .i64 kind] w (Ret (.int .i64 (sumB l kind : Int)) w) := by
 refine zin 12 Tryz.func96 ?_
 refine xsH 8 (fun _ _ _ _ zo zx zy V => run_sliceH (k := 252) (b := a) (n := 256) (c := c) (i := 252) (ki := .i64) zo zx zy rfl (by omega) Tryz.underlying22 (by kernel_rfl) V) ?_
 refine xbs 0 1 [.slice a 252 c] 22 fun b1 W1 n1 => ?_
 refine xr 0 (args := #[.slice (some ⟨b1, 0, none⟩) 1 1]) (crc_Sum1N b1 a 252 c (l.take 252) _ (by simp; omega) n1.blk ((h.take hn 252 (by decide)).below n1.below) (by decide)) fun W2 hb2 => ?_
 refine xr 1 (args := #[.int .i64 kind]) (seal_Salt kind _) fun W3 hb3 => ?_
 refine xq 0 (congrArg (Value.int .i64) (show (IntKind.i64.wrap (↑(BitVec.ofInt 64 (↑(crcSum (l.take 252)) : Int) ^^^ BitVec.ofInt 64 (↑(saltN kind) : Int)).toNat : Int) : Int) = (↑(sumB l kind) : Int) from i64_xor (crcSum_lt _) (saltN_lt _))) ?_
 have hB'1 := Bl.next (Bl.next n1.below hb2) hb3
 exact xe 4 (.int .i64 (↑(sumB l kind) : Int)) ⟨rfl, hB'1⟩
theorem putB_len {l : List UInt8} {k : Nat} {x : List UInt8} (h : k + x.length ≤ l.length) : (putB l k x).length = l.length := by simp [putB]; omega
theorem zerosB (n : Nat) : zeros (Value.int .u8 0).cells.toList n = (List.replicate n (0 : UInt8)).map bv := by
  rw [show (Value.int .u8 0).cells.toList = [Value.int .u8 0] from rfl, zeros, List.map_replicate]
  induction n with
  | zero => rfl
  | succ n ih => rw [List.replicate_succ, List.flatten_cons, ih, List.replicate_succ]; rfl
theorem bys_of {w : World} {v : Value} {n : Nat} {l : List UInt8} (h : Sl w v n (l.map bv)) (hn : l.length = n) : Bys w v l := by subst hn; exact h
theorem own_cap {w : World} {base n c size : Nat} {e : TypeId} {p : Option Addr} {xs : List Value} (h : w.ownsRow base e size (.slice p n c) n xs) (hn : 0 < n) : n ≤ c := by
  rcases h.2 with ⟨_, h0⟩ | ⟨g, cap, cur, hv, _, _, hc, _⟩
  · omega
  · simp only [Value.slice.injEq] at hv; omega
theorem putN {m : Nat} {l : List UInt8} {k : Nat} {x : List UInt8} {w : World} {e : Ending} {w' : World} (hm : l.length = m) (hk : k + x.length ≤ m) (h : RetS (fun w' r => ∃ v, r = .tuple #[v, .int .i64 0] ∧ OwnB w.heap.size w' v (putB l k x)) w e w') :
    RetS (fun w' r => ∃ p c, r = .tuple #[.slice p m c, .int .i64 0] ∧ w'.ownsRow w.heap.size 5 1 (.slice p m c) m ((putB l k x).map bv)) w e w' := by
  obtain ⟨r, h1, h2, v, h3, h4⟩ := h
  unfold OwnB at h4
  rw [putB_len (by omega), hm] at h4
  obtain ⟨p, c, rfl⟩ := (own_sl h4).slice
  exact ⟨r, h1, h2, p, c, h3, h4⟩
theorem Put_4N (a : Option Addr) (m c k : Nat) (ki : Int) (l : List UInt8) (n : Int) (w : World) (hm : l.length = m) (hki : ki = (k : Int)) (h : Bys w (.slice a m c) l) (hl : m ≤ 100000) (hk : k + 4 ≤ m) (h0 : 0 ≤ n) (hb : n < 4294967296) :
    Calls Tryz.prog 95 #[.slice a m c, .int .i64 ki, .int .i64 4, .int .i64 n] w (RetS (fun w' r => ∃ p c, r = .tuple #[.slice p m c, .int .i64 0] ∧ w'.ownsRow w.heap.size 5 1 (.slice p m c) m ((putB l k (leB n 4)).map bv)) w) := by
  subst hki
  refine (show Calls _ _ #[.slice a m c, .int .i64 (k : Int), .int .i64 4, .int .i64 n] w _ from ?_)
  have := Put_4 a c k l n w (by rw [hm]; exact h) (by omega) (by omega) h0 hb
  rw [hm] at this
  exact this.mono fun e w' q => putN hm (by rw [leB_len]; omega) q
theorem Put_2N (a : Option Addr) (m c k : Nat) (ki : Int) (l : List UInt8) (n : Int) (w : World) (hm : l.length = m) (hki : ki = (k : Int)) (h : Bys w (.slice a m c) l) (hl : m ≤ 100000) (hk : k + 2 ≤ m) (h0 : 0 ≤ n) (hb : n < 65536) :
    Calls Tryz.prog 95 #[.slice a m c, .int .i64 ki, .int .i64 2, .int .i64 n] w (RetS (fun w' r => ∃ p c, r = .tuple #[.slice p m c, .int .i64 0] ∧ w'.ownsRow w.heap.size 5 1 (.slice p m c) m ((putB l k (leB n 2)).map bv)) w) := by
  subst hki
  have := Put_2 a c k l n w (by rw [hm]; exact h) (by omega) (by omega) h0 hb
  rw [hm] at this
  exact this.mono fun e w' q => putN hm (by rw [leB_len]; omega) q
def seal1 (li : List UInt8) : List UInt8 := putB (List.replicate 256 0) 8 li
def seal2 (no : Int) (li : List UInt8) : List UInt8 := putB (seal1 li) 0 (leB no 4)
def seal3 (kind no : Int) (li : List UInt8) : List UInt8 := putB (seal2 no li) 4 (leB kind 2)
/-- a sealed block -/
def sealB (kind no : Int) (li : List UInt8) : List UInt8 := putB (seal3 kind no li) 252 (leB (sumB (seal3 kind no li) kind) 4)
theorem seal1_len {li : List UInt8} (h : li.length ≤ 244) : (seal1 li).length = 256 := by rw [seal1, putB_len (by rw [List.length_replicate]; omega), List.length_replicate]
theorem seal2_len {no : Int} {li : List UInt8} (h : li.length ≤ 244) : (seal2 no li).length = 256 := by rw [seal2, putB_len (by rw [leB_len, seal1_len h]; omega), seal1_len h]
theorem seal3_len {kind no : Int} {li : List UInt8} (h : li.length ≤ 244) : (seal3 kind no li).length = 256 := by rw [seal3, putB_len (by rw [leB_len, seal2_len h]; omega), seal2_len h]
theorem sealB_len {kind no : Int} {li : List UInt8} (h : li.length ≤ 244) : (sealB kind no li).length = 256 := by rw [sealB, putB_len (by rw [leB_len, seal3_len h]; omega), seal3_len h]
set_option maxRecDepth 100000 in
set_option maxHeartbeats 1000000 in
theorem seal_Seal (kind no : Int) (h1 : 1 ≤ kind) (h2 : kind ≤ 4) (h3 : 0 ≤ no) (h4 : no < 14400) (a : Option Addr) (c : Nat) (li : List UInt8) (w : World) (hl : li.length ≤ 244) (h : Bys w (.slice a li.length c) li) :
    Calls Tryz.prog 53 #[.int .i64 kind, .int .i64 no, .slice a li.length c] w (RetS (fun w' r => ∃ p c, r = .tuple #[.slice p 256 c, .int .i64 0] ∧ w'.ownsRow w.heap.size 5 1 (.slice p 256 c) 256 ((sealB kind no li).map bv)) w) := by
 refine zin 54 Tryz.func53 ?_
 refine xr 11 (args := #[.int .i64 kind, .int .i64 no]) (seal_known kind no h1 h2 h3 h4 _) fun W1 hb1 => ?_
 refine xk 14 (show (decide ((↑li.length : Int) > (244 : Int)) : Bool) = false from decide_eq_false (by omega)) ?_
 refine xmk 4 fun _ _ _ _ zJ zQ zo zx zy zK => op_make 256 (.int .u8 0) 1 1 ((List.replicate 256 (0 : UInt8)).map bv) zo zx zy Tryz.underlying22 (by kernel_rfl) rfl (by omega) (by omega) (zerosB 256) fun b2 W2 n2 => ?_
 refine zK _ _ ?_
 have o2 := own_of_blk (size := 1) (n := 256) n2.blk (n2.ge hb1) (by simp) (by unfold maxLen; omega)
 have hB := Bl.next hb1 n2.below
 refine xbi 8 (t2 := 22) fun _ _ _ _ zJ zQ zo zx zy zK => op_copy (dLen := 248) (dCap := 248) (off := 8) li.length (li.map bv) ((seal1 li).map bv) zo Tryz.underlying22 (by kernel_rfl) zx zy (h.below hB) o2 (by simp) (by omega) (by omega) (bv_one li) hB.size (by simp [seal1, putB, List.map_drop]) fun W3 o3 hg3 hb3 => ?_
 refine zK _ _ ?_
 refine xbs 9 2 [.int .i64 0, .int .i64 4, .int .i64 no, .int .i64 4, .int .i64 2, .int .i64 kind] 183 fun b4 W4 n4 => ?_
 refine xu 5 4 ?_
 refine xlv 14 (n4.blk.rpp 0 3) ?_
 refine xa 0 [.int .i64 0, .int .i64 0, .int .i64 0] 183 fun b5 W5 n5 => ?_
 have d5_b4 := n5.ne n4.blk
 refine xsv 0 n5.blk [.int .i64 0, .int .i64 4, .int .i64 no] fun W6 u6 k6 => ?_
 have g5 := n5.ge (Bl.next (hB.trans hb3) n4.below)
 refine xb 5 0 k6 ?_
 refine xb 1 1 k6 ?_
 refine xb 1 2 k6 ?_
 have o3'1 := u6.own2 (own_below (own_below o3 n4.below) n5.below) n5.blk (by decide)
 refine xc 0 (args := #[.slice (some ⟨b2, 0, none⟩) 256 256, .int .i64 0, .int .i64 4, .int .i64 no]) (Put_4N (some ⟨b2, 0, none⟩) 256 256 0 0 (seal1 li) (no) _ (seal1_len hl) rfl (bys_of (own_sl o3'1) (seal1_len hl)) (by decide) (by decide) (h3) (by omega)) ?_
 rintro _ W7 ⟨_, rfl, hb7, p1, c1, rfl, o1⟩
 have hs7 := (u6.below (Bl.next (Bl.next (hB.trans hb3) n4.below) n5.below) g5).size
 have k4'1 := (u6.blk (n4.blk.below n5.below) (Ne.symm (Ne.symm d5_b4))).below hb7
 refine xlv 26 (k4'1.rpp 3 3) ?_
 refine xa 0 [.int .i64 0, .int .i64 0, .int .i64 0] 183 fun b8 W8 n8 => ?_
 have d8_b4 := n8.ne k4'1
 have k6'1 := k6.below hb7
 have d8_b5 := n8.ne k6'1
 refine xsv 0 n8.blk [.int .i64 4, .int .i64 2, .int .i64 kind] fun W9 u9 k9 => ?_
 have g8 := n8.ge (Bl.next (u6.below (Bl.next (Bl.next (hB.trans hb3) n4.below) n5.below) g5) hb7)
 refine xb 5 0 k9 ?_
 refine xb 1 1 k9 ?_
 refine xb 1 2 k9 ?_
 have o1'1 := u9.own2 (own_below (own_mono o1 hs7) n8.below) n8.blk (by decide)
 refine xc 0 (args := #[.slice p1 256 c1, .int .i64 4, .int .i64 2, .int .i64 kind]) (Put_2N p1 256 c1 4 4 (seal2 no li) (kind) _ (seal2_len hl) rfl (bys_of (own_sl o1'1) (seal2_len hl)) (by decide) (by decide) (by omega) (by omega)) ?_
 rintro _ W10 ⟨_, rfl, hb10, p2, c2, rfl, o2⟩
 have hs10 := (u9.below (Bl.next (Bl.next (u6.below (Bl.next (Bl.next (hB.trans hb3) n4.below) n5.below) g5) hb7) n8.below) g8).size
 have o2'1 := own_mono o2 hs10
 refine xr 29 (args := #[.slice p2 256 c2, .int .i64 kind]) (seal_sum kind p2 c2 (seal3 kind no li) _ (seal3_len hl) (own_cap o2'1 (by decide)) (bys_of (own_sl o2'1) (seal3_len hl))) fun W11 hb11 => ?_
 have o2'2 := own_below o2'1 hb11
 refine xc 0 (args := #[.slice p2 256 c2, .int .i64 252, .int .i64 4, .int .i64 (↑(sumB (seal3 kind no li) kind) : Int)]) (Put_4N p2 256 c2 252 252 (seal3 kind no li) ((sumB (seal3 kind no li) kind : Int)) _ (seal3_len hl) rfl (bys_of (own_sl o2'2) (seal3_len hl)) (by decide) (by decide) (Int.natCast_nonneg _) (by have := sumB_lt (seal3 kind no li) kind; omega)) ?_
 have o3'2 := own_below o3'1 hb7
 rintro _ W12 ⟨_, rfl, hb12, p3, c3, rfl, o3⟩
 have hs12 := (Bl.next (Bl.next (u9.below (Bl.next (Bl.next (u6.below (Bl.next (Bl.next (hB.trans hb3) n4.below) n5.below) g5) hb7) n8.below) g8) hb10) hb11).size
 have hB'1 := Bl.next (Bl.next (Bl.next (u9.below (Bl.next (Bl.next (u6.below (Bl.next (Bl.next (hB.trans hb3) n4.below) n5.below) g5) hb7) n8.below) g8) hb10) hb11) hb12
 have o3'3 := own_mono o3 hs12
 exact xe 14 (.tuple #[.slice p3 256 c3, .int .i64 0]) ⟨_, rfl, hB'1, _, _, rfl, o3'3⟩
end Go.Proofs.YtinegkldgjhnpaaGreatDoor
namespace Go.Proofs.YtinegkldgjhnpaaGreatDoor
open Go.RowKit
set_option linter.unusedVariables false
section
variable {P : Program} {Q : Exit → Act → World → Prop} {a : Act} {w : World} {K : Act → World → Prop}
/-- a cut of a slice at both bounds, its capacity cut too -/
theorem run_slice3 {o : Oper} {t e : TypeId} {x y y2 y3 : Operand} {b off n k h c : Nat} {i j j2 : Int} {ki kj kj2 : IntKind} (size off' d : Nat) (ho : o.op = .slice t x (some y) (some y2) (some y3)) (hx : a.eval x = .slice (some ⟨b, off, none⟩) n c) (hy : a.eval y = .int ki i) (hi : i = (k : Int)) (hy2 : a.eval y2 = .int kj j) (hj : j = (h : Int)) (hy3 : a.eval y3 = .int kj2 j2) (hj2 : j2 = (h : Int))
    (hk : k < h) (hc : h ≤ c) (hoff : off + k * size = off') (hd : h - k = d) (ht : P.underlying t = some (.slice e)) (hs : (P.info? e).map (·.size) = some size) (w : World) : (execOp a.eval o).run P w = .ok (.value (.slice (some ⟨b, off', none⟩) d d)) w := by
  cases hq : P.info? e with
  | none => simp [hq] at hs
  | some q =>
    have hj : q.size = size := by simpa [hq] using hs
    subst hi hj hj2 hoff hd
    have h1 : (0 : Int) ≤ (k : Int) := by omega
    have h2 : (0 : Int) ≤ (h : Int) := by omega
    have h3 : (k : Int) ≤ (h : Int) := by omega
    have h4 : (h : Int) ≤ (c : Int) := by omega
    have h5 : ¬ h = k := by omega
    simp_all [execOp, Instr.sliceAt, Instr.slice, Instr.sliceBounds, Instr.sliceBound, asIntOf, run_underlying ht, sizeOf, typeInfo, Addr.add_mid]
/-- where a slice begins that is cut at k -/
def cutA (b : Option Addr) (k c size : Nat) : Option Addr := if c = k then b else b.map (·.add (k * size))
theorem run_sliceLA {o : Oper} {t e : TypeId} {x y : Operand} {b : Option Addr} {n k c : Nat} {i : Int} {ki : IntKind} (size : Nat) (ho : o.op = .slice t x (some y) none none) (hx : a.eval x = .slice b n c) (hy : a.eval y = .int ki i) (hi : i = (k : Int)) (hk : k ≤ n)
    (ht : P.underlying t = some (.slice e)) (hs : (P.info? e).map (·.size) = some size) (w : World) : (execOp a.eval o).run P w = .ok (.value (.slice (cutA b k c size) (n - k) (c - k))) w := by
  cases hq : P.info? e with
  | none => simp [hq] at hs
  | some j =>
    have hj : j.size = size := by simpa [hq] using hs
    subst hi
    have h1 : (0 : Int) ≤ (k : Int) := by omega
    have h2 : (k : Int) ≤ (n : Int) := by omega
    by_cases h3 : c = k
    · simp [execOp, ho, hx, hy, Instr.sliceAt, Instr.slice, Instr.sliceBounds, Instr.sliceBound, asIntOf, run_underlying ht, sizeOf, typeInfo, hq, hk, h3, cutA]
    · simp [execOp, ho, hx, hy, Instr.sliceAt, Instr.slice, Instr.sliceBounds, Instr.sliceBound, asIntOf, run_underlying ht, sizeOf, typeInfo, hq, hj, hk, h3, cutA]
end
end Go.Proofs.YtinegkldgjhnpaaGreatDoor
namespace Go.Proofs.YtinegkldgjhnpaaGreatDoor
open Go.RowKit Go.Extern.Stop Go.Stop Go.Extern
set_option linter.unusedVariables false

theorem errno_eq {P : Program} (w : World) {ti tn : TypeId} {ms : Array (String × TypeId)} {i : TypeInfo} {k : IntKind} (a b : Int)
    (hi : P.underlying ti = some (.interface ms)) (hn : P.underlying tn = some (.int k)) (hinfo : P.info? tn = some i) (hcomp : i.comparable = true) :
    (binOp .eql ti (.iface tn (.int k a)) (.iface tn (.int k b))).run P w = .ok (.bool (a == b)) w := by
  have h : ∀ d : Nat, (Op.equalIn (d + 2) ti (.iface tn (.int k a)) (.iface tn (.int k b))).run P w = .ok (a == b) w := fun d => by simp [Op.equalIn, run_underlying hi, run_underlying hn, typeInfo, hinfo, hcomp]
  simp only [binOp]
  simp [Op.equal, Op.maxDepth, h 9998]
theorem Tryz.eqN (a b : Int) (w : World) : (binOp .eql 41 (.iface 53 (.int .i64 a)) (.iface 53 (.int .i64 b))).run Tryz.prog w = .ok (.bool (a == b)) w := by
  obtain ⟨i, h1, h2⟩ := Option.map_eq_some_iff.1 (show (Tryz.prog.info? 53).map (·.comparable) = some true by kernel_rfl)
  exact errno_eq w a b Tryz.underlying41 Tryz.underlying53 h1 h2
theorem Tryz.methComparable (h : Value) (w : World) : (Go.method 413 200 (.agg #[h]) "Comparable").run Tryz.prog w = .ok (211, .agg #[h]) w := by kernel_rfl
theorem Tryz.comparableN (w : World) : (callFunc 211 #[.agg #[.pointer (some ⟨4, 53, none⟩)]]).run Tryz.prog w = .ok (Next.value (.bool true)) w := by kernel_rfl

set_option maxRecDepth 100000 in
set_option maxHeartbeats 2000000 in
theorem errors_isN (c d : Int) (w : World) : Calls Tryz.prog 134 #[.iface 53 (.int .i64 c), .iface 53 (.int .i64 d), .bool true] w (Ret (.bool (c == d)) w) := by
  have y1 := Tryz.eqN
  have y2 := Tryz.noIsN
  have y3 := Tryz.noUnwrapN
  have y4 := Tryz.noUnwrapsN
  go_enter Tryz.func134, Tryz.ntmps134
  go_wp2_with fail
  go_loopw [0] (fun v wr => v = .iface 53 (.int .i64 c) ∧ wr = w) (fun _ _ => 0)
  case atStart => exact ⟨rfl, rfl⟩
  case round =>
    obtain ⟨rfl, rfl⟩ := hrel
    by_cases h : c = d
    · have h' : (c == d) = true := by simpa using h
      have HH := Lib.hid h; clear h
      go_wp2_with fail
      go_ret
      exact ⟨by rw [h']; rfl, Below.refl _ _⟩
    · have h' : (c == d) = false := by simpa using h
      have HH := Lib.hid h; clear h
      go_wp2_with fail
      go_ret
      exact ⟨by rw [h']; rfl, Below.refl _ _⟩
set_option maxRecDepth 100000 in
set_option maxHeartbeats 2000000 in
theorem errors_IsN (c d : Int) (w : World) : Calls Tryz.prog 98 #[.iface 53 (.int .i64 c), .iface 53 (.int .i64 d)] w (Ret (.bool (c == d)) w) := by
  have h66 := @run_callFunc_extern Tryz.prog 106 _ ReflectliteType.typeOf Tryz.func106 (by kernel_rfl) (by kernel_rfl) (by kernel_rfl) (by kernel_rfl)
  have y1 := Tryz.typeOfN
  have y2 := Tryz.methComparable
  have y3 := Tryz.comparableN
  go_enter Tryz.func98, Tryz.ntmps98
  go_wp2_with fail
  refine (errors_isN c d _).mono ?_
  rintro e w' ⟨rfl, hb⟩
  go_wp2_with fail
  go_ret
  exact ⟨rfl, hb⟩
end Go.Proofs.YtinegkldgjhnpaaGreatDoor
namespace Go.Proofs.YtinegkldgjhnpaaGreatDoor
open Go.RowKit Go.Extern.Stop Go.Stop Go.Extern
set_option linter.unusedVariables false

set_option maxHeartbeats 1000000 in
theorem block_told (no c : Int) (w : World) : Calls Tryz.prog 55 #[.int .i64 no, .iface 53 (.int .i64 c)] w (RetS (fun w' r => ErrV w' (if c = 0 then [] else [some no]) (if c = 0 then none else some c) r) w) := by
  by_cases h : c = 0
  · subst h
    go_enter Tryz.func55, Tryz.ntmps55
    go_wp2_with fail
    refine (errors_IsN 0 0 _).mono ?_
    rintro e w1 ⟨rfl, hb⟩
    rw [show ((0 : Int) == 0) = true from rfl]
    go_wp2_with fail
    go_ret
    exact ⟨_, rfl, hb, rfl⟩
  · have h' : (c == 0) = false := by simpa using h
    simp only [h, if_false]
    have HC := Lib.hid h; clear h
    go_enter Tryz.func55, Tryz.ntmps55
    go_wp2_with fail
    refine (errors_IsN c 0 _).mono ?_
    rintro e w1 ⟨rfl, hb⟩
    rw [h']
    go_wp2_with fail
    refine (fault_At no (some c) [] _ w1 rfl).mono ?_
    rintro e w2 ⟨r, rfl, hb2, h2⟩
    go_wp2_with fail
    go_ret
    exact ⟨_, rfl, Bl.next hb hb2, h2⟩

theorem Tryz.nilBytes (w : World) : (binOp .eql 22 (.slice none 0 0) (.slice none 0 0)).run Tryz.prog w = .ok (.bool true) w := by kernel_rfl
set_option maxRecDepth 100000 in
set_option maxHeartbeats 1000000 in
theorem image_Of_nil (w : World) : Calls Tryz.prog 10 #[.slice none 0 0] w fun e w' => e = .returned (.pointer (some ⟨w.heap.size, 0, none⟩)) ∧ w' = w.alloc (.cells #[.slice none 0 0] 100) := by
  have y := Tryz.nilBytes
  go_enter Tryz.func10, Tryz.ntmps10
  go_wp2
  go_ret
  exact ⟨rfl, rfl⟩
set_option maxRecDepth 100000 in
set_option maxHeartbeats 1000000 in
theorem image_Read_nil (b : Nat) (k : Int) (w : World) (h : Blk w b [.slice none 0 0] 100) (hk : 0 ≤ k) : Calls Tryz.prog 99 #[.pointer (some ⟨b, 0, none⟩), .int .i64 k] w (Ret (.tuple #[.slice none 0 0, .int .i64 3]) w) := by
  have c0 := h.cell (i := 0) rfl
  have hk' : ¬ (k < 0) := by omega
  have y := Tryz.nilBytes
  go_enter Tryz.func99, Tryz.ntmps99
  go_wp2
  exact bodyPost_ret (v := .tuple #[.slice none 0 0, .int .i64 3]) (by simp [results, Tryz.results99, go_sem]) rfl ⟨rfl, Below.refl _ _⟩

theorem range_below {w w' : World} {b o : Nat} {cs : List Value} (h : w.rangeAt b o cs) (hb : Below w.heap.size w w') : w'.rangeAt b o cs := fun j v hj => getC hb (h j v hj)
theorem Blk.range {w : World} {b : Nat} {cs : List Value} {t : TypeId} (h : Blk w b cs t) : w.rangeAt b 0 cs := fun j v hj => by rw [Nat.zero_add]; exact h.cell hj
theorem Blk.there {w : World} {b : Nat} {cs : List Value} {t : TypeId} (h : Blk w b cs t) {n : Nat} (hn : n = cs.length) : w.there b 0 n := fun j hj => by
  rw [Nat.zero_add]
  exact ⟨by rw [h.cell (List.getElem?_eq_getElem (by omega))]; rfl, h.frozen j⟩
theorem Tryz.sizeSuper : (Tryz.prog.info? 75).map (·.size) = some 11 := by kernel_rfl
end Go.Proofs.YtinegkldgjhnpaaGreatDoor
namespace Go.Proofs.YtinegkldgjhnpaaGreatDoor
open Go.RowKit Go.Extern.Stop Go.Stop Go.Extern
set_option linter.unusedVariables false
attribute [local irreducible] wpList wpAnyH Code.wp Oper.wp Go

theorem quo_nat (n k : Nat) (hn : n < 9223372036854775808) (hk : 0 < k) : IntKind.i64.wrap (Int.tdiv (n : Int) (k : Int)) = ((n / k : Nat) : Int) := by
  rw [Int.tdiv_eq_ediv_of_nonneg (Int.natCast_nonneg _), ← Int.natCast_ediv]
  exact i64_nat (Nat.lt_of_le_of_lt (Nat.div_le_self _ _) hn)
theorem min_cast (a b : Nat) : (if (b : Int) < (a : Int) then (b : Int) else (a : Int)) = ((min a b : Nat) : Int) := by split <;> omega
/-- an image at block b: its bytes are l, in a row of its own -/
def Img (B : Nat) (w : World) (b : Nat) (p : Option Addr) (c : Nat) (l : List UInt8) : Prop := Blk w b [.slice p l.length c] 100 ∧ w.ownsRow B 5 1 (.slice p l.length c) l.length (l.map bv)
set_option maxRecDepth 100000 in
set_option maxHeartbeats 1000000 in
theorem image_Blocks (b : Nat) (p : Option Addr) (n c : Nat) (w : World) (hk : Blk w b [.slice p n c] 100) (hn : n ≤ 100000000) :
    Calls Tryz.prog 72 #[.pointer (some ⟨b, 0, none⟩)] w (Ret (.int .i64 ((n / 256 : Nat) : Int)) w) := by
 refine zin 11 Tryz.func72 ?_
 refine xb 20 0 hk ?_
 refine xq 1 (congrArg (Value.int .i64) (show (IntKind.i64.wrap (Int.tdiv (↑n : Int) 256) : Int) = (↑(n / 256) : Int) from quo_nat n 256 (by omega) (by decide))) ?_
 exact xe 4 (.int .i64 (↑(n / 256) : Int)) ⟨rfl, (Below.refl w.heap.size _)⟩
set_option maxRecDepth 100000 in
set_option maxHeartbeats 1000000 in
theorem image_Of (a : Option Addr) (c : Nat) (l : List UInt8) (w : World) (h : Bys w (.slice a l.length c) l) (hl : l.length ≤ 100000000) (hc : l.length ≤ c) :
    Calls Tryz.prog 10 #[.slice a l.length c] w (RetS (fun w' r => ∃ b p c, r = .pointer (some ⟨b, 0, none⟩) ∧ w.heap.size ≤ b ∧ Blk w' b [.slice p (min (l.length / 256) 14400 * 256) c] 100 ∧ w'.ownsRow w.heap.size 5 1 (.slice p (min (l.length / 256) 14400 * 256) c) (min (l.length / 256) 14400 * 256) ((l.take (min (l.length / 256) 14400 * 256)).map bv)) w) := by
 refine zin 15 Tryz.func10 ?_
 refine xq 9 (congrArg (Value.int .i64) (show (IntKind.i64.wrap (Int.tdiv (↑l.length : Int) 256) : Int) = (↑(l.length / 256) : Int) from quo_nat l.length 256 (by omega) (by decide))) ?_
 refine xq 0 (congrArg (Value.int .i64) (show (if (14400 : Int) < (↑(l.length / 256) : Int) then (14400 : Int) else (↑(l.length / 256) : Int) : Int) = (↑(min (l.length / 256) 14400) : Int) from min_cast (l.length / 256) 14400)) ?_
 refine xwm 7 ((↑(min (l.length / 256) 14400) : Int) * 256) (↑((min (l.length / 256) 14400) * 256) : Int) ?_
 refine xsH 0 (fun _ _ _ _ zo zx zy V => run_sliceH (k := ((min (l.length / 256) 14400) * 256)) (b := a) (n := l.length) (c := c) (i := (↑((min (l.length / 256) 14400) * 256) : Int)) (ki := .i64) zo zx zy rfl (by omega) Tryz.underlying22 (by kernel_rfl) V) ?_
 refine xc 0 (args := #[.slice a ((min (l.length / 256) 14400) * 256) c]) (clone_bytesN a (min (l.length / 256) 14400 * 256) c (l.take (min (l.length / 256) 14400 * 256)) _ (by simp; omega) ((h.take rfl _ (by omega)).below (Below.refl w.heap.size _)) (by omega)) ?_
 rintro _ W1 ⟨_, rfl, hb1, ho⟩
 have hs1 := Nat.le_refl w.heap.size
 have ho'1 := own_mono ho hs1
 unfold OwnB at ho'1
 rw [show (l.take (min (l.length / 256) 14400 * 256)).length = min (l.length / 256) 14400 * 256 by simp; omega] at ho'1
 obtain ⟨pd, cd, rfl⟩ := (own_sl ho'1).slice
 refine xa 1 [.slice pd (min (l.length / 256) 14400 * 256) cd] 100 fun b2 W2 n2 => ?_
 have hB := Bl.next hb1 n2.below
 have g2 := n2.ge hb1
 have ho'2 := own_below ho'1 n2.below
 exact xe 4 (.pointer (some ⟨b2, 0, none⟩)) ⟨_, rfl, hB, _, _, _, rfl, g2, n2.blk, ho'2⟩
set_option maxRecDepth 100000 in
set_option maxHeartbeats 1000000 in
theorem image_block (b g : Nat) (n c k : Nat) (w : World) (hk : Blk w b [.slice (some ⟨g, 0, none⟩) n c] 100) (hn : n ≤ 100000000) (hc : n ≤ c) (hkn : k < n / 256) :
    Calls Tryz.prog 97 #[.pointer (some ⟨b, 0, none⟩), .int .i64 (↑k : Int)] w (Ret (.tuple #[.slice (some ⟨g, k * 256, none⟩) 256 256, .int .i64 0]) w) := by
 refine zin 33 Tryz.func97 ?_
 refine xgk 21 [13, 14] (show (decide ((↑k : Int) < (0 : Int)) : Bool) = false from decide_eq_false (by omega)) ?_
 refine xr 2 (args := #[.pointer (some ⟨b, 0, none⟩)]) (image_Blocks b _ n c _ (hk.below (Below.refl w.heap.size _)) hn) fun W2 hb2 => ?_
 refine xk 5 (show (decide ((↑k : Int) ≥ (↑(n / 256) : Int)) : Bool) = false from decide_eq_false (by omega)) ?_
 refine xwm 6 ((↑k : Int) * 256) (↑(k * 256) : Int) ?_
 refine xwm 1 ((↑k : Int) + 1) (↑(k + 1) : Int) ?_
 refine xwm 0 ((↑(k + 1) : Int) * 256) (↑((k + 1) * 256) : Int) ?_
 have hk'1 := hk.below hb2
 refine xb 9 0 hk'1 ?_
 refine xs3 3 (fun _ _ _ _ _ _ zo zx zy zz zm V => run_slice3 (k := (k * 256)) (h := ((k + 1) * 256)) (b := g) (off := 0) (n := n) (c := c) (i := (↑(k * 256) : Int)) (ki := .i64) (j := (↑((k + 1) * 256) : Int)) (kj := .i64) (j2 := (↑((k + 1) * 256) : Int)) (kj2 := .i64) 1 (k * 256) 256 zo zx zy rfl zz rfl zm rfl (by omega) (by omega) (by omega) (by omega) Tryz.underlying22 (by kernel_rfl) V) ?_
 exact xe 5 (.tuple #[.slice (some ⟨g, (k * 256), none⟩) 256 256, .int .i64 0]) ⟨rfl, hb2⟩
/-- what is left when a row of bytes was written: nothing below B, nothing but bytes -/
def WroteB (B g n c : Nat) (l : List UInt8) (v : Value) (w : World) (e : Ending) (w' : World) : Prop :=
  e = .returned v ∧ Below B w w' ∧ Only [5] w w' ∧ Fr [g] w w' ∧ w'.ownsRow B 5 1 (.slice (some ⟨g, 0, none⟩) n c) n (l.map bv)
set_option maxRecDepth 100000 in
set_option maxHeartbeats 1000000 in
theorem image_Write (B b g : Nat) (n c k : Nat) (l : List UInt8) (a : Option Addr) (cx : Nat) (lx : List UInt8) (w : World) (hk : Blk w b [.slice (some ⟨g, 0, none⟩) n c] 100) (ho : w.ownsRow B 5 1 (.slice (some ⟨g, 0, none⟩) n c) n (l.map bv)) (hn : n ≤ 100000000) (hc : n ≤ c) (hkn : k < n / 256) (hx : Bys w (.slice a 256 cx) lx) (hlx : lx.length = 256) (hBw : B ≤ w.heap.size) :
    Calls Tryz.prog 54 #[.pointer (some ⟨b, 0, none⟩), .int .i64 (↑k : Int), .slice a 256 cx] w (WroteB B g n c (putB l (k * 256) lx) (.int .i64 0) w) := by
 replace hx : Sl w (.slice a 256 cx) 256 (lx.map bv) := by
   have := hx
   unfold Bys at this
   rwa [hlx] at this
 refine zin 24 Tryz.func54 ?_
 refine xr 9 (args := #[.pointer (some ⟨b, 0, none⟩), .int .i64 (↑k : Int)]) (image_block b g n c k _ hk hn hc hkn) fun W1 hb1 => ?_
 have ho'1 := own_below ho hb1
 have hx'1 := hx.below hb1
 have hB := Bl.nextB (Below.refl B w) hBw hb1
 refine xbi 32 (t2 := 22) fun _ _ _ _ zJ zQ zo zx zy zK => op_copy (dLen := 256) (dCap := 256) (off := (k * 256)) 256 (lx.map bv) ((putB l (k * 256) lx).map bv) zo Tryz.underlying22 (by kernel_rfl) zx zy hx'1 ho'1 (by simpa using hlx) (by omega) (by omega) (bv_one _) (Nat.le_trans hBw hB.size) (by simp [putB, hlx, List.map_take, List.map_drop]) fun W2 o2 hg2 hb2 => ?_
 refine zK _ _ ?_
 have hB'1 := hB.trans hb2
 have hO := (show Only [5] w _ from (Only.of_below hb1)).trans (Only.of_grown hg2 ho'1 (by decide))
 have hX := (show Fr [g] w _ from (Fr.of_below hb1)).trans (Fr.of_grown hg2 (by simp))
 exact xe 8 (.int .i64 0) ⟨rfl, hB'1, hO, hX, o2⟩
set_option maxRecDepth 100000 in
set_option maxHeartbeats 1000000 in
theorem block_Write (B b g : Nat) (n c k : Nat) (l : List UInt8) (kind : Int) (a : Option Addr) (ca : Nat) (li : List UInt8) (w : World) (hk : Blk w b [.slice (some ⟨g, 0, none⟩) n c] 100) (ho : w.ownsRow B 5 1 (.slice (some ⟨g, 0, none⟩) n c) n (l.map bv)) (hn : n ≤ 3686400) (hc : n ≤ c) (hkn : k < n / 256) (h1 : 1 ≤ kind) (h2 : kind ≤ 4) (hin : Bys w (.slice a li.length ca) li) (hl : li.length ≤ 244) (hBw : B ≤ w.heap.size) :
    Calls Tryz.prog 20 #[.pointer (some ⟨b, 0, none⟩), .int .i64 (↑k : Int), .int .i64 kind, .slice a li.length ca] w (WroteB B g n c (putB l (k * 256) (sealB kind k li)) .nilIface w) := by
 refine zin 28 Tryz.func20 ?_
 refine xc 10 (args := #[.int .i64 kind, .int .i64 (↑k : Int), .slice a li.length ca]) (seal_Seal kind k h1 h2 (by omega) (by omega) a ca li _ hl hin) ?_
 rintro _ W1 ⟨_, rfl, hb1, p, c2, rfl, o⟩
 have hs1 := Nat.le_refl w.heap.size
 have hk'1 := hk.below hb1
 have ho'1 := own_below ho hb1
 have o'1 := own_mono o hs1
 have hB := Bl.nextB (Below.refl B w) hBw hb1
 refine xc 19 (args := #[.pointer (some ⟨b, 0, none⟩), .int .i64 (↑k : Int), .slice p 256 c2]) (image_Write B b g n c k l p c2 (sealB kind k li) _ hk'1 ho'1 (by omega) hc hkn (bys_of (own_sl o'1) (sealB_len hl)) (sealB_len hl) (Nat.le_trans hBw hB.size)) ?_
 rintro _ W2 ⟨rfl, hb2, hO2, hX2, ho2⟩
 refine xc 8 (args := #[.int .i64 (↑k : Int), .iface 53 (.int .i64 0)]) (block_told k 0 _) ?_
 rintro _ W3 ⟨r, rfl, hb3, hr⟩
 obtain rfl : r = .nilIface := hr
 have hB'1 := Bl.nextB (hB.trans hb2) hBw hb3
 have hO := ((show Only [5] w _ from (Only.of_below hb1)).trans hO2).trans (Only.of_below hb3)
 have hX := ((show Fr [g] w _ from (Fr.of_below hb1)).trans (hX2.mono (by simp))).trans (Fr.of_below hb3)
 have ho2'1 := own_below ho2 hb3
 exact xe 4 .nilIface ⟨rfl, hB'1, hO, hX, ho2'1⟩
end Go.Proofs.YtinegkldgjhnpaaGreatDoor
namespace Go.Proofs.YtinegkldgjhnpaaGreatDoor
open Go.RowKit Go.Extern.Stop Go.Stop Go.Extern
set_option linter.unusedVariables false
attribute [local irreducible] wpList wpAnyH Code.wp Oper.wp Go

/-- j numbers from f on -/
def rngJ (f j : Nat) : List Int := (List.range j).map fun i => ((f + i : Nat) : Int)
theorem rngJ_succ (f j : Nat) : rngJ f (j + 1) = rngJ f j ++ [((f + j : Nat) : Int)] := by simp [rngJ, List.range_succ]
theorem rngJ_get {f N k : Nat} (h : k < N) : (rngJ f N).getD k 0 = ((f + k : Nat) : Int) := by simp [rngJ, List.getD, List.getElem?_range h]
theorem rngJ_len (f j : Nat) : (rngJ f j).length = j := by simp [rngJ]
/-- what never changes of it -/
structure AlC (B ba n c ca f N : Nat) : Prop where
  hn : n ≤ 3686400
  hc : n ≤ c
  hca : N ≤ ca
  hf : f + N ≤ n / 256
  hB : B ≤ ba
theorem IntsN.elem {w : World} {b : Option Addr} {n c : Nat} {l : List Int} (h : Sl w (.slice b n c) n (l.map (Value.int .i64))) (hl : l.length = n) {k : Nat} (hk : k < n) : b.isSome = true ∧ w.cell? (elemAddr b (k * 1)) = some (.int .i64 (l.getD k 0)) := by
  subst hl; exact Ints.elem h hk
theorem Only.mono {T T' : List TypeId} {w w' : World} (h : Only T w w') (hT : ∀ t, T'.contains t = false → T.contains t = false) : Only T' w w' := fun k cs t fr hk ht => h k cs t fr hk (hT t ht)
end Go.Proofs.YtinegkldgjhnpaaGreatDoor
namespace Go.Proofs.YtinegkldgjhnpaaGreatDoor
open Go.RowKit Go.Extern.Stop Go.Stop Go.Extern
set_option linter.unusedVariables false
attribute [local irreducible] wpList wpAnyH Code.wp Oper.wp Go

set_option maxRecDepth 100000 in
set_option maxHeartbeats 1000000 in
theorem node_Width1l (w : World) :
    Calls Tryz.prog 48 #[.int .i64 1, .bool true] w (Ret (.int .i64 4) w) := by
 refine zin 31 Tryz.func48 ?_
 exact xe 94 (.int .i64 4) ⟨rfl, (Below.refl w.heap.size _)⟩
set_option maxRecDepth 100000 in
set_option maxHeartbeats 1000000 in
theorem node_Max1l (w : World) :
    Calls Tryz.prog 49 #[.int .i64 1, .bool true] w (Ret (.int .i64 18) w) := by
 refine zin 16 Tryz.func49 ?_
 refine xr 9 (args := #[.int .i64 1, .bool true]) (node_Width1l _) fun W1 hb1 => ?_
 exact xe 24 (.int .i64 18) ⟨rfl, hb1⟩
set_option maxRecDepth 100000 in
set_option maxHeartbeats 1000000 in
theorem node_Width1i (w : World) :
    Calls Tryz.prog 48 #[.int .i64 1, .bool false] w (Ret (.int .i64 4) w) := by
 refine zin 31 Tryz.func48 ?_
 exact xe 41 (.int .i64 4) ⟨rfl, (Below.refl w.heap.size _)⟩
set_option maxRecDepth 100000 in
set_option maxHeartbeats 1000000 in
theorem node_Max1i (w : World) :
    Calls Tryz.prog 49 #[.int .i64 1, .bool false] w (Ret (.int .i64 18) w) := by
 refine zin 16 Tryz.func49 ?_
 refine xr 9 (args := #[.int .i64 1, .bool false]) (node_Width1i _) fun W1 hb1 => ?_
 exact xe 24 (.int .i64 18) ⟨rfl, hb1⟩
set_option maxRecDepth 100000 in
set_option maxHeartbeats 1000000 in
theorem node_Width2l (w : World) :
    Calls Tryz.prog 48 #[.int .i64 2, .bool true] w (Ret (.int .i64 8) w) := by
 refine zin 31 Tryz.func48 ?_
 exact xe 101 (.int .i64 8) ⟨rfl, (Below.refl w.heap.size _)⟩
set_option maxRecDepth 100000 in
set_option maxHeartbeats 1000000 in
theorem node_Max2l (w : World) :
    Calls Tryz.prog 49 #[.int .i64 2, .bool true] w (Ret (.int .i64 12) w) := by
 refine zin 16 Tryz.func49 ?_
 refine xr 9 (args := #[.int .i64 2, .bool true]) (node_Width2l _) fun W1 hb1 => ?_
 exact xe 24 (.int .i64 12) ⟨rfl, hb1⟩
set_option maxRecDepth 100000 in
set_option maxHeartbeats 1000000 in
theorem node_Width2i (w : World) :
    Calls Tryz.prog 48 #[.int .i64 2, .bool false] w (Ret (.int .i64 4) w) := by
 refine zin 31 Tryz.func48 ?_
 exact xe 41 (.int .i64 4) ⟨rfl, (Below.refl w.heap.size _)⟩
set_option maxRecDepth 100000 in
set_option maxHeartbeats 1000000 in
theorem node_Max2i (w : World) :
    Calls Tryz.prog 49 #[.int .i64 2, .bool false] w (Ret (.int .i64 18) w) := by
 refine zin 16 Tryz.func49 ?_
 refine xr 9 (args := #[.int .i64 2, .bool false]) (node_Width2i _) fun W1 hb1 => ?_
 exact xe 24 (.int .i64 18) ⟨rfl, hb1⟩
set_option maxRecDepth 100000 in
set_option maxHeartbeats 1000000 in
theorem node_Width3l (w : World) :
    Calls Tryz.prog 48 #[.int .i64 3, .bool true] w (Ret (.int .i64 24) w) := by
 refine zin 31 Tryz.func48 ?_
 exact xe 93 (.int .i64 24) ⟨rfl, (Below.refl w.heap.size _)⟩
set_option maxRecDepth 100000 in
set_option maxHeartbeats 1000000 in
theorem node_Max3l (w : World) :
    Calls Tryz.prog 49 #[.int .i64 3, .bool true] w (Ret (.int .i64 6) w) := by
 refine zin 16 Tryz.func49 ?_
 refine xr 9 (args := #[.int .i64 3, .bool true]) (node_Width3l _) fun W1 hb1 => ?_
 exact xe 24 (.int .i64 6) ⟨rfl, hb1⟩
set_option maxRecDepth 100000 in
set_option maxHeartbeats 1000000 in
theorem node_Width3i (w : World) :
    Calls Tryz.prog 48 #[.int .i64 3, .bool false] w (Ret (.int .i64 4) w) := by
 refine zin 31 Tryz.func48 ?_
 exact xe 41 (.int .i64 4) ⟨rfl, (Below.refl w.heap.size _)⟩
set_option maxRecDepth 100000 in
set_option maxHeartbeats 1000000 in
theorem node_Max3i (w : World) :
    Calls Tryz.prog 49 #[.int .i64 3, .bool false] w (Ret (.int .i64 18) w) := by
 refine zin 16 Tryz.func49 ?_
 refine xr 9 (args := #[.int .i64 3, .bool false]) (node_Width3i _) fun W1 hb1 => ?_
 exact xe 24 (.int .i64 18) ⟨rfl, hb1⟩
set_option maxRecDepth 100000 in
set_option maxHeartbeats 1000000 in
theorem node_Width4l (w : World) :
    Calls Tryz.prog 48 #[.int .i64 4, .bool true] w (Ret (.int .i64 16) w) := by
 refine zin 31 Tryz.func48 ?_
 exact xe 98 (.int .i64 16) ⟨rfl, (Below.refl w.heap.size _)⟩
set_option maxRecDepth 100000 in
set_option maxHeartbeats 1000000 in
theorem node_Max4l (w : World) :
    Calls Tryz.prog 49 #[.int .i64 4, .bool true] w (Ret (.int .i64 9) w) := by
 refine zin 16 Tryz.func49 ?_
 refine xr 9 (args := #[.int .i64 4, .bool true]) (node_Width4l _) fun W1 hb1 => ?_
 exact xe 24 (.int .i64 9) ⟨rfl, hb1⟩
set_option maxRecDepth 100000 in
set_option maxHeartbeats 1000000 in
theorem node_Width4i (w : World) :
    Calls Tryz.prog 48 #[.int .i64 4, .bool false] w (Ret (.int .i64 4) w) := by
 refine zin 31 Tryz.func48 ?_
 exact xe 41 (.int .i64 4) ⟨rfl, (Below.refl w.heap.size _)⟩
set_option maxRecDepth 100000 in
set_option maxHeartbeats 1000000 in
theorem node_Max4i (w : World) :
    Calls Tryz.prog 49 #[.int .i64 4, .bool false] w (Ret (.int .i64 18) w) := by
 refine zin 16 Tryz.func49 ?_
 refine xr 9 (args := #[.int .i64 4, .bool false]) (node_Width4i _) fun W1 hb1 => ?_
 exact xe 24 (.int .i64 18) ⟨rfl, hb1⟩
set_option maxRecDepth 100000 in
set_option maxHeartbeats 1000000 in
theorem node_Width5l (w : World) :
    Calls Tryz.prog 48 #[.int .i64 5, .bool true] w (Ret (.int .i64 4) w) := by
 refine zin 31 Tryz.func48 ?_
 exact xe 94 (.int .i64 4) ⟨rfl, (Below.refl w.heap.size _)⟩
set_option maxRecDepth 100000 in
set_option maxHeartbeats 1000000 in
theorem node_Max5l (w : World) :
    Calls Tryz.prog 49 #[.int .i64 5, .bool true] w (Ret (.int .i64 18) w) := by
 refine zin 16 Tryz.func49 ?_
 refine xr 9 (args := #[.int .i64 5, .bool true]) (node_Width5l _) fun W1 hb1 => ?_
 exact xe 24 (.int .i64 18) ⟨rfl, hb1⟩
set_option maxRecDepth 100000 in
set_option maxHeartbeats 1000000 in
theorem node_Width5i (w : World) :
    Calls Tryz.prog 48 #[.int .i64 5, .bool false] w (Ret (.int .i64 4) w) := by
 refine zin 31 Tryz.func48 ?_
 exact xe 41 (.int .i64 4) ⟨rfl, (Below.refl w.heap.size _)⟩
set_option maxRecDepth 100000 in
set_option maxHeartbeats 1000000 in
theorem node_Max5i (w : World) :
    Calls Tryz.prog 49 #[.int .i64 5, .bool false] w (Ret (.int .i64 18) w) := by
 refine zin 16 Tryz.func49 ?_
 refine xr 9 (args := #[.int .i64 5, .bool false]) (node_Width5i _) fun W1 hb1 => ?_
 exact xe 24 (.int .i64 18) ⟨rfl, hb1⟩
/-- the bytes of a value -/
def widN (t : Int) (leaf : Bool) : Nat := if leaf = false then 4 else if t = 2 then 8 else if t = 3 then 24 else if t = 4 then 16 else 4
/-- the entries of a full node -/
def maxN (t : Int) (leaf : Bool) : Nat := if leaf = false then 18 else if t = 2 then 12 else if t = 3 then 6 else if t = 4 then 9 else 18
theorem node_Width (t : Int) (leaf : Bool) (h1 : 1 ≤ t) (h2 : t ≤ 5) (w : World) : Calls Tryz.prog 48 #[.int .i64 t, .bool leaf] w (Ret (.int .i64 (widN t leaf : Int)) w) := by
  obtain rfl | rfl | rfl | rfl | rfl : t = 1 ∨ t = 2 ∨ t = 3 ∨ t = 4 ∨ t = 5 := by omega
  all_goals cases leaf
  · exact node_Width1i w
  · exact node_Width1l w
  · exact node_Width2i w
  · exact node_Width2l w
  · exact node_Width3i w
  · exact node_Width3l w
  · exact node_Width4i w
  · exact node_Width4l w
  · exact node_Width5i w
  · exact node_Width5l w
theorem node_Max (t : Int) (leaf : Bool) (h1 : 1 ≤ t) (h2 : t ≤ 5) (w : World) : Calls Tryz.prog 49 #[.int .i64 t, .bool leaf] w (Ret (.int .i64 (maxN t leaf : Int)) w) := by
  obtain rfl | rfl | rfl | rfl | rfl : t = 1 ∨ t = 2 ∨ t = 3 ∨ t = 4 ∨ t = 5 := by omega
  all_goals cases leaf
  · exact node_Max1i w
  · exact node_Max1l w
  · exact node_Max2i w
  · exact node_Max2l w
  · exact node_Max3i w
  · exact node_Max3l w
  · exact node_Max4i w
  · exact node_Max4l w
  · exact node_Max5i w
  · exact node_Max5l w
theorem maxN_pos (t : Int) (leaf : Bool) : 1 ≤ maxN t leaf ∧ maxN t leaf ≤ 18 := by unfold maxN; repeat' split
                                                                                    all_goals decide
theorem run_quo {P : Program} {a : Act} {o : Oper} {t : TypeId} {x y : Operand} {t2 : TypeId} {p q r : Int} {k : IntKind} (ho : o.op = .binOp .quo t x y t2) (hx : a.eval x = .int k p) (hy : a.eval y = .int k q) (hq : q ≠ 0) (hr : k.wrap (Int.tdiv p q) = r) (w : World) :
    (execOp a.eval o).run P w = .ok (.value (.int k r)) w := by
  subst hr
  have hb : (binOp .quo t (.int k p) (.int k q)).run P w = .ok (.int k (k.wrap (p.tdiv q))) w := by
    simp [binOp, Op.intDiv, hq]
  have hg : (eqGuard .quo t x y (.int k p) (.int k q)).run P w = .ok () w := rfl
  simp only [execOp, ho, hx, hy, Sem.run_bind, hg, Result.andThen_ok, hb]
  rfl
/-- so many nodes of m entries each hold n entries; one at least -/
def ovN (n m : Nat) : Nat := max 1 ((n + m - 1) / m)
theorem max_cast (a b : Nat) : (if (b : Int) > (a : Int) then (b : Int) else (a : Int)) = ((max a b : Nat) : Int) := by split <;> omega
theorem ovN_pos (n m : Nat) : 1 ≤ ovN n m := by unfold ovN; omega
theorem ovN_le (n m : Nat) (hm : 1 ≤ m) : ovN n m ≤ n + 1 := by
  have : (n + m - 1) / m ≤ n := by
    rw [Nat.div_le_iff_le_mul_add_pred (by omega)]
    have := Nat.le_mul_of_pos_left n hm
    omega
  unfold ovN; omega
theorem ov18 {x : Nat} (h : 2 ≤ x) : ovN x 18 ≤ x / 2 := by unfold ovN; omega
def lenOf : Value → Nat
  | .slice _ n _ => n
  | _ => 0
def nv (n : Nat) : Value := .int .i64 (n : Int)
/-- the levels of a tree from x nodes on -/
def levs (x : Nat) : List Nat := if h : x ≤ 1 then [x] else x :: levs (ovN x 18)
termination_by x
decreasing_by have := ov18 (x := x) (by omega); omega
theorem levs_one {x : Nat} (h : x ≤ 1) : levs x = [x] := by rw [levs]; simp [h]
theorem levs_more {x : Nat} (h : ¬ x ≤ 1) : levs x = x :: levs (ovN x 18) := by rw [levs]; simp [h]
theorem levs_sum {x : Nat} (h : 1 ≤ x) : (levs x).sum ≤ 2 * x := by
  induction x using Nat.strongRecOn with
  | _ x ih =>
    by_cases h1 : x ≤ 1
    · rw [levs_one h1]; simp; omega
    · rw [levs_more h1, List.sum_cons]
      have h2 := ov18 (x := x) (by omega)
      have := ih (ovN x 18) (by omega) (ovN_pos _ _)
      omega
theorem levs_len {x : Nat} (h : 1 ≤ x) : (levs x).length ≤ x := by
  induction x using Nat.strongRecOn with
  | _ x ih =>
    by_cases h1 : x ≤ 1
    · rw [levs_one h1]; simpa using h
    · rw [levs_more h1, List.length_cons]
      have h2 := ov18 (x := x) (by omega)
      have := ih (ovN x 18) (by omega) (ovN_pos _ _)
      omega
/-- a slice of numbers -/
theorem nv_elem {w : World} {b : Option Addr} {n c : Nat} {l : List Nat} (h : Sl w (.slice b n c) n (l.map nv)) (hl : l.length = n) {k : Nat} (hk : k < n) : b.isSome = true ∧ w.cell? (elemAddr b (k * 1)) = some (.int .i64 ((l.getD k 0 : Nat) : Int)) := by
  have e : l.map nv = (l.map fun x : Nat => (x : Int)).map (Value.int .i64) := by simp [nv]
  rw [e] at h
  have := IntsN.elem h (by simpa using hl) hk
  rw [show (l.map fun x : Nat => (x : Int)).getD k 0 = ((l.getD k 0 : Nat) : Int) by simp [List.getD, List.getElem?_eq_getElem (show k < l.length by omega)]] at this
  exact this
theorem getD_last {xs : List Nat} {x j : Nat} (h : xs.length = j) : (xs ++ [x]).getD j 0 = x := by subst h; simp [List.getD]
theorem take_sum {L : List Nat} {k : Nat} (h : k < L.length) : (L.take (k + 1)).sum = (L.take k).sum + L.getD k 0 := by
  rw [List.take_add_one, List.sum_append]; simp [List.getD, List.getElem?_eq_getElem h]
theorem take_le {L : List Nat} (k : Nat) : (L.take k).sum ≤ L.sum := by
  conv => rhs; rw [← List.take_append_drop k L, List.sum_append]
  omega
/-- the levels of a tree of n entries -/
def levL (t : Int) (n : Nat) : List Nat := levs (ovN n (maxN t true))
/-- its nodes -/
def nodN (t : Int) (n : Nat) : Nat := (levL t n).sum
theorem levL_len (t : Int) (n : Nat) : (levL t n).length ≤ n + 1 := by
  have := levs_len (ovN_pos n (maxN t true)); have := ovN_le n (maxN t true) (maxN_pos t true).1; unfold levL; omega
theorem nodN_le (t : Int) (n : Nat) : nodN t n ≤ 2 * n + 2 := by
  have := levs_sum (ovN_pos n (maxN t true)); have := ovN_le n (maxN t true) (maxN_pos t true).1; unfold nodN levL; omega
/-- node i's entries, when n entries are laid into nodes of m -/
def sizN (n m i : Nat) : Nat := min m (n - i * m)
theorem siz_le {n m i : Nat} (hm : 1 ≤ m) (h : i < ovN n m) : i * m ≤ n := by
  unfold ovN at h
  rcases Nat.eq_zero_or_pos i with rfl | hi
  · omega
  · have h1 : i + 1 ≤ (n + m - 1) / m := by omega
    have h2 := (Nat.le_div_iff_mul_le (by omega)).1 h1
    rw [Nat.add_mul] at h2
    omega
def sizK (n m k : Nat) : List Value := (List.range (ovN n m)).map fun i => .int .i64 (if i < k then (sizN n m i : Int) else 0)
def sizL (n m : Nat) : List Nat := (List.range (ovN n m)).map (sizN n m)
theorem sizK_zero (n m : Nat) : zeros (Value.int .i64 0).cells.toList (ovN n m) = sizK n m 0 := by
  rw [show (Value.int .i64 0).cells.toList = [Value.int .i64 0] from rfl, zeros, sizK]
  simp [List.map_const']
theorem sizK_all (n m : Nat) : sizK n m (ovN n m) = (sizL n m).map nv := by
  unfold sizK sizL nv
  rw [List.map_map]
  apply List.map_congr_left
  intro i hi
  rw [List.mem_range] at hi
  simp [hi]
theorem sizK_set {n m k : Nat} (h : k < ovN n m) : (sizK n m k).set k (.int .i64 (sizN n m k : Int)) = sizK n m (k + 1) := by
  apply List.ext_getElem?
  intro i
  by_cases hi : i < ovN n m
  · by_cases e : k = i
    · subst e
      rw [List.getElem?_set_self (by simpa [sizK] using h)]
      simp [sizK, List.getElem?_range h]
    · rw [List.getElem?_set_ne e]
      simp only [sizK, List.getElem?_map, List.getElem?_range hi, Option.map_some]
      by_cases e2 : i < k
      · simp [e2, show i < k + 1 by omega]
      · simp [e2, show ¬ i < k + 1 by omega]
  · rw [List.getElem?_eq_none (by simp [sizK]; omega), List.getElem?_eq_none (by simp [sizK]; omega)]
theorem sizL_len (n m : Nat) : (sizL n m).length = ovN n m := by simp [sizL]
end Go.Proofs.YtinegkldgjhnpaaGreatDoor
namespace Go.Proofs.YtinegkldgjhnpaaGreatDoor
open Go.RowKit Go.Extern.Stop Go.Stop Go.Extern
set_option linter.unusedVariables false
attribute [local irreducible] wpList wpAnyH Code.wp Oper.wp Go

/-- the number of w bytes from k on, the lowest first -/
def rawN (l : List UInt8) : Nat → Nat → Nat
  | _, 0 => 0
  | k, w + 1 => (l.getD k 0).toNat + 256 * rawN l (k + 1) w
theorem rawN_lt (l : List UInt8) : ∀ (w k : Nat), rawN l k w < 256 ^ w
  | 0, k => by simp [rawN]
  | w + 1, k => by
    have := rawN_lt l w (k + 1)
    have h := (l.getD k 0).toNat_lt
    rw [rawN, Nat.pow_succ]; omega
theorem rawN_lt8 (l : List UInt8) (k w : Nat) (hw : w ≤ 8) : rawN l k w < 18446744073709551616 := Nat.lt_of_lt_of_le (rawN_lt l w k) (by rw [show (18446744073709551616 : Nat) = 256 ^ 8 from rfl]; exact Nat.pow_le_pow_right (by decide) hw)
theorem rawN_lt7 (l : List UInt8) (k w : Nat) (hw : w ≤ 7) : rawN l k w < 72057594037927936 := Nat.lt_of_lt_of_le (rawN_lt l w k) (by rw [show (72057594037927936 : Nat) = 256 ^ 7 from rfl]; exact Nat.pow_le_pow_right (by decide) hw)
theorem rawN_lt4 (l : List UInt8) (k w : Nat) (hw : w ≤ 4) : rawN l k w < 4294967296 := Nat.lt_of_lt_of_le (rawN_lt l w k) (by rw [show (4294967296 : Nat) = 256 ^ 4 from rfl]; exact Nat.pow_le_pow_right (by decide) hw)
theorem u64_step {n b : Nat} (hn : n < 72057594037927936) (hb : b < 256) : IntKind.u64.wrap (↑(BitVec.ofInt 64 (IntKind.u64.wrap ((n : Int) * 2 ^ 8)) ||| BitVec.ofInt 64 (b : Int)).toNat : Int) = ((b + 256 * n : Nat) : Int) := by
  have h1 : IntKind.u64.wrap ((n : Int) * 2 ^ 8) = ((n * 2 ^ 8 : Nat) : Int) := by
    rw [show (n : Int) * 2 ^ 8 = ((n * 2 ^ 8 : Nat) : Int) by omega]; exact IntWalk.u64_in _ (by constructor <;> omega)
  rw [h1, BitVec.ofInt_natCast, BitVec.ofInt_natCast, BitVec.toNat_or, BitVec.toNat_ofNat, BitVec.toNat_ofNat, Nat.mod_eq_of_lt (by omega), Nat.mod_eq_of_lt (by omega)]
  rw [← Nat.shiftLeft_eq, ← Nat.shiftLeft_add_eq_or_of_lt (by exact hb : b < 2 ^ 8), Nat.shiftLeft_eq, IntWalk.u64_in _ (by constructor <;> omega)]
  congr 1; omega
theorem u64_nat {n : Nat} (h : n < 18446744073709551616) : IntKind.u64.wrap (n : Int) = (n : Int) := IntWalk.u64_in _ (by constructor <;> omega)
theorem there_ok (a : Option Addr) (m c k w : Nat) (hw : w = 1 ∨ w = 2 ∨ w = 4 ∨ w = 8) (hk : k + w ≤ m) (hm : m ≤ 100000000) (W : World) :
    Calls Tryz.prog 131 #[.slice a m c, .int .i64 (↑k : Int), .int .i64 (↑w : Int)] W (Ret (.int .i64 0) W) := by
  rcases hw with rfl | rfl | rfl | rfl
  · exact there_1 a m c k hk hm W
  · exact there_2 a m c k hk hm W
  · exact there_4 a m c k hk hm W
  · exact there_8 a m c k hk hm W
set_option maxRecDepth 100000 in
set_option maxHeartbeats 2000000 in
theorem Get_ok (a : Option Addr) (c k w : Nat) (l : List UInt8) (W : World) (hw : w = 1 ∨ w = 2 ∨ w = 4 ∨ w = 8) (hk : k + w ≤ l.length) (hl : l.length ≤ 100000000) (h : Bys W (.slice a l.length c) l) (hq : rawN l k w < 9223372036854775808) :
    Calls Tryz.prog 103 #[.slice a l.length c, .int .i64 (↑k : Int), .int .i64 (↑w : Int)] W (Ret (.tuple #[.int .i64 (rawN l k w : Int), .int .i64 0]) W) := by
 refine zin 38 Tryz.func103 ?_
 refine xr 12 (args := #[.slice a l.length c, .int .i64 (↑k : Int), .int .i64 (↑w : Int)]) (there_ok a l.length c k w hw hk hl _) fun W1 hb1 => ?_
 refine xw 21 ((↑w : Int) - 1) ?_
 refine zl 4 38 (fun zm zkv V => ∃ (j r : Nat), zkv = [(0, .slice a l.length c), (1, .int .i64 (↑k : Int)), (6, .int .i64 0), (7, .int .i64 0), (9, .int .u64 (↑(rawN l (k + j) r) : Int)), (10, .int .i64 ((↑j : Int) - 1))] ∧ zm = (((↑j : Int) - 1) + 1).toNat ∧ Below W.heap.size W V ∧ j + r = w) ⟨w, 0, rfl, rfl, hb1, by omega⟩ ?_
 rintro _ _ W2 ⟨j, r, rfl, rfl, hB_2, hjr⟩ J2 hJ2 r2
 refine xid 7 ((↑j : Int) - 1 ≥ (0 : Int)) (fun hc3 => ?_) (fun hc3 => ?_)
 · refine xq 10 (congrArg (Value.int .i64) (show IntKind.i64.wrap ((↑k : Int) + ((↑j : Int) - 1)) = (↑(k + (j - 1)) : Int) from (show IntKind.i64.wrap ((↑k : Int) + ((↑j : Int) - 1)) = ((↑k : Int) + ((↑j : Int) - 1)) from by first | exact IntWalk.i64_in _ (by omega) | (simp only [IntKind.wrap]; omega)).trans (by omega))) ?_
   refine xx 0 _ l.length (k + (j - 1)) 1 (Bys.elem h (k := (k + (j - 1))) (by omega)).1 ?_
   refine xl 0 ((Bys.elem (h.below hB_2) (k := (k + (j - 1))) (by omega)).2) ?_
   refine xq 0 (congrArg (Value.int .u64) (show (IntKind.u64.wrap (↑(l.getD (k + (j - 1)) 0).toNat : Int) : Int) = (↑(l.getD (k + (j - 1)) 0).toNat : Int) from u64_nat (by have := (l.getD (k + (j - 1)) 0).toNat_lt; omega))) ?_
   refine xq 0 (congrArg (Value.int .u64) (show (IntKind.u64.wrap (↑(BitVec.ofInt 64 (IntKind.u64.wrap ((↑(rawN l (k + j) r) : Int) * 2 ^ 8)) ||| BitVec.ofInt 64 (↑(l.getD (k + (j - 1)) 0).toNat : Int)).toNat : Int) : Int) = (↑(rawN l (k + (j - 1)) (r + 1)) : Int) from (u64_step (rawN_lt7 l (k + j) r (by omega)) (l.getD (k + (j - 1)) 0).toNat_lt).trans (congrArg (fun x : Nat => (x : Int)) (by rw [rawN, show k + (j - 1) + 1 = k + j by omega])))) ?_
   refine xq 6 (congrArg (Value.int .i64) (show IntKind.i64.wrap ((↑j : Int) - 1 - 1) = ((↑(j - 1 : Nat) : Int) - 1) from (show IntKind.i64.wrap ((↑j : Int) - 1 - 1) = ((↑j : Int) - 1 - 1) from by first | exact IntWalk.i64_in _ (by omega) | (simp only [IntKind.wrap]; omega)).trans (by omega))) ?_
   exact ze 2 (hJ2 _ _ _ ⟨j - 1, r + 1, rfl, rfl, hB_2, by omega⟩ (by omega))
 refine xk 12 (show (decide ((↑(rawN l (k + j) r) : Int) ≥ (9223372036854775808 : Int)) : Bool) = false from by rw [(show rawN l (k + j) r = rawN l k w from by rw [show j = 0 by omega, show r = w by omega]; rfl)]; exact decide_eq_false (by omega)) ?_
 refine xq 5 (congrArg (Value.int .i64) (show (IntKind.i64.wrap (↑(rawN l (k + j) r) : Int) : Int) = (↑(rawN l k w) : Int) from by rw [(show rawN l (k + j) r = rawN l k w from by rw [show j = 0 by omega, show r = w by omega]; rfl)]; exact i64_nat hq)) ?_
 exact xe 5 (.tuple #[.int .i64 (↑(rawN l k w) : Int), .int .i64 0]) ⟨rfl, hB_2⟩
set_option maxRecDepth 100000 in
set_option maxHeartbeats 2000000 in
theorem Get_big (a : Option Addr) (c k w : Nat) (l : List UInt8) (W : World) (hw : w = 1 ∨ w = 2 ∨ w = 4 ∨ w = 8) (hk : k + w ≤ l.length) (hl : l.length ≤ 100000000) (h : Bys W (.slice a l.length c) l) (hq : ¬ rawN l k w < 9223372036854775808) :
    Calls Tryz.prog 103 #[.slice a l.length c, .int .i64 (↑k : Int), .int .i64 (↑w : Int)] W (Ret (.tuple #[.int .i64 0, .int .i64 2]) W) := by
 refine zin 38 Tryz.func103 ?_
 refine xr 12 (args := #[.slice a l.length c, .int .i64 (↑k : Int), .int .i64 (↑w : Int)]) (there_ok a l.length c k w hw hk hl _) fun W1 hb1 => ?_
 refine xw 21 ((↑w : Int) - 1) ?_
 refine zl 4 38 (fun zm zkv V => ∃ (j r : Nat), zkv = [(0, .slice a l.length c), (1, .int .i64 (↑k : Int)), (6, .int .i64 0), (7, .int .i64 0), (9, .int .u64 (↑(rawN l (k + j) r) : Int)), (10, .int .i64 ((↑j : Int) - 1))] ∧ zm = (((↑j : Int) - 1) + 1).toNat ∧ Below W.heap.size W V ∧ j + r = w) ⟨w, 0, rfl, rfl, hb1, by omega⟩ ?_
 rintro _ _ W2 ⟨j, r, rfl, rfl, hB_2, hjr⟩ J2 hJ2 r2
 refine xid 7 ((↑j : Int) - 1 ≥ (0 : Int)) (fun hc3 => ?_) (fun hc3 => ?_)
 · refine xq 10 (congrArg (Value.int .i64) (show IntKind.i64.wrap ((↑k : Int) + ((↑j : Int) - 1)) = (↑(k + (j - 1)) : Int) from (show IntKind.i64.wrap ((↑k : Int) + ((↑j : Int) - 1)) = ((↑k : Int) + ((↑j : Int) - 1)) from by first | exact IntWalk.i64_in _ (by omega) | (simp only [IntKind.wrap]; omega)).trans (by omega))) ?_
   refine xx 0 _ l.length (k + (j - 1)) 1 (Bys.elem h (k := (k + (j - 1))) (by omega)).1 ?_
   refine xl 0 ((Bys.elem (h.below hB_2) (k := (k + (j - 1))) (by omega)).2) ?_
   refine xq 0 (congrArg (Value.int .u64) (show (IntKind.u64.wrap (↑(l.getD (k + (j - 1)) 0).toNat : Int) : Int) = (↑(l.getD (k + (j - 1)) 0).toNat : Int) from u64_nat (by have := (l.getD (k + (j - 1)) 0).toNat_lt; omega))) ?_
   refine xq 0 (congrArg (Value.int .u64) (show (IntKind.u64.wrap (↑(BitVec.ofInt 64 (IntKind.u64.wrap ((↑(rawN l (k + j) r) : Int) * 2 ^ 8)) ||| BitVec.ofInt 64 (↑(l.getD (k + (j - 1)) 0).toNat : Int)).toNat : Int) : Int) = (↑(rawN l (k + (j - 1)) (r + 1)) : Int) from (u64_step (rawN_lt7 l (k + j) r (by omega)) (l.getD (k + (j - 1)) 0).toNat_lt).trans (congrArg (fun x : Nat => (x : Int)) (by rw [rawN, show k + (j - 1) + 1 = k + j by omega])))) ?_
   refine xq 6 (congrArg (Value.int .i64) (show IntKind.i64.wrap ((↑j : Int) - 1 - 1) = ((↑(j - 1 : Nat) : Int) - 1) from (show IntKind.i64.wrap ((↑j : Int) - 1 - 1) = ((↑j : Int) - 1 - 1) from by first | exact IntWalk.i64_in _ (by omega) | (simp only [IntKind.wrap]; omega)).trans (by omega))) ?_
   exact ze 2 (hJ2 _ _ _ ⟨j - 1, r + 1, rfl, rfl, hB_2, by omega⟩ (by omega))
 refine xk 12 (show (decide ((↑(rawN l (k + j) r) : Int) ≥ (9223372036854775808 : Int)) : Bool) = true from by rw [(show rawN l (k + j) r = rawN l k w from by rw [show j = 0 by omega, show r = w by omega]; rfl)]; exact decide_eq_true (by omega)) ?_
 exact xe 8 (.tuple #[.int .i64 0, .int .i64 2]) ⟨rfl, hB_2⟩
/-- the numbers of these widths, one behind the other, from a place on -/
def unpL (l : List UInt8) : Nat → List Nat → List Nat
  | _, [] => []
  | k, w :: r => rawN l k w :: unpL l (k + w) r
theorem unpL_len (l : List UInt8) : ∀ (ws : List Nat) (k : Nat), (unpL l k ws).length = ws.length
  | [], k => rfl
  | w :: r, k => by simp [unpL, unpL_len l r]
theorem unpL_snoc (l : List UInt8) (w : Nat) : ∀ (ws : List Nat) (k : Nat), unpL l k (ws ++ [w]) = unpL l k ws ++ [rawN l (k + ws.sum) w]
  | [], k => by simp [unpL]
  | x :: r, k => by simp [unpL, unpL_snoc l w r, Nat.add_assoc]
theorem unpL_get (l : List UInt8) : ∀ (ws : List Nat) (k i : Nat), i < ws.length → (unpL l k ws).getD i 0 = rawN l (k + (ws.take i).sum) (ws.getD i 0)
  | [], k, i, h => by simp at h
  | w :: r, k, 0, h => by simp [unpL]
  | w :: r, k, i + 1, h => by
    have := unpL_get l r (k + w) i (by simpa using h)
    simp only [List.getD_eq_getElem?_getD] at this ⊢
    simp [unpL, this, Nat.add_assoc]
theorem take_snoc {ws : List Nat} {i : Nat} (h : i < ws.length) : ws.take (i + 1) = ws.take i ++ [ws.getD i 0] := by
  rw [List.take_succ_eq_append_getElem h]; simp [List.getD, h]
theorem take_sum_le {ws : List Nat} {i : Nat} (h : i < ws.length) : (ws.take i).sum + ws.getD i 0 ≤ ws.sum := by
  have h1 := take_sum h; have h2 := take_le (L := ws) (i + 1); omega
def getV (l : List UInt8) (k w : Nat) : Int := if rawN l k w < 9223372036854775808 then (rawN l k w : Int) else 0
def getE (l : List UInt8) (k w : Nat) : Int := if rawN l k w < 9223372036854775808 then 0 else 2
theorem getE_zero {l : List UInt8} {k w : Nat} (h : getE l k w = 0) : rawN l k w < 9223372036854775808 := by unfold getE at h; split at h; assumption; cases h
theorem getE_two {l : List UInt8} {k w : Nat} (h : getE l k w ≠ 0) : ¬ rawN l k w < 9223372036854775808 ∧ getE l k w = 2 := by unfold getE at h ⊢; split at h; exact absurd rfl h; rename_i h2; exact ⟨h2, if_neg h2⟩
theorem getE_ok {l : List UInt8} {k w : Nat} (h : rawN l k w < 9223372036854775808) : getE l k w = 0 := if_pos h
theorem getV_ok {l : List UInt8} {k w : Nat} (h : rawN l k w < 9223372036854775808) : getV l k w = (rawN l k w : Int) := if_pos h
theorem Get_gen (a : Option Addr) (c k w : Nat) (l : List UInt8) (W : World) (hw : w = 1 ∨ w = 2 ∨ w = 4 ∨ w = 8) (hk : k + w ≤ l.length) (hl : l.length ≤ 100000000) (h : Bys W (.slice a l.length c) l) :
    Calls Tryz.prog 103 #[.slice a l.length c, .int .i64 (↑k : Int), .int .i64 (↑w : Int)] W (Ret (.tuple #[.int .i64 (getV l k w), .int .i64 (getE l k w)]) W) := by
  by_cases hq : rawN l k w < 9223372036854775808
  · rw [getV_ok hq, getE_ok hq]; exact Get_ok a c k w l W hw hk hl h hq
  · rw [getV, getE, if_neg hq, if_neg hq]; exact Get_big a c k w l W hw hk hl h hq
set_option maxRecDepth 100000 in
set_option maxHeartbeats 2000000 in
theorem Unpack_ok (a : Option Addr) (c : Nat) (l : List UInt8) (aw : Option Addr) (cw : Nat) (ws : List Nat) (W : World) (hk : ∀ i, i < ws.length → ws.getD i 0 = 1 ∨ ws.getD i 0 = 2 ∨ ws.getD i 0 = 4 ∨ ws.getD i 0 = 8) (hs : ws.sum ≤ l.length) (hl : l.length ≤ 100000000) (hw : ws.length ≤ 1000) (h : Bys W (.slice a l.length c) l) (hws : Sl W (.slice aw ws.length cw) ws.length (ws.map nv)) (hq : ∀ i, i < ws.length → (unpL l 0 ws).getD i 0 < 9223372036854775808) :
    Calls Tryz.prog 142 #[.slice a l.length c, .slice aw ws.length cw] W (RetS (fun w' r => ∃ p c, r = .tuple #[.slice p ws.length c, .int .i64 0] ∧ w'.ownsRow W.heap.size 3 1 (.slice p ws.length c) ws.length ((unpL l 0 ws).map nv)) W) := by
 refine zin 37 Tryz.func142 ?_
 have hB := Below.refl W.heap.size W
 refine zl 25 37 (fun zm zkv V => ∃ (i : Nat) (p : Option Addr) (c2 : Nat), zkv = [(0, .slice a l.length c), (6, .slice p i c2), (7, .int .i64 (↑(ws.take i).sum : Int)), (12, .slice aw ws.length cw), (13, .int .i64 (↑ws.length : Int)), (14, .int .i64 (↑i : Int))] ∧ zm = ws.length - ((↑i : Int)).toNat ∧ Below W.heap.size W V ∧ V.ownsRow W.heap.size 3 1 (.slice p i c2) i ((unpL l 0 (ws.take i)).map nv) ∧ i ≤ ws.length) ⟨0, _, _, rfl, rfl, hB, World.ownsRow_nil _ _ _ _, Nat.zero_le _⟩ ?_
 rintro _ _ W1 ⟨i, p, c2, rfl, rfl, hB_1, ho, hi⟩ J1 hJ1 r1
 have hts : i < ws.length → (ws.take i).sum + ws.getD i 0 ≤ ws.sum := take_sum_le
 have hui : i < ws.length → (unpL l 0 ws).getD i 0 = rawN l (ws.take i).sum (ws.getD i 0) := fun h => by rw [unpL_get l ws 0 i h, Nat.zero_add]
 refine xid 6 ((↑i : Int) < (↑ws.length : Int)) (fun hc2 => ?_) (fun hc2 => ?_)
 · refine xx 6 _ ws.length i 1 (nv_elem hws rfl (k := i) (by omega)).1 ?_
   refine xl 0 ((nv_elem (hws.below hB_1) rfl (k := i) (by omega)).2) ?_
   refine xr 8 (args := #[.slice a l.length c, .int .i64 (↑(ws.take i).sum : Int), .int .i64 (↑(ws.getD i 0) : Int)]) (Get_gen a c (ws.take i).sum (ws.getD i 0) l _ (hk i (by omega)) (by omega) hl (h.below hB_1)) fun W3 hb3 => ?_
   refine xk 14 (show (((getE l (ws.take i).sum (ws.getD i 0)) != (0 : Int)) : Bool) = false from by rw [getE_ok (by rw [← hui (by omega)]; exact hq i (by omega))]; rfl) ?_
   refine xbs 6 1 [.int .i64 (getV l (ws.take i).sum (ws.getD i 0))] 3 fun b4 W4 n4 => ?_
   have ho'1 := own_below ho hb3
   have r4_ho := own_ne ho'1 n4
   have ho'2 := own_below ho'1 n4.below
   have hB'1 := Bl.next (Bl.next hB_1 hb3) n4.below
   refine xbi 0 fun _ _ _ _ zJ zQ zo zx zy zK => op_app (m := 1) (news := [.int .i64 (getV l (ws.take i).sum (ws.getD i 0))]) (.int .i64 0) 1 8 (i + 1) ((unpL l 0 (ws.take (i + 1))).map nv) zo Tryz.underlying26 (by kernel_rfl) rfl (by decide) zx ho'2 zy (n4.blk.sl 1 1 (by decide) (by decide)) rfl (by simp [Value.oneCell']) (by unfold maxLen; omega) (by omega) hB'1.size (by rfl) (by rw [take_snoc (by omega), unpL_snoc, Nat.zero_add, List.map_append]; simp only [List.map_cons, List.map_nil, nv]; rw [getV_ok (by rw [← hui (by omega)]; exact hq i (by omega))]) fun p5 c5 W5 o5 hg5 hb5 => ?_
   refine zK _ _ ?_
   refine xwm 6 ((↑(ws.take i).sum : Int) + (↑(ws.getD i 0) : Int)) (↑((ws.take i).sum + (ws.getD i 0)) : Int) ?_
   refine xwm 5 ((↑i : Int) + 1) (↑(i + 1) : Int) ?_
   refine xv1 2 7 (show (.int .i64 (↑((ws.take i).sum + (ws.getD i 0)) : Int) : Value) = .int .i64 (↑(ws.take (i + 1)).sum : Int) from by rw [take_snoc (by omega), List.sum_append]; simp) ?_
   have hB'2 := hB'1.trans hb5
   exact ze 0 (hJ1 _ _ _ ⟨i + 1, _, _, rfl, rfl, hB'2, o5, by omega⟩ (by omega))
 refine xe 13 (.tuple #[.slice p i c2, .int .i64 0]) ?_
 obtain rfl : i = ws.length := by omega
 rw [List.take_length] at ho
 exact ⟨_, rfl, hB_1, _, _, rfl, ho⟩
set_option maxRecDepth 100000 in
set_option maxHeartbeats 2000000 in
theorem Unpack_bad (a : Option Addr) (c : Nat) (l : List UInt8) (aw : Option Addr) (cw : Nat) (ws : List Nat) (W : World) (hk : ∀ i, i < ws.length → ws.getD i 0 = 1 ∨ ws.getD i 0 = 2 ∨ ws.getD i 0 = 4 ∨ ws.getD i 0 = 8) (hs : ws.sum ≤ l.length) (hl : l.length ≤ 100000000) (hw : ws.length ≤ 1000) (h : Bys W (.slice a l.length c) l) (hws : Sl W (.slice aw ws.length cw) ws.length (ws.map nv)) (hq : ¬ ∀ i, i < ws.length → (unpL l 0 ws).getD i 0 < 9223372036854775808) :
    Calls Tryz.prog 142 #[.slice a l.length c, .slice aw ws.length cw] W (Ret (.tuple #[.slice none 0 0, .int .i64 2]) W) := by
 refine zin 37 Tryz.func142 ?_
 have hB := Below.refl W.heap.size W
 refine zl 25 37 (fun zm zkv V => ∃ (i : Nat) (p : Option Addr) (c2 : Nat), zkv = [(0, .slice a l.length c), (6, .slice p i c2), (7, .int .i64 (↑(ws.take i).sum : Int)), (12, .slice aw ws.length cw), (13, .int .i64 (↑ws.length : Int)), (14, .int .i64 (↑i : Int))] ∧ zm = ws.length - ((↑i : Int)).toNat ∧ Below W.heap.size W V ∧ V.ownsRow W.heap.size 3 1 (.slice p i c2) i ((unpL l 0 (ws.take i)).map nv) ∧ i ≤ ws.length ∧ (∀ j, j < i → (unpL l 0 ws).getD j 0 < 9223372036854775808)) ⟨0, _, _, rfl, rfl, hB, World.ownsRow_nil _ _ _ _, Nat.zero_le _, ?_⟩ ?_
 · exact fun j hj => absurd hj (by omega)
 rintro _ _ W1 ⟨i, p, c2, rfl, rfl, hB_1, ho, hi, hall⟩ J1 hJ1 r1
 have hts : i < ws.length → (ws.take i).sum + ws.getD i 0 ≤ ws.sum := take_sum_le
 have hui : i < ws.length → (unpL l 0 ws).getD i 0 = rawN l (ws.take i).sum (ws.getD i 0) := fun h => by rw [unpL_get l ws 0 i h, Nat.zero_add]
 refine xid 6 ((↑i : Int) < (↑ws.length : Int)) (fun hc2 => ?_) (fun hc2 => ?_)
 · refine xx 6 _ ws.length i 1 (nv_elem hws rfl (k := i) (by omega)).1 ?_
   refine xl 0 ((nv_elem (hws.below hB_1) rfl (k := i) (by omega)).2) ?_
   refine xr 8 (args := #[.slice a l.length c, .int .i64 (↑(ws.take i).sum : Int), .int .i64 (↑(ws.getD i 0) : Int)]) (Get_gen a c (ws.take i).sum (ws.getD i 0) l _ (hk i (by omega)) (by omega) hl (h.below hB_1)) fun W3 hb3 => ?_
   refine xin 14 (getE l (ws.take i).sum (ws.getD i 0)) (0 : Int) (fun hc4 => ?_) (fun hc4 => ?_)
   · have hgr := getE_two hc4
     have hB'1 := Bl.next hB_1 hb3
     refine xe 14 (.tuple #[.slice none 0 0, .int .i64 (getE l (ws.take i).sum (ws.getD i 0))]) ?_
     rw [hgr.2]; exact ⟨rfl, hB'1⟩
   have hgr := getE_zero hc4
   refine xbs 6 1 [.int .i64 (getV l (ws.take i).sum (ws.getD i 0))] 3 fun b5 W5 n5 => ?_
   have ho'1 := own_below ho hb3
   have r5_ho := own_ne ho'1 n5
   have ho'2 := own_below ho'1 n5.below
   have hB'2 := Bl.next (Bl.next hB_1 hb3) n5.below
   refine xbi 0 fun _ _ _ _ zJ zQ zo zx zy zK => op_app (m := 1) (news := [.int .i64 (getV l (ws.take i).sum (ws.getD i 0))]) (.int .i64 0) 1 8 (i + 1) ((unpL l 0 (ws.take (i + 1))).map nv) zo Tryz.underlying26 (by kernel_rfl) rfl (by decide) zx ho'2 zy (n5.blk.sl 1 1 (by decide) (by decide)) rfl (by simp [Value.oneCell']) (by unfold maxLen; omega) (by omega) hB'2.size (by rfl) (by rw [take_snoc (by omega), unpL_snoc, Nat.zero_add, List.map_append]; simp only [List.map_cons, List.map_nil, nv]; rw [getV_ok hgr]) fun p6 c6 W6 o6 hg6 hb6 => ?_
   refine zK _ _ ?_
   refine xwm 6 ((↑(ws.take i).sum : Int) + (↑(ws.getD i 0) : Int)) (↑((ws.take i).sum + (ws.getD i 0)) : Int) ?_
   refine xwm 5 ((↑i : Int) + 1) (↑(i + 1) : Int) ?_
   refine xv1 2 7 (show (.int .i64 (↑((ws.take i).sum + (ws.getD i 0)) : Int) : Value) = .int .i64 (↑(ws.take (i + 1)).sum : Int) from by rw [take_snoc (by omega), List.sum_append]; simp) ?_
   have hB'3 := hB'2.trans hb6
   exact ze 0 (hJ1 _ _ _ ⟨i + 1, _, _, rfl, rfl, hB'3, o6, by omega, fun j hj => (Nat.lt_or_ge j i).elim (fun q => hall j q) (fun q => by obtain rfl : j = i := (by omega); rw [hui (by omega)]; exact hgr)⟩ (by omega))
 refine xe 13 (.tuple #[.slice p i c2, .int .i64 0]) ?_
 exact absurd (fun j hj => hall j (by omega)) hq
end Go.Proofs.YtinegkldgjhnpaaGreatDoor
namespace Go.Proofs.YtinegkldgjhnpaaGreatDoor
open Go.RowKit Go.Extern.Stop Go.Stop Go.Extern
set_option linter.unusedVariables false
attribute [local irreducible] wpList wpAnyH Code.wp Oper.wp Go

theorem tmod_bd (x : Int) {m : Nat} (hm : 0 < m) : -(m : Int) < Int.tmod x m ∧ Int.tmod x m < m := by
  have h1 := Int.tmod_lt_of_pos x (b := (m : Int)) (by omega)
  have h2 := Int.tmod_lt_of_pos (-x) (b := (m : Int)) (by omega)
  rw [Int.neg_tmod] at h2
  omega
theorem tmod_nn {x : Int} (hx : 0 ≤ x) (m : Nat) : 0 ≤ Int.tmod x m := Int.tmod_nonneg _ hx
theorem run_rem {P : Program} {a : Act} {o : Oper} {t : TypeId} {x y : Operand} {t2 : TypeId} {p q r : Int} {k : IntKind} (ho : o.op = .binOp .rem t x y t2) (hx : a.eval x = .int k p) (hy : a.eval y = .int k q) (hq : q ≠ 0) (hr : Int.tmod p q = r) (w : World) :
    (execOp a.eval o).run P w = .ok (.value (.int k r)) w := by
  subst hr
  have hb : (binOp .rem t (.int k p) (.int k q)).run P w = .ok (.int k (p.tmod q)) w := by
    simp [binOp, Op.intDiv, hq]
  have hg : (eqGuard .rem t x y (.int k p) (.int k q)).run P w = .ok () w := rfl
  simp only [execOp, ho, hx, hy, Sem.run_bind, hg, Result.andThen_ok, hb]
  rfl
theorem run_bstr {P : Program} {a : Act} {o : Oper} {src dst e : TypeId} {x : Operand} {b : Option Addr} {n c : Nat} {l : List UInt8} {w : World} (ho : o.op = .convert src dst x) (hx : a.eval x = .slice b n c) (h : Bys w (.slice b n c) l) (hl : l.length = n)
    (hs : P.underlying src = some (.slice e)) (he : P.underlying e = some (.int .u8)) (hd : P.underlying dst = some .string) : (execOp a.eval o).run P w = .ok (.value (.string ⟨l.toArray⟩)) w := by
  have hr : (convert src dst (.slice b n c)).run P w = .ok (.string ⟨l.toArray⟩) w := by
    subst hl
    rcases Sl.at h with hn | ⟨g, off, rfl, hc⟩
    · obtain rfl : l = [] := by simpa using hn
      cases b with
      | none => rw [run_convert_bytes_string w src dst e none _ c hs he hd]; rfl
      | some p => exact run_convert_bytes_back w src dst e p c [] hs he hd (fun j hj => by simp at hj)
    · exact run_convert_bytes_back w src dst e _ c l hs he hd (fun j hj => by rw [Addr.add_mid]; exact hc j _ (by simp [List.getElem?_eq_getElem hj, bv]))
  simp only [execOp, ho, hx, Sem.run_bind, hr]; rfl
theorem u8_nat (n : Nat) : IntKind.u8.wrap (n : Int) = ((UInt8.ofNat n).toNat : Int) := by simp [IntKind.wrap, IntKind.bits, IntKind.signed]
theorem own_someN {w : World} {base n c size : Nat} {e : TypeId} {p : Option Addr} {xs : List Value} (h : w.ownsRow base e size (.slice p n c) n xs) (hn : 0 < n) : ∃ g, p = some ⟨g, 0, none⟩ ∧ n ≤ c := by
  rcases h.2 with ⟨_, h0⟩ | ⟨g, cap, cur, hv, _, _, hc, _⟩
  · omega
  · simp only [Value.slice.injEq] at hv; exact ⟨g, hv.1, by omega⟩
/-- k blocks from f on, each sealed -/
def layB (l : List UInt8) (kind : Int) (f : Nat) : Nat → List UInt8
  | 0 => l
  | k + 1 => putB (layB l kind f k) ((f + k) * 256) (sealB kind ((f + k : Nat) : Int) [UInt8.ofNat (f + k)])
set_option maxRecDepth 100000 in
theorem layB_len {l : List UInt8} {kind : Int} {f : Nat} : ∀ {k : Nat}, (f + k) * 256 ≤ l.length → (layB l kind f k).length = l.length
  | 0, _ => by simp only [layB]
  | k + 1, h => by
    have ih := layB_len (kind := kind) (f := f) (k := k) (l := l) (by omega)
    rw [layB, putB_len (by rw [sealB_len (by simp), ih]; omega), ih]
theorem putB_take {l : List UInt8} {k m : Nat} {x : List UInt8} (h : m ≤ k) (hk : k ≤ l.length) : (putB l k x).take m = l.take m := by
  unfold putB
  rw [List.append_assoc, List.take_append_of_le_length (by rw [List.length_take]; omega), List.take_take, Nat.min_eq_left h]
set_option maxRecDepth 100000 in
theorem layB_take {l : List UInt8} {kind : Int} {f : Nat} : ∀ {k : Nat}, (f + k) * 256 ≤ l.length → (layB l kind f k).take (256 * f) = l.take (256 * f)
  | 0, _ => by simp only [layB]
  | k + 1, h => by
    rw [layB, putB_take (by omega) (by rw [layB_len (by omega)]; omega), layB_take (by omega)]
theorem Bys.cap {w : World} {a : Option Addr} {n c : Nat} {l : List UInt8} (h : Bys w (.slice a n c) l) (hl : l.length = n) : n ≤ c := by
  rcases h with ⟨a', c', h1, h2, _⟩ | ⟨b, off, cap, h1, h2, _, _⟩
  · omega
  · simp only [Value.slice.injEq] at h1; omega
theorem image_OfN (a : Option Addr) (c n m : Nat) (l : List UInt8) (w : World) (hn : l.length = n) (hm : min (n / 256) 14400 * 256 = m) (h : Bys w (.slice a n c) l) (hl : n ≤ 100000000) (hc : n ≤ c) :
    Calls Tryz.prog 10 #[.slice a n c] w (RetS (fun w' r => ∃ b p c, r = .pointer (some ⟨b, 0, none⟩) ∧ w.heap.size ≤ b ∧ Blk w' b [.slice p m c] 100 ∧ w'.ownsRow w.heap.size 5 1 (.slice p m c) m ((l.take m).map bv)) w) := by
  subst hn hm; exact image_Of a c l w h hl hc
end Go.Proofs.YtinegkldgjhnpaaGreatDoor
namespace Go.Proofs.YtinegkldgjhnpaaGreatDoor
open Go.RowKit Go.Extern.Stop Go.Stop Go.Extern
set_option linter.unusedVariables false
attribute [local irreducible] wpList wpAnyH Code.wp Oper.wp Go

section
variable {P : Program} {a : Act}
/-- a cut of a slice at both bounds -/
theorem run_sliceLHA {o : Oper} {t e : TypeId} {x y y2 : Operand} {b : Option Addr} {n k h c : Nat} {i j : Int} {ki kj : IntKind} (size : Nat) (ho : o.op = .slice t x (some y) (some y2) none) (hx : a.eval x = .slice b n c) (hy : a.eval y = .int ki i) (hi : i = (k : Int)) (hy2 : a.eval y2 = .int kj j) (hj : j = (h : Int)) (hk : k ≤ h) (hc : h ≤ c)
    (ht : P.underlying t = some (.slice e)) (hs : (P.info? e).map (·.size) = some size) (w : World) : (execOp a.eval o).run P w = .ok (.value (.slice (cutA b k c size) (h - k) (c - k))) w := by
  cases hq : P.info? e with
  | none => simp [hq] at hs
  | some q =>
    have hj' : q.size = size := by simpa [hq] using hs
    subst hi hj
    have h1 : (0 : Int) ≤ (k : Int) := by omega
    have h2 : (0 : Int) ≤ (h : Int) := by omega
    have h3 : (k : Int) ≤ (h : Int) := by omega
    have h4 : (h : Int) ≤ (c : Int) := by omega
    by_cases h5 : c = k
    · simp_all [execOp, Instr.sliceAt, Instr.slice, Instr.sliceBounds, Instr.sliceBound, asIntOf, run_underlying ht, sizeOf, typeInfo, cutA]
    · simp_all [execOp, Instr.sliceAt, Instr.slice, Instr.sliceBounds, Instr.sliceBound, asIntOf, run_underlying ht, sizeOf, typeInfo, cutA]
end
theorem Bys.cut {w : World} {b : Option Addr} {n c : Nat} {l : List UInt8} (h : Bys w (.slice b n c) l) (hl : l.length = n) (k m : Nat) (hk : k ≤ m) (hm : m ≤ n) : Bys w (.slice (cutA b k c 1) (m - k) (c - k)) ((l.drop k).take (m - k)) := by
  have hlen : ((l.drop k).take (m - k)).length = m - k := by simp; omega
  have hcap := Bys.cap h hl
  rcases h with ⟨a', c', h1, h2, h3⟩ | ⟨g, off, cap, h1, h2, h3, h4⟩
  · obtain rfl : k = 0 := by omega
    obtain rfl : m = 0 := by omega
    refine .inl ⟨cutA b 0 c 1, c - 0, ?_, by simp, by simp⟩
    simp
  · simp only [Value.slice.injEq] at h1
    obtain ⟨rfl, _, rfl⟩ := h1
    by_cases hz : m - k = 0
    · refine .inl ⟨cutA (some ⟨g, off, none⟩) k c 1, c - k, by rw [hz], by omega, ?_⟩
      rw [hz]; rfl
    · refine .inr ⟨g, off + k * 1, c - k, ?_, by omega, by omega, fun j x hj => ?_⟩
      · rw [cutA, if_neg (by omega), hlen]; simp [Addr.add]
      · rw [List.getElem?_map, List.getElem?_take] at hj
        split at hj
        · rw [List.getElem?_drop] at hj
          have := h4 (k + j) x (by rw [List.getElem?_map]; exact hj)
          rwa [Nat.mul_one, Nat.add_assoc]
        · cases hj
/-- whether all bytes are 0 -/
def zeroB (l : List UInt8) : Bool := l.all (· == 0)
theorem zeroB_true {l : List UInt8} (h : ∀ j, j < l.length → l.getD j 0 = 0) : zeroB l = true := by
  unfold zeroB
  rw [List.all_eq_true]
  intro x hx
  obtain ⟨j, hj, rfl⟩ := List.mem_iff_getElem.1 hx
  have := h j hj
  simpa [List.getD, hj] using this
theorem zeroB_false {l : List UInt8} {j : Nat} (hj : j < l.length) (h : ((l.getD j 0).toNat : Int) ≠ 0) : zeroB l = false := by
  unfold zeroB
  rw [List.all_eq_false]
  refine ⟨l[j], List.getElem_mem hj, ?_⟩
  intro h2
  apply h
  have : l[j] = 0 := by simpa using h2
  simp [List.getD, hj, this]
theorem byte_zero {x : UInt8} (h : (x.toNat : Int) = 0) : x = 0 := by
  have h1 : x.toNat = 0 := by omega
  exact UInt8.toNat_inj.1 (by rw [h1]; rfl)
set_option maxRecDepth 100000 in
set_option maxHeartbeats 1000000 in
theorem zero_1 (n : Int) (w : World) :
    Calls Tryz.prog 144 #[.int .u8 n] w (Ret (.bool (n != 0)) w) := by
 refine zin 5 Tryz.func144 ?_
 exact xe 13 (.bool (n != (0 : Int))) ⟨rfl, (Below.refl w.heap.size _)⟩
set_option maxRecDepth 100000 in
set_option maxHeartbeats 2000000 in
theorem indexZero (a : Option Addr) (c : Nat) (l : List UInt8) (w : World) (hl : l.length ≤ 100000000) (h : Bys w (.slice a l.length c) l) :
    Calls Tryz.prog 163 #[.slice a l.length c, .func (.func 144) #[] #[]] w (fun e w' => (zeroB l = true ∧ e = .returned (.int .i64 (-1)) ∧ Below w.heap.size w w') ∨ (zeroB l = false ∧ ∃ i : Nat, e = .returned (.int .i64 (i : Int)) ∧ Below w.heap.size w w')) := by
 refine zin 19 Tryz.func163 ?_
 have hB := Below.refl w.heap.size w
 refine zl 14 19 (fun zm zkv V => ∃ (i : Nat), zkv = [(0, .slice a l.length c), (1, .func (.func 144) #[] #[]), (7, .int .i64 (↑l.length : Int)), (8, .int .i64 (↑i : Int))] ∧ zm = l.length - ((↑i : Int)).toNat ∧ Below w.heap.size w V ∧ i ≤ l.length ∧ (∀ j, j < i → l.getD j 0 = 0)) ⟨0, rfl, rfl, hB, Nat.zero_le _, ?_⟩ ?_
 · exact fun j hj => absurd hj (by omega)
 rintro _ _ W1 ⟨i, rfl, rfl, hB_1, hi, hz⟩ J1 hJ1 r1
 refine xid 6 ((↑i : Int) < (↑l.length : Int)) (fun hc2 => ?_) (fun hc2 => ?_)
 · refine xx 15 _ l.length i 1 (Bys.elem h (k := i) (by omega)).1 ?_
   refine xl 0 ((Bys.elem (h.below hB_1) (k := i) (by omega)).2) ?_
   refine xr 0 (args := #[.int .u8 (↑(l.getD i 0).toNat : Int)]) (zero_1 (↑(l.getD i 0).toNat : Int) _) fun W3 hb3 => ?_
   refine xin 2 (↑(l.getD i 0).toNat : Int) (0 : Int) (fun hc4 => ?_) (fun hc4 => ?_)
   · have hB'1 := Bl.next hB_1 hb3
     exact xe 12 (.int .i64 (↑i : Int)) (.inr ⟨zeroB_false (j := i) (by omega) (by assumption), _, rfl, hB'1⟩)
   refine xwm 4 ((↑i : Int) + 1) (↑(i + 1) : Int) ?_
   have hB'2 := Bl.next hB_1 hb3
   exact ze 2 (hJ1 _ _ _ ⟨i + 1, rfl, rfl, hB'2, by omega, fun j hj => (Nat.lt_or_ge j i).elim (hz j) (fun q => by obtain rfl : j = i := (by omega); exact byte_zero (by assumption))⟩ (by omega))
 exact xe 11 (.int .i64 (-1)) (.inl ⟨zeroB_true (fun j hj => hz j (by omega)), rfl, hB_1⟩)
set_option maxRecDepth 100000 in
set_option maxHeartbeats 1000000 in
theorem containsZero (a : Option Addr) (c : Nat) (l : List UInt8) (w : World) (hl : l.length ≤ 100000000) (h : Bys w (.slice a l.length c) l) :
    Calls Tryz.prog 143 #[.slice a l.length c, .func (.func 144) #[] #[]] w (Ret (.bool (!zeroB l)) w) := by
 refine zin 9 Tryz.func143 ?_
 refine xc 9 (args := #[.slice a l.length c, .func (.func 144) #[] #[]]) (indexZero a c l _ hl (h.below (Below.refl w.heap.size _))) ?_
 rintro e W1 hq1
 rcases hq1 with ⟨hz, rfl, hb1⟩ | ⟨hz, i0, rfl, hb1⟩
 · refine xe 5 (.bool false) ?_
   rw [hz]; exact ⟨rfl, hb1⟩
 refine xe 5 (.bool (decide ((↑i0 : Int) ≥ (0 : Int)))) ?_
 rw [hz, show decide ((↑i0 : Int) ≥ (0 : Int)) = true from decide_eq_true (by omega)]; exact ⟨rfl, hb1⟩
set_option maxRecDepth 100000 in
set_option maxHeartbeats 1000000 in
theorem code_Zero (a : Option Addr) (c : Nat) (l : List UInt8) (w : World) (hl : l.length ≤ 100000000) (h : Bys w (.slice a l.length c) l) :
    Calls Tryz.prog 102 #[.slice a l.length c] w (Ret (.bool (zeroB l)) w) := by
 refine zin 6 Tryz.func102 ?_
 refine xr 8 (args := #[.slice a l.length c, .func (.func 144) #[] #[]]) (containsZero a c l _ hl (h.below (Below.refl w.heap.size _))) fun W1 hb1 => ?_
 refine xe 5 (.bool (!(!zeroB l))) ?_
 rw [Bool.not_not]; exact ⟨rfl, hb1⟩
/-- a kind and a number that may be -/
def knownB (kind no : Int) : Bool := decide (1 ≤ kind ∧ kind ≤ 4 ∧ 0 ≤ no ∧ no < 14400)
set_option maxRecDepth 100000 in
set_option maxHeartbeats 1000000 in
theorem seal_knownB (kind no : Int) (w : World) :
    Calls Tryz.prog 94 #[.int .i64 kind, .int .i64 no] w (Ret (.bool (knownB kind no)) w) := by
 refine zin 19 Tryz.func94 ?_
 refine xg 10 [6, 7] (decide (kind ≥ (1 : Int))) (fun hc1 => ?_) (fun hc1 => ?_)
 · have hc1 := of_decide_eq_true hc1
   refine xg 4 [9, 10, 11] (decide (kind ≤ (4 : Int))) (fun hc2 => ?_) (fun hc2 => ?_)
   · have hc2 := of_decide_eq_true hc2
     refine xg 4 [13, 14, 15] (decide (no ≥ (0 : Int))) (fun hc3 => ?_) (fun hc3 => ?_)
     · have hc3 := of_decide_eq_true hc3
       exact xe 7 (.bool (decide (no < (14400 : Int)))) ⟨by rw [show knownB kind no = decide (no < 14400) from decide_eq_decide.2 ⟨fun h => h.2.2.2, fun h => ⟨by omega, by omega, by omega, h⟩⟩], (Below.refl w.heap.size _)⟩
     have hc3 := of_decide_eq_false hc3
     exact xe 7 (.bool false) ⟨by rw [show knownB kind no = false from decide_eq_false (by omega)], (Below.refl w.heap.size _)⟩
   have hc2 := of_decide_eq_false hc2
   exact xe 11 (.bool false) ⟨by rw [show knownB kind no = false from decide_eq_false (by omega)], (Below.refl w.heap.size _)⟩
 have hc1 := of_decide_eq_false hc1
 exact xe 15 (.bool false) ⟨by rw [show knownB kind no = false from decide_eq_false (by omega)], (Below.refl w.heap.size _)⟩
set_option maxRecDepth 100000 in
set_option maxHeartbeats 1000000 in
theorem seal_told (a : Option Addr) (c k w : Nat) (l : List UInt8) (W : World) (hw : w = 1 ∨ w = 2 ∨ w = 4) (hk : k + w ≤ l.length) (hl : l.length ≤ 100000000) (h : Bys W (.slice a l.length c) l) :
    Calls Tryz.prog 138 #[.slice a l.length c, .int .i64 (↑k : Int), .int .i64 (↑w : Int)] W (Ret (.int .i64 (rawN l k w : Int)) W) := by
 refine zin 17 Tryz.func138 ?_
 refine xr 10 (args := #[.slice a l.length c, .int .i64 (↑k : Int), .int .i64 (↑w : Int)]) (Get_ok a c k w l _ (by omega) hk hl (h.below (Below.refl W.heap.size _)) (by have := rawN_lt4 l k w (by omega); omega)) fun W1 hb1 => ?_
 exact xe 14 (.int .i64 (↑(rawN l k w) : Int)) ⟨rfl, hb1⟩
theorem seal_toldN (a : Option Addr) (n c k w : Nat) (ki wi : Int) (l : List UInt8) (W : World) (hn : l.length = n) (hki : ki = (k : Int)) (hwi : wi = (w : Int)) (hw : w = 1 ∨ w = 2 ∨ w = 4) (hk : k + w ≤ n) (hl : n ≤ 100000000) (h : Bys W (.slice a n c) l) :
    Calls Tryz.prog 138 #[.slice a n c, .int .i64 ki, .int .i64 wi] W (Ret (.int .i64 (rawN l k w : Int)) W) := by
  subst hn hki hwi; exact seal_told a c k w l W hw hk hl h
/-- what Open asks, in order -/
def askB (kind no : Int) (l : List UInt8) : Nat → Bool
  | 0 => !knownB kind no
  | 1 => (l.length : Int) != 256
  | 2 => (rawN l 252 4 : Int) != (sumB l kind : Int)
  | 3 => (rawN l 0 4 : Int) != no
  | 4 => (rawN l 4 2 : Int) != kind
  | _ => (rawN l 6 2 : Int) != 0
/-- the number of the first that is so; 0: none -/
def openE (kind no : Int) (l : List UInt8) : Int :=
  if askB kind no l 0 then 1 else if askB kind no l 1 then 7 else if askB kind no l 2 then 4 else if askB kind no l 3 then 5 else if askB kind no l 4 then 6 else if askB kind no l 5 then 7 else 0
theorem ask1 {kind no : Int} {l : List UInt8} (h : askB kind no l 1 = false) : l.length = 256 := by
  have : (l.length : Int) = 256 := eq_of_bne_false h
  omega
set_option maxRecDepth 100000 in
set_option maxHeartbeats 1000000 in
theorem open_1 (kind no : Int) (w : World) (l : List UInt8) (bk : Nat) (kk : Blk w bk [.int .i64 kind] 3) (bn : Nat) (kn : Blk w bn [.int .i64 no] 3) :
    Calls Tryz.prog 135 #[.pointer (some ⟨bk, 0, none⟩), .pointer (some ⟨bn, 0, none⟩)] w (Ret (.bool (askB kind no l 0)) w) := by
 refine zin 7 Tryz.func135 ?_
 refine xb 7 0 kk ?_
 refine xb 0 0 kn ?_
 refine xr 0 (args := #[.int .i64 kind, .int .i64 no]) (seal_knownB kind no _) fun W1 hb1 => ?_
 exact xe 5 (.bool (!(knownB kind no))) ⟨rfl, hb1⟩
set_option maxRecDepth 100000 in
set_option maxHeartbeats 1000000 in
theorem open_2 (kind no : Int) (w : World) (bb : Nat) (a : Option Addr) (c : Nat) (l : List UInt8) (kb : Blk w bb [.slice a l.length c] 22) :
    Calls Tryz.prog 136 #[.pointer (some ⟨bb, 0, none⟩)] w (Ret (.bool (askB kind no l 1)) w) := by
 refine zin 5 Tryz.func136 ?_
 refine xb 7 0 kb ?_
 exact xe 6 (.bool ((↑l.length : Int) != (256 : Int))) ⟨rfl, (Below.refl w.heap.size _)⟩
theorem seal_sumN (kind : Int) (a : Option Addr) (c n : Nat) (l : List UInt8) (w : World) (hn : l.length = n) (h256 : n = 256) (hc : 256 ≤ c) (h : Bys w (.slice a n c) l) :
    Calls Tryz.prog 96 #[.slice a n c, .int .i64 kind] w (Ret (.int .i64 (sumB l kind : Int)) w) := by
  subst h256; exact seal_sum kind a c l w hn hc h
set_option maxRecDepth 100000 in
set_option maxHeartbeats 1000000 in
theorem open_3 (kind no : Int) (w : World) (bb : Nat) (a : Option Addr) (c : Nat) (l : List UInt8) (kb : Blk w bb [.slice a l.length c] 22) (bk : Nat) (kk : Blk w bk [.int .i64 kind] 3) (hl : l.length = 256) (hc : 256 ≤ c) (h : Bys w (.slice a l.length c) l) :
    Calls Tryz.prog 137 #[.pointer (some ⟨bb, 0, none⟩), .pointer (some ⟨bk, 0, none⟩)] w (Ret (.bool (askB kind no l 2)) w) := by
 refine zin 9 Tryz.func137 ?_
 refine xd 6 .z ?_
 have kb'1 := kb.below (below_drew w)
 refine xb (.e [] 0) 0 kb'1 ?_
 refine xb (.e [] 2) 0 kb'1 ?_
 have kk'1 := kk.below (below_drew w)
 refine xb (.e [] 3) 0 kk'1 ?_
 have hB := (below_drew w)
 refine xr (.o [] 1) (args := #[.slice a l.length c, .int .i64 252, .int .i64 4]) (seal_toldN a l.length c 252 4 252 4 l _ rfl rfl rfl (by decide) (by omega) (by omega) (h.below hB)) fun W1 hb1 => ?_
 have hB'1 := Bl.next hB hb1
 refine xr (.o [] 4) (args := #[.slice a l.length c, .int .i64 kind]) (seal_sumN kind a c l.length l _ rfl hl hc (h.below hB'1)) fun W2 hb2 => ?_
 have hB'2 := Bl.next hB'1 hb2
 exact xe (.r [5, 6] 3) (.bool ((↑(rawN l 252 4) : Int) != (↑(sumB l kind) : Int))) ⟨rfl, hB'2⟩
set_option maxRecDepth 100000 in
set_option maxHeartbeats 1000000 in
theorem open_4 (kind no : Int) (w : World) (bb : Nat) (a : Option Addr) (c : Nat) (l : List UInt8) (kb : Blk w bb [.slice a l.length c] 22) (bn : Nat) (kn : Blk w bn [.int .i64 no] 3) (hl : l.length = 256) (hc : 256 ≤ c) (h : Bys w (.slice a l.length c) l) :
    Calls Tryz.prog 139 #[.pointer (some ⟨bb, 0, none⟩), .pointer (some ⟨bn, 0, none⟩)] w (Ret (.bool (askB kind no l 3)) w) := by
 refine zin 7 Tryz.func139 ?_
 refine xd 6 .z ?_
 have kb'1 := kb.below (below_drew w)
 refine xb (.e [] 0) 0 kb'1 ?_
 have kn'1 := kn.below (below_drew w)
 refine xb (.e [] 2) 0 kn'1 ?_
 have hB := (below_drew w)
 refine xr (.o [] 1) (args := #[.slice a l.length c, .int .i64 0, .int .i64 4]) (seal_toldN a l.length c 0 4 0 4 l _ rfl rfl rfl (by decide) (by omega) (by omega) (h.below hB)) fun W1 hb1 => ?_
 have hB'1 := Bl.next hB hb1
 exact xe (.r [3, 4] 3) (.bool ((↑(rawN l 0 4) : Int) != no)) ⟨rfl, hB'1⟩
set_option maxRecDepth 100000 in
set_option maxHeartbeats 1000000 in
theorem open_5 (kind no : Int) (w : World) (bb : Nat) (a : Option Addr) (c : Nat) (l : List UInt8) (kb : Blk w bb [.slice a l.length c] 22) (bk : Nat) (kk : Blk w bk [.int .i64 kind] 3) (hl : l.length = 256) (hc : 256 ≤ c) (h : Bys w (.slice a l.length c) l) :
    Calls Tryz.prog 140 #[.pointer (some ⟨bb, 0, none⟩), .pointer (some ⟨bk, 0, none⟩)] w (Ret (.bool (askB kind no l 4)) w) := by
 refine zin 7 Tryz.func140 ?_
 refine xd 6 .z ?_
 have kb'1 := kb.below (below_drew w)
 refine xb (.e [] 0) 0 kb'1 ?_
 have kk'1 := kk.below (below_drew w)
 refine xb (.e [] 2) 0 kk'1 ?_
 have hB := (below_drew w)
 refine xr (.o [] 1) (args := #[.slice a l.length c, .int .i64 4, .int .i64 2]) (seal_toldN a l.length c 4 2 4 2 l _ rfl rfl rfl (by decide) (by omega) (by omega) (h.below hB)) fun W1 hb1 => ?_
 have hB'1 := Bl.next hB hb1
 exact xe (.r [3, 4] 3) (.bool ((↑(rawN l 4 2) : Int) != kind)) ⟨rfl, hB'1⟩
set_option maxRecDepth 100000 in
set_option maxHeartbeats 1000000 in
theorem open_6 (kind no : Int) (w : World) (bb : Nat) (a : Option Addr) (c : Nat) (l : List UInt8) (kb : Blk w bb [.slice a l.length c] 22) (hl : l.length = 256) (hc : 256 ≤ c) (h : Bys w (.slice a l.length c) l) :
    Calls Tryz.prog 141 #[.pointer (some ⟨bb, 0, none⟩)] w (Ret (.bool (askB kind no l 5)) w) := by
 refine zin 5 Tryz.func141 ?_
 refine xb 7 0 kb ?_
 refine xr 0 (args := #[.slice a l.length c, .int .i64 6, .int .i64 2]) (seal_toldN a l.length c 6 2 6 2 l _ rfl rfl rfl (by decide) (by omega) (by omega) (h.below (Below.refl w.heap.size _))) fun W1 hb1 => ?_
 exact xe 5 (.bool ((↑(rawN l 6 2) : Int) != (0 : Int))) ⟨rfl, hb1⟩
/-- what Open hands back -/
def OpenP (kind no : Int) (l : List UInt8) (w : World) (e : Ending) (w' : World) : Prop :=
  (openE kind no l ≠ 0 ∧ e = .returned (.tuple #[.slice none 0 0, .int .i64 (openE kind no l)]) ∧ Below w.heap.size w w') ∨
  (openE kind no l = 0 ∧ ∃ p c, e = .returned (.tuple #[.slice p 244 c, .int .i64 0]) ∧ Below w.heap.size w w' ∧ w'.ownsRow w.heap.size 5 1 (.slice p 244 c) 244 (((l.drop 8).take 244).map bv))
set_option maxRecDepth 100000 in
set_option maxHeartbeats 4000000 in
theorem seal_Open (kind no : Int) (a : Option Addr) (c : Nat) (l : List UInt8) (w : World) (h : Bys w (.slice a l.length c) l) :
    Calls Tryz.prog 100 #[.slice a l.length c, .int .i64 kind, .int .i64 no] w (OpenP kind no l w) := by
 have hcap := h.cap rfl
 refine zin 39 Tryz.func100 ?_
 refine xa 2 [.slice a l.length c] 22 fun b1 W1 n1 => ?_
 refine xa 0 [.int .i64 kind] 3 fun b2 W2 n2 => ?_
 refine xa 0 [.int .i64 no] 3 fun b3 W3 n3 => ?_
 have d3_b2 := n3.ne n2.blk
 refine xbs 18 6 [.func (.func 135) #[] #[.pointer (some ⟨b2, 0, none⟩), .pointer (some ⟨b3, 0, none⟩)], .int .i64 1, .func (.func 136) #[] #[.pointer (some ⟨b1, 0, none⟩)], .int .i64 7, .func (.func 137) #[] #[.pointer (some ⟨b1, 0, none⟩), .pointer (some ⟨b2, 0, none⟩)], .int .i64 4, .func (.func 139) #[] #[.pointer (some ⟨b1, 0, none⟩), .pointer (some ⟨b3, 0, none⟩)], .int .i64 5, .func (.func 140) #[] #[.pointer (some ⟨b1, 0, none⟩), .pointer (some ⟨b2, 0, none⟩)], .int .i64 6, .func (.func 141) #[] #[.pointer (some ⟨b1, 0, none⟩)], .int .i64 7] 243 fun b4 W4 n4 => ?_
 refine xu 12 7 ?_
 refine xlv 14 (n4.blk.rpp 0 2) ?_
 refine xa 0 [.nilFunc, .int .i64 0] 243 fun b5 W5 n5 => ?_
 have d5_b4 := n5.ne n4.blk
 refine xsv 0 n5.blk [.func (.func 135) #[] #[.pointer (some ⟨b2, 0, none⟩), .pointer (some ⟨b3, 0, none⟩)], .int .i64 1] fun W6 u6 k6 => ?_
 have g5 := n5.ge (Bl.next (Bl.next (Bl.next n1.below n2.below) n3.below) n4.below)
 refine xb 5 0 k6 ?_
 have k2'1 := u6.blkT (((n2.blk.below n3.below).below n4.below).below n5.below) n5.blk (by decide)
 have k3 := u6.blkT ((n3.blk.below n4.below).below n5.below) n5.blk (by decide)
 refine xr 0 (args := #[.pointer (some ⟨b2, 0, none⟩), .pointer (some ⟨b3, 0, none⟩)]) (open_1 kind no _ l b2 k2'1 b3 k3) fun W7 hb7 => ?_
 refine xi 2 (askB kind no l 0) (fun hc8 => ?_) (fun hc8 => ?_)
 · have hk1 := hc8
   refine xd 1 .z ?_
   have k6'1 := (k6.below hb7).below (below_drew W7)
   refine xb (.e [0] 1) 1 k6'1 ?_
   have hB := Bl.next (Bl.next (u6.below (Bl.next (Bl.next (Bl.next (Bl.next n1.below n2.below) n3.below) n4.below) n5.below) g5) hb7) (below_drew W7)
   refine xe (.r [2, 3] 8) (.tuple #[.slice none 0 0, .int .i64 1]) ?_
   have he : openE kind no l = 1 := by simp [openE, hk1]
   exact .inl ⟨by rw [he]; decide, by rw [he], hB⟩
 have hk1 := hc8
 have k4'1 := (u6.blk (n4.blk.below n5.below) (Ne.symm (Ne.symm d5_b4))).below hb7
 refine xlv 22 (k4'1.rpp 2 2) ?_
 refine xa 0 [.nilFunc, .int .i64 0] 243 fun b9 W9 n9 => ?_
 have d9_b4 := n9.ne k4'1
 have k6'2 := k6.below hb7
 have d9_b5 := n9.ne k6'2
 refine xsv 0 n9.blk [.func (.func 136) #[] #[.pointer (some ⟨b1, 0, none⟩)], .int .i64 7] fun W10 u10 k10 => ?_
 have g9 := n9.ge (Bl.next (u6.below (Bl.next (Bl.next (Bl.next (Bl.next n1.below n2.below) n3.below) n4.below) n5.below) g5) hb7)
 refine xb 5 0 k10 ?_
 have k1 := u10.blkT (((u6.blkT ((((n1.blk.below n2.below).below n3.below).below n4.below).below n5.below) n5.blk (by decide)).below hb7).below n9.below) n9.blk (by decide)
 refine xr 0 (args := #[.pointer (some ⟨b1, 0, none⟩)]) (open_2 kind no _ b1 a c l k1) fun W11 hb11 => ?_
 refine xi 2 (askB kind no l 1) (fun hc12 => ?_) (fun hc12 => ?_)
 · have hk2 := hc12
   refine xd 1 .z ?_
   have k10'1 := (k10.below hb11).below (below_drew W11)
   refine xb (.e [0] 1) 1 k10'1 ?_
   have hB := Bl.next (Bl.next (u10.below (Bl.next (Bl.next (u6.below (Bl.next (Bl.next (Bl.next (Bl.next n1.below n2.below) n3.below) n4.below) n5.below) g5) hb7) n9.below) g9) hb11) (below_drew W11)
   refine xe (.r [2, 3] 8) (.tuple #[.slice none 0 0, .int .i64 7]) ?_
   have he : openE kind no l = 7 := by simp [openE, hk1, hk2]
   exact .inl ⟨by rw [he]; decide, by rw [he], hB⟩
 have hk2 := hc12
 have hl256 := ask1 hk2
 have k4'2 := (u10.blk (k4'1.below n9.below) (Ne.symm (Ne.symm d9_b4))).below hb11
 refine xlv 22 (k4'2.rpp 4 2) ?_
 refine xa 0 [.nilFunc, .int .i64 0] 243 fun b13 W13 n13 => ?_
 have d13_b4 := n13.ne k4'2
 have k6'3 := (u10.blk (k6'2.below n9.below) (Ne.symm (Ne.symm d9_b5))).below hb11
 have d13_b5 := n13.ne k6'3
 have k10'2 := k10.below hb11
 have d13_b9 := n13.ne k10'2
 have hB := Bl.next (u10.below (Bl.next (Bl.next (u6.below (Bl.next (Bl.next (Bl.next (Bl.next n1.below n2.below) n3.below) n4.below) n5.below) g5) hb7) n9.below) g9) hb11
 refine xsv 0 n13.blk [.func (.func 137) #[] #[.pointer (some ⟨b1, 0, none⟩), .pointer (some ⟨b2, 0, none⟩)], .int .i64 4] fun W14 u14 k14 => ?_
 have g13 := n13.ge hB
 refine xb 5 0 k14 ?_
 have k1'1 := u14.blkT ((k1.below hb11).below n13.below) n13.blk (by decide)
 have k2'2 := u14.blkT (((u10.blkT ((k2'1.below hb7).below n9.below) n9.blk (by decide)).below hb11).below n13.below) n13.blk (by decide)
 have hB'1 := u14.below (Bl.next hB n13.below) g13
 refine xr 0 (args := #[.pointer (some ⟨b1, 0, none⟩), .pointer (some ⟨b2, 0, none⟩)]) (open_3 kind no _ b1 a c l k1'1 b2 k2'2 (ask1 hk2) (by have := ask1 hk2; have := h.cap rfl; omega) (h.below hB'1)) fun W15 hb15 => ?_
 refine xi 2 (askB kind no l 2) (fun hc16 => ?_) (fun hc16 => ?_)
 · have hk3 := hc16
   refine xd 1 .z ?_
   have k14'1 := (k14.below hb15).below (below_drew W15)
   refine xb (.e [0] 1) 1 k14'1 ?_
   have hB'2 := Bl.next (Bl.next hB'1 hb15) (below_drew W15)
   refine xe (.r [2, 3] 8) (.tuple #[.slice none 0 0, .int .i64 4]) ?_
   have he : openE kind no l = 4 := by simp [openE, hk1, hk2, hk3]
   exact .inl ⟨by rw [he]; decide, by rw [he], hB'2⟩
 have hk3 := hc16
 have k4'3 := (u14.blk (k4'2.below n13.below) (Ne.symm (Ne.symm d13_b4))).below hb15
 refine xlv 22 (k4'3.rpp 6 2) ?_
 refine xa 0 [.nilFunc, .int .i64 0] 243 fun b17 W17 n17 => ?_
 have d17_b4 := n17.ne k4'3
 have k6'4 := (u14.blk (k6'3.below n13.below) (Ne.symm (Ne.symm d13_b5))).below hb15
 have d17_b5 := n17.ne k6'4
 have k10'3 := (u14.blk (k10'2.below n13.below) (Ne.symm (Ne.symm d13_b9))).below hb15
 have d17_b9 := n17.ne k10'3
 have k14'2 := k14.below hb15
 have d17_b13 := n17.ne k14'2
 refine xsv 0 n17.blk [.func (.func 139) #[] #[.pointer (some ⟨b1, 0, none⟩), .pointer (some ⟨b3, 0, none⟩)], .int .i64 5] fun W18 u18 k18 => ?_
 have g17 := n17.ge (Bl.next hB'1 hb15)
 refine xb 5 0 k18 ?_
 have k1'2 := u18.blkT ((k1'1.below hb15).below n17.below) n17.blk (by decide)
 have k3'1 := u18.blkT (((u14.blkT (((u10.blkT ((k3.below hb7).below n9.below) n9.blk (by decide)).below hb11).below n13.below) n13.blk (by decide)).below hb15).below n17.below) n17.blk (by decide)
 have hB'3 := u18.below (Bl.next (Bl.next hB'1 hb15) n17.below) g17
 refine xr 0 (args := #[.pointer (some ⟨b1, 0, none⟩), .pointer (some ⟨b3, 0, none⟩)]) (open_4 kind no _ b1 a c l k1'2 b3 k3'1 (ask1 hk2) (by have := ask1 hk2; have := h.cap rfl; omega) (h.below hB'3)) fun W19 hb19 => ?_
 refine xi 2 (askB kind no l 3) (fun hc20 => ?_) (fun hc20 => ?_)
 · have hk4 := hc20
   refine xd 1 .z ?_
   have k18'1 := (k18.below hb19).below (below_drew W19)
   refine xb (.e [0] 1) 1 k18'1 ?_
   have hB'4 := Bl.next (Bl.next hB'3 hb19) (below_drew W19)
   refine xe (.r [2, 3] 8) (.tuple #[.slice none 0 0, .int .i64 5]) ?_
   have he : openE kind no l = 5 := by simp [openE, hk1, hk2, hk3, hk4]
   exact .inl ⟨by rw [he]; decide, by rw [he], hB'4⟩
 have hk4 := hc20
 have k4'4 := (u18.blk (k4'3.below n17.below) (Ne.symm (Ne.symm d17_b4))).below hb19
 refine xlv 22 (k4'4.rpp 8 2) ?_
 refine xa 0 [.nilFunc, .int .i64 0] 243 fun b21 W21 n21 => ?_
 have d21_b4 := n21.ne k4'4
 have k6'5 := (u18.blk (k6'4.below n17.below) (Ne.symm (Ne.symm d17_b5))).below hb19
 have d21_b5 := n21.ne k6'5
 have k10'4 := (u18.blk (k10'3.below n17.below) (Ne.symm (Ne.symm d17_b9))).below hb19
 have d21_b9 := n21.ne k10'4
 have k14'3 := (u18.blk (k14'2.below n17.below) (Ne.symm (Ne.symm d17_b13))).below hb19
 have d21_b13 := n21.ne k14'3
 have k18'2 := k18.below hb19
 have d21_b17 := n21.ne k18'2
 refine xsv 0 n21.blk [.func (.func 140) #[] #[.pointer (some ⟨b1, 0, none⟩), .pointer (some ⟨b2, 0, none⟩)], .int .i64 6] fun W22 u22 k22 => ?_
 have g21 := n21.ge (Bl.next hB'3 hb19)
 refine xb 5 0 k22 ?_
 have k1'3 := u22.blkT ((k1'2.below hb19).below n21.below) n21.blk (by decide)
 have k2'3 := u22.blkT (((u18.blkT ((k2'2.below hb15).below n17.below) n17.blk (by decide)).below hb19).below n21.below) n21.blk (by decide)
 have hB'5 := u22.below (Bl.next (Bl.next hB'3 hb19) n21.below) g21
 refine xr 0 (args := #[.pointer (some ⟨b1, 0, none⟩), .pointer (some ⟨b2, 0, none⟩)]) (open_5 kind no _ b1 a c l k1'3 b2 k2'3 (ask1 hk2) (by have := ask1 hk2; have := h.cap rfl; omega) (h.below hB'5)) fun W23 hb23 => ?_
 refine xi 2 (askB kind no l 4) (fun hc24 => ?_) (fun hc24 => ?_)
 · have hk5 := hc24
   refine xd 1 .z ?_
   have k22'1 := (k22.below hb23).below (below_drew W23)
   refine xb (.e [0] 1) 1 k22'1 ?_
   have hB'6 := Bl.next (Bl.next hB'5 hb23) (below_drew W23)
   refine xe (.r [2, 3] 8) (.tuple #[.slice none 0 0, .int .i64 6]) ?_
   have he : openE kind no l = 6 := by simp [openE, hk1, hk2, hk3, hk4, hk5]
   exact .inl ⟨by rw [he]; decide, by rw [he], hB'6⟩
 have hk5 := hc24
 have k4'5 := (u22.blk (k4'4.below n21.below) (Ne.symm (Ne.symm d21_b4))).below hb23
 refine xlv 22 (k4'5.rpp 10 2) ?_
 refine xa 0 [.nilFunc, .int .i64 0] 243 fun b25 W25 n25 => ?_
 have d25_b4 := n25.ne k4'5
 have k6'6 := (u22.blk (k6'5.below n21.below) (Ne.symm (Ne.symm d21_b5))).below hb23
 have d25_b5 := n25.ne k6'6
 have k10'5 := (u22.blk (k10'4.below n21.below) (Ne.symm (Ne.symm d21_b9))).below hb23
 have d25_b9 := n25.ne k10'5
 have k14'4 := (u22.blk (k14'3.below n21.below) (Ne.symm (Ne.symm d21_b13))).below hb23
 have d25_b13 := n25.ne k14'4
 have k18'3 := (u22.blk (k18'2.below n21.below) (Ne.symm (Ne.symm d21_b17))).below hb23
 have d25_b17 := n25.ne k18'3
 have k22'2 := k22.below hb23
 have d25_b21 := n25.ne k22'2
 refine xsv 0 n25.blk [.func (.func 141) #[] #[.pointer (some ⟨b1, 0, none⟩)], .int .i64 7] fun W26 u26 k26 => ?_
 have g25 := n25.ge (Bl.next hB'5 hb23)
 refine xb 5 0 k26 ?_
 have k1'4 := u26.blkT ((k1'3.below hb23).below n25.below) n25.blk (by decide)
 have hB'7 := u26.below (Bl.next (Bl.next hB'5 hb23) n25.below) g25
 refine xr 0 (args := #[.pointer (some ⟨b1, 0, none⟩)]) (open_6 kind no _ b1 a c l k1'4  (ask1 hk2) (by have := ask1 hk2; have := h.cap rfl; omega) (h.below hB'7)) fun W27 hb27 => ?_
 refine xi 2 (askB kind no l 5) (fun hc28 => ?_) (fun hc28 => ?_)
 · have hk6 := hc28
   refine xd 1 .z ?_
   have k26'1 := (k26.below hb27).below (below_drew W27)
   refine xb (.e [0] 1) 1 k26'1 ?_
   have hB'8 := Bl.next (Bl.next hB'7 hb27) (below_drew W27)
   refine xe (.r [2, 3] 8) (.tuple #[.slice none 0 0, .int .i64 7]) ?_
   have he : openE kind no l = 7 := by simp [openE, hk1, hk2, hk3, hk4, hk5, hk6]
   exact .inl ⟨by rw [he]; decide, by rw [he], hB'8⟩
 have hk6 := hc28
 have k1'5 := k1'4.below hb27
 refine xb 22 0 k1'5 ?_
 refine xsB 0 (fun _ _ _ _ _ zo zx zy zz V => run_sliceLHA (k := 8) (h := 252) (b := a) (n := l.length) (c := c) (i := 8) (ki := .i64) (j := 252) (kj := .i64) 1 zo zx zy rfl zz rfl (by omega) (by omega) Tryz.underlying22 (by kernel_rfl) V) ?_
 have hB'9 := Bl.next hB'7 hb27
 refine xc 0 (args := #[.slice (cutA a 8 c 1) 244 (c - 8)]) (clone_bytesN (cutA a 8 c 1) 244 (c - 8) ((l.drop 8).take 244) _ (by have := ask1 hk2; simp; omega) ((Bys.cut h rfl 8 252 (by decide) (by have := ask1 hk2; omega)).below hB'9) (by decide)) ?_
 rintro _ W29 ⟨_, rfl, hb29, ho⟩
 have hs29 := (Bl.next hB'7 hb27).size
 have ho'1 := own_mono ho hs29
 unfold OwnB at ho'1
 rw [show ((l.drop 8).take 244).length = 244 from by have := ask1 hk2; simp; omega] at ho'1
 obtain ⟨p, c3, rfl⟩ := (own_sl ho'1).slice
 have hB'10 := Bl.next hB'9 hb29
 exact xe 5 (.tuple #[.slice p 244 c3, .int .i64 0]) (.inr ⟨by simp [openE, hk1, hk2, hk3, hk4, hk5, hk6], _, _, rfl, hB'10, ho'1⟩)
end Go.Proofs.YtinegkldgjhnpaaGreatDoor
namespace Go.Proofs.YtinegkldgjhnpaaGreatDoor
open Go.RowKit Go.Extern.Stop Go.Stop Go.Extern
set_option linter.unusedVariables false
attribute [local irreducible] wpList wpAnyH Code.wp Oper.wp Go

section
variable {P : Program} {a : Act}
theorem run_shrU8 {o : Oper} {t t2 : TypeId} {x y : Operand} {n s : Nat} {j : Int} {kj : IntKind} (ho : o.op = .binOp .shr t x y t2) (hx : a.eval x = .int .u8 (n : Int)) (hy : a.eval y = .int kj j) (hj : j = (s : Int)) (hs : s ≤ 8) (w : World) : (execOp a.eval o).run P w = .ok (.value (.int .u8 ((n / 2 ^ s : Nat) : Int))) w := by
  subst hj
  have e := shift_shr_u8 kj (n : Int) (s : Int) (Int.natCast_nonneg s) (by omega)
  simp only [execOp, ho, hx, hy, eqGuard_shr, binOp_shr, e]
  simp
end
theorem Get_okN (a : Option Addr) (n c k w : Nat) (ki wi : Int) (l : List UInt8) (W : World) (hn : l.length = n) (hki : ki = (k : Int)) (hwi : wi = (w : Int)) (hw : w = 1 ∨ w = 2 ∨ w = 4) (hk : k + w ≤ n) (hl : n ≤ 100000000) (h : Bys W (.slice a n c) l) :
    Calls Tryz.prog 103 #[.slice a n c, .int .i64 ki, .int .i64 wi] W (Ret (.tuple #[.int .i64 (rawN l k w : Int), .int .i64 0]) W) := by
  subst hn hki hwi; exact Get_ok a c k w l W (by omega) hk hl h (by have := rawN_lt4 l k w (by omega); omega)
/-- the i-th count of a block of bits -/
def bitN (l : List UInt8) (i : Nat) : Nat := (l.getD (4 + i / 4) 0).toNat / 2 ^ (i % 4 * 2) % 4
theorem i64_and3 {n : Nat} (h : n < 9223372036854775808) : IntKind.i64.wrap (↑(BitVec.ofInt 64 (n : Int) &&& BitVec.ofInt 64 (3 : Int)).toNat : Int) = ((n % 4 : Nat) : Int) := by
  rw [show (3 : Int) = ((3 : Nat) : Int) from rfl, BitVec.ofInt_natCast, BitVec.ofInt_natCast, BitVec.toNat_and, BitVec.toNat_ofNat, BitVec.toNat_ofNat, Nat.mod_eq_of_lt (by omega), Nat.mod_eq_of_lt (by omega)]
  rw [show n &&& 3 = n % 4 from Nat.and_two_pow_sub_one_eq_mod n 2]
  exact i64_nat (by omega)
theorem quo_natB (n k : Nat) (hn : n < 9223372036854775808) (hk : 0 < k) : IntKind.i64.wrap (Int.tdiv (n : Int) (k : Int)) = ((n / k : Nat) : Int) := by
  rw [Int.tdiv_eq_ediv_of_nonneg (Int.natCast_nonneg _), ← Int.natCast_ediv]
  exact i64_nat (Nat.lt_of_le_of_lt (Nat.div_le_self _ _) hn)
theorem tmod_natB (n k : Nat) : Int.tmod (n : Int) (k : Int) = ((n % k : Nat) : Int) := by
  rw [Int.tmod_eq_emod_of_nonneg (Int.natCast_nonneg _), ← Int.natCast_emod]
theorem shr_lt (l : List UInt8) (k s : Nat) : (l.getD k 0).toNat / 2 ^ s < 256 := Nat.lt_of_le_of_lt (Nat.div_le_self _ _) (l.getD k 0).toNat_lt
def bitsL (l : List UInt8) (n : Nat) : List Nat := (List.range n).map (bitN l)
theorem bitsL_snoc (l : List UInt8) (n : Nat) : bitsL l (n + 1) = bitsL l n ++ [bitN l n] := by simp [bitsL, List.range_succ]
/-- whether bytes are a block of counts -/
def bitsOk (l : List UInt8) : Prop := l.length = 244 ∧ rawN l 0 4 ≤ 960 ∧ ∀ i, i < 960 → rawN l 0 4 ≤ i → bitN l i = 0
def BitsP (l : List UInt8) (w : World) (e : Ending) (w' : World) : Prop :=
  (¬ bitsOk l ∧ e = .returned (.tuple #[.slice none 0 0, .int .i64 7]) ∧ Below w.heap.size w w') ∨
  (bitsOk l ∧ ∃ p c, e = .returned (.tuple #[.slice p (rawN l 0 4) c, .int .i64 0]) ∧ Below w.heap.size w w' ∧ w'.ownsRow w.heap.size 3 1 (.slice p (rawN l 0 4) c) (rawN l 0 4) ((bitsL l (rawN l 0 4)).map nv))
set_option maxRecDepth 100000 in
set_option maxHeartbeats 2000000 in
theorem bits_Read (a : Option Addr) (c : Nat) (l : List UInt8) (w : World) (hl : l.length ≤ 100000000) (h : Bys w (.slice a l.length c) l) :
    Calls Tryz.prog 60 #[.slice a l.length c] w (BitsP l w) := by
 refine zin 47 Tryz.func60 ?_
 refine xin 14 (↑l.length : Int) (244 : Int) (fun hc1 => ?_) (fun hc1 => ?_)
 · exact xe 8 (.tuple #[.slice none 0 0, .int .i64 7]) (.inl ⟨fun h => by have := h.1; omega, rfl, (Below.refl w.heap.size _)⟩)
 refine xr 5 (args := #[.slice a l.length c, .int .i64 0, .int .i64 4]) (Get_okN a l.length c 0 4 0 4 l _ rfl rfl rfl (by decide) (by omega) hl (h.below (Below.refl w.heap.size _))) fun W2 hb2 => ?_
 refine xid 14 ((↑(rawN l 0 4) : Int) > (960 : Int)) (fun hc3 => ?_) (fun hc3 => ?_)
 · exact xe 8 (.tuple #[.slice none 0 0, .int .i64 7]) (.inl ⟨fun h => by have := h.2.1; omega, rfl, hb2⟩)
 refine zl 14 47 (fun zm zkv V => ∃ (i m : Nat) (p : Option Addr) (c2 : Nat), zkv = [(0, .slice a l.length c), (4, .int .i64 (↑(rawN l 0 4) : Int)), (6, .slice p m c2), (19, .int .i64 (↑i : Int))] ∧ zm = 960 - ((↑i : Int)).toNat ∧ Below w.heap.size w V ∧ V.ownsRow w.heap.size 3 1 (.slice p m c2) m ((bitsL l m).map nv) ∧ i ≤ 960 ∧ m = min i (rawN l 0 4) ∧ (∀ j, j < i → rawN l 0 4 ≤ j → bitN l j = 0)) ⟨0, 0, _, _, rfl, rfl, hb2, World.ownsRow_nil _ _ _ _, Nat.zero_le _, by omega, ?_⟩ ?_
 · exact fun j hj => absurd hj (by omega)
 rintro _ _ W4 ⟨i, m, p, c2, rfl, rfl, hB_4, ho, hi, hm, hz⟩ J4 hJ4 r4
 refine xid 6 ((↑i : Int) < (960 : Int)) (fun hc5 => ?_) (fun hc5 => ?_)
 · refine xq 14 (congrArg (Value.int .i64) (show (IntKind.i64.wrap (Int.tdiv (↑i : Int) 4) : Int) = (↑(i / 4) : Int) from quo_natB i 4 (by omega) (by decide))) ?_
   refine xwm 0 (4 + (↑(i / 4) : Int)) (↑(4 + (i / 4)) : Int) ?_
   refine xx 0 _ l.length (4 + (i / 4)) 1 (Bys.elem h (k := (4 + (i / 4))) (by omega)).1 ?_
   refine xl 0 ((Bys.elem (h.below hB_4) (k := (4 + (i / 4))) (by omega)).2) ?_
   refine xq 1 (congrArg (Value.int .i64) (show (Int.tmod (↑i : Int) 4 : Int) = (↑(i % 4) : Int) from tmod_natB i 4)) ?_
   refine xwm 0 ((↑(i % 4) : Int) * 2) (↑((i % 4) * 2) : Int) ?_
   refine xbo 0 (t := 5) (t2 := 3) (fun _ _ _ _ zo zx zy V hV => run_shrU8 (n := ((l.getD (4 + (i / 4)) 0).toNat)) (s := ((i % 4) * 2)) (kj := .i64) (j := (↑((i % 4) * 2) : Int)) zo zx zy rfl (by omega) V) ?_
   refine xq 0 (congrArg (Value.int .i64) (show (IntKind.i64.wrap (↑((l.getD (4 + (i / 4)) 0).toNat / 2 ^ ((i % 4) * 2)) : Int) : Int) = (↑((l.getD (4 + (i / 4)) 0).toNat / 2 ^ ((i % 4) * 2)) : Int) from i64_nat (by have := shr_lt l (4 + i / 4) (i % 4 * 2); omega))) ?_
   refine xq 0 (congrArg (Value.int .i64) (show (IntKind.i64.wrap (↑(BitVec.ofInt 64 (↑((l.getD (4 + (i / 4)) 0).toNat / 2 ^ ((i % 4) * 2)) : Int) &&& BitVec.ofInt 64 (3 : Int)).toNat : Int) : Int) = (↑(bitN l i) : Int) from i64_and3 (by have := shr_lt l (4 + i / 4) (i % 4 * 2); omega))) ?_
   refine xid 12 ((↑i : Int) < (↑(rawN l 0 4) : Int)) (fun hc6 => ?_) (fun hc6 => ?_)
   · refine xbs 3 1 [.int .i64 (↑(bitN l i) : Int)] 3 fun b7 W7 n7 => ?_
     have r7_ho := own_ne ho n7
     have ho'1 := own_below ho n7.below
     have hB'1 := Bl.next hB_4 n7.below
     refine xbi 0 fun _ _ _ _ zJ zQ zo zx zy zK => op_app (m := 1) (news := [.int .i64 (↑(bitN l i) : Int)]) (.int .i64 0) 1 8 (m + 1) ((bitsL l (m + 1)).map nv) zo Tryz.underlying26 (by kernel_rfl) rfl (by decide) zx ho'1 zy (n7.blk.sl 1 1 (by decide) (by decide)) rfl (by simp [Value.oneCell']) (by unfold maxLen; omega) (by omega) hB'1.size (by rfl) (by rw [bitsL_snoc, List.map_append, show m = i by omega]; rfl) fun p8 c8 W8 o8 hg8 hb8 => ?_
     refine zK _ _ ?_
     refine xwm 6 ((↑i : Int) + 1) (↑(i + 1) : Int) ?_
     have hB'2 := hB'1.trans hb8
     exact ze 2 (hJ4 _ _ _ ⟨i + 1, m + 1, _, _, rfl, rfl, hB'2, o8, by omega, by omega, fun j hj hc => (Nat.lt_or_ge j i).elim (fun q => hz j q hc) (fun q => by obtain rfl : j = i := (by omega); omega)⟩ (by omega))
   refine xin 7 (↑(bitN l i) : Int) (0 : Int) (fun hc9 => ?_) (fun hc9 => ?_)
   · exact xe 13 (.tuple #[.slice none 0 0, .int .i64 7]) (.inl ⟨fun h => by have := h.2.2 i (by omega) (by omega); omega, rfl, hB_4⟩)
   refine xwm 5 ((↑i : Int) + 1) (↑(i + 1) : Int) ?_
   exact ze 2 (hJ4 _ _ _ ⟨i + 1, m, _, _, rfl, rfl, hB_4, ho, by omega, by omega, fun j hj hc => (Nat.lt_or_ge j i).elim (fun q => hz j q hc) (fun q => by obtain rfl : j = i := (by omega); omega)⟩ (by omega))
 refine xe 13 (.tuple #[.slice p m c2, .int .i64 0]) ?_
 obtain rfl : m = rawN l 0 4 := by omega
 exact .inr ⟨⟨by omega, by omega, fun j hj hc => hz j (by omega) hc⟩, _, _, rfl, hB_4, ho⟩
end Go.Proofs.YtinegkldgjhnpaaGreatDoor
namespace Go.Proofs.YtinegkldgjhnpaaGreatDoor
open Go.RowKit
theorem Blk.ty {w : World} {b : Nat} {cs cs' : List Value} {t t' : TypeId} (k : Blk w b cs t) (q : Blk w b cs' t') : t = t' := by
  have h1 : w.heap[b]? = some (.cells cs.toArray t (0, 0)) := k
  have h2 : w.heap[b]? = some (.cells cs'.toArray t' (0, 0)) := q
  rw [h1] at h2
  simp only [Option.some.injEq, Obj.cells.injEq] at h2
  exact h2.2.1
theorem ErrV.upd {w W : World} {b : Nat} {cs : List Value} {t : TypeId} {l : List (Option Int)} {c : Option Int} {v : Value} (h : ErrV w l c v) (u : Upd w b W) (k : Blk w b cs t) (hne : t ≠ 72) : ErrV W l c v :=
  h.kept fun _ _ q => u.blk q (by rintro rfl; exact hne (k.ty q))
theorem ErrV.grown {w W : World} {e : TypeId} {base size n : Nat} {s : Value} {xs : List Value} {l : List (Option Int)} {c : Option Int} {v : Value} (h : ErrV w l c v) (hg : w.grownBy W s.ownBlock) (hown : w.ownsRow base e size s n xs) (hne : e ≠ 72) : ErrV W l c v :=
  h.kept fun _ _ q => q.grown hg hown hne
theorem ErrV.only {T : List TypeId} {w W : World} {l : List (Option Int)} {c : Option Int} {v : Value} (h : ErrV w l c v) (k : Only T w W) (hne : T.contains 72 = false) : ErrV W l c v := h.kept fun _ _ q => q.only k hne
end Go.Proofs.YtinegkldgjhnpaaGreatDoor
namespace Go.Proofs.YtinegkldgjhnpaaGreatDoor
open Go.RowKit Go.Extern.Stop Go.Stop Go.Extern
set_option linter.unusedVariables false
attribute [local irreducible] wpList wpAnyH Code.wp Oper.wp Go

/-- an image at block b, its bytes l in a row of its own -/
structure ImgR (B b : Nat) (p : Option Addr) (n c : Nat) (l : List UInt8) (w : World) : Prop where
  blk : Blk w b [.slice p n c] 100
  row : w.ownsRow B 5 1 (.slice p n c) n (l.map bv)
  hn : n ≤ 3686400
theorem ImgR.below {B b : Nat} {p : Option Addr} {n c : Nat} {l : List UInt8} {w W : World} (h : ImgR B b p n c l w) (hb : Below w.heap.size w W) : ImgR B b p n c l W := ⟨h.blk.below hb, own_below h.row hb, h.hn⟩
theorem ImgR.only {B b : Nat} {p : Option Addr} {n c : Nat} {l : List UInt8} {w W : World} {T : List TypeId} (h : ImgR B b p n c l w) (hO : Only T w W) (hT : T.contains 100 = false ∧ T.contains 5 = false) : ImgR B b p n c l W := ⟨h.blk.only hO hT.1, own_only h.row hO hT.2, h.hn⟩
theorem ImgR.len {B b : Nat} {p : Option Addr} {n c : Nat} {l : List UInt8} {w : World} (h : ImgR B b p n c l w) : l.length = n := by have := h.row.1; simpa using this
theorem ImgR.base {B b : Nat} {p : Option Addr} {n c : Nat} {l : List UInt8} {w : World} (h : ImgR B b p n c l w) (hn : 0 < n) : ∃ g, p = some ⟨g, 0, none⟩ ∧ n ≤ c := by
  rcases h.row.2 with ⟨_, h0⟩ | ⟨g, cap, cur, hv, _, _, hc, _⟩
  · omega
  · simp only [Value.slice.injEq] at hv
    obtain ⟨rfl, _, rfl⟩ := hv
    exact ⟨g, rfl, hc⟩
/-- the bytes of a block -/
def blkB (l : List UInt8) (j : Nat) : List UInt8 := (l.drop (j * 256)).take 256
theorem blkB_len {l : List UInt8} {j : Nat} (h : j < l.length / 256) : (blkB l j).length = 256 := by simp [blkB]; omega
theorem Bys.mid {w : World} {g off n c : Nat} {l : List UInt8} (h : Bys w (.slice (some ⟨g, off, none⟩) n c) l) (hl : l.length = n) (k m : Nat) (hm : 0 < m) (hk : k + m ≤ n) : Bys w (.slice (some ⟨g, off + k, none⟩) m m) ((l.drop k).take m) := by
  have hlen : ((l.drop k).take m).length = m := by simp; omega
  rcases h with ⟨a', c', h1, h2, h3⟩ | ⟨g', off', cap, h1, h2, h3, h4⟩
  · omega
  · simp only [Value.slice.injEq, Option.some.injEq, Addr.mk.injEq] at h1
    obtain ⟨⟨rfl, rfl, _⟩, _, rfl⟩ := h1
    refine .inr ⟨g, off + k, m, by rw [hlen], by omega, by omega, fun j x hj => ?_⟩
    rw [List.getElem?_map, List.getElem?_take] at hj
    split at hj
    · rw [List.getElem?_drop] at hj
      have := h4 (k + j) x (by rw [List.getElem?_map]; exact hj)
      rwa [← Nat.add_assoc] at this
    · cases hj
theorem ImgR.part {B b g : Nat} {n c : Nat} {l : List UInt8} {w : World} (h : ImgR B b (some ⟨g, 0, none⟩) n c l w) {j : Nat} (hj : j < n / 256) : Bys w (.slice (some ⟨g, j * 256, none⟩) 256 256) (blkB l j) := by
  have := Bys.mid (bys_of (own_sl h.row) h.len) h.len (j * 256) 256 (by decide) (by omega)
  rwa [Nat.zero_add] at this
/-- what Read hands back -/
def ReadP (n : Nat) (l : List UInt8) (k : Int) (w : World) (e : Ending) (w' : World) : Prop :=
  (¬ (0 ≤ k ∧ k < (n / 256 : Nat)) ∧ ∃ v, e = .returned (.tuple #[v, .int .i64 3]) ∧ Below w.heap.size w w') ∨
  (∃ j : Nat, k = (j : Int) ∧ j < n / 256 ∧ ∃ p c, e = .returned (.tuple #[.slice p 256 c, .int .i64 0]) ∧ Below w.heap.size w w' ∧ w'.ownsRow w.heap.size 5 1 (.slice p 256 c) 256 ((blkB l j).map bv))
set_option maxRecDepth 100000 in
set_option maxHeartbeats 1000000 in
theorem image_block_out (b : Nat) (p : Option Addr) (n c : Nat) (k : Int) (w : World) (hk : Blk w b [.slice p n c] 100) (hn : n ≤ 100000000) (ho : ¬ (0 ≤ k ∧ k < (n / 256 : Nat))) :
    Calls Tryz.prog 97 #[.pointer (some ⟨b, 0, none⟩), .int .i64 k] w (Ret (.tuple #[.slice none 0 0, .int .i64 3]) w) := by
 refine zin 33 Tryz.func97 ?_
 refine xg 21 [13, 14] (decide (k < (0 : Int))) (fun hc1 => ?_) (fun hc1 => ?_)
 · have hc1 := of_decide_eq_true hc1
   exact xe 18 (.tuple #[.slice none 0 0, .int .i64 3]) ⟨rfl, (Below.refl w.heap.size _)⟩
 have hc1 := of_decide_eq_false hc1
 refine xr 2 (args := #[.pointer (some ⟨b, 0, none⟩)]) (image_Blocks b _ n c _ (hk.below (Below.refl w.heap.size _)) hn) fun W2 hb2 => ?_
 refine xk 5 (show (decide (k ≥ (↑(n / 256) : Int)) : Bool) = true from decide_eq_true (by omega)) ?_
 exact xe 9 (.tuple #[.slice none 0 0, .int .i64 3]) ⟨rfl, hb2⟩
set_option maxRecDepth 100000 in
set_option maxHeartbeats 1000000 in
theorem image_block_nil (k : Int) (w : World) :
    Calls Tryz.prog 97 #[.pointer none, .int .i64 k] w (Ret (.tuple #[.slice none 0 0, .int .i64 18]) w) := by
 refine zin 33 Tryz.func97 ?_
 exact xe 25 (.tuple #[.slice none 0 0, .int .i64 18]) ⟨rfl, (Below.refl w.heap.size _)⟩
set_option maxRecDepth 100000 in
set_option maxHeartbeats 1000000 in
theorem image_Read_nilp (k : Int) (w : World) :
    Calls Tryz.prog 99 #[.pointer none, .int .i64 k] w (RetS (fun _ r => ∃ v, r = .tuple #[v, .int .i64 18]) w) := by
 refine zin 17 Tryz.func99 ?_
 refine xr 10 (args := #[.pointer none, .int .i64 k]) (image_block_nil k _) fun W1 hb1 => ?_
 refine xc 10 (args := #[.slice none 0 0]) (clone_nil 0 _) ?_
 rintro _ W2 ⟨v2, rfl, hb2, _⟩
 have hB := Bl.next hb1 hb2
 exact xe 6 (.tuple #[v2, .int .i64 18]) ⟨_, rfl, hB, _, rfl⟩
set_option maxRecDepth 100000 in
set_option maxHeartbeats 1000000 in
theorem image_Read_out (B b : Nat) (p : Option Addr) (n c : Nat) (l : List UInt8) (k : Int) (w : World) (hI : ImgR B b p n c l w) (ho : ¬ (0 ≤ k ∧ k < (n / 256 : Nat))) :
    Calls Tryz.prog 99 #[.pointer (some ⟨b, 0, none⟩), .int .i64 k] w (RetS (fun _ r => ∃ v, r = .tuple #[v, .int .i64 3]) w) := by
 refine zin 17 Tryz.func99 ?_
 refine xr 10 (args := #[.pointer (some ⟨b, 0, none⟩), .int .i64 k]) (image_block_out b p n c k _ (hI.below (Below.refl w.heap.size _)).blk (by have := hI.hn; omega) ho) fun W1 hb1 => ?_
 refine xc 10 (args := #[.slice none 0 0]) (clone_nil 0 _) ?_
 rintro _ W2 ⟨v2, rfl, hb2, _⟩
 have hB := Bl.next hb1 hb2
 exact xe 6 (.tuple #[v2, .int .i64 3]) ⟨_, rfl, hB, _, rfl⟩
set_option maxRecDepth 100000 in
set_option maxHeartbeats 1000000 in
theorem image_Read_in (B b g : Nat) (n c : Nat) (l : List UInt8) (j : Nat) (w : World) (hI : ImgR B b (some ⟨g, 0, none⟩) n c l w) (hj : j < n / 256) (hc : n ≤ c) :
    Calls Tryz.prog 99 #[.pointer (some ⟨b, 0, none⟩), .int .i64 (↑j : Int)] w (RetS (fun w' r => ∃ p2 c3, r = .tuple #[.slice p2 256 c3, .int .i64 0] ∧ w'.ownsRow w.heap.size 5 1 (.slice p2 256 c3) 256 ((blkB l j).map bv)) w) := by
 have hlj := blkB_len (l := l) (j := j) (by rw [hI.len]; exact hj)
 refine zin 17 Tryz.func99 ?_
 refine xr 10 (args := #[.pointer (some ⟨b, 0, none⟩), .int .i64 (↑j : Int)]) (image_block b g n c j _ (hI.below (Below.refl w.heap.size _)).blk (by have := hI.hn; omega) hc hj) fun W1 hb1 => ?_
 refine xc 10 (args := #[.slice (some ⟨g, (j * 256), none⟩) 256 256]) (clone_bytesN (some ⟨g, (j * 256), none⟩) 256 256 (blkB l j) _ hlj ((hI.below hb1).part hj) (by decide)) ?_
 rintro _ W2 ⟨_, rfl, hb2, ho⟩
 have ho'1 := own_mono ho hb1.size
 unfold OwnB at ho'1
 rw [hlj] at ho'1
 obtain ⟨p2, c3, rfl⟩ := (own_sl ho'1).slice
 have hB'1 := Bl.next hb1 hb2
 exact xe 6 (.tuple #[.slice p2 256 c3, .int .i64 0]) ⟨_, rfl, hB'1, _, _, rfl, ho'1⟩
theorem image_Read (B b : Nat) (p : Option Addr) (n c : Nat) (l : List UInt8) (k : Int) (w : World) (hI : ImgR B b p n c l w) :
    Calls Tryz.prog 99 #[.pointer (some ⟨b, 0, none⟩), .int .i64 k] w (ReadP n l k w) := by
  by_cases h : 0 ≤ k ∧ k < (n / 256 : Nat)
  · obtain ⟨g, rfl, hc⟩ := hI.base (by omega)
    obtain ⟨j, rfl⟩ : ∃ j : Nat, k = j := ⟨k.toNat, by omega⟩
    refine (image_Read_in B b g n c l j w hI (by omega) hc).mono ?_
    rintro e W ⟨_, rfl, hb, p2, c3, rfl, ho⟩
    exact .inr ⟨j, rfl, by omega, _, _, rfl, hb, ho⟩
  · refine (image_Read_out B b p n c l k w hI h).mono ?_
    rintro e W ⟨_, rfl, hb, v, rfl⟩
    exact .inl ⟨h, _, rfl, hb⟩
/-- what a block of a kind has within: the error's number -/
def inE (l : List UInt8) (kind no : Int) : Int := if 0 ≤ no ∧ no < (l.length / 256 : Nat) then openE kind no (blkB l no.toNat) else 3
/-- and the bytes -/
def inB (l : List UInt8) (no : Int) : List UInt8 := ((blkB l no.toNat).drop 8).take 244
theorem inE_out {l : List UInt8} {kind no : Int} {n : Nat} (hl : l.length = n) (h : ¬ (0 ≤ no ∧ no < (n / 256 : Nat))) : inE l kind no = 3 := by subst hl; exact if_neg h
theorem inE_in {l : List UInt8} {kind no : Int} {n j : Nat} (hl : l.length = n) (hk : no = (j : Int)) (h : j < n / 256) : inE l kind no = openE kind no (blkB l j) := by
  subst hl hk; rw [inE, if_pos ⟨by omega, by omega⟩]; rfl
theorem inB_in {l : List UInt8} {no : Int} {j : Nat} (hk : no = (j : Int)) : inB l no = ((blkB l j).drop 8).take 244 := by subst hk; rfl
theorem inB_len {l : List UInt8} {no : Int} {n j : Nat} (hl : l.length = n) (hk : no = (j : Int)) (h : j < n / 256) : (inB l no).length = 244 := by
  subst hl hk; have := blkB_len h; simp [inB, this]
end Go.Proofs.YtinegkldgjhnpaaGreatDoor
namespace Go.Proofs.YtinegkldgjhnpaaGreatDoor
open Go.RowKit Go.Extern.Stop Go.Stop Go.Extern
set_option linter.unusedVariables false
attribute [local irreducible] wpList wpAnyH Code.wp Oper.wp Go

theorem ext_getD {l l' : List UInt8} (h : l.length = l'.length) (h2 : ∀ j, j < l.length → l.getD j 0 = l'.getD j 0) : l = l' := by
  apply List.ext_getElem h
  intro j h3 h4
  have := h2 j h3
  simpa [List.getD, h3, h4] using this
theorem putB_get {l : List UInt8} {k : Nat} {x : List UInt8} (h : k + x.length ≤ l.length) (j : Nat) : (putB l k x).getD j 0 = if k ≤ j ∧ j < k + x.length then x.getD (j - k) 0 else l.getD j 0 := by
  unfold putB
  simp only [List.getD]
  rw [List.append_assoc, List.getElem?_append, List.getElem?_append]
  have e : (l.take k).length = k := by simp; omega
  rw [e]
  by_cases h1 : j < k
  · rw [if_pos h1, if_neg (by omega), List.getElem?_take, if_pos h1]
  · rw [if_neg h1]
    by_cases h2 : j - k < x.length
    · rw [if_pos h2, if_pos (by omega)]
    · rw [if_neg h2, if_neg (by omega), List.getElem?_drop, show k + x.length + (j - k - x.length) = j by omega]
theorem rawN_congr {l l' : List UInt8} : ∀ (w k : Nat), (∀ j, k ≤ j → j < k + w → l.getD j 0 = l'.getD j 0) → rawN l k w = rawN l' k w
  | 0, k, h => rfl
  | w + 1, k, h => by rw [rawN, rawN, h k (by omega) (by omega), rawN_congr w (k + 1) fun j h1 h2 => h j (by omega) (by omega)]
theorem rawN_bytes {l : List UInt8} : ∀ (w k m : Nat), (∀ i, i < w → l.getD (k + i) 0 = UInt8.ofNat (m / 256 ^ i)) → rawN l k w = m % 256 ^ w
  | 0, k, m, h => by simp [rawN, Nat.mod_one]
  | w + 1, k, m, h => by
    have h0 := h 0 (by omega)
    simp only [Nat.add_zero, Nat.pow_zero, Nat.div_one] at h0
    have h1 := rawN_bytes (l := l) w (k + 1) (m / 256) fun i hi => by
      have := h (i + 1) (by omega)
      rw [Nat.pow_succ, Nat.mul_comm, ← Nat.div_div_eq_div_mul] at this
      rw [show k + 1 + i = k + (i + 1) by omega]; exact this
    rw [rawN, h0, h1, Nat.pow_succ, Nat.mul_comm (256 ^ w) 256, Nat.mod_mul]
    congr 1
theorem rawN_put {l : List UInt8} {k w : Nat} {n : Int} (h : k + w ≤ l.length) (h0 : 0 ≤ n) (hb : n.toNat < 256 ^ w) : (rawN (putB l k (leB n w)) k w : Int) = n := by
  rw [rawN_bytes w k n.toNat, Nat.mod_eq_of_lt hb]
  · omega
  · intro i hi
    rw [putB_get (by rw [leB_len]; exact h), if_pos (by rw [leB_len]; omega), show k + i - k = i by omega]
    simp [leB, byteAt, List.getD, List.getElem?_range hi]
theorem rawN_put_other {l x : List UInt8} {k j w : Nat} (h : k + x.length ≤ l.length) (hd : j + w ≤ k ∨ k + x.length ≤ j) : rawN (putB l k x) j w = rawN l j w :=
  rawN_congr w j fun i h1 h2 => by rw [putB_get h, if_neg (by omega)]
theorem rawN_zero {l : List UInt8} {k w : Nat} (h : ∀ j, k ≤ j → j < k + w → l.getD j 0 = 0) : rawN l k w = 0 := by
  have := rawN_bytes (l := l) w k 0 fun i hi => by rw [h (k + i) (by omega) (by omega)]; simp
  simpa using this
theorem sumB_put {l x : List UInt8} {kind : Int} (h : 252 ≤ l.length) : sumB (putB l 252 x) kind = sumB l kind := by
  unfold sumB putB
  rw [List.append_assoc, List.take_append_of_le_length (by simp; omega), List.take_take]; rfl
theorem zeros_get (n j : Nat) : (List.replicate n (0 : UInt8)).getD j 0 = 0 := by
  simp [List.getD, List.getElem?_replicate]; split <;> rfl
/-- what lies within a sealed block -/
def inSeal (li : List UInt8) : List UInt8 := li ++ List.replicate (244 - li.length) 0
theorem open_seal {kind no : Int} {li : List UInt8} (h1 : 1 ≤ kind) (h2 : kind ≤ 4) (h3 : 0 ≤ no) (h4 : no < 14400) (hl : li.length ≤ 244) : openE kind no (sealB kind no li) = 0 := by
  have l1 := seal1_len hl
  have l2 := seal2_len (no := no) hl
  have l3 := seal3_len (kind := kind) (no := no) hl
  have l4 := sealB_len (kind := kind) (no := no) hl
  have a0 : askB kind no (sealB kind no li) 0 = false := by simp only [askB]; rw [show knownB kind no = true from decide_eq_true (by omega)]; rfl
  have a1 : askB kind no (sealB kind no li) 1 = false := by simp only [askB, l4]; rfl
  have a2 : askB kind no (sealB kind no li) 2 = false := by
    have hs : sumB (sealB kind no li) kind = sumB (seal3 kind no li) kind := by unfold sealB; exact sumB_put (by omega)
    have hr : (rawN (sealB kind no li) 252 4 : Int) = (sumB (seal3 kind no li) kind : Int) := by
      unfold sealB
      exact rawN_put (by omega) (by omega) (by have := sumB_lt (seal3 kind no li) kind; simpa using this)
    simp only [askB, hr, hs]; simp
  have a3 : askB kind no (sealB kind no li) 3 = false := by
    have hr : (rawN (sealB kind no li) 0 4 : Int) = no := by
      unfold sealB
      rw [rawN_put_other (by rw [leB_len]; omega) (.inl (by omega))]
      unfold seal3
      rw [rawN_put_other (by rw [leB_len]; omega) (.inl (by omega))]
      unfold seal2
      exact rawN_put (by omega) (by omega) (by omega)
    simp only [askB, hr]; simp
  have a4 : askB kind no (sealB kind no li) 4 = false := by
    have hr : (rawN (sealB kind no li) 4 2 : Int) = kind := by
      unfold sealB
      rw [rawN_put_other (by rw [leB_len]; omega) (.inl (by omega))]
      unfold seal3
      exact rawN_put (by omega) (by omega) (by omega)
    simp only [askB, hr]; simp
  have a5 : askB kind no (sealB kind no li) 5 = false := by
    have hr : rawN (sealB kind no li) 6 2 = 0 := by
      unfold sealB
      rw [rawN_put_other (by rw [leB_len]; omega) (.inl (by omega))]
      unfold seal3
      rw [rawN_put_other (by rw [leB_len]; omega) (.inr (by rw [leB_len]; omega))]
      unfold seal2
      rw [rawN_put_other (by rw [leB_len]; omega) (.inr (by rw [leB_len]; omega))]
      unfold seal1
      rw [rawN_put_other (by rw [List.length_replicate]; omega) (.inl (by omega))]
      exact rawN_zero fun j _ _ => zeros_get 256 j
    simp only [askB, hr]; rfl
  simp [openE, a0, a1, a2, a3, a4, a5]
theorem in_seal {kind no : Int} {li : List UInt8} (hl : li.length ≤ 244) : ((sealB kind no li).drop 8).take 244 = inSeal li := by
  have l1 := seal1_len hl
  have l2 := seal2_len (no := no) hl
  have l3 := seal3_len (kind := kind) (no := no) hl
  have l4 := sealB_len (kind := kind) (no := no) hl
  apply ext_getD
  · simp [inSeal, l4]; omega
  · intro j hj
    have hj2 : j < 244 := by simp [l4] at hj; omega
    have e : (((sealB kind no li).drop 8).take 244).getD j 0 = (sealB kind no li).getD (8 + j) 0 := by
      simp only [List.getD]; rw [List.getElem?_take, if_pos hj2, List.getElem?_drop]
    rw [e]
    unfold sealB
    rw [putB_get (by rw [leB_len]; omega), if_neg (by rw [leB_len]; omega)]
    unfold seal3
    rw [putB_get (by rw [leB_len]; omega), if_neg (by rw [leB_len]; omega)]
    unfold seal2
    rw [putB_get (by rw [leB_len]; omega), if_neg (by rw [leB_len]; omega)]
    unfold seal1
    rw [putB_get (by rw [List.length_replicate]; omega), zeros_get]
    unfold inSeal
    simp only [List.getD]
    rw [List.getElem?_append]
    by_cases h : j < li.length
    · rw [if_pos ⟨by omega, by omega⟩, if_pos h, show 8 + j - 8 = j by omega]
    · rw [if_neg (by omega), if_neg h]
      have := zeros_get (244 - li.length) (j - li.length)
      simp only [List.getD] at this
      exact this.symm
/-- a block that was written stands in the image -/
theorem blkB_put {l x : List UInt8} {k : Nat} (hx : x.length = 256) (hk : k < l.length / 256) : blkB (putB l (k * 256) x) k = x := by
  have hkl : k * 256 + 256 ≤ l.length := by omega
  have hp := putB_len (l := l) (k := k * 256) (x := x) (by omega)
  apply ext_getD
  · rw [blkB_len (by rw [hp]; exact hk), hx]
  · intro j hj
    rw [blkB_len (by rw [hp]; exact hk)] at hj
    have e : (blkB (putB l (k * 256) x) k).getD j 0 = (putB l (k * 256) x).getD (k * 256 + j) 0 := by
      simp only [blkB, List.getD]; rw [List.getElem?_take, if_pos hj, List.getElem?_drop]
    rw [e, putB_get (by omega), if_pos (by omega), show k * 256 + j - k * 256 = j by omega]
theorem blkB_put_other {l x : List UInt8} {k i : Nat} (hx : x.length = 256) (hk : k < l.length / 256) (hne : i ≠ k) (hi : i < l.length / 256) : blkB (putB l (k * 256) x) i = blkB l i := by
  have hkl : k * 256 + 256 ≤ l.length := by omega
  have hp := putB_len (l := l) (k := k * 256) (x := x) (by omega)
  apply ext_getD
  · rw [blkB_len (by rw [hp]; exact hi), blkB_len hi]
  · intro j hj
    rw [blkB_len (by rw [hp]; exact hi)] at hj
    have e : ∀ l : List UInt8, (blkB l i).getD j 0 = l.getD (i * 256 + j) 0 := fun l => by
      simp only [blkB, List.getD]; rw [List.getElem?_take, if_pos hj, List.getElem?_drop]
    rw [e, e, putB_get (by omega), if_neg (by omega)]
end Go.Proofs.YtinegkldgjhnpaaGreatDoor
namespace Go.Proofs.YtinegkldgjhnpaaGreatDoor
open Go.RowKit Go.Extern.Stop Go.Stop Go.Extern
set_option linter.unusedVariables false
attribute [local irreducible] wpList wpAnyH Code.wp Oper.wp Go

theorem zeroCells_u8 (k : Nat) : Builtin.zeroCells #[Value.int .u8 0] k = (List.replicate k (Value.int .u8 0)).toArray := by
  apply Array.ext'
  unfold Builtin.zeroCells
  simp only [List.size_toArray, List.length_cons, List.length_nil, Nat.zero_add, Nat.mul_one, Nat.mod_one]
  rw [Array.toList_map]
  simp only [Array.toList_range]
  apply List.ext_getElem?
  intro i
  simp only [List.getElem?_map, List.getElem?_replicate]
  by_cases h : i < k
  · rw [List.getElem?_range h, if_pos h]; rfl
  · rw [if_neg h, List.getElem?_eq_none (by simpa using h)]; rfl
theorem op_appZ {P : Program} {a : Act} {w : World} {K : Act → World → Prop} {Q : Exit → Act → World → Prop} {o : Oper} {s x : Operand} {t tn e te : TypeId} {kq kn : IntKind} (b n k : Nat) (cs : List Value)
    (ho : o.op = .call { callee := .builtin .append, args := #[s, x], argTypes := #[t, tn] }) (ht : P.underlying t = some (.slice e)) (htn : P.underlying tn = some (.int kn)) (hi : (P.info? e).map (fun i => (i.zero, i.size, i.bytes)) = some (some (.int .u8 0), 1, 1))
    (hs : a.eval s = .slice (some ⟨b, 0, none⟩) n n) (hb : Blk w b cs te) (hl : cs.length = n) (hx : a.eval x = .int kq (k : Int)) (h0 : 0 < k) (hk : n + k ≤ 1000000)
    (h : ∀ g c W, W.ownsRow w.heap.size e 1 (.slice (some ⟨g, 0, none⟩) (n + k) c) (n + k) (cs ++ List.replicate k (.int .u8 0)) → Below w.heap.size w W → K (a.put o.dst (.slice (some ⟨g, 0, none⟩) (n + k) c)) W) : o.wp P a w K Q := by
  cases hq : P.info? e with
  | none => simp [hq] at hi
  | some i =>
    simp only [hq, Option.map_some, Option.some.injEq, Prod.mk.injEq] at hi
    obtain ⟨hz, h1, h2⟩ := hi
    have hb' : Blk w.drew b cs te := hb
    have hold := run_firstCells_some (P := P) (w := w.drew) i.size n ⟨b, 0, none⟩ n n cs (by rw [hl, h1, Nat.mul_one]) (fun j v hj => by
      have := hb'.cell hj
      by_cases h : j = 0
      · subst h; simpa [Addr.add] using this
      · simpa [Addr.add, h] using this)
    have hr := Lib.run_append_grow_zeros (P := P) w t tn o.type e i (.int .u8 0) kq kn ht htn hq hz (some ⟨b, 0, none⟩) n n cs hold k h0 (by omega) (by omega) (by omega) (by rw [h2]; omega) (growslice_fits (by omega) (by rw [h2]; omega))
    unfold Oper.wp execOp
    simp only [ho, resolve, invoke, builtin, Sem.run_bind, Sem.run_pure, Result.andThen_ok, List.map_toArray, List.map_cons, List.map_nil, hs, hx, hr]
    have hge := grownCap_ge w (n + k) n e
    have hcm : grownCap w (n + k) n e ≤ maxLen := grownCap_le_maxLen w (n + k) n e (by unfold maxLen; omega)
    refine h _ _ _ ⟨by simp [hl], .inr ⟨w.heap.size, _, _, rfl, Nat.le_refl _, heap_alloc_new w.drew _, hge, hcm, ?_, ?_⟩⟩ ((below_drew w).trans (show Below w.drew.heap.size w.drew _ from Bl.box w.drew _))
    · rw [show (Value.int .u8 0).cells = #[Value.int .u8 0] from rfl, zeroCells_u8, zeroCells_u8]; simp [hl]; omega
    · rw [show (Value.int .u8 0).cells = #[Value.int .u8 0] from rfl, zeroCells_u8, zeroCells_u8]
      simp only [Array.toList_append, List.append_assoc, Nat.mul_one]
      rw [← List.append_assoc, show n + k = (cs ++ List.replicate k (Value.int .u8 0)).length by simp [hl]]
      exact List.take_left
theorem run_append_room_zeros {P : Program} (w : World) (t tn ty e : TypeId) (i : TypeInfo) (kq kn : IntKind) (ht : P.underlying t = some (.slice e)) (htn : P.underlying tn = some (.int kn)) (hi : P.info? e = some i) (hz : i.zero = some (.int .u8 0)) (hs1 : i.size = 1) (hb1 : i.bytes = 1)
    (g n c k : Nat) (cur : Array Value) (hg : w.heap[g]? = some (.cells cur e (0, 0))) (h0 : 0 < k) (hroom : n + k ≤ c) (hfit : n + k ≤ cur.size) (hk : n + k ≤ 1000000) :
    (Builtin.append_ #[t, tn] ty #[.slice (some ⟨g, 0, none⟩) n c, .int kq k]).run P w =
      .ok (.slice (some ⟨g, 0, none⟩) (n + k) c) (w.setRow g (cur.toList.take n ++ List.replicate k (Value.int .u8 0) ++ cur.toList.drop (n + k)).toArray) := by
  have hk0 : k ≠ 0 := by omega
  have hw : IntKind.i64.wrap (k : Int) = k := by rw [IntKind.wrap_i64]; omega
  have h48i : ¬ (281474976710656 < (k : Int)) := by omega
  have hneg : ¬ ((k : Int) < 0) := by omega
  have hst := run_storeCells_at P g n e (List.replicate k (.int .u8 0)) 0 cur w hg (by simpa using hfit) (by intro u hu; rw [(List.mem_replicate.1 hu).2]; rfl)
  simp only [Nat.add_zero, List.length_replicate] at hst
  simp [Builtin.append_, run_underlying ht, run_underlying htn, sizeOf, typeInfo, zeroValue, hi, hz, hs1, hb1, asInt, asIntOf, hw, hneg, h48i, hk0, hroom, Addr.add_lit, show (Value.int IntKind.u8 0).cells = #[Value.int .u8 0] from rfl, zeroCells_u8, hst]
/-- append(s, make([]byte, k)...) onto a row of the call's own -/
theorem op_appZo {P : Program} {a : Act} {w : World} {K : Act → World → Prop} {Q : Exit → Act → World → Prop} {o : Oper} {s x : Operand} {t tn e : TypeId} {kq kn : IntKind} {base : Nat} {v : Value} {n : Nat} {xs : List Value} (k n' : Nat) (xs' : List Value)
    (ho : o.op = .call { callee := .builtin .append, args := #[s, x], argTypes := #[t, tn] }) (ht : P.underlying t = some (.slice e)) (htn : P.underlying tn = some (.int kn)) (hi : (P.info? e).map (fun i => (i.zero, i.size, i.bytes)) = some (some (.int .u8 0), 1, 1))
    (hs : a.eval s = v) (hown : w.ownsRow base e 1 v n xs) (hx : a.eval x = .int kq (k : Int)) (h0 : 0 < k) (hk : n + k ≤ 1000000) (hbase : base ≤ w.heap.size) (hn : n + k = n') (hxs : xs ++ List.replicate k (.int .u8 0) = xs')
    (h : ∀ b c' W, W.ownsRow base e 1 (.slice b n' c') n' xs' → w.grownBy W v.ownBlock → Below base w W → K (a.put o.dst (.slice b n' c')) W) : o.wp P a w K Q := by
  subst hn hxs
  cases hq : P.info? e with
  | none => simp [hq] at hi
  | some i =>
    simp only [hq, Option.map_some, Option.some.injEq, Prod.mk.injEq] at hi
    obtain ⟨hz, h1, h2⟩ := hi
    have hxl : xs.length = n := by simpa using hown.1
    have hlen : (xs ++ List.replicate k (Value.int .u8 0)).length = (n + k) * 1 := by simp [hxl]
    rcases hown.2 with ⟨rfl, rfl⟩ | ⟨g, c, cur, rfl, hbg, hg, hnc, hcm, hcs, htake⟩
    · obtain rfl : xs = [] := List.eq_nil_of_length_eq_zero hxl
      have hr := Lib.run_append_nil_zeros (P := P) w t tn o.type e i (.int .u8 0) kq kn ht htn hq hz k h0 (by omega) (by omega) (by rw [h2]; omega)
      unfold Oper.wp execOp
      simp only [ho, resolve, invoke, builtin, Sem.run_bind, Sem.run_pure, Result.andThen_ok, List.map_toArray, List.map_cons, List.map_nil, hs, hx, hr]
      have hge := grownCap_ge w k 0 e
      have hcm : grownCap w k 0 e ≤ maxLen := grownCap_le_maxLen w k 0 e (by unfold maxLen; omega)
      simp only [Nat.zero_add, List.nil_append] at h
      refine h _ _ _ ⟨by simp, .inr ⟨w.heap.size, _, _, rfl, hbase, heap_alloc_new w.drew _, hge, hcm, ?_, ?_⟩⟩ ⟨rfl, rfl, rfl, by simp, fun k hk _ => by first | exact heap_alloc_old w.drew _ k hk | exact heap_alloc_old w.drew _ hk⟩ (((below_drew w).trans (show Below w.drew.heap.size w.drew _ from Bl.box w.drew _)).mono hbase)
      · rw [show (Value.int .u8 0).cells = #[Value.int .u8 0] from rfl, zeroCells_u8, zeroCells_u8]; simp; omega
      · rw [show (Value.int .u8 0).cells = #[Value.int .u8 0] from rfl, zeroCells_u8, zeroCells_u8]
        simp only [Array.toList_append, Nat.mul_one]
        exact List.take_left' (by simp)
    by_cases hroom : n + k ≤ c
    · have hcs' : cur.size = c := by simpa using hcs
      have hr := run_append_room_zeros (P := P) w t tn o.type e i kq kn ht htn hq hz h1 h2 g n c k cur hg h0 hroom (by omega) hk
      unfold Oper.wp execOp
      simp only [ho, resolve, invoke, builtin, Sem.run_bind, Sem.run_pure, Result.andThen_ok, List.map_toArray, List.map_cons, List.map_nil, hs, hx, hr]
      have hgr : w.grownBy (w.setRow g (cur.toList.take n ++ List.replicate k (Value.int .u8 0) ++ cur.toList.drop (n + k)).toArray) (Value.ownBlock (.slice (some ⟨g, 0, none⟩) n c)) := ⟨rfl, rfl, rfl, by simp, fun k' _ hk' => setRow_other w g k' _ (fun e => hk' (by simp [Value.ownBlock, e]))⟩
      refine h _ _ _ ⟨hlen, .inr ⟨g, c, _, rfl, hbg, setRow_heap w g cur _ e _ hg, hroom, hcm, ?_, ?_⟩⟩ hgr (grown_below hgr hown (Nat.le_refl _) hbase)
      · simp only [List.size_toArray, List.length_append, List.length_take, List.length_drop, Array.length_toList, List.length_replicate]
        omega
      · have ht' : cur.toList.take n = xs := by simpa using htake
        rw [ht', ← hlen]
        exact List.take_left
    · have holds : ∀ j u, xs[j]? = some u → w.cell? ((⟨g, 0, none⟩ : Addr).add j) = some u := hown.cells (g := g) rfl
      have hold := run_firstCells_some (P := P) (w := w.drew) i.size n ⟨g, 0, none⟩ n c xs (by rw [hxl, h1, Nat.mul_one]) (by simpa using holds)
      have hr := Lib.run_append_grow_zeros (P := P) w t tn o.type e i (.int .u8 0) kq kn ht htn hq hz (some ⟨g, 0, none⟩) n c xs hold k h0 (by omega) (by omega) (by omega) (by rw [h2]; omega) (by rw [h2]; exact growslice_fits (by omega) (by omega))
      unfold Oper.wp execOp
      simp only [ho, resolve, invoke, builtin, Sem.run_bind, Sem.run_pure, Result.andThen_ok, List.map_toArray, List.map_cons, List.map_nil, hs, hx, hr]
      have hge := grownCap_ge w (n + k) c e
      have hcm : grownCap w (n + k) c e ≤ maxLen := grownCap_le_maxLen w (n + k) c e (by unfold maxLen; omega)
      refine h _ _ _ ⟨hlen, .inr ⟨w.heap.size, _, _, rfl, hbase, heap_alloc_new w.drew _, hge, hcm, ?_, ?_⟩⟩ ⟨rfl, rfl, rfl, by simp, fun k hk _ => by first | exact heap_alloc_old w.drew _ k hk | exact heap_alloc_old w.drew _ hk⟩ (((below_drew w).trans (show Below w.drew.heap.size w.drew _ from Bl.box w.drew _)).mono hbase)
      · rw [show (Value.int .u8 0).cells = #[Value.int .u8 0] from rfl, zeroCells_u8, zeroCells_u8]; simp [hxl]; omega
      · rw [show (Value.int .u8 0).cells = #[Value.int .u8 0] from rfl, zeroCells_u8, zeroCells_u8]
        simp only [Array.toList_append, List.append_assoc]
        rw [← List.append_assoc, ← hlen]
        exact List.take_left
end Go.Proofs.YtinegkldgjhnpaaGreatDoor
namespace Go.Proofs.YtinegkldgjhnpaaGreatDoor
open Go.RowKit Go.Extern.Stop Go.Stop Go.Extern
set_option linter.unusedVariables false

set_option maxHeartbeats 1000000 in
/-- strconv.Itoa at a number of one digit (no table is read) -/
theorem Tryz.itoa_small (i : Nat) (hi : i < 10) (w : World) : Calls Tryz.prog 190 #[.int .i64 i] w fun e w' => e = .returned (.string ⟨(Lib.decDigits i).toArray⟩) ∧ w' = w := by
  have : i = 0 ∨ i = 1 ∨ i = 2 ∨ i = 3 ∨ i = 4 ∨ i = 5 ∨ i = 6 ∨ i = 7 ∨ i = 8 ∨ i = 9 := by omega
  rcases this with rfl | rfl | rfl | rfl | rfl | rfl | rfl | rfl | rfl | rfl <;> (
    go_enter Tryz.func190, Tryz.ntmps190
    go_wp2
    go_ret
    exact ⟨by simp [Lib.decDigits]; rfl, rfl⟩)

/-- the numbers whose text Itoa prints, whatever has been added to this world -/
def Itoas (w : World) (n : Int) : Prop := ∀ W, Below w.heap.size w W → Calls Tryz.prog 190 #[.int .i64 n] W (Ret (.string ⟨(Lib.itoa n).toArray⟩) W)
theorem Itoas.below {w W : World} {n : Int} (h : Itoas w n) (hb : Below w.heap.size w W) : Itoas W n := fun X hX => h X (Bl.next hb hX)
theorem Itoas.small {n : Nat} (hn : n < 10) (w : World) : Itoas w n := fun W _ => by
  refine (Tryz.itoa_small n hn W).mono ?_
  rintro e w' ⟨rfl, rfl⟩
  refine ⟨?_, Below.refl _ _⟩
  simp [Lib.itoa]

def sBlock : ByteArray := ⟨#[98, 108, 111, 99, 107, 32]⟩
def sColon : ByteArray := ⟨#[58, 32]⟩
def sError : ByteArray := ⟨#[101, 114, 114, 111, 114, 32]⟩
def sOther : ByteArray := ⟨#[111, 116, 104, 101, 114]⟩
def numB (n : Int) : ByteArray := ⟨(Lib.itoa n).toArray⟩
/-- an error's text -/
def textB : List (Option Int) → Option Int → ByteArray
  | [], none => ⟨#[]⟩
  | [], some c => sError ++ numB c
  | some b :: r, t => sBlock ++ numB b ++ sColon ++ textB r t
  | none :: r, t => sOther
theorem Tryz.methErrorN (v : Value) (w : World) : (Go.method 413 53 v "Error").run Tryz.prog w = .ok (189, v) w := by kernel_rfl
theorem Tryz.methErrorF (v : Value) (w : World) : (Go.method 413 67 v "Error").run Tryz.prog w = .ok (204, v) w := by kernel_rfl
theorem Tryz.nilErrorF (a : Addr) (w : World) : (nilAhead 413 67 (.pointer (some a)) "Error").run Tryz.prog w = .ok (some false) w := by kernel_rfl

theorem errno_error (c : Int) (w : World) (hI : Itoas w c) (hs : (numB c).size ≤ 100) : Calls Tryz.prog 189 #[.int .i64 c] w (Ret (.string (sError ++ numB c)) w) := by
  have hc := hI w (Below.refl _ _)
  change Calls _ _ _ _ (Ret (.string (numB c)) w) at hc
  generalize numB c = x at hs hc ⊢
  unfold sError
  go_enter Tryz.func189, Tryz.ntmps189
  go_wp2_with fail
  refine hc.mono ?_
  rintro e w' ⟨rfl, hb⟩
  have hz : ¬ ((6 : Nat) + x.size > 9223372036854775807) := by omega
  go_wp2_with fail
  go_ret
  exact ⟨rfl, hb⟩
set_option maxRecDepth 100000 in
set_option maxHeartbeats 1000000 in
theorem fault_error_n (blk : Nat) (b : Int) (c : Int) (s : ByteArray) (w : World) (c0 : w.cell? ⟨blk, 0, none⟩ = some (.int .i64 b)) (c1 : w.cell? ⟨blk, 1, none⟩ = some (.iface 53 (.int .i64 c))) (hI : Itoas w b) (hs : (numB b).size ≤ 100) (ht : s.size ≤ 8000000)
    (hcall : ∀ W, Below w.heap.size w W → Calls Tryz.prog 189 #[(.int .i64 c)] W (Ret (.string s) W)) :
    Calls Tryz.prog 204 #[.pointer (some ⟨blk, 0, none⟩)] w (Ret (.string (sBlock ++ numB b ++ sColon ++ s)) w) := by
  have f1 := Tryz.methErrorN
  have hc : ∀ z : Ext w, Calls Tryz.prog 190 #[.int .i64 b] z.val (Ret (.string (numB b)) z.val) := fun z => hI z.val z.below
  have hd : ∀ z : Ext w, Calls Tryz.prog 189 #[(.int .i64 c)] z.val (Ret (.string s) z.val) := fun z => hcall z.val z.below
  generalize numB b = x at hs hc ⊢
  have e0 : ∀ z : Ext w, z.val.cell? ⟨blk, 0, none⟩ = some (.int .i64 b) := fun z => z.get c0
  have e1 : ∀ z : Ext w, z.val.cell? ⟨blk, 1, none⟩ = some (.iface 53 (.int .i64 c)) := fun z => z.get c1
  unfold sBlock sColon
  go_enter Tryz.func204, Tryz.ntmps204
  go_wp2_with fail
  refine wp_region_ext (by kernel_rfl) (by kernel_rfl) ?_
  repeat (go_big_quiet_step (first | (go_at_call 190; exact Ret.ext (hc _)) | (go_at_call 189; exact Ret.ext (hd _))))
  refine wpQuiet_nil ?_
  intro wx
  go_wp2_with fail
  go_ret
  exact ⟨rfl, wx.below⟩
set_option maxRecDepth 100000 in
set_option maxHeartbeats 1000000 in
theorem fault_error_f (blk : Nat) (b : Int) (k : Nat) (s : ByteArray) (w : World) (c0 : w.cell? ⟨blk, 0, none⟩ = some (.int .i64 b)) (c1 : w.cell? ⟨blk, 1, none⟩ = some (.iface 67 (.pointer (some ⟨k, 0, none⟩)))) (hI : Itoas w b) (hs : (numB b).size ≤ 100) (ht : s.size ≤ 8000000)
    (hcall : ∀ W, Below w.heap.size w W → Calls Tryz.prog 204 #[(.pointer (some ⟨k, 0, none⟩))] W (Ret (.string s) W)) :
    Calls Tryz.prog 204 #[.pointer (some ⟨blk, 0, none⟩)] w (Ret (.string (sBlock ++ numB b ++ sColon ++ s)) w) := by
  have f1 := Tryz.methErrorF
  have f2 := Tryz.nilErrorF
  have hc : ∀ z : Ext w, Calls Tryz.prog 190 #[.int .i64 b] z.val (Ret (.string (numB b)) z.val) := fun z => hI z.val z.below
  have hd : ∀ z : Ext w, Calls Tryz.prog 204 #[(.pointer (some ⟨k, 0, none⟩))] z.val (Ret (.string s) z.val) := fun z => hcall z.val z.below
  generalize numB b = x at hs hc ⊢
  have e0 : ∀ z : Ext w, z.val.cell? ⟨blk, 0, none⟩ = some (.int .i64 b) := fun z => z.get c0
  have e1 : ∀ z : Ext w, z.val.cell? ⟨blk, 1, none⟩ = some (.iface 67 (.pointer (some ⟨k, 0, none⟩))) := fun z => z.get c1
  unfold sBlock sColon
  go_enter Tryz.func204, Tryz.ntmps204
  go_wp2_with fail
  refine wp_region_ext (by kernel_rfl) (by kernel_rfl) ?_
  repeat (go_big_quiet_step (first | (go_at_call 190; exact Ret.ext (hc _)) | (go_at_call 204; exact Ret.ext (hd _))))
  refine wpQuiet_nil ?_
  intro wx
  go_wp2_with fail
  go_ret
  exact ⟨rfl, wx.below⟩

/-- how long a text may become -/
theorem textB_size {l : List (Option Int)} {t : Option Int} (h : ∀ b, (some b ∈ l ∨ t = some b) → (numB b).size ≤ 100) : (textB l t).size ≤ 108 * l.length + 108 := by
  induction l with
  | nil =>
    cases t with
    | none => exact Nat.zero_le _
    | some c =>
      have := h c (.inr rfl)
      simp only [textB, ByteArray.size_append, sError, ByteArray.size_mk']; simp; omega
  | cons x r ih =>
    cases x with
    | none => simp only [textB, sOther, ByteArray.size_mk']; simp; try omega
    | some b =>
      have h1 := h b (.inl (by simp))
      have h2 := ih (fun b hb => h b (hb.imp (List.mem_cons_of_mem _) id))
      simp only [textB, ByteArray.size_append, sBlock, sColon, ByteArray.size_mk', List.length_cons]; simp; omega
/-- the method Error of the value returns this string -/
def Says (v : Value) (s : ByteArray) (w : World) : Prop :=
  (∃ c, v = .iface 53 (.int .i64 c) ∧ Calls Tryz.prog 189 #[.int .i64 c] w (Ret (.string s) w)) ∨
  (∃ k, v = .iface 67 (.pointer (some ⟨k, 0, none⟩)) ∧ Calls Tryz.prog 204 #[.pointer (some ⟨k, 0, none⟩)] w (Ret (.string s) w))
  ∨ False
/-- no Fault wraps nothing -/
def okE : List (Option Int) → Option Int → Bool
  | [], t => t.isSome
  | some _ :: r, t => okE r t
  | none :: r, t => true
theorem err_says (t : Option Int) : ∀ (l : List (Option Int)) (v : Value) (w : World), l.length ≤ 10000 → ErrV w l t v → okE l t = true → (∀ b, (some b ∈ l ∨ t = some b) → Itoas w b ∧ (numB b).size ≤ 100) → Says v (textB l t) w
  | [], v, w, hlen, hv, hn, hI => by
    cases t with
    | none => exact nomatch hn
    | some c =>
      obtain rfl : v = _ := hv
      exact .inl ⟨c, rfl, errno_error c w (hI c (.inr rfl)).1 (hI c (.inr rfl)).2⟩
  | some b :: r, v, w, hlen, hv, hn, hI => by
    obtain ⟨blk, v', rfl, hk, h3⟩ := hv
    have h1 := hk.cell (i := 0) rfl
    have h2 := hk.cell (i := 1) rfl
    simp only [List.length_cons] at hlen
    have hI' : ∀ b, (some b ∈ r ∨ t = some b) → Itoas w b ∧ (numB b).size ≤ 100 := fun b hb => hI b (hb.imp (List.mem_cons_of_mem _) id)
    have hz : (textB r t).size ≤ 8000000 := by have := textB_size (fun b hb => (hI' b hb).2); omega
    have ih : ∀ W, Below w.heap.size w W → Says v' (textB r t) W := fun W hW => err_says t r v' W (by omega) (h3.below hW) hn (fun b hb => ⟨(hI' b hb).1.below hW, (hI' b hb).2⟩)
    have hb := hI b (.inl (by simp))
    refine .inr (.inl ⟨blk, rfl, ?_⟩)
    rcases ih w (Below.refl _ _) with ⟨c, rfl, _⟩ | ⟨k, rfl, _⟩ | hO
    · exact fault_error_n blk b c _ w h1 h2 hb.1 hb.2 hz (fun W hW => by rcases ih W hW with ⟨c, h, hc⟩ | ⟨k, h, _⟩ | hO <;> first | (cases h; exact hc) | exact nomatch h | exact hO.elim | (obtain ⟨u, h, _⟩ := hO; exact nomatch h))
    · exact fault_error_f blk b k _ w h1 h2 hb.1 hb.2 hz (fun W hW => by rcases ih W hW with ⟨c, h, hc⟩ | ⟨k, h, hc⟩ | hO <;> first | (cases h; exact hc) | exact nomatch h | exact hO.elim | (obtain ⟨u, h, _⟩ := hO; exact nomatch h))
    · exact hO.elim
  | none :: r, v, w, hlen, hv, hn, hI => hv.elim

set_option maxHeartbeats 400000 in
theorem fault_Text (t : Option Int) (l : List (Option Int)) (v : Value) (w : World) (hlen : l.length ≤ 10000) (hv : ErrV w l t v) (hn : noErr l t = false → okE l t = true) (hI : ∀ b, (some b ∈ l ∨ t = some b) → Itoas w b ∧ (numB b).size ≤ 100) :
    Calls Tryz.prog 52 #[v] w (Ret (.string (textB l t)) w) := by
  rcases hv.nil_or with ⟨hz, rfl⟩ | ⟨hz, _, _, _⟩
  · obtain ⟨rfl, rfl⟩ := noErr_true hz
    unfold textB
    go_enter Tryz.func52, Tryz.ntmps52
    go_wp2_with fail
    go_ret
    exact ⟨rfl, Below.refl _ _⟩
  have hs := err_says t l v w hlen hv (hn hz) hI
  generalize textB l t = s at hs ⊢
  clear hv hI hn hz
  have f1 := Tryz.methErrorN
  have f2 := Tryz.methErrorF
  have f3 := Tryz.nilErrorF
  rcases hs with ⟨c, rfl, hc⟩ | ⟨k, rfl, hc⟩ | hO
  · go_enter Tryz.func52, Tryz.ntmps52
    go_wp2_with fail
    refine hc.mono ?_
    rintro e w' ⟨rfl, hb⟩
    go_wp2_with fail
    go_ret
    exact ⟨rfl, hb⟩
  · go_enter Tryz.func52, Tryz.ntmps52
    go_wp2_with fail
    refine hc.mono ?_
    rintro e w' ⟨rfl, hb⟩
    go_wp2_with fail
    go_ret
    exact ⟨rfl, hb⟩
  · exact hO.elim
end Go.Proofs.YtinegkldgjhnpaaGreatDoor
namespace Go.Proofs.YtinegkldgjhnpaaGreatDoor
open Go.RowKit Go.Extern.Stop Go.Stop Go.Extern
set_option linter.unusedVariables false
attribute [local irreducible] wpList wpAnyH Code.wp Oper.wp Go

set_option maxRecDepth 100000 in
set_option maxHeartbeats 1000000 in
theorem readN_Super (b : Nat) (no : Int) (w : World) :
    Calls Tryz.prog 69 #[.pointer none, .int .i64 no, .int .i64 1, .func (.func 70) #[] #[.pointer (some ⟨b, 0, none⟩)]] w (RetS (fun w' r => ∃ b, r = .tuple #[.agg #[.int .i64 0, .int .i64 0, .int .i64 0, .int .i64 0, .int .i64 0, .int .i64 0, .int .i64 0, .int .i64 0, .int .i64 0, .int .i64 0, .int .i64 0], .iface 67 (.pointer (some ⟨b, 0, none⟩))] ∧ ErrV w' [some no] (some 18) (.iface 67 (.pointer (some ⟨b, 0, none⟩)))) w) := by
  refine calls_of_wp Tryz.func69 rfl ?_
  refine g_fr ⟨#[.pointer none, .int .i64 no, .int .i64 1, .func (.func 70) #[] #[.pointer (some ⟨b, 0, none⟩)], undef, undef, undef, undef, undef, undef, undef, undef, undef, undef, undef, undef, undef, undef, undef, undef, undef, undef, undef, undef, undef, undef, undef, undef, undef, undef, undef, undef, undef, undef, undef, undef, undef, undef, undef, undef, undef, undef, undef, undef, undef, undef, undef, undef, undef, undef, undef, undef, undef, undef, undef, undef], []⟩ (by kernel_rfl) ?_
  refine wp_seq ?_
  refine wp_region_lit ?_
  refine g_op (by kernel_rfl) (op_alloc [.int .i64 0, .int .i64 0, .int .i64 0, .int .i64 0, .int .i64 0, .int .i64 0, .int .i64 0, .int .i64 0, .int .i64 0, .int .i64 0, .int .i64 0] rfl (by kernel_rfl) ?_)
  intro b1 W1 n1
  have g1 := n1.ge (Below.refl w.heap.size _)
  have hB := n1.below
  have k1 := n1.blk
  refine g_pv 1 [(9, .nilIface)] (by kernel_rfl) ?_
  refine wpList_nil ?_
  refine wp_seq ?_
  refine wp_region_lit ?_
  refine g_op (by kernel_rfl) (op_alloc [.int .i64 0, .int .i64 0, .int .i64 0, .int .i64 0, .int .i64 0, .int .i64 0, .int .i64 0, .int .i64 0, .int .i64 0, .int .i64 0, .int .i64 0] rfl (by kernel_rfl) ?_)
  intro b2 W2 n2
  have d2_b1 := n2.ne k1
  have g2 := n2.ge hB
  replace hB := Bl.next hB n2.below
  replace k1 := k1.below n2.below
  have k2 := n2.blk
  refine wpList_nil ?_
  refine wp_seq ?_
  refine wp_region_lit ?_
  refine g_pv 2 [(16, .pointer none), (17, .int .i64 no)] (by kernel_rfl) ?_
  refine g_op (by kernel_rfl) (op_call (lb := #[]) 99 #[.pointer none, .int .i64 no] rfl (by kernel_rfl) (fun _ _ => by kernel_rfl) (by kernel_rfl) ((image_Read_nilp no _).mono ?_))
  rintro e W3 ⟨_, rfl, hb3, vr, rfl⟩
  refine ⟨_, rfl, ?_⟩
  replace hB := Bl.next hB hb3
  replace k1 := k1.below hb3
  replace k2 := k2.below hb3
  refine g_pv 5 [(15, .tuple #[vr, .int .i64 18]), (19, vr), (20, .int .i64 18), (11, vr), (12, .int .i64 18)] (by kernel_rfl) ?_
  refine wpList_nil ?_
  refine wp_seq ?_
  refine wp_seq ?_
  refine wp_region_lit ?_
  refine g_pv 2 [(21, .int .i64 18), (22, .bool true)] (by kernel_rfl) ?_
  refine wpList_nil ?_
  refine wp_cond_true (by kernel_rfl) ?_
  refine wp_seq ?_
  replace hB := Bl.next hB (below_drew W3)
  replace k1 := k1.below (below_drew W3)
  replace k2 := k2.below (below_drew W3)
  refine h_reg (BelowBut (W3.drew) b1) 7 rfl #[false, false, false, false, false, false, false] rfl (by kernel_rfl) ((Below.refl _ _).but _) ?_
  intro hS4
  have hBd6 := hB
  have kd6_b1 := k1
  have kd6_b2 := k2
  refine h_loadv (b := b2) (off := 0) 0 6 rfl [.int .i64 0, .int .i64 0, .int .i64 0, .int .i64 0, .int .i64 0, .int .i64 0, .int .i64 0, .int .i64 0, .int .i64 0, .int .i64 0, .int .i64 0] _ rfl (by kernel_rfl) (by kernel_rfl) (by kernel_rfl) (fun _ _ _ _ _ h => h) (by kernel_rfl) rfl (by kernel_rfl) Tryz.underlying75 rfl (by kernel_rfl) (fun V hV => (hV.blk kd6_b2 (Ne.symm d2_b1)).whole) hS4 ?_
  refine h_pv [1, 2, 3] 3 rfl #[true, true, true, true, false, false, false] [(24, .int .i64 no), (25, .int .i64 18), (26, .iface 53 (.int .i64 18))] (by kernel_rfl) (fun _ _ _ _ _ h => h) (by kernel_rfl) hS4 ?_
  refine h_one 4 2 rfl (by kernel_rfl) rfl (by kernel_rfl) (op_call (lb := #[]) 55 #[.int .i64 no, .iface 53 (.int .i64 18)] rfl (by kernel_rfl) (fun _ _ => by kernel_rfl) (by kernel_rfl) ((block_told no 18 _).mono ?_))
  rintro e W7 ⟨_, rfl, hb7, hv7⟩
  refine ⟨_, rfl, ?_⟩
  replace hB := Bl.next hB hb7
  replace k1 := k1.below hb7
  replace k2 := k2.below hb7
  rw [if_neg (by decide), if_neg (by decide)] at hv7
  have hq7 := hv7
  obtain ⟨bf7, vf7, rfl, _, _⟩ := hq7
  have hS8 : BelowBut (W3.drew) b1 (W7) := hS4.next hb7
  refine ⟨hS8, ?_⟩
  refine h_one 5 1 rfl (by kernel_rfl) rfl (by kernel_rfl) (op_storev (b := b1) (off := 0) [.int .i64 0, .int .i64 0, .int .i64 0, .int .i64 0, .int .i64 0, .int .i64 0, .int .i64 0, .int .i64 0, .int .i64 0, .int .i64 0, .int .i64 0] rfl (by kernel_rfl) (by kernel_rfl) (by kernel_rfl) (by first | decide | simp [Value.oneCell']) k1 (by first | decide | simp) ?_)
  intro W9 u9 k9
  change Blk _ _ [.int .i64 0, .int .i64 0, .int .i64 0, .int .i64 0, .int .i64 0, .int .i64 0, .int .i64 0, .int .i64 0, .int .i64 0, .int .i64 0, .int .i64 0] _ at k9
  replace hB := u9.below hB g1
  replace k2 := u9.blk k2 (Ne.symm d2_b1)
  replace hv7 := hv7.upd u9 k1 (by decide)
  have hS10 : BelowBut (W3.drew) b1 (W9) := hS8.upd u9
  refine ⟨hS10, ?_⟩
  refine h_pv [6] 0 rfl #[true, true, true, true, true, true, true] [(9, .iface 67 (.pointer (some ⟨bf7, 0, none⟩)))] (by kernel_rfl) (fun _ _ _ _ _ h => h) (by kernel_rfl) hS10 ?_
  refine h_done _ (by kernel_rfl) ?_
  refine wp_ret (then_ret ?_)
  exact g_ret (.tuple #[.agg #[.int .i64 0, .int .i64 0, .int .i64 0, .int .i64 0, .int .i64 0, .int .i64 0, .int .i64 0, .int .i64 0, .int .i64 0, .int .i64 0, .int .i64 0], .iface 67 (.pointer (some ⟨bf7, 0, none⟩))]) (by kernel_rfl) (res_ct (d := _) (cs := [.int .i64 0, .int .i64 0, .int .i64 0, .int .i64 0, .int .i64 0, .int .i64 0, .int .i64 0, .int .i64 0, .int .i64 0, .int .i64 0, .int .i64 0]) rfl (by kernel_rfl) (by kernel_rfl) k9.whole Tryz.underlying75 rfl (by kernel_rfl)) ⟨_, rfl, hB, _, rfl, hv7⟩
set_option maxRecDepth 100000 in
set_option maxHeartbeats 1000000 in
theorem readN_Node (b : Nat) (no : Int) (w : World) :
    Calls Tryz.prog 56 #[.pointer none, .int .i64 no, .int .i64 2, .func (.func 57) #[] #[.pointer (some ⟨b, 0, none⟩)]] w (RetS (fun w' r => ∃ b, r = .tuple #[.agg #[.int .i64 0, .bool false, .slice none 0 0, .slice none 0 0], .iface 67 (.pointer (some ⟨b, 0, none⟩))] ∧ ErrV w' [some no] (some 18) (.iface 67 (.pointer (some ⟨b, 0, none⟩)))) w) := by
 refine zin 56 Tryz.func56 ?_
 refine xa 2 [.int .i64 0, .bool false, .slice none 0 0, .slice none 0 0] 52 fun b1 W1 n1 => ?_
 refine xa 5 [.int .i64 0, .bool false, .slice none 0 0, .slice none 0 0] 52 fun b2 W2 n2 => ?_
 have d2_b1 := n2.ne n1.blk
 refine xc 6 (args := #[.pointer none, .int .i64 no]) (image_Read_nilp no _) ?_
 rintro _ W3 ⟨_, rfl, hb3, vr, rfl⟩
 refine xd 16 (.t w.heap.size [52]) ?_
 refine xm2 (.b [1, 2, 3]) 0 4 ?_ ?_
 · have k2 := (n2.blk.below hb3).below (below_drew W3)
   refine xlv 0 k2.rp ?_
   refine yc (.o [] 4) (args := #[.int .i64 no, .iface 53 (.int .i64 18)]) (.t w.heap.size [52]) (block_told no 18 _) ?_
   rintro _ W4 ⟨_, rfl, hb4, hv4⟩
   refine ⟨(SF.of_below _ hb4), ?_⟩
   rw [if_neg (by decide), if_neg (by decide)] at hv4
   have hq4 := hv4
   obtain ⟨bf4, vf4, rfl, _, _⟩ := hq4
   have k1'1 := (((n1.blk.below n2.below).below hb3).below (below_drew W3)).below hb4
   have g1 := n1.ge (Below.refl w.heap.size _)
   refine ysv (.o [] 5) k1'1 [.int .i64 0, .bool false, .slice none 0 0, .slice none 0 0] (.t w.heap.size [52]) fun W5 u5 k5 => ⟨(sft_upd u5 k1'1 g1 (by decide)), ?_⟩
   have hB := u5.below (Bl.next (Bl.next (Bl.next (Bl.next n1.below n2.below) hb3) (below_drew W3)) hb4) g1
   have hv4'1 := hv4.upd u5 k1'1 (by decide)
   exact xec (.r [6] 4) k5 (.tuple #[.agg #[.int .i64 0, .bool false, .slice none 0 0, .slice none 0 0], .iface 67 (.pointer (some ⟨bf4, 0, none⟩))]) ⟨_, rfl, hB, _, rfl, hv4'1⟩
 refine yc 0 (args := #[.int .i64 no, .iface 53 (.int .i64 18)]) (.t w.heap.size [52]) (block_told no 18 _) ?_
 rintro _ W6 ⟨_, rfl, hb6, hv6⟩
 refine ⟨(SF.of_below _ hb6), ?_⟩
 rw [if_neg (by decide), if_neg (by decide)] at hv6
 have hq6 := hv6
 obtain ⟨bf6, vf6, rfl, _, _⟩ := hq6
 have k2 := ((n2.blk.below hb3).below (below_drew W3)).below hb6
 refine xlv (.o [] 0) k2.rp ?_
 have k1'2 := (((n1.blk.below n2.below).below hb3).below (below_drew W3)).below hb6
 have g1 := n1.ge (Below.refl w.heap.size _)
 refine ysv (.o [] 5) k1'2 [.int .i64 0, .bool false, .slice none 0 0, .slice none 0 0] (.t w.heap.size [52]) fun W7 u7 k7 => ⟨(sft_upd u7 k1'2 g1 (by decide)), ?_⟩
 have hB := u7.below (Bl.next (Bl.next (Bl.next (Bl.next n1.below n2.below) hb3) (below_drew W3)) hb6) g1
 have hv6'1 := hv6.upd u7 k1'2 (by decide)
 exact xec (.r [6] 4) k7 (.tuple #[.agg #[.int .i64 0, .bool false, .slice none 0 0, .slice none 0 0], .iface 67 (.pointer (some ⟨bf6, 0, none⟩))]) ⟨_, rfl, hB, _, rfl, hv6'1⟩
set_option maxRecDepth 100000 in
set_option maxHeartbeats 1000000 in
theorem readN_Bits (b : Nat) (no : Int) (w : World) :
    Calls Tryz.prog 59 #[.pointer none, .int .i64 no, .int .i64 3, .func (.func 60) #[] #[]] w (RetS (fun w' r => ∃ b, r = .tuple #[.slice none 0 0, .iface 67 (.pointer (some ⟨b, 0, none⟩))] ∧ ErrV w' [some no] (some 18) (.iface 67 (.pointer (some ⟨b, 0, none⟩)))) w) := by
 refine zin 56 Tryz.func59 ?_
 refine xc 15 (args := #[.pointer none, .int .i64 no]) (image_Read_nilp no _) ?_
 rintro _ W1 ⟨_, rfl, hb1, vr, rfl⟩
 refine xc 21 (args := #[.int .i64 no, .iface 53 (.int .i64 18)]) (block_told no 18 _) ?_
 rintro _ W2 ⟨_, rfl, hb2, hv2⟩
 rw [if_neg (by decide), if_neg (by decide)] at hv2
 have hq2 := hv2
 obtain ⟨bf2, vf2, rfl, _, _⟩ := hq2
 have hB := Bl.next hb1 hb2
 exact xe 6 (.tuple #[.slice none 0 0, .iface 67 (.pointer (some ⟨bf2, 0, none⟩))]) ⟨_, rfl, hB, _, rfl, hv2⟩
set_option maxRecDepth 100000 in
set_option maxHeartbeats 1000000 in
theorem readN_Index (b : Nat) (no : Int) (w : World) :
    Calls Tryz.prog 61 #[.pointer none, .int .i64 no, .int .i64 4, .func (.func 62) #[] #[]] w (RetS (fun w' r => ∃ b, r = .tuple #[.slice none 0 0, .iface 67 (.pointer (some ⟨b, 0, none⟩))] ∧ ErrV w' [some no] (some 18) (.iface 67 (.pointer (some ⟨b, 0, none⟩)))) w) := by
  refine calls_of_wp Tryz.func61 rfl ?_
  refine g_fr ⟨#[.pointer none, .int .i64 no, .int .i64 4, .func (.func 62) #[] #[], undef, undef, undef, undef, undef, undef, undef, undef, undef, undef, undef, undef, undef, undef, undef, undef, undef, undef, undef, undef, undef, undef, undef, undef, undef, undef, undef, undef, undef, undef, undef, undef, undef, undef, undef, undef, undef, undef, undef, undef, undef, undef, undef, undef, undef, undef, undef, undef, undef, undef, undef, undef], []⟩ (by kernel_rfl) ?_
  refine wp_seq ?_
  refine wp_region_lit ?_
  refine g_pv 2 [(8, .slice none 0 0), (9, .nilIface)] (by kernel_rfl) ?_
  refine wpList_nil ?_
  refine wp_seq ?_
  refine wp_region_lit ?_
  refine g_pv 1 [(10, .slice none 0 0)] (by kernel_rfl) ?_
  refine wpList_nil ?_
  refine wp_seq ?_
  refine wp_region_lit ?_
  refine g_pv 2 [(16, .pointer none), (17, .int .i64 no)] (by kernel_rfl) ?_
  refine g_op (by kernel_rfl) (op_call (lb := #[]) 99 #[.pointer none, .int .i64 no] rfl (by kernel_rfl) (fun _ _ => by kernel_rfl) (by kernel_rfl) ((image_Read_nilp no _).mono ?_))
  rintro e W1 ⟨_, rfl, hb1, vr, rfl⟩
  refine ⟨_, rfl, ?_⟩
  have hB := hb1
  refine g_pv 5 [(15, .tuple #[vr, .int .i64 18]), (19, vr), (20, .int .i64 18), (11, vr), (12, .int .i64 18)] (by kernel_rfl) ?_
  refine wpList_nil ?_
  refine wp_seq ?_
  refine wp_seq ?_
  refine wp_region_lit ?_
  refine g_pv 2 [(21, .int .i64 18), (22, .bool true)] (by kernel_rfl) ?_
  refine wpList_nil ?_
  refine wp_cond_true (by kernel_rfl) ?_
  refine wp_seq ?_
  refine wp_region_lit ?_
  refine g_pv 4 [(23, .slice none 0 0), (24, .int .i64 no), (25, .int .i64 18), (26, .iface 53 (.int .i64 18))] (by kernel_rfl) ?_
  refine g_op (by kernel_rfl) (op_call (lb := #[]) 55 #[.int .i64 no, .iface 53 (.int .i64 18)] rfl (by kernel_rfl) (fun _ _ => by kernel_rfl) (by kernel_rfl) ((block_told no 18 _).mono ?_))
  rintro e W2 ⟨_, rfl, hb2, hv2⟩
  refine ⟨_, rfl, ?_⟩
  replace hB := Bl.next hB hb2
  rw [if_neg (by decide), if_neg (by decide)] at hv2
  have hq2 := hv2
  obtain ⟨bf2, vf2, rfl, _, _⟩ := hq2
  refine g_pv 2 [(8, .slice none 0 0), (9, .iface 67 (.pointer (some ⟨bf2, 0, none⟩)))] (by kernel_rfl) ?_
  refine wpList_nil ?_
  refine wp_ret (then_ret ?_)
  exact g_ret (.tuple #[.slice none 0 0, .iface 67 (.pointer (some ⟨bf2, 0, none⟩))]) (by kernel_rfl) (by kernel_rfl) ⟨_, rfl, hB, _, rfl, hv2⟩
set_option maxRecDepth 100000 in
set_option maxHeartbeats 1000000 in
theorem blkN_Super (w : World) :
    Calls Tryz.prog 27 #[.pointer none] w (RetS (fun w' r => ∃ b, r = .tuple #[.agg #[.int .i64 0, .int .i64 0, .int .i64 0, .int .i64 0, .int .i64 0, .int .i64 0, .int .i64 0, .int .i64 0, .int .i64 0, .int .i64 0, .int .i64 0], .iface 67 (.pointer (some ⟨b, 0, none⟩))] ∧ ErrV w' [some 0] (some 18) (.iface 67 (.pointer (some ⟨b, 0, none⟩)))) w) := by
  refine calls_of_wp Tryz.func27 rfl ?_
  refine g_fr ⟨#[.pointer none, undef, undef, undef, undef, undef, undef, undef, undef], []⟩ (by kernel_rfl) ?_
  refine wp_seq ?_
  refine wp_region_lit ?_
  refine g_op (by kernel_rfl) (op_box [.pointer none] rfl (by kernel_rfl) ?_)
  intro b1 W1 n1
  have g1 := n1.ge (Below.refl w.heap.size _)
  have hB := n1.below
  have k1 := n1.blk
  refine g_op (by kernel_rfl) (op_alloc [.int .i64 0, .int .i64 0, .int .i64 0, .int .i64 0, .int .i64 0, .int .i64 0, .int .i64 0, .int .i64 0, .int .i64 0, .int .i64 0, .int .i64 0] rfl (by kernel_rfl) ?_)
  intro b2 W2 n2
  have d2_b1 := n2.ne k1
  have g2 := n2.ge hB
  replace hB := Bl.next hB n2.below
  replace k1 := k1.below n2.below
  have k2 := n2.blk
  refine g_pv 1 [(3, .nilIface)] (by kernel_rfl) ?_
  refine wpList_nil ?_
  refine wp_seq ?_
  refine wp_region_lit ?_
  refine g_op (by kernel_rfl) (op_load ⟨b1, 0, none⟩ (.pointer none) rfl (by kernel_rfl) (by kernel_rfl) (k1.cell (i := 0) rfl) ?_)
  refine g_pv 1 [(5, .func (.func 70) #[] #[.pointer (some ⟨b1, 0, none⟩)])] (by kernel_rfl) ?_
  refine g_op (by kernel_rfl) (op_call (lb := #[]) 69 #[.pointer none, .int .i64 0, .int .i64 1, .func (.func 70) #[] #[.pointer (some ⟨b1, 0, none⟩)]] rfl (by kernel_rfl) (fun _ _ => by kernel_rfl) (by kernel_rfl) ((readN_Super b1 0 _).mono ?_))
  rintro e W3 ⟨_, rfl, hb3, bf, rfl, hv⟩
  refine ⟨_, rfl, ?_⟩
  replace hB := Bl.next hB hb3
  replace k1 := k1.below hb3
  replace k2 := k2.below hb3
  refine g_pv 2 [(7, .agg #[.int .i64 0, .int .i64 0, .int .i64 0, .int .i64 0, .int .i64 0, .int .i64 0, .int .i64 0, .int .i64 0, .int .i64 0, .int .i64 0, .int .i64 0]), (8, .iface 67 (.pointer (some ⟨bf, 0, none⟩)))] (by kernel_rfl) ?_
  refine g_op (by kernel_rfl) (op_storev (b := b2) (off := 0) [.int .i64 0, .int .i64 0, .int .i64 0, .int .i64 0, .int .i64 0, .int .i64 0, .int .i64 0, .int .i64 0, .int .i64 0, .int .i64 0, .int .i64 0] rfl (by kernel_rfl) (by kernel_rfl) (by kernel_rfl) (by first | decide | simp [Value.oneCell']) k2 (by first | decide | simp) ?_)
  intro W4 u4 k4
  change Blk _ _ [.int .i64 0, .int .i64 0, .int .i64 0, .int .i64 0, .int .i64 0, .int .i64 0, .int .i64 0, .int .i64 0, .int .i64 0, .int .i64 0, .int .i64 0] _ at k4
  replace hB := u4.below hB g2
  replace k1 := u4.blk k1 (Ne.symm (Ne.symm d2_b1))
  replace hv := hv.upd u4 k2 (by decide)
  refine g_pv 1 [(3, .iface 67 (.pointer (some ⟨bf, 0, none⟩)))] (by kernel_rfl) ?_
  refine wpList_nil ?_
  refine wp_ret ?_
  exact g_ret (.tuple #[.agg #[.int .i64 0, .int .i64 0, .int .i64 0, .int .i64 0, .int .i64 0, .int .i64 0, .int .i64 0, .int .i64 0, .int .i64 0, .int .i64 0, .int .i64 0], .iface 67 (.pointer (some ⟨bf, 0, none⟩))]) (by kernel_rfl) (res_ct (d := _) (cs := [.int .i64 0, .int .i64 0, .int .i64 0, .int .i64 0, .int .i64 0, .int .i64 0, .int .i64 0, .int .i64 0, .int .i64 0, .int .i64 0, .int .i64 0]) rfl (by kernel_rfl) (by kernel_rfl) k4.whole Tryz.underlying75 rfl (by kernel_rfl)) ⟨_, rfl, hB, _, rfl, hv⟩
set_option maxRecDepth 100000 in
set_option maxHeartbeats 1000000 in
theorem blkN_Node (no tree : Int) (w : World) :
    Calls Tryz.prog 21 #[.pointer none, .int .i64 no, .int .i64 tree] w (RetS (fun w' r => ∃ b, r = .tuple #[.agg #[.int .i64 0, .bool false, .slice none 0 0, .slice none 0 0], .iface 67 (.pointer (some ⟨b, 0, none⟩))] ∧ ErrV w' [some no] (some 18) (.iface 67 (.pointer (some ⟨b, 0, none⟩)))) w) := by
 refine zin 14 Tryz.func21 ?_
 refine xa 2 [.int .i64 tree] 3 fun b1 W1 n1 => ?_
 refine xa 0 [.int .i64 0, .bool false, .slice none 0 0, .slice none 0 0] 52 fun b2 W2 n2 => ?_
 refine xc 8 (args := #[.pointer none, .int .i64 no, .int .i64 2, .func (.func 57) #[] #[.pointer (some ⟨b1, 0, none⟩)]]) (readN_Node b1 no _) ?_
 rintro _ W3 ⟨_, rfl, hb3, bf, rfl, hv⟩
 have k2 := n2.blk.below hb3
 refine xsv 2 k2 [.int .i64 0, .bool false, .slice none 0 0, .slice none 0 0] fun W4 u4 k4 => ?_
 have g2 := n2.ge n1.below
 have hB := u4.below (Bl.next (Bl.next n1.below n2.below) hb3) g2
 have hv'1 := hv.upd u4 k2 (by decide)
 exact xec 4 k4 (.tuple #[.agg #[.int .i64 0, .bool false, .slice none 0 0, .slice none 0 0], .iface 67 (.pointer (some ⟨bf, 0, none⟩))]) ⟨_, rfl, hB, _, rfl, hv'1⟩
set_option maxRecDepth 100000 in
set_option maxHeartbeats 1000000 in
theorem blkN_Bits (no : Int) (w : World) :
    Calls Tryz.prog 22 #[.pointer none, .int .i64 no] w (RetS (fun w' r => ∃ b, r = .tuple #[.slice none 0 0, .iface 67 (.pointer (some ⟨b, 0, none⟩))] ∧ ErrV w' [some no] (some 18) (.iface 67 (.pointer (some ⟨b, 0, none⟩)))) w) := by
 refine zin 11 Tryz.func22 ?_
 refine xc 10 (args := #[.pointer none, .int .i64 no, .int .i64 3, .func (.func 60) #[] #[]]) (readN_Bits 0 no _) ?_
 rintro _ W1 ⟨_, rfl, hb1, bf, rfl, hv⟩
 exact xe 7 (.tuple #[.slice none 0 0, .iface 67 (.pointer (some ⟨bf, 0, none⟩))]) ⟨_, rfl, hb1, _, rfl, hv⟩
set_option maxRecDepth 100000 in
set_option maxHeartbeats 1000000 in
theorem blkN_Index (no : Int) (w : World) :
    Calls Tryz.prog 23 #[.pointer none, .int .i64 no] w (RetS (fun w' r => ∃ b, r = .tuple #[.slice none 0 0, .iface 67 (.pointer (some ⟨b, 0, none⟩))] ∧ ErrV w' [some no] (some 18) (.iface 67 (.pointer (some ⟨b, 0, none⟩)))) w) := by
  refine calls_of_wp Tryz.func23 rfl ?_
  refine g_fr ⟨#[.pointer none, .int .i64 no, undef, undef, undef, undef, undef, undef, undef, undef, undef], []⟩ (by kernel_rfl) ?_
  refine wp_seq ?_
  refine wp_region_lit ?_
  refine g_pv 2 [(4, .slice none 0 0), (5, .nilIface)] (by kernel_rfl) ?_
  refine wpList_nil ?_
  refine wp_seq ?_
  refine wp_region_lit ?_
  refine g_pv 2 [(6, .pointer none), (7, .int .i64 no)] (by kernel_rfl) ?_
  refine g_op (by kernel_rfl) (op_call (lb := #[]) 61 #[.pointer none, .int .i64 no, .int .i64 4, .func (.func 62) #[] #[]] rfl (by kernel_rfl) (fun _ _ => by kernel_rfl) (by kernel_rfl) ((readN_Index 0 no _).mono ?_))
  rintro e W1 ⟨_, rfl, hb1, bf, rfl, hv⟩
  refine ⟨_, rfl, ?_⟩
  have hB := hb1
  refine g_pv 4 [(9, .slice none 0 0), (10, .iface 67 (.pointer (some ⟨bf, 0, none⟩))), (4, .slice none 0 0), (5, .iface 67 (.pointer (some ⟨bf, 0, none⟩)))] (by kernel_rfl) ?_
  refine wpList_nil ?_
  refine wp_ret ?_
  exact g_ret (.tuple #[.slice none 0 0, .iface 67 (.pointer (some ⟨bf, 0, none⟩))]) (by kernel_rfl) (by kernel_rfl) ⟨_, rfl, hB, _, rfl, hv⟩
/-- the number that Seal hands back -/
def sealE (kind no : Int) (li : List UInt8) : Int := if knownB kind no then (if li.length ≤ 244 then 0 else 2) else 1
theorem knownB_all {kind no : Int} (h : knownB kind no = true) : 1 ≤ kind ∧ kind ≤ 4 ∧ 0 ≤ no ∧ no < 14400 := of_decide_eq_true h
set_option maxRecDepth 100000 in
set_option maxHeartbeats 1000000 in
theorem seal_Seal_bad (kind no : Int) (a : Option Addr) (c : Nat) (li : List UInt8) (w : World) (hk : knownB kind no = false) :
    Calls Tryz.prog 53 #[.int .i64 kind, .int .i64 no, .slice a li.length c] w (Ret (.tuple #[.slice none 0 0, .int .i64 1]) w) := by
 refine zin 54 Tryz.func53 ?_
 refine xr 11 (args := #[.int .i64 kind, .int .i64 no]) (seal_knownB kind no _) fun W1 hb1 => ?_
 refine xk 3 (show (!(knownB kind no) : Bool) = true from by rw [hk]; rfl) ?_
 exact xe 8 (.tuple #[.slice none 0 0, .int .i64 1]) ⟨rfl, hb1⟩
set_option maxRecDepth 100000 in
set_option maxHeartbeats 1000000 in
theorem seal_Seal_long (kind no : Int) (a : Option Addr) (c : Nat) (li : List UInt8) (w : World) (hk : knownB kind no = true) (hl : 244 < li.length) :
    Calls Tryz.prog 53 #[.int .i64 kind, .int .i64 no, .slice a li.length c] w (Ret (.tuple #[.slice none 0 0, .int .i64 2]) w) := by
 refine zin 54 Tryz.func53 ?_
 refine xr 11 (args := #[.int .i64 kind, .int .i64 no]) (seal_knownB kind no _) fun W1 hb1 => ?_
 refine xk 3 (show (!(knownB kind no) : Bool) = false from by rw [hk]; rfl) ?_
 refine xk 10 (show (decide ((↑li.length : Int) > (244 : Int)) : Bool) = true from decide_eq_true (by omega)) ?_
 exact xe 8 (.tuple #[.slice none 0 0, .int .i64 2]) ⟨rfl, hb1⟩
def SealP (kind no : Int) (li : List UInt8) (w : World) (e : Ending) (w' : World) : Prop :=
  (sealE kind no li ≠ 0 ∧ e = .returned (.tuple #[.slice none 0 0, .int .i64 (sealE kind no li)]) ∧ Below w.heap.size w w') ∨
  (sealE kind no li = 0 ∧ knownB kind no = true ∧ li.length ≤ 244 ∧ ∃ p c, e = .returned (.tuple #[.slice p 256 c, .int .i64 0]) ∧ Below w.heap.size w w' ∧ w'.ownsRow w.heap.size 5 1 (.slice p 256 c) 256 ((sealB kind no li).map bv))
theorem seal_SealG (kind no : Int) (a : Option Addr) (c : Nat) (li : List UInt8) (w : World) (h : Bys w (.slice a li.length c) li) :
    Calls Tryz.prog 53 #[.int .i64 kind, .int .i64 no, .slice a li.length c] w (SealP kind no li w) := by
  cases hk : knownB kind no with
  | false =>
    refine (seal_Seal_bad kind no a c li w hk).mono ?_
    rintro e W ⟨rfl, hb⟩
    have he : sealE kind no li = 1 := by simp [sealE, hk]
    exact .inl ⟨by rw [he]; decide, by rw [he], hb⟩
  | true =>
    by_cases hl : li.length ≤ 244
    · obtain ⟨h1, h2, h3, h4⟩ := knownB_all hk
      refine (seal_Seal kind no h1 h2 h3 h4 a c li w hl h).mono ?_
      rintro e W ⟨_, rfl, hb, p, c2, rfl, ho⟩
      exact .inr ⟨by simp [sealE, hk, hl], hk, hl, p, c2, rfl, hb, ho⟩
    · refine (seal_Seal_long kind no a c li w hk (by omega)).mono ?_
      rintro e W ⟨rfl, hb⟩
      have he : sealE kind no li = 2 := by simp [sealE, hk, hl]
      exact .inl ⟨by rw [he]; decide, by rw [he], hb⟩
set_option maxRecDepth 100000 in
set_option maxHeartbeats 1000000 in
theorem image_Write_nil (k : Int) (x : Value) (w : World) :
    Calls Tryz.prog 54 #[.pointer none, .int .i64 k, x] w (Ret (.int .i64 18) w) := by
 refine zin 24 Tryz.func54 ?_
 refine xr 9 (args := #[.pointer none, .int .i64 k]) (image_block_nil k _) fun W1 hb1 => ?_
 exact xe 23 (.int .i64 18) ⟨rfl, hb1⟩
set_option maxRecDepth 100000 in
set_option maxHeartbeats 1000000 in
theorem blkN_Write (no kind : Int) (a : Option Addr) (c : Nat) (li : List UInt8) (w : World) (h : Bys w (.slice a li.length c) li) :
    Calls Tryz.prog 20 #[.pointer none, .int .i64 no, .int .i64 kind, .slice a li.length c] w (RetS (fun w' r => ∃ b er, r = .iface 67 (.pointer (some ⟨b, 0, none⟩)) ∧ er ≠ 0 ∧ ErrV w' [some no] (some er) (.iface 67 (.pointer (some ⟨b, 0, none⟩)))) w) := by
 refine zin 28 Tryz.func20 ?_
 refine xc 10 (args := #[.int .i64 kind, .int .i64 no, .slice a li.length c]) (seal_SealG kind no a c li _ (h.below (Below.refl w.heap.size _))) ?_
 rintro e W1 hq1
 rcases hq1 with ⟨hs, rfl, hb1⟩ | ⟨_, _, _, p2, c2, rfl, hb1, _⟩
 · refine xk 14 (show (((sealE kind no li) == (0 : Int)) : Bool) = false from beq_false_of_ne hs) ?_
   refine xc 7 (args := #[.int .i64 no, .iface 53 (.int .i64 (sealE kind no li))]) (block_told no (sealE kind no li) _) ?_
   rintro _ W2 ⟨_, rfl, hb2, hv2⟩
   rw [if_neg hs, if_neg hs] at hv2
   have hq2 := hv2
   obtain ⟨bf2, vf2, rfl, _, _⟩ := hq2
   have hB := Bl.next hb1 hb2
   exact xe 4 (.iface 67 (.pointer (some ⟨bf2, 0, none⟩))) ⟨_, rfl, hB, _, _, rfl, hs, hv2⟩
 refine xr 19 (args := #[.pointer none, .int .i64 no, .slice p2 256 c2]) (image_Write_nil no _ _) fun W3 hb3 => ?_
 refine xc 8 (args := #[.int .i64 no, .iface 53 (.int .i64 18)]) (block_told no 18 _) ?_
 rintro _ W4 ⟨_, rfl, hb4, hv4⟩
 rw [if_neg (by decide), if_neg (by decide)] at hv4
 have hq4 := hv4
 obtain ⟨bf4, vf4, rfl, _, _⟩ := hq4
 have hB := Bl.next (Bl.next hb1 hb3) hb4
 exact xe 4 (.iface 67 (.pointer (some ⟨bf4, 0, none⟩))) ⟨_, rfl, hB, _, _, rfl, (by decide), hv4⟩
end Go.Proofs.YtinegkldgjhnpaaGreatDoor
namespace Go.Proofs.YtinegkldgjhnpaaGreatDoor
open Go.RowKit Go.Extern.Stop Go.Stop Go.Extern
set_option linter.unusedVariables false
section
variable {P : Program} {Q : Exit → Act → World → Prop} {a : Act} {w : World} {K : Act → World → Prop}
/-- 'copy' of a string into a row of the call's own -/
theorem op_copyS {o : Oper} {d x : Operand} {dT sT e : TypeId} {base g off n cap dLen dCap : Nat} {xs : List Value} (l : List UInt8) (xs' : List Value) (ho : o.op = .call { callee := .builtin .copy, args := #[d, x], argTypes := #[dT, sT] }) (hu : P.underlying dT = some (.slice e)) (hsz : (P.info? e).map (·.size) = some 1)
    (hd : a.eval d = .slice (some ⟨g, off, none⟩) dLen dCap) (hs : a.eval x = .string ⟨l.toArray⟩) (hown : w.ownsRow base e 1 (.slice (some ⟨g, 0, none⟩) n cap) n xs) (hm : l.length ≤ dLen) (hfit : off + l.length ≤ n)
    (hbase : base ≤ w.heap.size) (hxs : xs.take off ++ l.map bv ++ xs.drop (off + l.length) = xs')
    (h : ∀ W, W.ownsRow base e 1 (.slice (some ⟨g, 0, none⟩) n cap) n xs' → w.grownBy W (Value.slice (some ⟨g, 0, none⟩) n cap).ownBlock → Below base w W → K (a.put o.dst (.int .i64 (l.length : Int))) W) : o.wp P a w K Q := by
  obtain ⟨hl, hr⟩ := hown
  rcases hr with ⟨hv, _⟩ | ⟨g2, cap2, cur, hv, hge, hh, hnc, hcm, hcs, htk⟩
  · cases hv
  simp only [Value.slice.injEq, Option.some.injEq, Addr.mk.injEq] at hv
  obtain ⟨⟨rfl, _, _⟩, _, rfl⟩ := hv
  have hlen : xs.length = n := by simpa using hl
  have hcur : cur.toList.length = cap := by simpa using hcs
  have hml : (l.map bv).length = l.length := by simp
  have key : ∀ W, W.heap[g]? = some (.cells (cur.toList.take off ++ l.map bv ++ cur.toList.drop (off + l.length)).toArray e (0, 0)) → w.grownBy W (some g) → K (a.put o.dst (.int .i64 (l.length : Int))) W := by
    intro W hW hg
    refine h W ⟨?_, .inr ⟨g, cap, _, rfl, hge, hW, hnc, hcm, ?_, ?_⟩⟩ hg (grown_below (v := .slice (some ⟨g, 0, none⟩) n cap) hg ⟨hl, .inr ⟨g, cap, cur, rfl, hge, hh, hnc, hcm, hcs, htk⟩⟩ (Nat.le_refl _) hbase)
    · rw [← hxs]; simp; omega
    · simp only [List.size_toArray, List.length_append, List.length_take, List.length_drop, hcur, Nat.mul_one, hml]; omega
    · have hA : (cur.toList.take off ++ l.map bv).length = off + l.length := by simp only [List.length_append, List.length_take, hcur, hml]; omega
      rw [← hxs, ← htk]
      simp only [Nat.mul_one]
      rw [List.take_append, List.take_of_length_le (by rw [hA]; omega), hA, List.take_take, Nat.min_eq_left (by omega : off ≤ n), List.drop_take]
  have hsize : (⟨l.toArray⟩ : ByteArray).size = l.length := by show l.toArray.size = l.length; simp
  have hrun := Go.Lib.run_copy_row_string (P := P) w dT sT o.type e g off dLen dCap ⟨l.toArray⟩ cur e hu hsz hh (by rw [hsize]; exact hm) (by rw [hsize, hcs]; omega)
  rw [hsize] at hrun
  have hbc : Go.Lib.byteCells (⟨l.toArray⟩ : ByteArray).data.toList = l.map bv := rfl
  rw [hbc] at hrun
  have h2 : (execOp a.eval o).run P w = .ok (.value (.int .i64 (l.length : Int))) (w.setRow g (cur.toList.take off ++ l.map bv ++ cur.toList.drop (off + l.length)).toArray) := by
    simp [execOp, ho, resolve, invoke, builtin, hd, hs, hrun, Result.andThen, goInt]
  exact op_val h2 (key _ (setRow_heap w g _ _ e _ hh) ⟨rfl, rfl, rfl, by simp, fun k _ hk => setRow_other w g k _ (fun e => hk (by rw [e]))⟩)
/-- a slice of one-cell elements, cut to its head -/
theorem Sl.head {b : Option Addr} {n c : Nat} {xs : List Value} (h : Sl w (.slice b n c) n xs) (hn : xs.length = n) (m : Nat) (hm : m ≤ n) : Sl w (.slice b m c) m (xs.take m) := by
  rcases h with ⟨a', c', h1, h2, h3⟩ | ⟨b', off, cap, h1, h2, h3, h4⟩
  · obtain rfl : m = 0 := by omega
    simp only [Value.slice.injEq] at h1
    exact .inl ⟨b, c, rfl, rfl, by simp⟩
  · simp only [Value.slice.injEq] at h1
    obtain ⟨rfl, _, rfl⟩ := h1
    refine .inr ⟨b', off, c, rfl, by omega, h3, fun j x hj => h4 j x ?_⟩
    have hjm : j < m := by have := (List.getElem?_eq_some_iff.1 hj).1; simp at this; omega
    rwa [List.getElem?_take_of_lt hjm] at hj
/-- a string, its bytes a list -/
def sv (l : List UInt8) : Value := .string ⟨l.toArray⟩
theorem Strs.elem {b : Option Addr} {n c : Nat} {V : List (List UInt8)} (h : Sl w (.slice b n c) n (V.map sv)) (hl : V.length = n) {k : Nat} (hk : k < n) : b.isSome = true ∧ w.cell? (elemAddr b (k * 1)) = some (.string ⟨(V.getD k []).toArray⟩) := by
  rcases h with ⟨a', c', h1, h2, h3⟩ | ⟨b', off, cap, h1, h2, h3, h4⟩
  · omega
  · simp only [Value.slice.injEq] at h1
    obtain ⟨rfl, _, rfl⟩ := h1
    refine ⟨rfl, ?_⟩
    have := h4 k (sv (V.getD k [])) (by simp [List.getD, List.getElem?_eq_getElem (show k < V.length by omega)])
    rw [Nat.mul_one]
    show w.cell? ((⟨b', off, none⟩ : Addr).add k) = _
    rw [Addr.add_mid]
    exact this
end
end Go.Proofs.YtinegkldgjhnpaaGreatDoor
namespace Go.Proofs.YtinegkldgjhnpaaGreatDoor
open Go.RowKit Go.Extern.Stop Go.Stop Go.Extern
set_option linter.unusedVariables false
section
variable {P : Program} {a : Act} {w : World} {K : Act → World → Prop} {Q : Exit → Act → World → Prop}
theorem strCells_bv (l : List UInt8) : Lib.strCells ⟨l.toArray⟩ = l.map bv := by
  unfold Lib.strCells bv
  simp
theorem op_appS {o : Oper} {s x : Operand} {t u e : TypeId} {base : Nat} {v : Value} {n : Nat} {xs : List Value} (l : List UInt8) (n' : Nat) (xs' : List Value) (ho : o.op = .call { callee := .builtin .append, args := #[s, x], argTypes := #[t, u] })
    (ht : P.underlying t = some (.slice e)) (hu : P.underlying u = some .string) (hi : (P.info? e).map (fun i => (i.zero, i.size, i.bytes)) = some (some (.int .u8 0), 1, 1)) (hs : a.eval s = v) (hown : w.ownsRow base e 1 v n xs) (hx : a.eval x = .string ⟨l.toArray⟩)
    (hb : n + l.length ≤ 100000000) (hbase : base ≤ w.heap.size) (hn : n + l.length = n') (hxs : xs ++ l.map bv = xs')
    (h : ∀ b c W, W.ownsRow base e 1 (.slice b n' c) n' xs' → w.grownBy W v.ownBlock → Below base w W → K (a.put o.dst (.slice b n' c)) W) : o.wp P a w K Q := by
  cases hq : P.info? e with
  | none => simp [hq] at hi
  | some i =>
    simp only [hq, Option.map_some, Option.some.injEq, Prod.mk.injEq] at hi
    have hsz : (⟨l.toArray⟩ : ByteArray).size = l.length := by simp [ByteArray.size]
    obtain ⟨v', W, hr, h2, h3, _⟩ := Lib.run_append_own_string (P := P) w base t u o.type e i ht hu hq hi.1 hi.2.1 hi.2.2 v n xs hown ⟨l.toArray⟩ (by rw [hsz]; unfold maxLen; omega) (by rw [hsz]; omega) hbase
    rw [hsz, strCells_bv] at h2
    subst hn hxs
    obtain ⟨b, c, rfl⟩ := (own_sl h2).slice
    unfold Oper.wp execOp
    simp only [ho, resolve, invoke, builtin, Sem.run_bind, Sem.run_pure, Result.andThen_ok, List.map_toArray, List.map_cons, List.map_nil, hs, hx, hr]
    exact h b c W h2 h3 (grown_below h3 hown (Nat.le_refl _) hbase)
theorem elemAddr_own (g k : Nat) : elemAddr (some ⟨g, 0, none⟩) (k * 1) = ⟨g, k, none⟩ := by
  simp [elemAddr, Addr.add]; exact fun h => h.symm
theorem op_storeRow {o : Oper} {t e : TypeId} {x y : Operand} {g n c k base : Nat} {xs : List Value} {v : Value} (ho : o.op = .store t x y) (hx : a.eval x = .pointer (some (elemAddr (some ⟨g, 0, none⟩) (k * 1)))) (hy : a.eval y = v)
    (hi : (P.info? t).map (·.size) = some 1) (h1 : v.oneCell' = true) (hown : w.ownsRow base e 1 (.slice (some ⟨g, 0, none⟩) n c) n xs) (hk : k < n)
    (h : ∀ W, Upd w g W → W.ownsRow base e 1 (.slice (some ⟨g, 0, none⟩) n c) n (xs.set k v) → K (a.put o.dst undef) W) : o.wp P a w K Q := by
  obtain ⟨hl, h2⟩ := hown
  rcases h2 with ⟨h2, _⟩ | ⟨g', cap, cur, hv, hg, hh, hc, hm, hsz, htk⟩
  · cases h2
  · simp only [Value.slice.injEq, Option.some.injEq, Addr.mk.injEq] at hv
    obtain ⟨⟨rfl, _⟩, _, rfl⟩ := hv
    have hb : Blk w g cur.toList e := by unfold Blk; simpa using hh
    rw [elemAddr_own] at hx
    refine op_store ho hx hy hi h1 hb (by simp; omega) fun W hu hW => h W hu ⟨by simpa using hl, .inr ⟨g, c, (cur.toList.set k v).toArray, rfl, hg, hW, hc, hm, by simpa using hsz, ?_⟩⟩
    rw [← htk]
    simp [List.take_set]
end
section
variable {P : Program} {ops : Array Oper} {Q : Exit → Act → World → Prop} {a a' : Act} {w : World} {S : World → Prop} {md : Region.Mode} {L L' : Array Bool} {fuel : Nat}
theorem h_three {o o2 o3 : Oper} (i j m fuel : Nat) {f0 : Nat} (hf : f0 = fuel + 1) (hr : Region.ready md ops L = [i, j, m]) (ho : ops.toList[i]? = some o) (ho2 : ops.toList[j]? = some o2) (ho3 : ops.toList[m]? = some o3) (hw : Region.wanted o (yielded ops a.tmps) = true) (hw2 : Region.wanted o2 (yielded ops a.tmps) = true) (hw3 : Region.wanted o3 (yielded ops a.tmps) = true)
    (h : o.wp P a w (fun a' w' => S w' ∧ wpAnyH P md ops Q S fuel (L.setIfInBounds i true) a' w') Q) (h2 : o2.wp P a w (fun a' w' => S w' ∧ wpAnyH P md ops Q S fuel (L.setIfInBounds j true) a' w') Q) (h3 : o3.wp P a w (fun a' w' => S w' ∧ wpAnyH P md ops Q S fuel (L.setIfInBounds m true) a' w') Q) : wpAnyH P md ops Q S f0 L a w := by
  subst hf
  refine wpAnyH_all hr (by simp) fun k hk => ?_
  have ho' : ops[i]? = some o := by rw [← ho]; simp
  have ho2' : ops[j]? = some o2 := by rw [← ho2]; simp
  have ho3' : ops[m]? = some o3 := by rw [← ho3]; simp
  rcases List.mem_cons.1 hk with rfl | hk
  · unfold wpOp; simp only [ho', hw, if_true]; exact .inl h
  · rcases List.mem_cons.1 hk with rfl | hk
    · unfold wpOp; simp only [ho2', hw2, if_true]; exact .inl h2
    · obtain rfl : k = m := by simpa using hk
      unfold wpOp; simp only [ho3', hw3, if_true]; exact .inl h3
end
theorem res_tc {P : Program} {fn : Func} {tmps : Array Value} {w : World} {k j : Nat} {t : TypeId} {b off : Nat} {cs : List Value} {d : TypeDesc} {u : Value} (hfn : fn.results = #[.tmp j, .cell k t]) (e : tmps.getD k undef = .pointer (some ⟨b, off, none⟩)) (e2 : tmps.getD j undef = u) (hc : w.rangeAt b off cs)
    (hu : P.underlying t = some d) (hd : d.isRow = true) (hi : (P.info? t).map (·.size) = some cs.length) : (results fn tmps).run P w = .ok (.tuple #[u, .agg cs.toArray]) w := by
  have h := run_loadVar_mid w b off t cs d hc hu hd hi
  have e' : tmps[k]?.getD undef = .pointer (some ⟨b, off, none⟩) := by simpa using e
  have e2' : tmps[j]?.getD undef = u := by simpa using e2
  simp [results, hfn, e', e2', asAddr, h]
theorem own_ge {w : World} {base e size g n c : Nat} {xs : List Value} (h : w.ownsRow base e size (.slice (some ⟨g, 0, none⟩) n c) n xs) : base ≤ g := (h.lt g rfl).1
theorem own_blk {w : World} {base e size g n c : Nat} {xs : List Value} (h : w.ownsRow base e size (.slice (some ⟨g, 0, none⟩) n c) n xs) : ∃ cs, Blk w g cs e := by
  rcases h.2 with ⟨h2, _⟩ | ⟨g', cap, cur, hv, hg, hh, _⟩
  · cases h2
  · simp only [Value.slice.injEq, Option.some.injEq, Addr.mk.injEq] at hv
    obtain ⟨⟨rfl, _⟩, _⟩ := hv
    exact ⟨cur.toList, by unfold Blk; simpa using hh⟩
theorem own_blk_ne {w : World} {base e size g n c b : Nat} {t : TypeId} {xs cs : List Value} (k : Blk w b cs t) (h : w.ownsRow base e size (.slice (some ⟨g, 0, none⟩) n c) n xs) (hne : t ≠ e) : b ≠ g := by
  rintro rfl
  obtain ⟨cs', k'⟩ := own_blk h
  have h1 : w.heap[b]? = some (.cells cs.toArray t (0, 0)) := k
  rw [show w.heap[b]? = some (.cells cs'.toArray e (0, 0)) from k'] at h1
  simp only [Option.some.injEq, Obj.cells.injEq] at h1
  exact hne h1.2.1.symm
theorem Only.of_updRow {T : List TypeId} {w W : World} {base e size g n c : Nat} {xs : List Value} (u : Upd w g W) (h : w.ownsRow base e size (.slice (some ⟨g, 0, none⟩) n c) n xs) (hT : T.contains e = true) : Only T w W := by
  obtain ⟨cs, k⟩ := own_blk h
  exact Only.of_upd u k hT
theorem Upd.ownRow {w W : World} {base base2 e e2 size size2 g n c n2 : Nat} {v : Value} {xs ys : List Value} (u : Upd w g W) (h : w.ownsRow base2 e2 size2 v n2 ys) (o : w.ownsRow base e size (.slice (some ⟨g, 0, none⟩) n c) n xs) (hne : e2 ≠ e) : W.ownsRow base2 e2 size2 v n2 ys := by
  obtain ⟨cs, k⟩ := own_blk o
  exact u.own2 h k hne
end Go.Proofs.YtinegkldgjhnpaaGreatDoor
namespace Go.Proofs.YtinegkldgjhnpaaGreatDoor
open Go.RowKit Go.Extern.Stop Go.Stop Go.Extern
set_option linter.unusedVariables false
attribute [local irreducible] wpList wpAnyH Code.wp Oper.wp Go

theorem step1_xor (a b : Nat) : step1 (a ^^^ b) = step1 a ^^^ step1 b := by
  have e : ∀ r, step1 r = (r / 2) ^^^ (if r % 2 = 1 then 2197175160 else 0) := fun r => by unfold step1; split <;> simp
  rw [e, e, e, Nat.xor_div_two]
  have hp := Nat.xor_mod_two_eq_one (a := a) (b := b)
  by_cases h1 : a % 2 = 1 <;> by_cases h2 : b % 2 = 1
  · rw [if_neg (by rw [hp]; simp [h1, h2]), if_pos h1, if_pos h2, Nat.xor_zero]
    rw [show a / 2 ^^^ 2197175160 ^^^ (b / 2 ^^^ 2197175160) = a / 2 ^^^ b / 2 ^^^ (2197175160 ^^^ 2197175160) by ac_rfl]; simp
  · rw [if_pos (by rw [hp]; simp [h1, h2]), if_pos h1, if_neg h2, Nat.xor_zero]; ac_rfl
  · rw [if_pos (by rw [hp]; simp [h1, h2]), if_neg h1, if_pos h2, Nat.xor_zero]; ac_rfl
  · rw [if_neg (by rw [hp]; simp [h1, h2]), if_neg h1, if_neg h2, Nat.xor_zero, Nat.xor_zero, Nat.xor_zero]
theorem stepN_xor (n a b : Nat) : stepN n (a ^^^ b) = stepN n a ^^^ stepN n b := by
  induction n with
  | zero => rfl
  | succ n ih => rw [stepN, ih, step1_xor]; rfl
theorem step1_even (q : Nat) : step1 (2 * q) = q := by unfold step1; rw [if_neg (by omega)]; omega
theorem stepN_16 (q : Nat) : stepN 4 (16 * q) = q := by
  show step1 (step1 (step1 (step1 (16 * q)))) = q
  rw [show 16 * q = 2 * (2 * (2 * (2 * q))) by omega, step1_even, step1_even, step1_even, step1_even]
theorem split16 (r : Nat) : r = (16 * (r / 16)) ^^^ (r % 16) := by
  apply Nat.eq_of_testBit_eq
  intro i
  rw [Nat.testBit_xor, show 16 * (r / 16) = 2 ^ 4 * (r / 2 ^ 4) from rfl, Nat.testBit_two_pow_mul, Nat.testBit_div_two_pow, show r % 16 = r % 2 ^ 4 from rfl, Nat.testBit_mod_two_pow]
  by_cases h : 4 ≤ i
  · rw [show i - 4 + 4 = i by omega, show decide (i ≥ 4) = true from decide_eq_true h, show decide (i < 4) = false from decide_eq_false (by omega)]; simp
  · rw [show decide (i ≥ 4) = false from decide_eq_false h, show decide (i < 4) = true from decide_eq_true (by omega)]; simp
theorem stepN_4 (r : Nat) : stepN 4 r = (r / 16) ^^^ half (r % 16) := by
  conv => lhs; rw [split16 r]
  rw [stepN_xor, stepN_16]; rfl
theorem stepN_add (m n r : Nat) : stepN (m + n) r = stepN m (stepN n r) := by
  induction m with
  | zero => simp [stepN]
  | succ m ih => rw [Nat.succ_add, stepN, ih]; rfl
theorem crcStep_8 (r : Nat) (x : UInt8) : crcStep r x = stepN 8 (r ^^^ x.toNat) := by
  show _ = stepN (4 + 4) (r ^^^ x.toNat)
  rw [stepN_add, stepN_4, stepN_4]; rfl
theorem step1_odd {r : Nat} (h : r % 2 = 1) : step1 r = (r / 2) ^^^ 2197175160 := if_pos h
theorem step1_ev {r : Nat} (h : ¬ r % 2 = 1) : step1 r = r / 2 := if_neg h
set_option maxRecDepth 100000 in
set_option maxHeartbeats 1000000 in
theorem ref_Step (r : Nat) (w : World) (hr : r < 4294967296) :
    Calls Tryz.prog 170 #[.int .i64 (↑r : Int)] w (Ret (.int .i64 (stepN 8 r : Int)) w) := by
 refine zin 18 Tryz.func170 ?_
 have hB := Below.refl w.heap.size w
 refine zl 12 18 (fun zm zkv V => ∃ (j : Nat), zkv = [(0, .int .i64 (↑(stepN j r) : Int)), (2, .int .i64 0), (3, .int .i64 (↑j : Int))] ∧ zm = 8 - ((↑j : Int)).toNat ∧ Below w.heap.size w V ∧ j ≤ 8) ⟨0, rfl, rfl, hB, by decide⟩ ?_
 rintro _ _ W1 ⟨j, rfl, rfl, hB_1, hj⟩ J1 hJ1 r1
 refine xid 7 ((↑j : Int) < (8 : Int)) (fun hc2 => ?_) (fun hc2 => ?_)
 · refine xq 7 (congrArg (Value.int .i64) (show (Int.tmod (↑(stepN j r) : Int) 2 : Int) = (↑((stepN j r) % 2) : Int) from tmod_natB (stepN j r) 2)) ?_
   refine xq 7 (congrArg (Value.int .i64) (show (IntKind.i64.wrap (Int.tdiv (↑(stepN j r) : Int) 2) : Int) = (↑((stepN j r) / 2) : Int) from quo_natB (stepN j r) 2 (by have := stepN_lt (j := j) hr; omega) (by decide))) ?_
   refine xie 8 (↑((stepN j r) % 2) : Int) (1 : Int) (fun hc3 => ?_) (fun hc3 => ?_)
   · refine xq 2 (congrArg (Value.int .i64) (show (IntKind.i64.wrap (↑(BitVec.ofInt 64 (↑((stepN j r) / 2) : Int) ^^^ BitVec.ofInt 64 (2197175160 : Int)).toNat : Int) : Int) = (↑(((stepN j r) / 2) ^^^ 2197175160) : Int) from i64_xor (a := (stepN j r) / 2) (b := 2197175160) (by have := stepN_lt (j := j) hr; omega) (by decide))) ?_
     refine xwm 6 ((↑j : Int) + 1) (↑(j + 1) : Int) ?_
     refine xv1 2 0 (show (.int .i64 (↑(((stepN j r) / 2) ^^^ 2197175160) : Int) : Value) = .int .i64 (↑(stepN (j + 1) r) : Int) from by rw [show stepN (j + 1) r = step1 (stepN j r) from rfl, step1_odd (by omega)]) ?_
     exact ze 0 (hJ1 _ _ _ ⟨j + 1, rfl, rfl, hB_1, by omega⟩ (by omega))
   refine xwm 5 ((↑j : Int) + 1) (↑(j + 1) : Int) ?_
   refine xv1 2 0 (show (.int .i64 (↑((stepN j r) / 2) : Int) : Value) = .int .i64 (↑(stepN (j + 1) r) : Int) from by rw [show stepN (j + 1) r = step1 (stepN j r) from rfl, step1_ev (by omega)]) ?_
   exact ze 0 (hJ1 _ _ _ ⟨j + 1, rfl, rfl, hB_1, by omega⟩ (by omega))
 refine xe 12 (.int .i64 (↑(stepN j r) : Int)) ?_
 obtain rfl : j = 8 := by omega
 exact ⟨rfl, hB_1⟩
set_option maxRecDepth 100000 in
set_option maxHeartbeats 1000000 in
theorem ref_More (a : Option Addr) (c : Nat) (l : List UInt8) (w : World) (hl : l.length ≤ 100000000) (h : Bys w (.slice a l.length c) l) :
    Calls Tryz.prog 166 #[.int .i64 0, .slice a l.length c] w (Ret (.int .i64 (crcSum l : Int)) w) := by
 refine zin 31 Tryz.func166 ?_
 have hB := Below.refl w.heap.size w
 refine zl 33 31 (fun zm zkv V => ∃ (i : Nat), zkv = [(1, .slice a l.length c), (4, .int .i64 0), (5, .int .i64 (↑(crcRun 4294967295 (l.take i)) : Int)), (6, .int .i64 (↑i : Int))] ∧ zm = l.length - ((↑i : Int)).toNat ∧ Below w.heap.size w V ∧ i ≤ l.length) ⟨0, rfl, rfl, hB, Nat.zero_le _⟩ ?_
 rintro _ _ W1 ⟨i, rfl, rfl, hB_1, hi⟩ J1 hJ1 r1
 refine xid 9 ((↑i : Int) < (↑l.length : Int)) (fun hc2 => ?_) (fun hc2 => ?_)
 · refine xx 8 _ l.length i 1 (Bys.elem h (k := i) (by omega)).1 ?_
   refine xl 0 ((Bys.elem (h.below hB_1) (k := i) (by omega)).2) ?_
   refine xq 0 (congrArg (Value.int .i64) (show (IntKind.i64.wrap (↑(l.getD i 0).toNat : Int) : Int) = (↑(l.getD i 0).toNat : Int) from i64_nat (by have := (l.getD i 0).toNat_lt; omega))) ?_
   refine xq 0 (congrArg (Value.int .i64) (show (IntKind.i64.wrap (↑(BitVec.ofInt 64 (↑(crcRun 4294967295 (l.take i)) : Int) ^^^ BitVec.ofInt 64 (↑(l.getD i 0).toNat : Int)).toNat : Int) : Int) = (↑((crcRun 4294967295 (l.take i)) ^^^ (l.getD i 0).toNat) : Int) from i64_xor (crcRun_lt (by decide) _) (u8_lt _))) ?_
   refine xr 0 (args := #[.int .i64 (↑((crcRun 4294967295 (l.take i)) ^^^ (l.getD i 0).toNat) : Int)]) (ref_Step ((crcRun 4294967295 (l.take i)) ^^^ (l.getD i 0).toNat) _ (Nat.xor_lt_two_pow (n := 32) (crcRun_lt (by decide) _) (u8_lt _))) fun W3 hb3 => ?_
   refine xwm 6 ((↑i : Int) + 1) (↑(i + 1) : Int) ?_
   refine xv1 2 5 (show (.int .i64 (↑(stepN 8 ((crcRun 4294967295 (l.take i)) ^^^ (l.getD i 0).toNat)) : Int) : Value) = .int .i64 (↑(crcRun 4294967295 (l.take (i + 1))) : Int) from by rw [crcRun_take (by omega), crcStep_8]) ?_
   have hB'1 := Bl.next hB_1 hb3
   exact ze 0 (hJ1 _ _ _ ⟨i + 1, rfl, rfl, hB'1, by omega⟩ (by omega))
 refine xq 8 (congrArg (Value.int .i64) (show (IntKind.i64.wrap (↑(BitVec.ofInt 64 (↑(crcRun 4294967295 (l.take i)) : Int) ^^^ BitVec.ofInt 64 (4294967295 : Int)).toNat : Int) : Int) = (↑((crcRun 4294967295 (l.take i)) ^^^ 4294967295) : Int) from i64_xor (b := 4294967295) (crcRun_lt (by decide) _) (by decide))) ?_
 refine xe 4 (.int .i64 (↑((crcRun 4294967295 (l.take i)) ^^^ 4294967295) : Int)) ?_
 obtain rfl : i = l.length := by omega
 rw [List.take_length]
 exact ⟨rfl, hB_1⟩
set_option maxRecDepth 100000 in
set_option maxHeartbeats 1000000 in
theorem ref_Sum (a : Option Addr) (c : Nat) (l : List UInt8) (w : World) (hl : l.length ≤ 100000000) (h : Bys w (.slice a l.length c) l) :
    Calls Tryz.prog 151 #[.slice a l.length c] w (Ret (.int .i64 (crcSum l : Int)) w) := by
 refine zin 5 Tryz.func151 ?_
 refine xr 8 (args := #[.int .i64 0, .slice a l.length c]) (ref_More a c l _ hl (h.below (Below.refl w.heap.size _))) fun W1 hb1 => ?_
 exact xe 4 (.int .i64 (↑(crcSum l) : Int)) ⟨rfl, hb1⟩
theorem ref_SumN (a : Option Addr) (n c : Nat) (l : List UInt8) (w : World) (hn : l.length = n) (hl : n ≤ 100000000) (h : Bys w (.slice a n c) l) : Calls Tryz.prog 151 #[.slice a n c] w (Ret (.int .i64 (crcSum l : Int)) w) := by
  subst hn; exact ref_Sum a c l w hl h
theorem leB_snoc (n : Int) (w : Nat) : leB n (w + 1) = leB n w ++ [byteAt n w] := by simp [leB, List.range_succ]
theorem u8_byteAt (m i : Nat) : IntKind.u8.wrap (((m / 256 ^ i) % 256 : Nat) : Int) = ((byteAt (m : Int) i).toNat : Int) := by
  rw [byte_0 (Int.natCast_nonneg _)]
  unfold byteAt
  simp only [Int.toNat_natCast, Nat.pow_zero, Nat.div_one]
  congr 2
  apply UInt8.toNat_inj.1
  simp [UInt8.toNat_ofNat']
set_option maxRecDepth 100000 in
set_option maxHeartbeats 1000000 in
theorem ref_Bytes (m w : Nat) (W : World) (hm : m < 9223372036854775808) (hw : w ≤ 8) :
    Calls Tryz.prog 150 #[.int .i64 (↑m : Int), .int .i64 (↑w : Int)] W (RetS (fun W' r => ∃ p c, r = .slice p w c ∧ W'.ownsRow W.heap.size 5 1 (.slice p w c) w ((leB (↑m : Int) w).map bv)) W) := by
 refine zin 21 Tryz.func150 ?_
 refine xv1 17 0 (show (.int .i64 (↑m : Int) : Value) = .int .i64 ((m / 256 ^ 0 : Nat) : Int) from by rw [Nat.pow_zero, Nat.div_one]) ?_
 have hB := Below.refl W.heap.size W
 refine zl 0 21 (fun zm zkv V => ∃ (i : Nat) (p : Option Addr) (c : Nat), zkv = [(0, .int .i64 (↑(m / 256 ^ i) : Int)), (1, .int .i64 (↑w : Int)), (4, .slice none 0 0), (5, .slice p i c), (6, .int .i64 (↑i : Int))] ∧ zm = w - ((↑i : Int)).toNat ∧ Below W.heap.size W V ∧ V.ownsRow W.heap.size 5 1 (.slice p i c) i ((leB (↑m : Int) i).map bv) ∧ i ≤ w) ⟨0, _, _, rfl, rfl, hB, World.ownsRow_nil _ _ _ _, Nat.zero_le _⟩ ?_
 rintro _ _ W1 ⟨i, p, c, rfl, rfl, hB_1, ho, hi⟩ J1 hJ1 r1
 refine xid 8 ((↑i : Int) < (↑w : Int)) (fun hc2 => ?_) (fun hc2 => ?_)
 · refine xq 8 (congrArg (Value.int .i64) (show (Int.tmod (↑(m / 256 ^ i) : Int) 256 : Int) = (↑((m / 256 ^ i) % 256) : Int) from tmod_natB (m / 256 ^ i) 256)) ?_
   refine xq 0 (congrArg (Value.int .u8) (show (IntKind.u8.wrap (↑((m / 256 ^ i) % 256) : Int) : Int) = (↑(byteAt (↑m : Int) i).toNat : Int) from u8_byteAt m i)) ?_
   refine xbs 0 1 [.int .u8 (↑(byteAt (↑m : Int) i).toNat : Int)] 5 fun b3 W3 n3 => ?_
   have r3_ho := own_ne ho n3
   have ho'1 := own_below ho n3.below
   have hB'1 := Bl.next hB_1 n3.below
   refine xbi 0 fun _ _ _ _ zJ zQ zo zx zy zK => op_app (m := 1) (news := [.int .u8 (↑(byteAt (↑m : Int) i).toNat : Int)]) (.int .u8 0) 1 1 (i + 1) ((leB (↑m : Int) (i + 1)).map bv) zo Tryz.underlying22 (by kernel_rfl) rfl (by decide) zx ho'1 zy (n3.blk.sl 1 1 (by decide) (by decide)) rfl (by simp [Value.oneCell']) (by unfold maxLen; omega) (by omega) hB'1.size (by rfl) (by rw [leB_snoc, List.map_append]; rfl) fun p4 c4 W4 o4 hg4 hb4 => ?_
   refine zK _ _ ?_
   refine xq 5 (congrArg (Value.int .i64) (show (IntKind.i64.wrap (Int.tdiv (↑(m / 256 ^ i) : Int) 256) : Int) = (↑((m / 256 ^ i) / 256) : Int) from quo_natB (m / 256 ^ i) 256 (Nat.lt_of_le_of_lt (Nat.div_le_self _ _) hm) (by decide))) ?_
   refine xwm 6 ((↑i : Int) + 1) (↑(i + 1) : Int) ?_
   refine xv1 2 0 (show (.int .i64 (↑((m / 256 ^ i) / 256) : Int) : Value) = .int .i64 (↑(m / 256 ^ (i + 1)) : Int) from by rw [Nat.pow_succ, ← Nat.div_div_eq_div_mul]) ?_
   have hB'2 := hB'1.trans hb4
   exact ze 0 (hJ1 _ _ _ ⟨i + 1, _, _, rfl, rfl, hB'2, o4, by omega⟩ (by omega))
 refine xe 12 (.slice p i c) ?_
 obtain rfl : i = w := by omega
 exact ⟨_, rfl, hB_1, _, _, rfl, ho⟩
theorem ref_BytesN (n : Int) (w : Nat) (wi : Int) (W : World) (h0 : 0 ≤ n) (hn : n < 9223372036854775808) (hwi : wi = (w : Int)) (hw : w ≤ 8) : Calls Tryz.prog 150 #[.int .i64 n, .int .i64 wi] W (RetS (fun W' r => ∃ p c, r = .slice p w c ∧ W'.ownsRow W.heap.size 5 1 (.slice p w c) w ((leB n w).map bv)) W) := by
  subst hwi
  obtain ⟨m, rfl⟩ : ∃ m : Nat, n = m := ⟨n.toNat, by omega⟩
  exact ref_Bytes m w W (by omega) hw
set_option maxRecDepth 100000 in
set_option maxHeartbeats 1000000 in
theorem ref_Salt1 (w : World) :
    Calls Tryz.prog 152 #[.int .i64 1] w (Ret (.int .i64 (saltN 1 : Int)) w) := by
 refine zin 15 Tryz.func152 ?_
 refine xbs 7 5 [.int .i64 0, .int .i64 160774, .int .i64 121107, .int .i64 240779, .int .i64 160478] 3 fun b1 W1 n1 => ?_
 refine xb 22 1 n1.blk ?_
 exact xe 4 (.int .i64 160774) ⟨rfl, n1.below⟩
set_option maxRecDepth 100000 in
set_option maxHeartbeats 1000000 in
theorem ref_Salt2 (w : World) :
    Calls Tryz.prog 152 #[.int .i64 2] w (Ret (.int .i64 (saltN 2 : Int)) w) := by
 refine zin 15 Tryz.func152 ?_
 refine xbs 7 5 [.int .i64 0, .int .i64 160774, .int .i64 121107, .int .i64 240779, .int .i64 160478] 3 fun b1 W1 n1 => ?_
 refine xb 22 2 n1.blk ?_
 exact xe 4 (.int .i64 121107) ⟨rfl, n1.below⟩
set_option maxRecDepth 100000 in
set_option maxHeartbeats 1000000 in
theorem ref_Salt3 (w : World) :
    Calls Tryz.prog 152 #[.int .i64 3] w (Ret (.int .i64 (saltN 3 : Int)) w) := by
 refine zin 15 Tryz.func152 ?_
 refine xbs 7 5 [.int .i64 0, .int .i64 160774, .int .i64 121107, .int .i64 240779, .int .i64 160478] 3 fun b1 W1 n1 => ?_
 refine xb 22 3 n1.blk ?_
 exact xe 4 (.int .i64 240779) ⟨rfl, n1.below⟩
set_option maxRecDepth 100000 in
set_option maxHeartbeats 1000000 in
theorem ref_Salt4 (w : World) :
    Calls Tryz.prog 152 #[.int .i64 4] w (Ret (.int .i64 (saltN 4 : Int)) w) := by
 refine zin 15 Tryz.func152 ?_
 refine xbs 7 5 [.int .i64 0, .int .i64 160774, .int .i64 121107, .int .i64 240779, .int .i64 160478] 3 fun b1 W1 n1 => ?_
 refine xb 22 4 n1.blk ?_
 exact xe 4 (.int .i64 160478) ⟨rfl, n1.below⟩
theorem ref_Salt (kind : Int) (h1 : 1 ≤ kind) (h2 : kind ≤ 4) (w : World) : Calls Tryz.prog 152 #[.int .i64 kind] w (Ret (.int .i64 (saltN kind : Int)) w) := by
  obtain rfl | rfl | rfl | rfl : kind = 1 ∨ kind = 2 ∨ kind = 3 ∨ kind = 4 := by omega
  · exact ref_Salt1 w
  · exact ref_Salt2 w
  · exact ref_Salt3 w
  · exact ref_Salt4 w
set_option maxRecDepth 100000 in
set_option maxHeartbeats 1000000 in
theorem ref_known (kind no : Int) (w : World) :
    Calls Tryz.prog 149 #[.int .i64 kind, .int .i64 no] w (Ret (.bool (knownB kind no)) w) := by
 refine zin 19 Tryz.func149 ?_
 refine xg 10 [6, 7] (decide (kind ≥ (1 : Int))) (fun hc1 => ?_) (fun hc1 => ?_)
 · have hc1 := of_decide_eq_true hc1
   refine xg 4 [9, 10, 11] (decide (kind ≤ (4 : Int))) (fun hc2 => ?_) (fun hc2 => ?_)
   · have hc2 := of_decide_eq_true hc2
     refine xg 4 [13, 14, 15] (decide (no ≥ (0 : Int))) (fun hc3 => ?_) (fun hc3 => ?_)
     · have hc3 := of_decide_eq_true hc3
       exact xe 7 (.bool (decide (no < (14400 : Int)))) ⟨by rw [show knownB kind no = decide (no < 14400) from decide_eq_decide.2 ⟨fun h => h.2.2.2, fun h => ⟨by omega, by omega, by omega, h⟩⟩], (Below.refl w.heap.size _)⟩
     have hc3 := of_decide_eq_false hc3
     exact xe 7 (.bool false) ⟨by rw [show knownB kind no = false from decide_eq_false (by omega)], (Below.refl w.heap.size _)⟩
   have hc2 := of_decide_eq_false hc2
   exact xe 11 (.bool false) ⟨by rw [show knownB kind no = false from decide_eq_false (by omega)], (Below.refl w.heap.size _)⟩
 have hc1 := of_decide_eq_false hc1
 exact xe 15 (.bool false) ⟨by rw [show knownB kind no = false from decide_eq_false (by omega)], (Below.refl w.heap.size _)⟩
def refHead (kind no : Int) (li : List UInt8) : List UInt8 := leB no 4 ++ leB kind 2 ++ [0, 0] ++ li
theorem refHead_len (kind no : Int) (li : List UInt8) : (refHead kind no li).length = 8 + li.length := by simp [refHead, leB_len]; omega
def refPad (kind no : Int) (li : List UInt8) (m : Nat) : List UInt8 := refHead kind no li ++ List.replicate (m - (8 + li.length)) 0
theorem refPad_len {kind no : Int} {li : List UInt8} {m : Nat} (h : 8 + li.length ≤ m) : (refPad kind no li m).length = m := by simp [refPad, refHead_len]; omega
theorem refPad_zero (kind no : Int) (li : List UInt8) : refPad kind no li (8 + li.length) = refHead kind no li := by simp [refPad]
theorem refPad_next {kind no : Int} {li : List UInt8} {m : Nat} (h : 8 + li.length ≤ m) : refPad kind no li (m + 1) = refPad kind no li m ++ [0] := by
  unfold refPad
  rw [show m + 1 - (8 + li.length) = (m - (8 + li.length)) + 1 by omega, List.replicate_succ', ← List.append_assoc]
theorem refPad_seal3 {kind no : Int} {li : List UInt8} (hl : li.length ≤ 244) : refPad kind no li 252 = (seal3 kind no li).take 252 := by
  have l1 := seal1_len hl
  have l2 := seal2_len (no := no) hl
  have l3 := seal3_len (kind := kind) (no := no) hl
  apply ext_getD
  · rw [refPad_len (by omega)]; simp [l3]
  · intro j hj
    rw [refPad_len (by omega)] at hj
    have e : ((seal3 kind no li).take 252).getD j 0 = (seal3 kind no li).getD j 0 := by simp only [List.getD]; rw [List.getElem?_take, if_pos hj]
    rw [e]
    unfold seal3
    rw [putB_get (by rw [leB_len]; omega), leB_len]
    unfold refPad refHead
    simp only [List.getD, List.append_assoc]
    rw [List.getElem?_append, leB_len]
    by_cases h1 : j < 4
    · rw [if_pos h1, if_neg (by omega)]
      have := putB_get (l := seal1 li) (k := 0) (x := leB no 4) (by rw [leB_len]; omega) j
      rw [if_pos (by rw [leB_len]; omega)] at this
      unfold seal2
      simp only [List.getD] at this
      rw [this, Nat.sub_zero]
    · rw [if_neg h1, List.getElem?_append, leB_len]
      by_cases h2 : j < 6
      · rw [if_pos (by omega), if_pos (by omega)]
      · rw [if_neg (by omega), if_neg (by omega)]
        have := putB_get (l := seal1 li) (k := 0) (x := leB no 4) (by rw [leB_len]; omega) j
        rw [if_neg (by rw [leB_len]; omega)] at this
        have h3 := putB_get (l := List.replicate 256 (0 : UInt8)) (k := 8) (x := li) (by rw [List.length_replicate]; omega) j
        unfold seal2
        simp only [List.getD] at this h3
        rw [this]
        unfold seal1
        rw [h3, List.getElem?_append]
        have hz := zeros_get 256 j
        simp only [List.getD] at hz
        by_cases h4 : j < 8
        · rw [if_pos (by simp; omega), if_neg (by omega), hz]
          obtain rfl | rfl : j = 6 ∨ j = 7 := by omega
          · rfl
          · rfl
        · rw [if_neg (by simp; omega), List.getElem?_append]
          simp only [List.length_cons, List.length_nil]
          by_cases h5 : j < 8 + li.length
          · rw [if_pos (by omega), if_pos (by omega), show j - 4 - 2 - (0 + 1 + 1) = j - 8 by omega]
          · rw [if_neg (by omega), if_neg (by omega), hz]
            have := zeros_get (252 - (8 + li.length)) (j - 4 - 2 - (0 + 1 + 1) - li.length)
            simpa only [List.getD] using this
theorem refSeal_eq {kind no : Int} {li : List UInt8} (hl : li.length ≤ 244) : refPad kind no li 252 ++ leB ((crcSum (refPad kind no li 252) ^^^ saltN kind : Nat) : Int) 4 = sealB kind no li := by
  have l3 := seal3_len (kind := kind) (no := no) hl
  rw [refPad_seal3 hl]
  unfold sealB putB sumB
  rw [leB_len, List.drop_eq_nil_of_le (by omega), List.append_nil]
end Go.Proofs.YtinegkldgjhnpaaGreatDoor
