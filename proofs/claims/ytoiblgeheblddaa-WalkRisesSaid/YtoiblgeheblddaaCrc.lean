/- Package crc: the register runs as the plain functions below. -/
import Derived.Test.YtoiblgeheblddaaBytes
namespace Go.Proofs.Ytoiblgeheblddaa
open Go.RowKit Go.Extern.Stop Go.Stop Go.Extern
set_option linter.unusedVariables false
attribute [local irreducible] wpList wpAnyH Code.wp Oper.wp

theorem u32_wrap {n : Nat} (h : n < 4294967296) : IntKind.u32.wrap (n : Int) = (n : Int) := by
  simp [IntKind.wrap, IntKind.bits, IntKind.signed]; omega
theorem u32_xor {a b : Nat} (ha : a < 4294967296) (hb : b < 4294967296) : IntKind.u32.wrap (↑(BitVec.ofInt 32 (a : Int) ^^^ BitVec.ofInt 32 (b : Int)).toNat : Int) = ((a ^^^ b : Nat) : Int) := by
  rw [BitVec.ofInt_natCast, BitVec.ofInt_natCast, BitVec.toNat_xor, BitVec.toNat_ofNat, BitVec.toNat_ofNat, Nat.mod_eq_of_lt ha, Nat.mod_eq_of_lt hb]
  exact u32_wrap (Nat.xor_lt_two_pow (n := 32) ha hb)
theorem u32_and {a b : Nat} (ha : a < 4294967296) (hb : b < 4294967296) : IntKind.u32.wrap (↑(BitVec.ofInt 32 (a : Int) &&& BitVec.ofInt 32 (b : Int)).toNat : Int) = ((a &&& b : Nat) : Int) := by
  rw [BitVec.ofInt_natCast, BitVec.ofInt_natCast, BitVec.toNat_and, BitVec.toNat_ofNat, BitVec.toNat_ofNat, Nat.mod_eq_of_lt ha, Nat.mod_eq_of_lt hb]
  exact u32_wrap (Nat.lt_of_le_of_lt Nat.and_le_left ha)
theorem fdiv_cast (a : Nat) (k : Nat) : Int.fdiv (a : Int) (2 ^ k) = ((a / 2 ^ k : Nat) : Int) := by
  rw [Int.fdiv_eq_ediv_of_nonneg _ (Int.pow_nonneg (by decide))]
  simp
/-- one step of a register -/
def step1 (r : Nat) : Nat := if r % 2 = 1 then (r / 2) ^^^ 2197175160 else r / 2
def stepN : Nat → Nat → Nat
  | 0, r => r
  | j + 1, r => step1 (stepN j r)
def half (n : Nat) : Nat := stepN 4 n
theorem step1_lt {r : Nat} (h : r < 4294967296) : step1 r < 4294967296 := by
  unfold step1
  split
  · exact Nat.xor_lt_two_pow (n := 32) (by omega) (by decide)
  · omega
theorem stepN_lt {j r : Nat} (h : r < 4294967296) : stepN j r < 4294967296 := by
  induction j with
  | zero => exact h
  | succ j ih => exact step1_lt ih
theorem half_lt {r : Nat} (h : r < 4294967296) : half r < 4294967296 := stepN_lt h
def halvesK (k : Nat) : List Value := (List.range 16).map fun i => .int .u32 (if i < k then (half i : Int) else 0)
def halvesC : List Value := (List.range 16).map fun i => .int .u32 (half i : Int)
theorem halvesK_set {k : Nat} (h : k < 16) : (halvesK k).set k (.int .u32 (half k : Int)) = halvesK (k + 1) := by
  apply List.ext_getElem?
  intro i
  by_cases hi : i < 16
  · by_cases e : k = i
    · subst e
      rw [List.getElem?_set_self (by simpa [halvesK] using h)]
      simp [halvesK, List.getElem?_range hi]
    · rw [List.getElem?_set_ne e]
      simp only [halvesK, List.getElem?_map, List.getElem?_range hi, Option.map_some]
      by_cases h3 : i < k
      · rw [if_pos h3, if_pos (by omega)]
      · rw [if_neg h3, if_neg (by omega)]
  · rw [List.getElem?_eq_none (by simp [halvesK]; omega), List.getElem?_eq_none (by simp [halvesK]; omega)]
theorem halvesK_all : halvesK 16 = halvesC := by
  unfold halvesK halvesC
  apply List.map_congr_left
  intro i hi
  rw [if_pos (List.mem_range.1 hi)]
theorem halvesC_get {k : Nat} (h : k < 16) : halvesC[k]? = some (.int .u32 (half k : Int)) := by
  simp [halvesC, List.getElem?_range h]
/-- the lowest bit -/
theorem and_one (a : Nat) : a &&& 1 = a % 2 := Nat.and_one_is_mod a
theorem and_15 (a : Nat) : a &&& 15 = a % 16 := Nat.and_two_pow_sub_one_eq_mod a 4
set_option maxRecDepth 100000 in
set_option maxHeartbeats 1000000 in
theorem crc_halves (w : World) :
    Calls Try.prog 78 #[] w (Ret (.agg halvesC.toArray) w) := by
  refine calls_of_wp Try.func78 rfl ?_
  refine g_fr ⟨#[undef, undef, undef, undef, undef, undef, undef, undef, undef, undef, undef, undef, undef, undef, undef, undef, undef, undef, undef, undef, undef, undef, undef, undef, undef, undef], []⟩ (by kernel_rfl) ?_
  refine wp_seq ?_
  refine wp_region_lit ?_
  refine g_op (by kernel_rfl) (op_alloc [.int .u32 0, .int .u32 0, .int .u32 0, .int .u32 0, .int .u32 0, .int .u32 0, .int .u32 0, .int .u32 0, .int .u32 0, .int .u32 0, .int .u32 0, .int .u32 0, .int .u32 0, .int .u32 0, .int .u32 0, .int .u32 0] rfl (by kernel_rfl) ?_)
  intro b1 W1 n1
  have g1 := n1.ge (Below.refl w.heap.size _)
  have hB := n1.below
  have k1 := n1.blk
  refine wpList_nil ?_
  refine wp_seq ?_
  refine wp_region_lit ?_
  refine g_op (by kernel_rfl) (op_alloc [.int .u32 0, .int .u32 0, .int .u32 0, .int .u32 0, .int .u32 0, .int .u32 0, .int .u32 0, .int .u32 0, .int .u32 0, .int .u32 0, .int .u32 0, .int .u32 0, .int .u32 0, .int .u32 0, .int .u32 0, .int .u32 0] rfl (by kernel_rfl) ?_)
  intro b2 W2 n2
  have d2_b1 := n2.ne k1
  have g2 := n2.ge hB
  replace hB := Bl.next hB n2.below
  replace k1 := k1.below n2.below
  have k2 := n2.blk
  refine wpList_nil ?_
  refine wp_seq ?_
  refine wp_seq ?_
  refine wp_region_lit ?_
  refine g_pv 1 [(5, .int .i64 0)] (by kernel_rfl) ?_
  refine wpList_nil ?_
  refine wp_block ?_
  refine g_fr ⟨#[.pointer (some ⟨b1, 0, none⟩), .pointer (some ⟨b2, 0, none⟩), undef, undef, undef, .int .i64 0, undef, undef, undef, undef, undef, undef, undef, undef, undef, undef, undef, undef, undef, undef, undef, undef, undef, undef, undef, undef], []⟩ (by kernel_rfl) ?_
  refine wp_loop (fun act V => ∃ (k : Nat) (x3 : Nat → Value), act = ⟨#[.pointer (some ⟨b1, 0, none⟩), .pointer (some ⟨b2, 0, none⟩), (x3 0), (x3 1), (x3 2), .int .i64 (↑k : Int), (x3 3), (x3 4), (x3 5), (x3 6), (x3 7), (x3 8), (x3 9), (x3 10), (x3 11), (x3 12), (x3 13), (x3 14), (x3 15), (x3 16), (x3 17), (x3 18), (x3 19), (x3 20), (x3 21), undef], []⟩ ∧ Below w.heap.size w V ∧ Blk V b1 ([.int .u32 0, .int .u32 0, .int .u32 0, .int .u32 0, .int .u32 0, .int .u32 0, .int .u32 0, .int .u32 0, .int .u32 0, .int .u32 0, .int .u32 0, .int .u32 0, .int .u32 0, .int .u32 0, .int .u32 0, .int .u32 0]) 150 ∧ Blk V b2 (halvesK k) 150 ∧ k ≤ 16) (fun act V => 16 - ((intOf (act.tmps.getD 5 undef))).toNat) ⟨0, (pk [undef, undef, undef, undef, undef, undef, undef, undef, undef, undef, undef, undef, undef, undef, undef, undef, undef, undef, undef, undef, undef, undef]), rfl, hB, k1, k2, by decide⟩ ?_
  rintro _ W3 ⟨k, x3, rfl, hB, k3_b1, k3_b2, hk⟩
  refine wp_seq ?_
  refine wp_region_lit ?_
  refine g_pv 1 [(6, .bool (decide ((↑k : Int) < (16 : Int))))] (by kernel_rfl) ?_
  refine wpList_nil ?_
  refine wp_seq ?_
  refine wp_cond_split (t := decide ((↑k : Int) < (16 : Int))) (by kernel_rfl) (fun hc4 => ?_) (fun hc4 => ?_)
  · have hc4 := of_decide_eq_true hc4
    refine wp_skip ?_
    refine wp_seq ?_
    refine wp_block ?_
    refine wp_seq ?_
    refine wp_region_lit ?_
    refine g_pv 2 [(7, .int .i64 (↑k : Int)), (2, .int .i64 (↑k : Int))] (by kernel_rfl) ?_
    refine wpList_nil ?_
    refine wp_seq ?_
    refine wp_region_lit ?_
    refine g_pv 1 [(8, .int .i64 (↑k : Int))] (by kernel_rfl) ?_
    refine g_op (by kernel_rfl) (op_eq (.int .u32 (↑k : Int)) (.int .u32 (IntKind.u32.wrap (↑k : Int))) (by kernel_rfl) (congrArg (Value.int .u32) (u32_wrap (by omega))) ?_)
    refine g_pv 1 [(3, .int .u32 (↑k : Int))] (by kernel_rfl) ?_
    refine wpList_nil ?_
    refine wp_seq ?_
    refine wp_seq ?_
    refine wp_region_lit ?_
    refine g_pv 1 [(10, .int .i64 0)] (by kernel_rfl) ?_
    refine wpList_nil ?_
    refine wp_block ?_
    refine g_fr ⟨#[.pointer (some ⟨b1, 0, none⟩), .pointer (some ⟨b2, 0, none⟩), .int .i64 (↑k : Int), .int .u32 (↑k : Int), (x3 2), .int .i64 (↑k : Int), .bool (decide ((↑k : Int) < (16 : Int))), .int .i64 (↑k : Int), .int .i64 (↑k : Int), .int .u32 (↑k : Int), .int .i64 0, (x3 8), (x3 9), (x3 10), (x3 11), (x3 12), (x3 13), (x3 14), (x3 15), (x3 16), (x3 17), (x3 18), (x3 19), (x3 20), (x3 21), undef], []⟩ (by kernel_rfl) ?_
    refine wp_loop (fun act V => ∃ (j : Nat) (x5 : Nat → Value), act = ⟨#[.pointer (some ⟨b1, 0, none⟩), .pointer (some ⟨b2, 0, none⟩), .int .i64 (↑k : Int), .int .u32 (↑(stepN j k) : Int), (x5 0), .int .i64 (↑k : Int), .bool (decide ((↑k : Int) < (16 : Int))), .int .i64 (↑k : Int), .int .i64 (↑k : Int), .int .u32 (↑k : Int), .int .i64 (↑j : Int), (x5 1), (x5 2), (x5 3), (x5 4), (x5 5), (x5 6), (x5 7), (x5 8), (x5 9), (x5 10), (x3 18), (x3 19), (x3 20), (x3 21), undef], []⟩ ∧ Below w.heap.size w V ∧ Blk V b1 ([.int .u32 0, .int .u32 0, .int .u32 0, .int .u32 0, .int .u32 0, .int .u32 0, .int .u32 0, .int .u32 0, .int .u32 0, .int .u32 0, .int .u32 0, .int .u32 0, .int .u32 0, .int .u32 0, .int .u32 0, .int .u32 0]) 150 ∧ Blk V b2 (halvesK k) 150 ∧ j ≤ 4) (fun act V => 4 - ((intOf (act.tmps.getD 10 undef))).toNat) ⟨0, (pk [(x3 2), (x3 8), (x3 9), (x3 10), (x3 11), (x3 12), (x3 13), (x3 14), (x3 15), (x3 16), (x3 17)]), rfl, hB, k3_b1, k3_b2, by decide⟩ ?_
    rintro _ W5 ⟨j, x5, rfl, hB, k5_b1, k5_b2, hj⟩
    have hr : stepN j k < 4294967296 := stepN_lt (by omega)
    refine wp_seq ?_
    refine wp_region_lit ?_
    refine g_pv 1 [(11, .bool (decide ((↑j : Int) < (4 : Int))))] (by kernel_rfl) ?_
    refine wpList_nil ?_
    refine wp_seq ?_
    refine wp_cond_split (t := decide ((↑j : Int) < (4 : Int))) (by kernel_rfl) (fun hc6 => ?_) (fun hc6 => ?_)
    · have hc6 := of_decide_eq_true hc6
      refine wp_skip ?_
      refine wp_seq ?_
      refine wp_block ?_
      refine wp_seq ?_
      refine wp_region_lit ?_
      refine g_pv 1 [(12, .int .u32 (↑(stepN j k) : Int))] (by kernel_rfl) ?_
      refine g_op (by kernel_rfl) (op_eq (.int .u32 (↑((stepN j k) % 2) : Int)) (.int .u32 (IntKind.u32.wrap (↑(BitVec.ofInt 32 (↑(stepN j k) : Int) &&& BitVec.ofInt 32 (1 : Int)).toNat : Int))) (by kernel_rfl) (congrArg (Value.int .u32) ((u32_and (b := 1) hr (by decide)).trans (by rw [and_one]))) ?_)
      refine g_pv 1 [(4, .int .u32 (↑((stepN j k) % 2) : Int))] (by kernel_rfl) ?_
      refine wpList_nil ?_
      refine wp_seq ?_
      refine wp_region_lit ?_
      refine g_pv 1 [(14, .int .u32 (↑(stepN j k) : Int))] (by kernel_rfl) ?_
      refine g_op (by kernel_rfl) (op_eq (.int .u32 (↑((stepN j k) / 2) : Int)) (.int .u32 (Int.fdiv (↑(stepN j k) : Int) (2 ^ 1))) (by kernel_rfl) (congrArg (Value.int .u32) (fdiv_cast _ 1)) ?_)
      refine g_pv 1 [(3, .int .u32 (↑((stepN j k) / 2) : Int))] (by kernel_rfl) ?_
      refine wpList_nil ?_
      refine wp_seq ?_
      refine wp_region_lit ?_
      refine g_pv 2 [(16, .int .u32 (↑((stepN j k) % 2) : Int)), (17, .bool ((↑((stepN j k) % 2) : Int) == (1 : Int)))] (by kernel_rfl) ?_
      refine wpList_nil ?_
      refine wp_cond_split (t := ((↑((stepN j k) % 2) : Int) == (1 : Int))) (by kernel_rfl) (fun hc7 => ?_) (fun hc7 => ?_)
      · have hc7 := eq_of_beq hc7
        refine wp_region_lit ?_
        refine g_pv 1 [(18, .int .u32 (↑((stepN j k) / 2) : Int))] (by kernel_rfl) ?_
        refine g_op (by kernel_rfl) (op_eq (.int .u32 (↑(((stepN j k) / 2) ^^^ 2197175160) : Int)) (.int .u32 (IntKind.u32.wrap (↑(BitVec.ofInt 32 (↑((stepN j k) / 2) : Int) ^^^ BitVec.ofInt 32 (2197175160 : Int)).toNat : Int))) (by kernel_rfl) (congrArg (Value.int .u32) (u32_xor (b := 2197175160) (by omega) (by decide))) ?_)
        refine g_pv 1 [(3, .int .u32 (↑(((stepN j k) / 2) ^^^ 2197175160) : Int))] (by kernel_rfl) ?_
        refine wpList_nil ?_
        refine wp_region_lit ?_
        refine g_op (by kernel_rfl) (op_wrap .i64 ((↑j : Int) + 1) ((↑j : Int) + 1) (by kernel_rfl) (by first | exact IntWalk.i64_in _ (by omega) | (simp only [IntKind.wrap]; omega)) ?_)
        refine g_pv 1 [(10, .int .i64 ((↑j : Int) + 1))] (by kernel_rfl) ?_
        refine wpList_nil ?_
        refine g_nfr ⟨#[.pointer (some ⟨b1, 0, none⟩), .pointer (some ⟨b2, 0, none⟩), .int .i64 (↑k : Int), .int .u32 (↑(((stepN j k) / 2) ^^^ 2197175160) : Int), .int .u32 (↑((stepN j k) % 2) : Int), .int .i64 (↑k : Int), .bool (decide ((↑k : Int) < (16 : Int))), .int .i64 (↑k : Int), .int .i64 (↑k : Int), .int .u32 (↑k : Int), .int .i64 ((↑j : Int) + 1), .bool (decide ((↑j : Int) < (4 : Int))), .int .u32 (↑(stepN j k) : Int), .int .u32 (↑((stepN j k) % 2) : Int), .int .u32 (↑(stepN j k) : Int), .int .u32 (↑((stepN j k) / 2) : Int), .int .u32 (↑((stepN j k) % 2) : Int), .bool ((↑((stepN j k) % 2) : Int) == (1 : Int)), .int .u32 (↑((stepN j k) / 2) : Int), .int .u32 (↑(((stepN j k) / 2) ^^^ 2197175160) : Int), .int .i64 ((↑j : Int) + 1), (x3 18), (x3 19), (x3 20), (x3 21), undef], []⟩ (by kernel_rfl) ?_
        refine g_nfr ⟨#[.pointer (some ⟨b1, 0, none⟩), .pointer (some ⟨b2, 0, none⟩), .int .i64 (↑k : Int), .int .u32 (↑(stepN (j + 1) k) : Int), .int .u32 (↑((stepN j k) % 2) : Int), .int .i64 (↑k : Int), .bool (decide ((↑k : Int) < (16 : Int))), .int .i64 (↑k : Int), .int .i64 (↑k : Int), .int .u32 (↑k : Int), .int .i64 ((↑j : Int) + 1), .bool (decide ((↑j : Int) < (4 : Int))), .int .u32 (↑(stepN j k) : Int), .int .u32 (↑((stepN j k) % 2) : Int), .int .u32 (↑(stepN j k) : Int), .int .u32 (↑((stepN j k) / 2) : Int), .int .u32 (↑((stepN j k) % 2) : Int), .bool ((↑((stepN j k) % 2) : Int) == (1 : Int)), .int .u32 (↑((stepN j k) / 2) : Int), .int .u32 (↑(((stepN j k) / 2) ^^^ 2197175160) : Int), .int .i64 ((↑j : Int) + 1), (x3 18), (x3 19), (x3 20), (x3 21), undef], []⟩ (by rw [show stepN (j + 1) k = (((stepN j k) / 2) ^^^ 2197175160) by simp only [stepN, step1]; first | rw [if_pos (by omega)] | rw [if_neg (by omega)]]) ?_
        refine ⟨⟨j + 1, (pk [.int .u32 (↑((stepN j k) % 2) : Int), .bool (decide ((↑j : Int) < (4 : Int))), .int .u32 (↑(stepN j k) : Int), .int .u32 (↑((stepN j k) % 2) : Int), .int .u32 (↑(stepN j k) : Int), .int .u32 (↑((stepN j k) / 2) : Int), .int .u32 (↑((stepN j k) % 2) : Int), .bool ((↑((stepN j k) % 2) : Int) == (1 : Int)), .int .u32 (↑((stepN j k) / 2) : Int), .int .u32 (↑(((stepN j k) / 2) ^^^ 2197175160) : Int), .int .i64 ((↑j : Int) + 1)]), rfl, hB, k5_b1, k5_b2, by omega⟩, ?_⟩
        show 4 - (((↑j : Int) + 1)).toNat < 4 - ((↑j : Int)).toNat
        omega
      · have hc7 := ne_of_beq_false hc7
        refine wp_skip ?_
        refine wp_region_lit ?_
        refine g_op (by kernel_rfl) (op_wrap .i64 ((↑j : Int) + 1) ((↑j : Int) + 1) (by kernel_rfl) (by first | exact IntWalk.i64_in _ (by omega) | (simp only [IntKind.wrap]; omega)) ?_)
        refine g_pv 1 [(10, .int .i64 ((↑j : Int) + 1))] (by kernel_rfl) ?_
        refine wpList_nil ?_
        refine g_nfr ⟨#[.pointer (some ⟨b1, 0, none⟩), .pointer (some ⟨b2, 0, none⟩), .int .i64 (↑k : Int), .int .u32 (↑((stepN j k) / 2) : Int), .int .u32 (↑((stepN j k) % 2) : Int), .int .i64 (↑k : Int), .bool (decide ((↑k : Int) < (16 : Int))), .int .i64 (↑k : Int), .int .i64 (↑k : Int), .int .u32 (↑k : Int), .int .i64 ((↑j : Int) + 1), .bool (decide ((↑j : Int) < (4 : Int))), .int .u32 (↑(stepN j k) : Int), .int .u32 (↑((stepN j k) % 2) : Int), .int .u32 (↑(stepN j k) : Int), .int .u32 (↑((stepN j k) / 2) : Int), .int .u32 (↑((stepN j k) % 2) : Int), .bool ((↑((stepN j k) % 2) : Int) == (1 : Int)), (x5 8), (x5 9), .int .i64 ((↑j : Int) + 1), (x3 18), (x3 19), (x3 20), (x3 21), undef], []⟩ (by kernel_rfl) ?_
        refine g_nfr ⟨#[.pointer (some ⟨b1, 0, none⟩), .pointer (some ⟨b2, 0, none⟩), .int .i64 (↑k : Int), .int .u32 (↑(stepN (j + 1) k) : Int), .int .u32 (↑((stepN j k) % 2) : Int), .int .i64 (↑k : Int), .bool (decide ((↑k : Int) < (16 : Int))), .int .i64 (↑k : Int), .int .i64 (↑k : Int), .int .u32 (↑k : Int), .int .i64 ((↑j : Int) + 1), .bool (decide ((↑j : Int) < (4 : Int))), .int .u32 (↑(stepN j k) : Int), .int .u32 (↑((stepN j k) % 2) : Int), .int .u32 (↑(stepN j k) : Int), .int .u32 (↑((stepN j k) / 2) : Int), .int .u32 (↑((stepN j k) % 2) : Int), .bool ((↑((stepN j k) % 2) : Int) == (1 : Int)), (x5 8), (x5 9), .int .i64 ((↑j : Int) + 1), (x3 18), (x3 19), (x3 20), (x3 21), undef], []⟩ (by rw [show stepN (j + 1) k = ((stepN j k) / 2) by simp only [stepN, step1]; first | rw [if_pos (by omega)] | rw [if_neg (by omega)]]) ?_
        refine ⟨⟨j + 1, (pk [.int .u32 (↑((stepN j k) % 2) : Int), .bool (decide ((↑j : Int) < (4 : Int))), .int .u32 (↑(stepN j k) : Int), .int .u32 (↑((stepN j k) % 2) : Int), .int .u32 (↑(stepN j k) : Int), .int .u32 (↑((stepN j k) / 2) : Int), .int .u32 (↑((stepN j k) % 2) : Int), .bool ((↑((stepN j k) % 2) : Int) == (1 : Int)), (x5 8), (x5 9), .int .i64 ((↑j : Int) + 1)]), rfl, hB, k5_b1, k5_b2, by omega⟩, ?_⟩
        show 4 - (((↑j : Int) + 1)).toNat < 4 - ((↑j : Int)).toNat
        omega
    · have hc6 := of_decide_eq_false hc6
      refine wp_exit ?_
      refine then_exit ?_
      refine then_exit ?_
      refine inBlock_hit ?_
      refine wp_region_lit ?_
      refine g_pv 2 [(21, .int .i64 (↑k : Int)), (22, .int .u32 (↑(stepN j k) : Int))] (by kernel_rfl) ?_
      refine g_op (by kernel_rfl) (op_val (run_indexP (k := k) (b := b2) (off := 0) (i := (↑k : Int)) (ki := .i64) 1 k rfl (by kernel_rfl) (by kernel_rfl) rfl (by omega) (by omega) Try.underlying150 (by kernel_rfl) W5) ?_)
      refine g_op (by kernel_rfl) (op_store (v := .int .u32 (↑(stepN j k) : Int)) (b := b2) (off := k) rfl (by kernel_rfl) (by kernel_rfl) (by kernel_rfl) rfl k5_b2 (by first | decide | (simp [halvesK]; omega)) ?_)
      intro W8 u8 k8
      replace k8 : Blk W8 b2 (halvesK (k + 1)) 150 := by rw [← (show (halvesK k).set k (.int .u32 (↑(stepN j k) : Int)) = halvesK (k + 1) from by rw [show j = 4 by omega]; exact halvesK_set (by omega))]; exact k8
      replace hB := u8.below hB g2
      replace k5_b1 := u8.blk k5_b1 (Ne.symm (Ne.symm d2_b1))
      refine wpList_nil ?_
      refine wp_region_lit ?_
      refine g_op (by kernel_rfl) (op_wrap .i64 ((↑k : Int) + 1) ((↑k : Int) + 1) (by kernel_rfl) (by first | exact IntWalk.i64_in _ (by omega) | (simp only [IntKind.wrap]; omega)) ?_)
      refine g_pv 1 [(5, .int .i64 ((↑k : Int) + 1))] (by kernel_rfl) ?_
      refine wpList_nil ?_
      refine g_nfr ⟨#[.pointer (some ⟨b1, 0, none⟩), .pointer (some ⟨b2, 0, none⟩), .int .i64 (↑k : Int), .int .u32 (↑(stepN j k) : Int), (x5 0), .int .i64 ((↑k : Int) + 1), .bool (decide ((↑k : Int) < (16 : Int))), .int .i64 (↑k : Int), .int .i64 (↑k : Int), .int .u32 (↑k : Int), .int .i64 (↑j : Int), .bool (decide ((↑j : Int) < (4 : Int))), (x5 2), (x5 3), (x5 4), (x5 5), (x5 6), (x5 7), (x5 8), (x5 9), (x5 10), .int .i64 (↑k : Int), .int .u32 (↑(stepN j k) : Int), .pointer (some ⟨b2, k, none⟩), .int .i64 ((↑k : Int) + 1), undef], []⟩ (by kernel_rfl) ?_
      refine ⟨⟨k + 1, (pk [.int .i64 (↑k : Int), .int .u32 (↑(stepN j k) : Int), (x5 0), .bool (decide ((↑k : Int) < (16 : Int))), .int .i64 (↑k : Int), .int .i64 (↑k : Int), .int .u32 (↑k : Int), .int .i64 (↑j : Int), .bool (decide ((↑j : Int) < (4 : Int))), (x5 2), (x5 3), (x5 4), (x5 5), (x5 6), (x5 7), (x5 8), (x5 9), (x5 10), .int .i64 (↑k : Int), .int .u32 (↑(stepN j k) : Int), .pointer (some ⟨b2, k, none⟩), .int .i64 ((↑k : Int) + 1)]), rfl, hB, k5_b1, k8, by omega⟩, ?_⟩
      show 16 - (((↑k : Int) + 1)).toNat < 16 - ((↑k : Int)).toNat
      omega
  · have hc4 := of_decide_eq_false hc4
    refine wp_exit ?_
    refine then_exit ?_
    refine then_exit ?_
    refine inBlock_hit ?_
    refine wp_seq ?_
    refine wp_region_lit ?_
    refine g_op (by kernel_rfl) (op_loadv (b := b2) (off := 0) (halvesK k) _ rfl (by kernel_rfl) Try.underlying150 rfl (by kernel_rfl) k3_b2.whole ?_)
    refine g_op (by kernel_rfl) (op_storev (b := b1) (off := 0) (halvesK k) rfl (by kernel_rfl) (by kernel_rfl) (by kernel_rfl) (by simp [halvesK, Value.oneCell']) k3_b1 (by simp [halvesK]) ?_)
    intro W9 u9 k9
    change Blk _ _ (halvesK k) _ at k9
    replace hB := u9.below hB g1
    replace k3_b2 := u9.blk k3_b2 (Ne.symm d2_b1)
    refine wpList_nil ?_
    refine wp_ret ?_
    refine g_ret (.agg (halvesK k).toArray) (by kernel_rfl) (res_c (d := _) (cs := (halvesK k)) rfl (by kernel_rfl) k9.whole Try.underlying150 rfl (by kernel_rfl)) ?_
    rw [show k = 16 by omega, halvesK_all]
    exact ⟨rfl, hB⟩
/-- a byte comes to a register -/
def crcStep (r : Nat) (x : UInt8) : Nat := ((((r ^^^ x.toNat) / 16) ^^^ half ((r ^^^ x.toNat) % 16)) / 16) ^^^ half ((((r ^^^ x.toNat) / 16) ^^^ half ((r ^^^ x.toNat) % 16)) % 16)
def crcRun (r : Nat) (l : List UInt8) : Nat := l.foldl crcStep r
theorem u8_lt (x : UInt8) : x.toNat < 4294967296 := Nat.lt_trans x.toNat_lt (by decide)
theorem half16_lt (n : Nat) : half (n % 16) < 4294967296 := half_lt (by omega)
theorem crcStep_lt {r : Nat} (h : r < 4294967296) (x : UInt8) : crcStep r x < 4294967296 := by
  have h1 : r ^^^ x.toNat < 4294967296 := Nat.xor_lt_two_pow (n := 32) h (u8_lt x)
  have h2 : ((r ^^^ x.toNat) / 16) ^^^ half ((r ^^^ x.toNat) % 16) < 4294967296 := Nat.xor_lt_two_pow (n := 32) (by omega) (half16_lt _)
  exact Nat.xor_lt_two_pow (n := 32) (by omega) (half16_lt _)
theorem crcRun_lt {r : Nat} (h : r < 4294967296) (l : List UInt8) : crcRun r l < 4294967296 := by
  unfold crcRun
  induction l generalizing r with
  | nil => exact h
  | cons x l ih => exact ih (crcStep_lt h x)
theorem crcRun_take {r : Nat} {l : List UInt8} {k : Nat} (h : k < l.length) : crcRun r (l.take (k + 1)) = crcStep (crcRun r (l.take k)) (l.getD k 0) := by
  unfold crcRun
  rw [List.take_succ_eq_append_getElem h, List.foldl_append]
  simp [List.getD, List.getElem?_eq_getElem h]
theorem Bys.elem {w : World} {b : Option Addr} {c : Nat} {l : List UInt8} (h : Bys w (.slice b l.length c) l) {k : Nat} (hk : k < l.length) : b.isSome = true ∧ w.cell? (elemAddr b (k * 1)) = some (.int .u8 ((l.getD k 0).toNat : Int)) := by
  refine Sl.elem h ?_
  rw [Nat.mul_one, List.getElem?_map, List.getElem?_eq_getElem hk]
  simp [List.getD, List.getElem?_eq_getElem hk, bv]
theorem u32_byte (x : UInt8) : IntKind.u32.wrap (x.toNat : Int) = (x.toNat : Int) := u32_wrap (u8_lt x)
set_option maxRecDepth 100000 in
set_option maxHeartbeats 1000000 in
theorem crc_run (r : Nat) (hr0 : r < 4294967296) (a : Option Addr) (c : Nat) (l : List UInt8) (w : World) (h : Bys w (.slice a l.length c) l) (hl : l.length ≤ 100000000) :
    Calls Try.prog 76 #[.int .u32 (↑r : Int), .slice a l.length c] w (Ret (.int .u32 (crcRun r l : Int)) w) := by
  refine calls_of_wp Try.func76 rfl ?_
  refine g_fr ⟨#[.int .u32 (↑r : Int), .slice a l.length c, undef, undef, undef, undef, undef, undef, undef, undef, undef, undef, undef, undef, undef, undef, undef, undef, undef, undef, undef, undef, undef, undef, undef, undef, undef, undef, undef, undef, undef, undef, undef, undef, undef], []⟩ (by kernel_rfl) ?_
  refine wp_seq ?_
  refine wp_region_lit ?_
  refine g_pv 1 [(4, .int .u32 0)] (by kernel_rfl) ?_
  refine wpList_nil ?_
  refine wp_seq ?_
  refine wp_region_lit ?_
  refine g_op (by kernel_rfl) (op_call (lb := #[]) 78 #[] rfl (by kernel_rfl) (fun _ _ => by kernel_rfl) (by kernel_rfl) ((crc_halves _).mono ?_))
  rintro e W1 ⟨rfl, hb1⟩
  refine ⟨_, rfl, ?_⟩
  have hB := hb1
  refine g_op (by kernel_rfl) (op_alloc [.int .u32 0, .int .u32 0, .int .u32 0, .int .u32 0, .int .u32 0, .int .u32 0, .int .u32 0, .int .u32 0, .int .u32 0, .int .u32 0, .int .u32 0, .int .u32 0, .int .u32 0, .int .u32 0, .int .u32 0, .int .u32 0] rfl (by kernel_rfl) ?_)
  intro b2 W2 n2
  have g2 := n2.ge hB
  replace hB := Bl.next hB n2.below
  have k2 := n2.blk
  refine g_op (by kernel_rfl) (op_storev (b := b2) (off := 0) halvesC rfl (by kernel_rfl) (by kernel_rfl) (by kernel_rfl) (by simp [halvesC, Value.oneCell']) k2 (by simp [halvesC]) ?_)
  intro W3 u3 k3
  change Blk _ _ halvesC _ at k3
  replace hB := u3.below hB g2
  refine wpList_nil ?_
  refine wp_seq ?_
  refine wp_seq ?_
  refine wp_region_lit ?_
  refine g_pv 3 [(9, .slice a l.length c), (10, .int .i64 (↑l.length : Int)), (11, .int .i64 0)] (by kernel_rfl) ?_
  refine wpList_nil ?_
  refine wp_block ?_
  refine g_fr ⟨#[.int .u32 (↑r : Int), .slice a l.length c, undef, undef, .int .u32 0, .pointer (some ⟨b2, 0, none⟩), undef, undef, .agg halvesC.toArray, .slice a l.length c, .int .i64 (↑l.length : Int), .int .i64 0, undef, undef, undef, undef, undef, undef, undef, undef, undef, undef, undef, undef, undef, undef, undef, undef, undef, undef, undef, undef, undef, undef, undef], []⟩ (by kernel_rfl) ?_
  refine wp_loop (fun act V => ∃ (k : Nat) (x4 : Nat → Value), act = ⟨#[.int .u32 (↑(crcRun r (l.take k)) : Int), .slice a l.length c, undef, undef, .int .u32 0, .pointer (some ⟨b2, 0, none⟩), undef, (x4 0), .agg halvesC.toArray, .slice a l.length c, .int .i64 (↑l.length : Int), .int .i64 (↑k : Int), (x4 1), (x4 2), (x4 3), (x4 4), (x4 5), (x4 6), (x4 7), (x4 8), (x4 9), (x4 10), (x4 11), (x4 12), (x4 13), (x4 14), (x4 15), (x4 16), (x4 17), (x4 18), (x4 19), (x4 20), (x4 21), (x4 22), undef], []⟩ ∧ Below w.heap.size w V ∧ Blk V b2 halvesC 150 ∧ k ≤ l.length) (fun act V => l.length - ((intOf (act.tmps.getD 11 undef))).toNat) ⟨0, (pk [undef, undef, undef, undef, undef, undef, undef, undef, undef, undef, undef, undef, undef, undef, undef, undef, undef, undef, undef, undef, undef, undef, undef]), rfl, hB, k3, Nat.zero_le _⟩ ?_
  rintro _ W4 ⟨k, x4, rfl, hB, k4_b2, hk⟩
  have h0 : crcRun r (l.take k) < 4294967296 := crcRun_lt hr0 _
  have h1 : (crcRun r (l.take k)) ^^^ (l.getD k 0).toNat < 4294967296 := Nat.xor_lt_two_pow (n := 32) h0 (u8_lt _)
  have h2 : (((crcRun r (l.take k)) ^^^ (l.getD k 0).toNat) / 16) ^^^ half (((crcRun r (l.take k)) ^^^ (l.getD k 0).toNat) % 16) < 4294967296 := Nat.xor_lt_two_pow (n := 32) (by omega) (half16_lt _)
  refine wp_seq ?_
  refine wp_region_lit ?_
  refine g_pv 1 [(12, .bool (decide ((↑k : Int) < (↑l.length : Int))))] (by kernel_rfl) ?_
  refine wpList_nil ?_
  refine wp_seq ?_
  refine wp_cond_split (t := decide ((↑k : Int) < (↑l.length : Int))) (by kernel_rfl) (fun hc5 => ?_) (fun hc5 => ?_)
  · have hc5 := of_decide_eq_true hc5
    refine wp_skip ?_
    refine wp_seq ?_
    refine wp_block ?_
    refine wp_seq ?_
    refine wp_region_lit ?_
    refine g_op (by kernel_rfl) (op_val (run_indexA (size := 1) (k := k) (b := a) (n := l.length) (c := c) (i := (↑k : Int)) (ki := .i64) rfl (by kernel_rfl) (by kernel_rfl) rfl (by omega) (Bys.elem h (k := k) (by omega)).1 Try.underlying22 (by kernel_rfl) W4) ?_)
    refine g_op (by kernel_rfl) (op_load (elemAddr a (k * 1)) (.int .u8 (↑(l.getD k 0).toNat : Int)) rfl (by kernel_rfl) (by kernel_rfl) (Bys.elem (h.below hB) (k := k) (by omega)).2 ?_)
    refine g_pv 1 [(7, .int .u8 (↑(l.getD k 0).toNat : Int))] (by kernel_rfl) ?_
    refine wpList_nil ?_
    refine wp_seq ?_
    refine wp_region_lit ?_
    refine g_pv 2 [(15, .int .u32 (↑(crcRun r (l.take k)) : Int)), (16, .int .u8 (↑(l.getD k 0).toNat : Int))] (by kernel_rfl) ?_
    refine g_op (by kernel_rfl) (op_eq (.int .u32 (↑(l.getD k 0).toNat : Int)) (.int .u32 (IntKind.u32.wrap (↑(l.getD k 0).toNat : Int))) (by kernel_rfl) (congrArg (Value.int .u32) (u32_byte _)) ?_)
    refine g_op (by kernel_rfl) (op_eq (.int .u32 (↑((crcRun r (l.take k)) ^^^ (l.getD k 0).toNat) : Int)) (.int .u32 (IntKind.u32.wrap (↑(BitVec.ofInt 32 (↑(crcRun r (l.take k)) : Int) ^^^ BitVec.ofInt 32 (↑(l.getD k 0).toNat : Int)).toNat : Int))) (by kernel_rfl) (congrArg (Value.int .u32) (u32_xor h0 (u8_lt _))) ?_)
    refine g_pv 1 [(0, .int .u32 (↑((crcRun r (l.take k)) ^^^ (l.getD k 0).toNat) : Int))] (by kernel_rfl) ?_
    refine wpList_nil ?_
    refine wp_seq ?_
    refine wp_region_lit ?_
    refine g_pv 1 [(19, .int .u32 (↑((crcRun r (l.take k)) ^^^ (l.getD k 0).toNat) : Int))] (by kernel_rfl) ?_
    refine g_op (by kernel_rfl) (op_eq (.int .u32 (↑(((crcRun r (l.take k)) ^^^ (l.getD k 0).toNat) / 16) : Int)) (.int .u32 (Int.fdiv (↑((crcRun r (l.take k)) ^^^ (l.getD k 0).toNat) : Int) (2 ^ 4))) (by kernel_rfl) (congrArg (Value.int .u32) (fdiv_cast _ 4)) ?_)
    refine g_pv 1 [(21, .int .u32 (↑((crcRun r (l.take k)) ^^^ (l.getD k 0).toNat) : Int))] (by kernel_rfl) ?_
    refine g_op (by kernel_rfl) (op_eq (.int .u32 (↑(((crcRun r (l.take k)) ^^^ (l.getD k 0).toNat) % 16) : Int)) (.int .u32 (IntKind.u32.wrap (↑(BitVec.ofInt 32 (↑((crcRun r (l.take k)) ^^^ (l.getD k 0).toNat) : Int) &&& BitVec.ofInt 32 (15 : Int)).toNat : Int))) (by kernel_rfl) (congrArg (Value.int .u32) ((u32_and (b := 15) h1 (by decide)).trans (by rw [and_15]))) ?_)
    refine g_op (by kernel_rfl) (op_val (run_indexP (k := (((crcRun r (l.take k)) ^^^ (l.getD k 0).toNat) % 16)) (b := b2) (off := 0) (i := (↑(((crcRun r (l.take k)) ^^^ (l.getD k 0).toNat) % 16) : Int)) (ki := .u32) 1 (((crcRun r (l.take k)) ^^^ (l.getD k 0).toNat) % 16) rfl (by kernel_rfl) (by kernel_rfl) rfl (by omega) (by omega) Try.underlying150 (by kernel_rfl) W4) ?_)
    refine g_op (by kernel_rfl) (op_load ⟨b2, (((crcRun r (l.take k)) ^^^ (l.getD k 0).toNat) % 16), none⟩ (.int .u32 (↑(half (((crcRun r (l.take k)) ^^^ (l.getD k 0).toNat) % 16)) : Int)) rfl (by kernel_rfl) (by kernel_rfl) (k4_b2.cell (i := (((crcRun r (l.take k)) ^^^ (l.getD k 0).toNat) % 16)) (halvesC_get (by omega))) ?_)
    refine g_op (by kernel_rfl) (op_eq (.int .u32 (↑((((crcRun r (l.take k)) ^^^ (l.getD k 0).toNat) / 16) ^^^ half (((crcRun r (l.take k)) ^^^ (l.getD k 0).toNat) % 16)) : Int)) (.int .u32 (IntKind.u32.wrap (↑(BitVec.ofInt 32 (↑(((crcRun r (l.take k)) ^^^ (l.getD k 0).toNat) / 16) : Int) ^^^ BitVec.ofInt 32 (↑(half (((crcRun r (l.take k)) ^^^ (l.getD k 0).toNat) % 16)) : Int)).toNat : Int))) (by kernel_rfl) (congrArg (Value.int .u32) (u32_xor (Nat.lt_of_le_of_lt (Nat.div_le_self _ _) h1) (half16_lt _))) ?_)
    refine g_pv 1 [(0, .int .u32 (↑((((crcRun r (l.take k)) ^^^ (l.getD k 0).toNat) / 16) ^^^ half (((crcRun r (l.take k)) ^^^ (l.getD k 0).toNat) % 16)) : Int))] (by kernel_rfl) ?_
    refine wpList_nil ?_
    refine wp_region_lit ?_
    refine g_pv 1 [(26, .int .u32 (↑((((crcRun r (l.take k)) ^^^ (l.getD k 0).toNat) / 16) ^^^ half (((crcRun r (l.take k)) ^^^ (l.getD k 0).toNat) % 16)) : Int))] (by kernel_rfl) ?_
    refine g_op (by kernel_rfl) (op_eq (.int .u32 (↑(((((crcRun r (l.take k)) ^^^ (l.getD k 0).toNat) / 16) ^^^ half (((crcRun r (l.take k)) ^^^ (l.getD k 0).toNat) % 16)) / 16) : Int)) (.int .u32 (Int.fdiv (↑((((crcRun r (l.take k)) ^^^ (l.getD k 0).toNat) / 16) ^^^ half (((crcRun r (l.take k)) ^^^ (l.getD k 0).toNat) % 16)) : Int) (2 ^ 4))) (by kernel_rfl) (congrArg (Value.int .u32) (fdiv_cast _ 4)) ?_)
    refine g_pv 1 [(28, .int .u32 (↑((((crcRun r (l.take k)) ^^^ (l.getD k 0).toNat) / 16) ^^^ half (((crcRun r (l.take k)) ^^^ (l.getD k 0).toNat) % 16)) : Int))] (by kernel_rfl) ?_
    refine g_op (by kernel_rfl) (op_eq (.int .u32 (↑(((((crcRun r (l.take k)) ^^^ (l.getD k 0).toNat) / 16) ^^^ half (((crcRun r (l.take k)) ^^^ (l.getD k 0).toNat) % 16)) % 16) : Int)) (.int .u32 (IntKind.u32.wrap (↑(BitVec.ofInt 32 (↑((((crcRun r (l.take k)) ^^^ (l.getD k 0).toNat) / 16) ^^^ half (((crcRun r (l.take k)) ^^^ (l.getD k 0).toNat) % 16)) : Int) &&& BitVec.ofInt 32 (15 : Int)).toNat : Int))) (by kernel_rfl) (congrArg (Value.int .u32) ((u32_and (b := 15) h2 (by decide)).trans (by rw [and_15]))) ?_)
    refine g_op (by kernel_rfl) (op_val (run_indexP (k := (((((crcRun r (l.take k)) ^^^ (l.getD k 0).toNat) / 16) ^^^ half (((crcRun r (l.take k)) ^^^ (l.getD k 0).toNat) % 16)) % 16)) (b := b2) (off := 0) (i := (↑(((((crcRun r (l.take k)) ^^^ (l.getD k 0).toNat) / 16) ^^^ half (((crcRun r (l.take k)) ^^^ (l.getD k 0).toNat) % 16)) % 16) : Int)) (ki := .u32) 1 (((((crcRun r (l.take k)) ^^^ (l.getD k 0).toNat) / 16) ^^^ half (((crcRun r (l.take k)) ^^^ (l.getD k 0).toNat) % 16)) % 16) rfl (by kernel_rfl) (by kernel_rfl) rfl (by omega) (by omega) Try.underlying150 (by kernel_rfl) W4) ?_)
    refine g_op (by kernel_rfl) (op_load ⟨b2, (((((crcRun r (l.take k)) ^^^ (l.getD k 0).toNat) / 16) ^^^ half (((crcRun r (l.take k)) ^^^ (l.getD k 0).toNat) % 16)) % 16), none⟩ (.int .u32 (↑(half (((((crcRun r (l.take k)) ^^^ (l.getD k 0).toNat) / 16) ^^^ half (((crcRun r (l.take k)) ^^^ (l.getD k 0).toNat) % 16)) % 16)) : Int)) rfl (by kernel_rfl) (by kernel_rfl) (k4_b2.cell (i := (((((crcRun r (l.take k)) ^^^ (l.getD k 0).toNat) / 16) ^^^ half (((crcRun r (l.take k)) ^^^ (l.getD k 0).toNat) % 16)) % 16)) (halvesC_get (by omega))) ?_)
    refine g_op (by kernel_rfl) (op_eq (.int .u32 (↑((((((crcRun r (l.take k)) ^^^ (l.getD k 0).toNat) / 16) ^^^ half (((crcRun r (l.take k)) ^^^ (l.getD k 0).toNat) % 16)) / 16) ^^^ half (((((crcRun r (l.take k)) ^^^ (l.getD k 0).toNat) / 16) ^^^ half (((crcRun r (l.take k)) ^^^ (l.getD k 0).toNat) % 16)) % 16)) : Int)) (.int .u32 (IntKind.u32.wrap (↑(BitVec.ofInt 32 (↑(((((crcRun r (l.take k)) ^^^ (l.getD k 0).toNat) / 16) ^^^ half (((crcRun r (l.take k)) ^^^ (l.getD k 0).toNat) % 16)) / 16) : Int) ^^^ BitVec.ofInt 32 (↑(half (((((crcRun r (l.take k)) ^^^ (l.getD k 0).toNat) / 16) ^^^ half (((crcRun r (l.take k)) ^^^ (l.getD k 0).toNat) % 16)) % 16)) : Int)).toNat : Int))) (by kernel_rfl) (congrArg (Value.int .u32) (u32_xor (Nat.lt_of_le_of_lt (Nat.div_le_self _ _) h2) (half16_lt _))) ?_)
    refine g_pv 1 [(0, .int .u32 (↑((((((crcRun r (l.take k)) ^^^ (l.getD k 0).toNat) / 16) ^^^ half (((crcRun r (l.take k)) ^^^ (l.getD k 0).toNat) % 16)) / 16) ^^^ half (((((crcRun r (l.take k)) ^^^ (l.getD k 0).toNat) / 16) ^^^ half (((crcRun r (l.take k)) ^^^ (l.getD k 0).toNat) % 16)) % 16)) : Int))] (by kernel_rfl) ?_
    refine wpList_nil ?_
    refine wp_region_lit ?_
    refine g_op (by kernel_rfl) (op_wrap .i64 ((↑k : Int) + 1) ((↑k : Int) + 1) (by kernel_rfl) (by first | exact IntWalk.i64_in _ (by omega) | (simp only [IntKind.wrap]; omega)) ?_)
    refine g_pv 1 [(11, .int .i64 ((↑k : Int) + 1))] (by kernel_rfl) ?_
    refine wpList_nil ?_
    refine g_nfr ⟨#[.int .u32 (↑((((((crcRun r (l.take k)) ^^^ (l.getD k 0).toNat) / 16) ^^^ half (((crcRun r (l.take k)) ^^^ (l.getD k 0).toNat) % 16)) / 16) ^^^ half (((((crcRun r (l.take k)) ^^^ (l.getD k 0).toNat) / 16) ^^^ half (((crcRun r (l.take k)) ^^^ (l.getD k 0).toNat) % 16)) % 16)) : Int), .slice a l.length c, undef, undef, .int .u32 0, .pointer (some ⟨b2, 0, none⟩), undef, .int .u8 (↑(l.getD k 0).toNat : Int), .agg halvesC.toArray, .slice a l.length c, .int .i64 (↑l.length : Int), .int .i64 ((↑k : Int) + 1), .bool (decide ((↑k : Int) < (↑l.length : Int))), .pointer (some (elemAddr a (k * 1))), .int .u8 (↑(l.getD k 0).toNat : Int), .int .u32 (↑(crcRun r (l.take k)) : Int), .int .u8 (↑(l.getD k 0).toNat : Int), .int .u32 (↑(l.getD k 0).toNat : Int), .int .u32 (↑((crcRun r (l.take k)) ^^^ (l.getD k 0).toNat) : Int), .int .u32 (↑((crcRun r (l.take k)) ^^^ (l.getD k 0).toNat) : Int), .int .u32 (↑(((crcRun r (l.take k)) ^^^ (l.getD k 0).toNat) / 16) : Int), .int .u32 (↑((crcRun r (l.take k)) ^^^ (l.getD k 0).toNat) : Int), .int .u32 (↑(((crcRun r (l.take k)) ^^^ (l.getD k 0).toNat) % 16) : Int), .pointer (some ⟨b2, (((crcRun r (l.take k)) ^^^ (l.getD k 0).toNat) % 16), none⟩), .int .u32 (↑(half (((crcRun r (l.take k)) ^^^ (l.getD k 0).toNat) % 16)) : Int), .int .u32 (↑((((crcRun r (l.take k)) ^^^ (l.getD k 0).toNat) / 16) ^^^ half (((crcRun r (l.take k)) ^^^ (l.getD k 0).toNat) % 16)) : Int), .int .u32 (↑((((crcRun r (l.take k)) ^^^ (l.getD k 0).toNat) / 16) ^^^ half (((crcRun r (l.take k)) ^^^ (l.getD k 0).toNat) % 16)) : Int), .int .u32 (↑(((((crcRun r (l.take k)) ^^^ (l.getD k 0).toNat) / 16) ^^^ half (((crcRun r (l.take k)) ^^^ (l.getD k 0).toNat) % 16)) / 16) : Int), .int .u32 (↑((((crcRun r (l.take k)) ^^^ (l.getD k 0).toNat) / 16) ^^^ half (((crcRun r (l.take k)) ^^^ (l.getD k 0).toNat) % 16)) : Int), .int .u32 (↑(((((crcRun r (l.take k)) ^^^ (l.getD k 0).toNat) / 16) ^^^ half (((crcRun r (l.take k)) ^^^ (l.getD k 0).toNat) % 16)) % 16) : Int), .pointer (some ⟨b2, (((((crcRun r (l.take k)) ^^^ (l.getD k 0).toNat) / 16) ^^^ half (((crcRun r (l.take k)) ^^^ (l.getD k 0).toNat) % 16)) % 16), none⟩), .int .u32 (↑(half (((((crcRun r (l.take k)) ^^^ (l.getD k 0).toNat) / 16) ^^^ half (((crcRun r (l.take k)) ^^^ (l.getD k 0).toNat) % 16)) % 16)) : Int), .int .u32 (↑((((((crcRun r (l.take k)) ^^^ (l.getD k 0).toNat) / 16) ^^^ half (((crcRun r (l.take k)) ^^^ (l.getD k 0).toNat) % 16)) / 16) ^^^ half (((((crcRun r (l.take k)) ^^^ (l.getD k 0).toNat) / 16) ^^^ half (((crcRun r (l.take k)) ^^^ (l.getD k 0).toNat) % 16)) % 16)) : Int), .int .i64 ((↑k : Int) + 1), undef], []⟩ (by kernel_rfl) ?_
    refine g_nfr ⟨#[.int .u32 (↑(crcRun r (l.take (k + 1))) : Int), .slice a l.length c, undef, undef, .int .u32 0, .pointer (some ⟨b2, 0, none⟩), undef, .int .u8 (↑(l.getD k 0).toNat : Int), .agg halvesC.toArray, .slice a l.length c, .int .i64 (↑l.length : Int), .int .i64 ((↑k : Int) + 1), .bool (decide ((↑k : Int) < (↑l.length : Int))), .pointer (some (elemAddr a (k * 1))), .int .u8 (↑(l.getD k 0).toNat : Int), .int .u32 (↑(crcRun r (l.take k)) : Int), .int .u8 (↑(l.getD k 0).toNat : Int), .int .u32 (↑(l.getD k 0).toNat : Int), .int .u32 (↑((crcRun r (l.take k)) ^^^ (l.getD k 0).toNat) : Int), .int .u32 (↑((crcRun r (l.take k)) ^^^ (l.getD k 0).toNat) : Int), .int .u32 (↑(((crcRun r (l.take k)) ^^^ (l.getD k 0).toNat) / 16) : Int), .int .u32 (↑((crcRun r (l.take k)) ^^^ (l.getD k 0).toNat) : Int), .int .u32 (↑(((crcRun r (l.take k)) ^^^ (l.getD k 0).toNat) % 16) : Int), .pointer (some ⟨b2, (((crcRun r (l.take k)) ^^^ (l.getD k 0).toNat) % 16), none⟩), .int .u32 (↑(half (((crcRun r (l.take k)) ^^^ (l.getD k 0).toNat) % 16)) : Int), .int .u32 (↑((((crcRun r (l.take k)) ^^^ (l.getD k 0).toNat) / 16) ^^^ half (((crcRun r (l.take k)) ^^^ (l.getD k 0).toNat) % 16)) : Int), .int .u32 (↑((((crcRun r (l.take k)) ^^^ (l.getD k 0).toNat) / 16) ^^^ half (((crcRun r (l.take k)) ^^^ (l.getD k 0).toNat) % 16)) : Int), .int .u32 (↑(((((crcRun r (l.take k)) ^^^ (l.getD k 0).toNat) / 16) ^^^ half (((crcRun r (l.take k)) ^^^ (l.getD k 0).toNat) % 16)) / 16) : Int), .int .u32 (↑((((crcRun r (l.take k)) ^^^ (l.getD k 0).toNat) / 16) ^^^ half (((crcRun r (l.take k)) ^^^ (l.getD k 0).toNat) % 16)) : Int), .int .u32 (↑(((((crcRun r (l.take k)) ^^^ (l.getD k 0).toNat) / 16) ^^^ half (((crcRun r (l.take k)) ^^^ (l.getD k 0).toNat) % 16)) % 16) : Int), .pointer (some ⟨b2, (((((crcRun r (l.take k)) ^^^ (l.getD k 0).toNat) / 16) ^^^ half (((crcRun r (l.take k)) ^^^ (l.getD k 0).toNat) % 16)) % 16), none⟩), .int .u32 (↑(half (((((crcRun r (l.take k)) ^^^ (l.getD k 0).toNat) / 16) ^^^ half (((crcRun r (l.take k)) ^^^ (l.getD k 0).toNat) % 16)) % 16)) : Int), .int .u32 (↑((((((crcRun r (l.take k)) ^^^ (l.getD k 0).toNat) / 16) ^^^ half (((crcRun r (l.take k)) ^^^ (l.getD k 0).toNat) % 16)) / 16) ^^^ half (((((crcRun r (l.take k)) ^^^ (l.getD k 0).toNat) / 16) ^^^ half (((crcRun r (l.take k)) ^^^ (l.getD k 0).toNat) % 16)) % 16)) : Int), .int .i64 ((↑k : Int) + 1), undef], []⟩ (by rw [crcRun_take (by omega)]; rfl) ?_
    refine ⟨⟨k + 1, (pk [.int .u8 (↑(l.getD k 0).toNat : Int), .bool (decide ((↑k : Int) < (↑l.length : Int))), .pointer (some (elemAddr a (k * 1))), .int .u8 (↑(l.getD k 0).toNat : Int), .int .u32 (↑(crcRun r (l.take k)) : Int), .int .u8 (↑(l.getD k 0).toNat : Int), .int .u32 (↑(l.getD k 0).toNat : Int), .int .u32 (↑((crcRun r (l.take k)) ^^^ (l.getD k 0).toNat) : Int), .int .u32 (↑((crcRun r (l.take k)) ^^^ (l.getD k 0).toNat) : Int), .int .u32 (↑(((crcRun r (l.take k)) ^^^ (l.getD k 0).toNat) / 16) : Int), .int .u32 (↑((crcRun r (l.take k)) ^^^ (l.getD k 0).toNat) : Int), .int .u32 (↑(((crcRun r (l.take k)) ^^^ (l.getD k 0).toNat) % 16) : Int), .pointer (some ⟨b2, (((crcRun r (l.take k)) ^^^ (l.getD k 0).toNat) % 16), none⟩), .int .u32 (↑(half (((crcRun r (l.take k)) ^^^ (l.getD k 0).toNat) % 16)) : Int), .int .u32 (↑((((crcRun r (l.take k)) ^^^ (l.getD k 0).toNat) / 16) ^^^ half (((crcRun r (l.take k)) ^^^ (l.getD k 0).toNat) % 16)) : Int), .int .u32 (↑((((crcRun r (l.take k)) ^^^ (l.getD k 0).toNat) / 16) ^^^ half (((crcRun r (l.take k)) ^^^ (l.getD k 0).toNat) % 16)) : Int), .int .u32 (↑(((((crcRun r (l.take k)) ^^^ (l.getD k 0).toNat) / 16) ^^^ half (((crcRun r (l.take k)) ^^^ (l.getD k 0).toNat) % 16)) / 16) : Int), .int .u32 (↑((((crcRun r (l.take k)) ^^^ (l.getD k 0).toNat) / 16) ^^^ half (((crcRun r (l.take k)) ^^^ (l.getD k 0).toNat) % 16)) : Int), .int .u32 (↑(((((crcRun r (l.take k)) ^^^ (l.getD k 0).toNat) / 16) ^^^ half (((crcRun r (l.take k)) ^^^ (l.getD k 0).toNat) % 16)) % 16) : Int), .pointer (some ⟨b2, (((((crcRun r (l.take k)) ^^^ (l.getD k 0).toNat) / 16) ^^^ half (((crcRun r (l.take k)) ^^^ (l.getD k 0).toNat) % 16)) % 16), none⟩), .int .u32 (↑(half (((((crcRun r (l.take k)) ^^^ (l.getD k 0).toNat) / 16) ^^^ half (((crcRun r (l.take k)) ^^^ (l.getD k 0).toNat) % 16)) % 16)) : Int), .int .u32 (↑((((((crcRun r (l.take k)) ^^^ (l.getD k 0).toNat) / 16) ^^^ half (((crcRun r (l.take k)) ^^^ (l.getD k 0).toNat) % 16)) / 16) ^^^ half (((((crcRun r (l.take k)) ^^^ (l.getD k 0).toNat) / 16) ^^^ half (((crcRun r (l.take k)) ^^^ (l.getD k 0).toNat) % 16)) % 16)) : Int), .int .i64 ((↑k : Int) + 1)]), rfl, hB, k4_b2, by omega⟩, ?_⟩
    show l.length - (((↑k : Int) + 1)).toNat < l.length - ((↑k : Int)).toNat
    omega
  · have hc5 := of_decide_eq_false hc5
    refine wp_exit ?_
    refine then_exit ?_
    refine then_exit ?_
    refine inBlock_hit ?_
    refine wp_seq ?_
    refine wp_region_lit ?_
    refine g_pv 2 [(34, .int .u32 (↑(crcRun r (l.take k)) : Int)), (4, .int .u32 (↑(crcRun r (l.take k)) : Int))] (by kernel_rfl) ?_
    refine wpList_nil ?_
    refine wp_ret ?_
    refine g_ret (.int .u32 (↑(crcRun r (l.take k)) : Int)) (by kernel_rfl) (by kernel_rfl) ?_
    rw [List.take_of_length_le (by omega)]
    exact ⟨rfl, hB⟩
end Go.Proofs.Ytoiblgeheblddaa

