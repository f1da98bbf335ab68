/- The document's answer for the layers 1, 2 and 4: Bytes, Sum, Salt, known, Seal. -/
import Derived.Test.YtbopakjiahojdaaGreatDoorRdBits
import Derived.Test.YtbopakjiahojdaaGreatDoorSealOpen
import Derived.Test.YtbopakjiahojdaaGreatDoorNobody11
import Derived.Test.YtbopakjiahojdaaGreatDoorGw4
namespace Go.Proofs.YtbopakjiahojdaaGreatDoor
open Go.RowKit Go.Extern.Stop Go.Stop Go.Extern
set_option linter.unusedVariables false
attribute [local irreducible] wpList wpAnyH Code.wp Oper.wp

theorem step1_xor (a b : Nat) : step1 (a ^^^ b) = step1 a ^^^ step1 b := by
  have e : ∀ r, step1 r = (r / 2) ^^^ (if r % 2 = 1 then 2197175160 else 0) := fun r => by unfold step1; split <;> simp
  rw [e, e, e, Nat.xor_div_two]
  have hp := Nat.xor_mod_two_eq_one (a := a) (b := b)
  by_cases h1 : a % 2 = 1 <;> by_cases h2 : b % 2 = 1
  · rw [if_neg (by rw [hp]; simp [h1, h2]), if_pos h1, if_pos h2, Nat.xor_zero]
    rw [show a / 2 ^^^ 2197175160 ^^^ (b / 2 ^^^ 2197175160) = a / 2 ^^^ b / 2 ^^^ (2197175160 ^^^ 2197175160) by ac_rfl]; simp
  · rw [if_pos (by rw [hp]; simp [h1, h2]), if_pos h1, if_neg h2, Nat.xor_zero]; ac_rfl
  · rw [if_pos (by rw [hp]; simp [h1, h2]), if_neg h1, if_pos h2, Nat.xor_zero]; ac_rfl
  · rw [if_neg (by rw [hp]; simp [h1, h2]), if_neg h1, if_neg h2, Nat.xor_zero, Nat.xor_zero, Nat.xor_zero]
theorem stepN_xor (n a b : Nat) : stepN n (a ^^^ b) = stepN n a ^^^ stepN n b := by
  induction n with
  | zero => rfl
  | succ n ih => rw [stepN, ih, step1_xor]; rfl
theorem step1_even (q : Nat) : step1 (2 * q) = q := by unfold step1; rw [if_neg (by omega)]; omega
theorem stepN_16 (q : Nat) : stepN 4 (16 * q) = q := by
  show step1 (step1 (step1 (step1 (16 * q)))) = q
  rw [show 16 * q = 2 * (2 * (2 * (2 * q))) by omega, step1_even, step1_even, step1_even, step1_even]
theorem split16 (r : Nat) : r = (16 * (r / 16)) ^^^ (r % 16) := by
  apply Nat.eq_of_testBit_eq
  intro i
  rw [Nat.testBit_xor, show 16 * (r / 16) = 2 ^ 4 * (r / 2 ^ 4) from rfl, Nat.testBit_two_pow_mul, Nat.testBit_div_two_pow, show r % 16 = r % 2 ^ 4 from rfl, Nat.testBit_mod_two_pow]
  by_cases h : 4 ≤ i
  · rw [show i - 4 + 4 = i by omega, show decide (i ≥ 4) = true from decide_eq_true h, show decide (i < 4) = false from decide_eq_false (by omega)]; simp
  · rw [show decide (i ≥ 4) = false from decide_eq_false h, show decide (i < 4) = true from decide_eq_true (by omega)]; simp
theorem stepN_4 (r : Nat) : stepN 4 r = (r / 16) ^^^ half (r % 16) := by
  conv => lhs; rw [split16 r]
  rw [stepN_xor, stepN_16]; rfl
theorem stepN_add (m n r : Nat) : stepN (m + n) r = stepN m (stepN n r) := by
  induction m with
  | zero => simp [stepN]
  | succ m ih => rw [Nat.succ_add, stepN, ih]; rfl
theorem crcStep_8 (r : Nat) (x : UInt8) : crcStep r x = stepN 8 (r ^^^ x.toNat) := by
  show _ = stepN (4 + 4) (r ^^^ x.toNat)
  rw [stepN_add, stepN_4, stepN_4]; rfl
theorem step1_odd {r : Nat} (h : r % 2 = 1) : step1 r = (r / 2) ^^^ 2197175160 := if_pos h
theorem step1_ev {r : Nat} (h : ¬ r % 2 = 1) : step1 r = r / 2 := if_neg h
set_option maxRecDepth 100000 in
set_option maxHeartbeats 1000000 in
theorem ref_Step (r : Nat) (w : World) (hr : r < 4294967296) :
    Calls Tryz.prog 132 #[.int .i64 (↑r : Int)] w (Ret (.int .i64 (stepN 8 r : Int)) w) := by
  refine calls_of_wp Tryz.func132 rfl ?_
  refine g_fr ⟨#[.int .i64 (↑r : Int), undef, undef, undef, undef, undef, undef, undef, undef, undef, undef, undef, undef, undef, undef, undef, undef, undef], []⟩ (by kernel_rfl) ?_
  refine wp_seq ?_
  refine wp_region_lit ?_
  refine g_pv 1 [(2, .int .i64 0)] (by kernel_rfl) ?_
  refine wpList_nil ?_
  refine wp_seq ?_
  refine wp_seq ?_
  refine wp_region_lit ?_
  refine g_pv 1 [(3, .int .i64 0)] (by kernel_rfl) ?_
  refine wpList_nil ?_
  refine wp_block ?_
  refine g_fr ⟨#[.int .i64 (↑r : Int), undef, .int .i64 0, .int .i64 0, undef, undef, undef, undef, undef, undef, undef, undef, undef, undef, undef, undef, undef, undef], []⟩ (by kernel_rfl) ?_
  have hB := Below.refl w.heap.size w
  refine wp_loop (fun act V => ∃ (j : Nat) (x1 : Nat → Value), act = ⟨#[.int .i64 (↑(stepN j r) : Int), undef, .int .i64 0, .int .i64 (↑j : Int), (x1 0), (x1 1), (x1 2), (x1 3), (x1 4), (x1 5), (x1 6), (x1 7), (x1 8), (x1 9), (x1 10), (x1 11), (x1 12), undef], []⟩ ∧ Below w.heap.size w V ∧ j ≤ 8) (fun act V => 8 - ((intOf (act.tmps.getD 3 undef))).toNat) ⟨0, (pk [undef, undef, undef, undef, undef, undef, undef, undef, undef, undef, undef, undef, undef]), rfl, hB, by decide⟩ ?_
  rintro _ W1 ⟨j, x1, rfl, hB, hj⟩
  refine wp_seq ?_
  refine wp_seq ?_
  refine wp_region_lit ?_
  refine g_pv 2 [(5, .int .i64 (↑j : Int)), (6, .bool (decide ((↑j : Int) < (8 : Int))))] (by kernel_rfl) ?_
  refine wpList_nil ?_
  refine wp_cond_split (t := decide ((↑j : Int) < (8 : Int))) (by kernel_rfl) (fun hc2 => ?_) (fun hc2 => ?_)
  · have hc2 := of_decide_eq_true hc2
    refine wp_skip ?_
    refine wp_seq ?_
    refine wp_block ?_
    refine wp_seq ?_
    refine wp_region_lit ?_
    refine g_pv 1 [(9, .int .i64 (↑(stepN j r) : Int))] (by kernel_rfl) ?_
    refine g_op (by kernel_rfl) (op_eq (.int .i64 (↑((stepN j r) % 2) : Int)) (.int .i64 (Int.tmod (↑(stepN j r) : Int) 2)) (by kernel_rfl) (congrArg (Value.int .i64) (tmod_natB (stepN j r) 2)) ?_)
    refine g_pv 2 [(11, .bool ((↑((stepN j r) % 2) : Int) == (1 : Int))), (4, .bool ((↑((stepN j r) % 2) : Int) == (1 : Int)))] (by kernel_rfl) ?_
    refine wpList_nil ?_
    refine wp_seq ?_
    refine wp_region_lit ?_
    refine g_pv 1 [(12, .int .i64 (↑(stepN j r) : Int))] (by kernel_rfl) ?_
    refine g_op (by kernel_rfl) (op_eq (.int .i64 (↑((stepN j r) / 2) : Int)) (.int .i64 (IntKind.i64.wrap (Int.tdiv (↑(stepN j r) : Int) 2))) (by kernel_rfl) (congrArg (Value.int .i64) (quo_natB (stepN j r) 2 (by have := stepN_lt (j := j) hr; omega) (by decide))) ?_)
    refine g_pv 1 [(0, .int .i64 (↑((stepN j r) / 2) : Int))] (by kernel_rfl) ?_
    refine wpList_nil ?_
    refine wp_seq ?_
    refine wp_region_lit ?_
    refine g_pv 1 [(14, .bool ((↑((stepN j r) % 2) : Int) == (1 : Int)))] (by kernel_rfl) ?_
    refine wpList_nil ?_
    refine wp_cond_split (t := ((↑((stepN j r) % 2) : Int) == (1 : Int))) (by kernel_rfl) (fun hc3 => ?_) (fun hc3 => ?_)
    · have hc3 := eq_of_beq hc3
      refine wp_region_lit ?_
      refine g_pv 1 [(15, .int .i64 (↑((stepN j r) / 2) : Int))] (by kernel_rfl) ?_
      refine g_op (by kernel_rfl) (op_eq (.int .i64 (↑(((stepN j r) / 2) ^^^ 2197175160) : Int)) (.int .i64 (IntKind.i64.wrap (↑(BitVec.ofInt 64 (↑((stepN j r) / 2) : Int) ^^^ BitVec.ofInt 64 (2197175160 : Int)).toNat : Int))) (by kernel_rfl) (congrArg (Value.int .i64) (i64_xor (a := (stepN j r) / 2) (b := 2197175160) (by have := stepN_lt (j := j) hr; omega) (by decide))) ?_)
      refine g_pv 1 [(0, .int .i64 (↑(((stepN j r) / 2) ^^^ 2197175160) : Int))] (by kernel_rfl) ?_
      refine wpList_nil ?_
      refine wp_region_lit ?_
      refine g_pv 1 [(7, .int .i64 (↑j : Int))] (by kernel_rfl) ?_
      refine g_op (by kernel_rfl) (op_wrap .i64 ((↑j : Int) + 1) (↑(j + 1) : Int) (by kernel_rfl) ((show IntKind.i64.wrap ((↑j : Int) + 1) = ((↑j : Int) + 1) from by first | exact IntWalk.i64_in _ (by omega) | (simp only [IntKind.wrap]; omega)).trans (by omega)) ?_)
      refine g_pv 1 [(3, .int .i64 (↑(j + 1) : Int))] (by kernel_rfl) ?_
      refine wpList_nil ?_
      refine g_nfr ⟨#[.int .i64 (↑(((stepN j r) / 2) ^^^ 2197175160) : Int), undef, .int .i64 0, .int .i64 (↑(j + 1) : Int), .bool ((↑((stepN j r) % 2) : Int) == (1 : Int)), .int .i64 (↑j : Int), .bool (decide ((↑j : Int) < (8 : Int))), .int .i64 (↑j : Int), .int .i64 (↑(j + 1) : Int), .int .i64 (↑(stepN j r) : Int), .int .i64 (↑((stepN j r) % 2) : Int), .bool ((↑((stepN j r) % 2) : Int) == (1 : Int)), .int .i64 (↑(stepN j r) : Int), .int .i64 (↑((stepN j r) / 2) : Int), .bool ((↑((stepN j r) % 2) : Int) == (1 : Int)), .int .i64 (↑((stepN j r) / 2) : Int), .int .i64 (↑(((stepN j r) / 2) ^^^ 2197175160) : Int), undef], []⟩ (by kernel_rfl) ?_
      refine g_nfr ⟨#[.int .i64 (↑(stepN (j + 1) r) : Int), undef, .int .i64 0, .int .i64 (↑(j + 1) : Int), .bool ((↑((stepN j r) % 2) : Int) == (1 : Int)), .int .i64 (↑j : Int), .bool (decide ((↑j : Int) < (8 : Int))), .int .i64 (↑j : Int), .int .i64 (↑(j + 1) : Int), .int .i64 (↑(stepN j r) : Int), .int .i64 (↑((stepN j r) % 2) : Int), .bool ((↑((stepN j r) % 2) : Int) == (1 : Int)), .int .i64 (↑(stepN j r) : Int), .int .i64 (↑((stepN j r) / 2) : Int), .bool ((↑((stepN j r) % 2) : Int) == (1 : Int)), .int .i64 (↑((stepN j r) / 2) : Int), .int .i64 (↑(((stepN j r) / 2) ^^^ 2197175160) : Int), undef], []⟩ (by rw [show stepN (j + 1) r = step1 (stepN j r) from rfl, step1_odd (by omega)]) ?_
      refine ⟨⟨j + 1, (pk [.bool ((↑((stepN j r) % 2) : Int) == (1 : Int)), .int .i64 (↑j : Int), .bool (decide ((↑j : Int) < (8 : Int))), .int .i64 (↑j : Int), .int .i64 (↑(j + 1) : Int), .int .i64 (↑(stepN j r) : Int), .int .i64 (↑((stepN j r) % 2) : Int), .bool ((↑((stepN j r) % 2) : Int) == (1 : Int)), .int .i64 (↑(stepN j r) : Int), .int .i64 (↑((stepN j r) / 2) : Int), .bool ((↑((stepN j r) % 2) : Int) == (1 : Int)), .int .i64 (↑((stepN j r) / 2) : Int), .int .i64 (↑(((stepN j r) / 2) ^^^ 2197175160) : Int)]), rfl, hB, by omega⟩, ?_⟩
      show 8 - ((↑(j + 1) : Int)).toNat < 8 - ((↑j : Int)).toNat
      omega
    · have hc3 := ne_of_beq_false hc3
      refine wp_skip ?_
      refine wp_region_lit ?_
      refine g_pv 1 [(7, .int .i64 (↑j : Int))] (by kernel_rfl) ?_
      refine g_op (by kernel_rfl) (op_wrap .i64 ((↑j : Int) + 1) (↑(j + 1) : Int) (by kernel_rfl) ((show IntKind.i64.wrap ((↑j : Int) + 1) = ((↑j : Int) + 1) from by first | exact IntWalk.i64_in _ (by omega) | (simp only [IntKind.wrap]; omega)).trans (by omega)) ?_)
      refine g_pv 1 [(3, .int .i64 (↑(j + 1) : Int))] (by kernel_rfl) ?_
      refine wpList_nil ?_
      refine g_nfr ⟨#[.int .i64 (↑((stepN j r) / 2) : Int), undef, .int .i64 0, .int .i64 (↑(j + 1) : Int), .bool ((↑((stepN j r) % 2) : Int) == (1 : Int)), .int .i64 (↑j : Int), .bool (decide ((↑j : Int) < (8 : Int))), .int .i64 (↑j : Int), .int .i64 (↑(j + 1) : Int), .int .i64 (↑(stepN j r) : Int), .int .i64 (↑((stepN j r) % 2) : Int), .bool ((↑((stepN j r) % 2) : Int) == (1 : Int)), .int .i64 (↑(stepN j r) : Int), .int .i64 (↑((stepN j r) / 2) : Int), .bool ((↑((stepN j r) % 2) : Int) == (1 : Int)), (x1 11), (x1 12), undef], []⟩ (by kernel_rfl) ?_
      refine g_nfr ⟨#[.int .i64 (↑(stepN (j + 1) r) : Int), undef, .int .i64 0, .int .i64 (↑(j + 1) : Int), .bool ((↑((stepN j r) % 2) : Int) == (1 : Int)), .int .i64 (↑j : Int), .bool (decide ((↑j : Int) < (8 : Int))), .int .i64 (↑j : Int), .int .i64 (↑(j + 1) : Int), .int .i64 (↑(stepN j r) : Int), .int .i64 (↑((stepN j r) % 2) : Int), .bool ((↑((stepN j r) % 2) : Int) == (1 : Int)), .int .i64 (↑(stepN j r) : Int), .int .i64 (↑((stepN j r) / 2) : Int), .bool ((↑((stepN j r) % 2) : Int) == (1 : Int)), (x1 11), (x1 12), undef], []⟩ (by rw [show stepN (j + 1) r = step1 (stepN j r) from rfl, step1_ev (by omega)]) ?_
      refine ⟨⟨j + 1, (pk [.bool ((↑((stepN j r) % 2) : Int) == (1 : Int)), .int .i64 (↑j : Int), .bool (decide ((↑j : Int) < (8 : Int))), .int .i64 (↑j : Int), .int .i64 (↑(j + 1) : Int), .int .i64 (↑(stepN j r) : Int), .int .i64 (↑((stepN j r) % 2) : Int), .bool ((↑((stepN j r) % 2) : Int) == (1 : Int)), .int .i64 (↑(stepN j r) : Int), .int .i64 (↑((stepN j r) / 2) : Int), .bool ((↑((stepN j r) % 2) : Int) == (1 : Int)), (x1 11), (x1 12)]), rfl, hB, by omega⟩, ?_⟩
      show 8 - ((↑(j + 1) : Int)).toNat < 8 - ((↑j : Int)).toNat
      omega
  · have hc2 := of_decide_eq_false hc2
    refine wp_exit ?_
    refine then_exit ?_
    refine then_exit ?_
    refine inBlock_hit ?_
    refine wp_seq ?_
    refine wp_region_lit ?_
    refine g_pv 2 [(17, .int .i64 (↑(stepN j r) : Int)), (2, .int .i64 (↑(stepN j r) : Int))] (by kernel_rfl) ?_
    refine wpList_nil ?_
    refine wp_ret ?_
    refine g_ret (.int .i64 (↑(stepN j r) : Int)) (by kernel_rfl) (by kernel_rfl) ?_
    obtain rfl : j = 8 := by omega
    exact ⟨rfl, hB⟩
set_option maxRecDepth 100000 in
set_option maxHeartbeats 1000000 in
theorem ref_More (a : Option Addr) (c : Nat) (l : List UInt8) (w : World) (hl : l.length ≤ 100000000) (h : Bys w (.slice a l.length c) l) :
    Calls Tryz.prog 119 #[.int .i64 0, .slice a l.length c] w (Ret (.int .i64 (crcSum l : Int)) w) := by
  refine calls_of_wp Tryz.func119 rfl ?_
  refine g_fr ⟨#[.int .i64 0, .slice a l.length c, undef, undef, undef, undef, undef, undef, undef, undef, undef, undef, undef, undef, undef, undef, undef, undef, undef, undef, undef, undef, undef, undef, undef, undef, undef, undef, undef, undef, undef], []⟩ (by kernel_rfl) ?_
  refine wp_seq ?_
  refine wp_region_lit ?_
  refine g_pv 1 [(4, .int .i64 0)] (by kernel_rfl) ?_
  refine wpList_nil ?_
  refine wp_seq ?_
  refine wp_seq ?_
  refine wp_region_lit ?_
  refine g_pv 6 [(7, .int .i64 0), (8, .bool false), (9, .bool false), (10, .int .i64 0), (11, .bool false), (12, .bool false)] (by kernel_rfl) ?_
  refine wpList_nil ?_
  refine wp_cond_false (by kernel_rfl) ?_
  refine wp_skip ?_
  refine wp_seq ?_
  refine wp_region_lit ?_
  refine g_pv 3 [(13, .int .i64 0), (14, .int .i64 4294967295), (5, .int .i64 4294967295)] (by kernel_rfl) ?_
  refine wpList_nil ?_
  refine wp_seq ?_
  refine wp_seq ?_
  refine wp_region_lit ?_
  refine g_pv 1 [(6, .int .i64 0)] (by kernel_rfl) ?_
  refine wpList_nil ?_
  refine wp_block ?_
  refine g_fr ⟨#[.int .i64 0, .slice a l.length c, undef, undef, .int .i64 0, .int .i64 4294967295, .int .i64 0, .int .i64 0, .bool false, .bool false, .int .i64 0, .bool false, .bool false, .int .i64 0, .int .i64 4294967295, undef, undef, undef, undef, undef, undef, undef, undef, undef, undef, undef, undef, undef, undef, undef, undef], []⟩ (by kernel_rfl) ?_
  have hB := Below.refl w.heap.size w
  refine wp_loop (fun act V => ∃ (i : Nat) (x1 : Nat → Value), act = ⟨#[.int .i64 0, .slice a l.length c, undef, undef, .int .i64 0, .int .i64 (↑(crcRun 4294967295 (l.take i)) : Int), .int .i64 (↑i : Int), .int .i64 0, .bool false, .bool false, .int .i64 0, .bool false, .bool false, .int .i64 0, .int .i64 4294967295, (x1 0), (x1 1), (x1 2), (x1 3), (x1 4), (x1 5), (x1 6), (x1 7), (x1 8), (x1 9), (x1 10), (x1 11), (x1 12), (x1 13), undef, undef], []⟩ ∧ Below w.heap.size w V ∧ i ≤ l.length) (fun act V => l.length - ((intOf (act.tmps.getD 6 undef))).toNat) ⟨0, (pk [undef, undef, undef, undef, undef, undef, undef, undef, undef, undef, undef, undef, undef, undef]), rfl, hB, Nat.zero_le _⟩ ?_
  rintro _ W1 ⟨i, x1, rfl, hB, hi⟩
  refine wp_seq ?_
  refine wp_seq ?_
  refine wp_region_lit ?_
  refine g_pv 4 [(15, .int .i64 (↑i : Int)), (16, .slice a l.length c), (17, .int .i64 (↑l.length : Int)), (18, .bool (decide ((↑i : Int) < (↑l.length : Int))))] (by kernel_rfl) ?_
  refine wpList_nil ?_
  refine wp_cond_split (t := decide ((↑i : Int) < (↑l.length : Int))) (by kernel_rfl) (fun hc2 => ?_) (fun hc2 => ?_)
  · have hc2 := of_decide_eq_true hc2
    refine wp_skip ?_
    refine wp_seq ?_
    refine wp_block ?_
    refine wp_region_lit ?_
    refine g_pv 3 [(21, .int .i64 (↑(crcRun 4294967295 (l.take i)) : Int)), (22, .slice a l.length c), (23, .int .i64 (↑i : Int))] (by kernel_rfl) ?_
    refine g_op (by kernel_rfl) (op_val (run_indexA (size := 1) (k := i) (b := a) (n := l.length) (c := c) (i := (↑i : Int)) (ki := .i64) rfl (by kernel_rfl) (by kernel_rfl) rfl (by omega) (Bys.elem h (k := i) (by omega)).1 Tryz.underlying29 (by kernel_rfl) W1) ?_)
    refine g_op (by kernel_rfl) (op_load (elemAddr a (i * 1)) (.int .u8 (↑(l.getD i 0).toNat : Int)) rfl (by kernel_rfl) (by kernel_rfl) (Bys.elem (h.below hB) (k := i) (by omega)).2 ?_)
    refine g_op (by kernel_rfl) (op_eq (.int .i64 (↑(l.getD i 0).toNat : Int)) (.int .i64 (IntKind.i64.wrap (↑(l.getD i 0).toNat : Int))) (by kernel_rfl) (congrArg (Value.int .i64) (i64_nat (by have := (l.getD i 0).toNat_lt; omega))) ?_)
    refine g_op (by kernel_rfl) (op_eq (.int .i64 (↑((crcRun 4294967295 (l.take i)) ^^^ (l.getD i 0).toNat) : Int)) (.int .i64 (IntKind.i64.wrap (↑(BitVec.ofInt 64 (↑(crcRun 4294967295 (l.take i)) : Int) ^^^ BitVec.ofInt 64 (↑(l.getD i 0).toNat : Int)).toNat : Int))) (by kernel_rfl) (congrArg (Value.int .i64) (i64_xor (crcRun_lt (by decide) _) (u8_lt _))) ?_)
    refine g_op (by kernel_rfl) (op_call (lb := #[]) 132 #[.int .i64 (↑((crcRun 4294967295 (l.take i)) ^^^ (l.getD i 0).toNat) : Int)] rfl (by kernel_rfl) (fun _ _ => by kernel_rfl) (by kernel_rfl) ((ref_Step ((crcRun 4294967295 (l.take i)) ^^^ (l.getD i 0).toNat) _ (Nat.xor_lt_two_pow (n := 32) (crcRun_lt (by decide) _) (u8_lt _))).mono ?_))
    rintro e W3 ⟨rfl, hb3⟩
    refine ⟨_, rfl, ?_⟩
    replace hB := Bl.next hB hb3
    refine g_pv 1 [(5, .int .i64 (↑(stepN 8 ((crcRun 4294967295 (l.take i)) ^^^ (l.getD i 0).toNat)) : Int))] (by kernel_rfl) ?_
    refine wpList_nil ?_
    refine wp_region_lit ?_
    refine g_pv 1 [(19, .int .i64 (↑i : Int))] (by kernel_rfl) ?_
    refine g_op (by kernel_rfl) (op_wrap .i64 ((↑i : Int) + 1) (↑(i + 1) : Int) (by kernel_rfl) ((show IntKind.i64.wrap ((↑i : Int) + 1) = ((↑i : Int) + 1) from by first | exact IntWalk.i64_in _ (by omega) | (simp only [IntKind.wrap]; omega)).trans (by omega)) ?_)
    refine g_pv 1 [(6, .int .i64 (↑(i + 1) : Int))] (by kernel_rfl) ?_
    refine wpList_nil ?_
    refine g_nfr ⟨#[.int .i64 0, .slice a l.length c, undef, undef, .int .i64 0, .int .i64 (↑(stepN 8 ((crcRun 4294967295 (l.take i)) ^^^ (l.getD i 0).toNat)) : Int), .int .i64 (↑(i + 1) : Int), .int .i64 0, .bool false, .bool false, .int .i64 0, .bool false, .bool false, .int .i64 0, .int .i64 4294967295, .int .i64 (↑i : Int), .slice a l.length c, .int .i64 (↑l.length : Int), .bool (decide ((↑i : Int) < (↑l.length : Int))), .int .i64 (↑i : Int), .int .i64 (↑(i + 1) : Int), .int .i64 (↑(crcRun 4294967295 (l.take i)) : Int), .slice a l.length c, .int .i64 (↑i : Int), .pointer (some (elemAddr a (i * 1))), .int .u8 (↑(l.getD i 0).toNat : Int), .int .i64 (↑(l.getD i 0).toNat : Int), .int .i64 (↑((crcRun 4294967295 (l.take i)) ^^^ (l.getD i 0).toNat) : Int), .int .i64 (↑(stepN 8 ((crcRun 4294967295 (l.take i)) ^^^ (l.getD i 0).toNat)) : Int), undef, undef], []⟩ (by kernel_rfl) ?_
    refine g_nfr ⟨#[.int .i64 0, .slice a l.length c, undef, undef, .int .i64 0, .int .i64 (↑(crcRun 4294967295 (l.take (i + 1))) : Int), .int .i64 (↑(i + 1) : Int), .int .i64 0, .bool false, .bool false, .int .i64 0, .bool false, .bool false, .int .i64 0, .int .i64 4294967295, .int .i64 (↑i : Int), .slice a l.length c, .int .i64 (↑l.length : Int), .bool (decide ((↑i : Int) < (↑l.length : Int))), .int .i64 (↑i : Int), .int .i64 (↑(i + 1) : Int), .int .i64 (↑(crcRun 4294967295 (l.take i)) : Int), .slice a l.length c, .int .i64 (↑i : Int), .pointer (some (elemAddr a (i * 1))), .int .u8 (↑(l.getD i 0).toNat : Int), .int .i64 (↑(l.getD i 0).toNat : Int), .int .i64 (↑((crcRun 4294967295 (l.take i)) ^^^ (l.getD i 0).toNat) : Int), .int .i64 (↑(stepN 8 ((crcRun 4294967295 (l.take i)) ^^^ (l.getD i 0).toNat)) : Int), undef, undef], []⟩ (by rw [crcRun_take (by omega), crcStep_8]) ?_
    refine ⟨⟨i + 1, (pk [.int .i64 (↑i : Int), .slice a l.length c, .int .i64 (↑l.length : Int), .bool (decide ((↑i : Int) < (↑l.length : Int))), .int .i64 (↑i : Int), .int .i64 (↑(i + 1) : Int), .int .i64 (↑(crcRun 4294967295 (l.take i)) : Int), .slice a l.length c, .int .i64 (↑i : Int), .pointer (some (elemAddr a (i * 1))), .int .u8 (↑(l.getD i 0).toNat : Int), .int .i64 (↑(l.getD i 0).toNat : Int), .int .i64 (↑((crcRun 4294967295 (l.take i)) ^^^ (l.getD i 0).toNat) : Int), .int .i64 (↑(stepN 8 ((crcRun 4294967295 (l.take i)) ^^^ (l.getD i 0).toNat)) : Int)]), rfl, hB, by omega⟩, ?_⟩
    show l.length - ((↑(i + 1) : Int)).toNat < l.length - ((↑i : Int)).toNat
    omega
  · have hc2 := of_decide_eq_false hc2
    refine wp_exit ?_
    refine then_exit ?_
    refine then_exit ?_
    refine inBlock_hit ?_
    refine wp_seq ?_
    refine wp_region_lit ?_
    refine g_pv 1 [(29, .int .i64 (↑(crcRun 4294967295 (l.take i)) : Int))] (by kernel_rfl) ?_
    refine g_op (by kernel_rfl) (op_eq (.int .i64 (↑((crcRun 4294967295 (l.take i)) ^^^ 4294967295) : Int)) (.int .i64 (IntKind.i64.wrap (↑(BitVec.ofInt 64 (↑(crcRun 4294967295 (l.take i)) : Int) ^^^ BitVec.ofInt 64 (4294967295 : Int)).toNat : Int))) (by kernel_rfl) (congrArg (Value.int .i64) (i64_xor (b := 4294967295) (crcRun_lt (by decide) _) (by decide))) ?_)
    refine g_pv 1 [(4, .int .i64 (↑((crcRun 4294967295 (l.take i)) ^^^ 4294967295) : Int))] (by kernel_rfl) ?_
    refine wpList_nil ?_
    refine wp_ret ?_
    refine g_ret (.int .i64 (↑((crcRun 4294967295 (l.take i)) ^^^ 4294967295) : Int)) (by kernel_rfl) (by kernel_rfl) ?_
    obtain rfl : i = l.length := by omega
    rw [List.take_length]
    exact ⟨rfl, hB⟩
set_option maxRecDepth 100000 in
set_option maxHeartbeats 1000000 in
theorem ref_Sum (a : Option Addr) (c : Nat) (l : List UInt8) (w : World) (hl : l.length ≤ 100000000) (h : Bys w (.slice a l.length c) l) :
    Calls Tryz.prog 94 #[.slice a l.length c] w (Ret (.int .i64 (crcSum l : Int)) w) := by
  refine calls_of_wp Tryz.func94 rfl ?_
  refine g_fr ⟨#[.slice a l.length c, undef, undef, undef, undef], []⟩ (by kernel_rfl) ?_
  refine wp_seq ?_
  refine wp_region_lit ?_
  refine g_pv 1 [(2, .int .i64 0)] (by kernel_rfl) ?_
  refine wpList_nil ?_
  refine wp_seq ?_
  refine wp_region_lit ?_
  refine g_pv 1 [(3, .slice a l.length c)] (by kernel_rfl) ?_
  refine g_op (by kernel_rfl) (op_call (lb := #[]) 119 #[.int .i64 0, .slice a l.length c] rfl (by kernel_rfl) (fun _ _ => by kernel_rfl) (by kernel_rfl) ((ref_More a c l _ hl (h.below (Below.refl w.heap.size _))).mono ?_))
  rintro e W1 ⟨rfl, hb1⟩
  refine ⟨_, rfl, ?_⟩
  have hB := hb1
  refine g_pv 1 [(2, .int .i64 (↑(crcSum l) : Int))] (by kernel_rfl) ?_
  refine wpList_nil ?_
  refine wp_ret ?_
  exact g_ret (.int .i64 (↑(crcSum l) : Int)) (by kernel_rfl) (by kernel_rfl) ⟨rfl, hB⟩
theorem ref_SumN (a : Option Addr) (n c : Nat) (l : List UInt8) (w : World) (hn : l.length = n) (hl : n ≤ 100000000) (h : Bys w (.slice a n c) l) : Calls Tryz.prog 94 #[.slice a n c] w (Ret (.int .i64 (crcSum l : Int)) w) := by
  subst hn; exact ref_Sum a c l w hl h
theorem leB_snoc (n : Int) (w : Nat) : leB n (w + 1) = leB n w ++ [byteAt n w] := by simp [leB, List.range_succ]
theorem u8_byteAt (m i : Nat) : IntKind.u8.wrap (((m / 256 ^ i) % 256 : Nat) : Int) = ((byteAt (m : Int) i).toNat : Int) := by
  rw [byte_0 (Int.natCast_nonneg _)]
  unfold byteAt
  simp only [Int.toNat_natCast, Nat.pow_zero, Nat.div_one]
  congr 2
  apply UInt8.toNat_inj.1
  simp [UInt8.toNat_ofNat']
set_option maxRecDepth 100000 in
set_option maxHeartbeats 1000000 in
theorem ref_Bytes (m w : Nat) (W : World) (hm : m < 9223372036854775808) (hw : w ≤ 8) :
    Calls Tryz.prog 47 #[.int .i64 (↑m : Int), .int .i64 (↑w : Int)] W (RetS (fun W' r => ∃ p c, r = .slice p w c ∧ W'.ownsRow W.heap.size 5 1 (.slice p w c) w ((leB (↑m : Int) w).map bv)) W) := by
  refine calls_of_wp Tryz.func47 rfl ?_
  refine g_fr ⟨#[.int .i64 (↑m : Int), .int .i64 (↑w : Int), undef, undef, undef, undef, undef, undef, undef, undef, undef, undef, undef, undef, undef, undef, undef, undef, undef, undef, undef], []⟩ (by kernel_rfl) ?_
  refine wp_seq ?_
  refine wp_region_lit ?_
  refine g_pv 1 [(4, .slice none 0 0)] (by kernel_rfl) ?_
  refine wpList_nil ?_
  refine wp_seq ?_
  refine wp_region_lit ?_
  refine g_pv 1 [(5, .slice none 0 0)] (by kernel_rfl) ?_
  refine wpList_nil ?_
  refine wp_seq ?_
  refine wp_seq ?_
  refine wp_region_lit ?_
  refine g_pv 1 [(6, .int .i64 0)] (by kernel_rfl) ?_
  refine wpList_nil ?_
  refine wp_block ?_
  refine g_fr ⟨#[.int .i64 (↑m : Int), .int .i64 (↑w : Int), undef, undef, .slice none 0 0, .slice none 0 0, .int .i64 0, undef, undef, undef, undef, undef, undef, undef, undef, undef, undef, undef, undef, undef, undef], []⟩ (by kernel_rfl) ?_
  refine g_fr ⟨#[.int .i64 ((m / 256 ^ 0 : Nat) : Int), .int .i64 (↑w : Int), undef, undef, .slice none 0 0, .slice none 0 0, .int .i64 0, undef, undef, undef, undef, undef, undef, undef, undef, undef, undef, undef, undef, undef, undef], []⟩ (by rw [Nat.pow_zero, Nat.div_one]) ?_
  have hB := Below.refl W.heap.size W
  refine wp_loop (fun act V => ∃ (i : Nat) (p : Option Addr) (c : Nat) (x1 : Nat → Value), act = ⟨#[.int .i64 (↑(m / 256 ^ i) : Int), .int .i64 (↑w : Int), undef, undef, .slice none 0 0, .slice p i c, .int .i64 (↑i : Int), (x1 0), (x1 1), (x1 2), (x1 3), (x1 4), (x1 5), (x1 6), (x1 7), (x1 8), (x1 9), (x1 10), (x1 11), (x1 12), undef], []⟩ ∧ Below W.heap.size W V ∧ V.ownsRow W.heap.size 5 1 (.slice p i c) i ((leB (↑m : Int) i).map bv) ∧ i ≤ w) (fun act V => w - ((intOf (act.tmps.getD 6 undef))).toNat) ⟨0, _, _, (pk [undef, undef, undef, undef, undef, undef, undef, undef, undef, undef, undef, undef, undef]), rfl, hB, World.ownsRow_nil _ _ _ _, Nat.zero_le _⟩ ?_
  rintro _ W1 ⟨i, p, c, x1, rfl, hB, ho, hi⟩
  refine wp_seq ?_
  refine wp_seq ?_
  refine wp_region_lit ?_
  refine g_pv 3 [(7, .int .i64 (↑i : Int)), (8, .int .i64 (↑w : Int)), (9, .bool (decide ((↑i : Int) < (↑w : Int))))] (by kernel_rfl) ?_
  refine wpList_nil ?_
  refine wp_cond_split (t := decide ((↑i : Int) < (↑w : Int))) (by kernel_rfl) (fun hc2 => ?_) (fun hc2 => ?_)
  · have hc2 := of_decide_eq_true hc2
    refine wp_skip ?_
    refine wp_seq ?_
    refine wp_block ?_
    refine wp_seq ?_
    refine wp_region_lit ?_
    refine g_pv 2 [(12, .slice p i c), (13, .int .i64 (↑(m / 256 ^ i) : Int))] (by kernel_rfl) ?_
    refine g_op (by kernel_rfl) (op_eq (.int .i64 (↑((m / 256 ^ i) % 256) : Int)) (.int .i64 (Int.tmod (↑(m / 256 ^ i) : Int) 256)) (by kernel_rfl) (congrArg (Value.int .i64) (tmod_natB (m / 256 ^ i) 256)) ?_)
    refine g_op (by kernel_rfl) (op_eq (.int .u8 (↑(byteAt (↑m : Int) i).toNat : Int)) (.int .u8 (IntKind.u8.wrap (↑((m / 256 ^ i) % 256) : Int))) (by kernel_rfl) (congrArg (Value.int .u8) (u8_byteAt m i)) ?_)
    refine g_op (by kernel_rfl) (op_buildSlice 5 [.int .u8 (↑(byteAt (↑m : Int) i).toNat : Int)] rfl (by kernel_rfl) ?_)
    intro b3 W3 n3
    have g3 := n3.ge hB
    have r3_ho := own_ne ho n3
    replace hB := Bl.next hB n3.below
    replace ho := own_below ho n3.below
    have k3 := n3.blk
    refine g_op (by kernel_rfl) (op_app (e := 5) (n := i) (xs := (leB (↑m : Int) i).map bv) (m := 1) (news := [.int .u8 (↑(byteAt (↑m : Int) i).toNat : Int)]) (.int .u8 0) 1 1 (i + 1) ((leB (↑m : Int) (i + 1)).map bv) rfl Tryz.underlying29 (by kernel_rfl) rfl (by decide) (by kernel_rfl) ho (by kernel_rfl) (k3.sl 1 1 (by decide) (by decide)) rfl (by simp [Value.oneCell']) (by unfold maxLen; omega) (by omega) hB.size (by rfl) (by rw [leB_snoc, List.map_append]; rfl) ?_)
    intro p4 c4 W4 o4 hg4 hb4
    replace hB := hB.trans hb4
    refine g_pv 1 [(5, .slice p4 (i + 1) c4)] (by kernel_rfl) ?_
    refine wpList_nil ?_
    refine wp_region_lit ?_
    refine g_pv 1 [(18, .int .i64 (↑(m / 256 ^ i) : Int))] (by kernel_rfl) ?_
    refine g_op (by kernel_rfl) (op_eq (.int .i64 (↑((m / 256 ^ i) / 256) : Int)) (.int .i64 (IntKind.i64.wrap (Int.tdiv (↑(m / 256 ^ i) : Int) 256))) (by kernel_rfl) (congrArg (Value.int .i64) (quo_natB (m / 256 ^ i) 256 (Nat.lt_of_le_of_lt (Nat.div_le_self _ _) hm) (by decide))) ?_)
    refine g_pv 1 [(0, .int .i64 (↑((m / 256 ^ i) / 256) : Int))] (by kernel_rfl) ?_
    refine wpList_nil ?_
    refine wp_region_lit ?_
    refine g_pv 1 [(10, .int .i64 (↑i : Int))] (by kernel_rfl) ?_
    refine g_op (by kernel_rfl) (op_wrap .i64 ((↑i : Int) + 1) (↑(i + 1) : Int) (by kernel_rfl) ((show IntKind.i64.wrap ((↑i : Int) + 1) = ((↑i : Int) + 1) from by first | exact IntWalk.i64_in _ (by omega) | (simp only [IntKind.wrap]; omega)).trans (by omega)) ?_)
    refine g_pv 1 [(6, .int .i64 (↑(i + 1) : Int))] (by kernel_rfl) ?_
    refine wpList_nil ?_
    refine g_nfr ⟨#[.int .i64 (↑((m / 256 ^ i) / 256) : Int), .int .i64 (↑w : Int), undef, undef, .slice none 0 0, .slice p4 (i + 1) c4, .int .i64 (↑(i + 1) : Int), .int .i64 (↑i : Int), .int .i64 (↑w : Int), .bool (decide ((↑i : Int) < (↑w : Int))), .int .i64 (↑i : Int), .int .i64 (↑(i + 1) : Int), .slice p i c, .int .i64 (↑(m / 256 ^ i) : Int), .int .i64 (↑((m / 256 ^ i) % 256) : Int), .int .u8 (↑(byteAt (↑m : Int) i).toNat : Int), .slice (some ⟨b3, 0, none⟩) 1 1, .slice p4 (i + 1) c4, .int .i64 (↑(m / 256 ^ i) : Int), .int .i64 (↑((m / 256 ^ i) / 256) : Int), undef], []⟩ (by kernel_rfl) ?_
    refine g_nfr ⟨#[.int .i64 (↑(m / 256 ^ (i + 1)) : Int), .int .i64 (↑w : Int), undef, undef, .slice none 0 0, .slice p4 (i + 1) c4, .int .i64 (↑(i + 1) : Int), .int .i64 (↑i : Int), .int .i64 (↑w : Int), .bool (decide ((↑i : Int) < (↑w : Int))), .int .i64 (↑i : Int), .int .i64 (↑(i + 1) : Int), .slice p i c, .int .i64 (↑(m / 256 ^ i) : Int), .int .i64 (↑((m / 256 ^ i) % 256) : Int), .int .u8 (↑(byteAt (↑m : Int) i).toNat : Int), .slice (some ⟨b3, 0, none⟩) 1 1, .slice p4 (i + 1) c4, .int .i64 (↑(m / 256 ^ i) : Int), .int .i64 (↑((m / 256 ^ i) / 256) : Int), undef], []⟩ (by rw [Nat.pow_succ, ← Nat.div_div_eq_div_mul]) ?_
    refine ⟨⟨i + 1, _, _, (pk [.int .i64 (↑i : Int), .int .i64 (↑w : Int), .bool (decide ((↑i : Int) < (↑w : Int))), .int .i64 (↑i : Int), .int .i64 (↑(i + 1) : Int), .slice p i c, .int .i64 (↑(m / 256 ^ i) : Int), .int .i64 (↑((m / 256 ^ i) % 256) : Int), .int .u8 (↑(byteAt (↑m : Int) i).toNat : Int), .slice (some ⟨b3, 0, none⟩) 1 1, .slice p4 (i + 1) c4, .int .i64 (↑(m / 256 ^ i) : Int), .int .i64 (↑((m / 256 ^ i) / 256) : Int)]), rfl, hB, o4, by omega⟩, ?_⟩
    show w - ((↑(i + 1) : Int)).toNat < w - ((↑i : Int)).toNat
    omega
  · have hc2 := of_decide_eq_false hc2
    refine wp_exit ?_
    refine then_exit ?_
    refine then_exit ?_
    refine inBlock_hit ?_
    refine wp_seq ?_
    refine wp_region_lit ?_
    refine g_pv 2 [(20, .slice p i c), (4, .slice p i c)] (by kernel_rfl) ?_
    refine wpList_nil ?_
    refine wp_ret ?_
    refine g_ret (.slice p i c) (by kernel_rfl) (by kernel_rfl) ?_
    obtain rfl : i = w := by omega
    exact ⟨_, rfl, hB, _, _, rfl, ho⟩
theorem ref_BytesN (n : Int) (w : Nat) (wi : Int) (W : World) (h0 : 0 ≤ n) (hn : n < 9223372036854775808) (hwi : wi = (w : Int)) (hw : w ≤ 8) : Calls Tryz.prog 47 #[.int .i64 n, .int .i64 wi] W (RetS (fun W' r => ∃ p c, r = .slice p w c ∧ W'.ownsRow W.heap.size 5 1 (.slice p w c) w ((leB n w).map bv)) W) := by
  subst hwi
  obtain ⟨m, rfl⟩ : ∃ m : Nat, n = m := ⟨n.toNat, by omega⟩
  exact ref_Bytes m w W (by omega) hw
set_option maxRecDepth 100000 in
set_option maxHeartbeats 1000000 in
theorem ref_Salt1 (w : World) :
    Calls Tryz.prog 95 #[.int .i64 1] w (Ret (.int .i64 (saltN 1 : Int)) w) := by
  refine calls_of_wp Tryz.func95 rfl ?_
  refine g_fr ⟨#[.int .i64 1, undef, undef, undef, undef, undef, undef, undef, undef, undef, undef, undef, undef, undef, undef], []⟩ (by kernel_rfl) ?_
  refine wp_seq ?_
  refine wp_region_lit ?_
  refine g_pv 1 [(2, .int .i64 0)] (by kernel_rfl) ?_
  refine wpList_nil ?_
  refine wp_seq ?_
  refine wp_region_lit ?_
  refine g_op (by kernel_rfl) (op_buildSlice 3 [.int .i64 0, .int .i64 160774, .int .i64 121107, .int .i64 240779, .int .i64 160478] rfl (by kernel_rfl) ?_)
  intro b1 W1 n1
  have g1 := n1.ge (Below.refl w.heap.size _)
  have hB := n1.below
  have k1 := n1.blk
  refine g_pv 1 [(3, .slice (some ⟨b1, 0, none⟩) 5 5)] (by kernel_rfl) ?_
  refine wpList_nil ?_
  refine wp_seq ?_
  refine wp_seq ?_
  refine wp_region_lit ?_
  refine g_pv 6 [(5, .int .i64 1), (6, .bool false), (7, .bool false), (8, .int .i64 1), (9, .bool false), (10, .bool false)] (by kernel_rfl) ?_
  refine wpList_nil ?_
  refine wp_cond_false (by kernel_rfl) ?_
  refine wp_skip ?_
  refine wp_seq ?_
  refine wp_region_lit ?_
  refine g_pv 3 [(11, .slice (some ⟨b1, 0, none⟩) 5 5), (12, .int .i64 1), (13, .pointer (some ⟨b1, 1, none⟩))] (by kernel_rfl) ?_
  refine g_op (by kernel_rfl) (op_load ⟨b1, 1, none⟩ (.int .i64 160774) rfl (by kernel_rfl) (by kernel_rfl) (k1.cell (i := 1) rfl) ?_)
  refine g_pv 1 [(2, .int .i64 160774)] (by kernel_rfl) ?_
  refine wpList_nil ?_
  refine wp_ret ?_
  exact g_ret (.int .i64 160774) (by kernel_rfl) (by kernel_rfl) ⟨rfl, hB⟩
set_option maxRecDepth 100000 in
set_option maxHeartbeats 1000000 in
theorem ref_Salt2 (w : World) :
    Calls Tryz.prog 95 #[.int .i64 2] w (Ret (.int .i64 (saltN 2 : Int)) w) := by
  refine calls_of_wp Tryz.func95 rfl ?_
  refine g_fr ⟨#[.int .i64 2, undef, undef, undef, undef, undef, undef, undef, undef, undef, undef, undef, undef, undef, undef], []⟩ (by kernel_rfl) ?_
  refine wp_seq ?_
  refine wp_region_lit ?_
  refine g_pv 1 [(2, .int .i64 0)] (by kernel_rfl) ?_
  refine wpList_nil ?_
  refine wp_seq ?_
  refine wp_region_lit ?_
  refine g_op (by kernel_rfl) (op_buildSlice 3 [.int .i64 0, .int .i64 160774, .int .i64 121107, .int .i64 240779, .int .i64 160478] rfl (by kernel_rfl) ?_)
  intro b1 W1 n1
  have g1 := n1.ge (Below.refl w.heap.size _)
  have hB := n1.below
  have k1 := n1.blk
  refine g_pv 1 [(3, .slice (some ⟨b1, 0, none⟩) 5 5)] (by kernel_rfl) ?_
  refine wpList_nil ?_
  refine wp_seq ?_
  refine wp_seq ?_
  refine wp_region_lit ?_
  refine g_pv 6 [(5, .int .i64 2), (6, .bool false), (7, .bool false), (8, .int .i64 2), (9, .bool false), (10, .bool false)] (by kernel_rfl) ?_
  refine wpList_nil ?_
  refine wp_cond_false (by kernel_rfl) ?_
  refine wp_skip ?_
  refine wp_seq ?_
  refine wp_region_lit ?_
  refine g_pv 3 [(11, .slice (some ⟨b1, 0, none⟩) 5 5), (12, .int .i64 2), (13, .pointer (some ⟨b1, 2, none⟩))] (by kernel_rfl) ?_
  refine g_op (by kernel_rfl) (op_load ⟨b1, 2, none⟩ (.int .i64 121107) rfl (by kernel_rfl) (by kernel_rfl) (k1.cell (i := 2) rfl) ?_)
  refine g_pv 1 [(2, .int .i64 121107)] (by kernel_rfl) ?_
  refine wpList_nil ?_
  refine wp_ret ?_
  exact g_ret (.int .i64 121107) (by kernel_rfl) (by kernel_rfl) ⟨rfl, hB⟩
set_option maxRecDepth 100000 in
set_option maxHeartbeats 1000000 in
theorem ref_Salt3 (w : World) :
    Calls Tryz.prog 95 #[.int .i64 3] w (Ret (.int .i64 (saltN 3 : Int)) w) := by
  refine calls_of_wp Tryz.func95 rfl ?_
  refine g_fr ⟨#[.int .i64 3, undef, undef, undef, undef, undef, undef, undef, undef, undef, undef, undef, undef, undef, undef], []⟩ (by kernel_rfl) ?_
  refine wp_seq ?_
  refine wp_region_lit ?_
  refine g_pv 1 [(2, .int .i64 0)] (by kernel_rfl) ?_
  refine wpList_nil ?_
  refine wp_seq ?_
  refine wp_region_lit ?_
  refine g_op (by kernel_rfl) (op_buildSlice 3 [.int .i64 0, .int .i64 160774, .int .i64 121107, .int .i64 240779, .int .i64 160478] rfl (by kernel_rfl) ?_)
  intro b1 W1 n1
  have g1 := n1.ge (Below.refl w.heap.size _)
  have hB := n1.below
  have k1 := n1.blk
  refine g_pv 1 [(3, .slice (some ⟨b1, 0, none⟩) 5 5)] (by kernel_rfl) ?_
  refine wpList_nil ?_
  refine wp_seq ?_
  refine wp_seq ?_
  refine wp_region_lit ?_
  refine g_pv 6 [(5, .int .i64 3), (6, .bool false), (7, .bool false), (8, .int .i64 3), (9, .bool false), (10, .bool false)] (by kernel_rfl) ?_
  refine wpList_nil ?_
  refine wp_cond_false (by kernel_rfl) ?_
  refine wp_skip ?_
  refine wp_seq ?_
  refine wp_region_lit ?_
  refine g_pv 3 [(11, .slice (some ⟨b1, 0, none⟩) 5 5), (12, .int .i64 3), (13, .pointer (some ⟨b1, 3, none⟩))] (by kernel_rfl) ?_
  refine g_op (by kernel_rfl) (op_load ⟨b1, 3, none⟩ (.int .i64 240779) rfl (by kernel_rfl) (by kernel_rfl) (k1.cell (i := 3) rfl) ?_)
  refine g_pv 1 [(2, .int .i64 240779)] (by kernel_rfl) ?_
  refine wpList_nil ?_
  refine wp_ret ?_
  exact g_ret (.int .i64 240779) (by kernel_rfl) (by kernel_rfl) ⟨rfl, hB⟩
set_option maxRecDepth 100000 in
set_option maxHeartbeats 1000000 in
theorem ref_Salt4 (w : World) :
    Calls Tryz.prog 95 #[.int .i64 4] w (Ret (.int .i64 (saltN 4 : Int)) w) := by
  refine calls_of_wp Tryz.func95 rfl ?_
  refine g_fr ⟨#[.int .i64 4, undef, undef, undef, undef, undef, undef, undef, undef, undef, undef, undef, undef, undef, undef], []⟩ (by kernel_rfl) ?_
  refine wp_seq ?_
  refine wp_region_lit ?_
  refine g_pv 1 [(2, .int .i64 0)] (by kernel_rfl) ?_
  refine wpList_nil ?_
  refine wp_seq ?_
  refine wp_region_lit ?_
  refine g_op (by kernel_rfl) (op_buildSlice 3 [.int .i64 0, .int .i64 160774, .int .i64 121107, .int .i64 240779, .int .i64 160478] rfl (by kernel_rfl) ?_)
  intro b1 W1 n1
  have g1 := n1.ge (Below.refl w.heap.size _)
  have hB := n1.below
  have k1 := n1.blk
  refine g_pv 1 [(3, .slice (some ⟨b1, 0, none⟩) 5 5)] (by kernel_rfl) ?_
  refine wpList_nil ?_
  refine wp_seq ?_
  refine wp_seq ?_
  refine wp_region_lit ?_
  refine g_pv 6 [(5, .int .i64 4), (6, .bool false), (7, .bool false), (8, .int .i64 4), (9, .bool false), (10, .bool false)] (by kernel_rfl) ?_
  refine wpList_nil ?_
  refine wp_cond_false (by kernel_rfl) ?_
  refine wp_skip ?_
  refine wp_seq ?_
  refine wp_region_lit ?_
  refine g_pv 3 [(11, .slice (some ⟨b1, 0, none⟩) 5 5), (12, .int .i64 4), (13, .pointer (some ⟨b1, 4, none⟩))] (by kernel_rfl) ?_
  refine g_op (by kernel_rfl) (op_load ⟨b1, 4, none⟩ (.int .i64 160478) rfl (by kernel_rfl) (by kernel_rfl) (k1.cell (i := 4) rfl) ?_)
  refine g_pv 1 [(2, .int .i64 160478)] (by kernel_rfl) ?_
  refine wpList_nil ?_
  refine wp_ret ?_
  exact g_ret (.int .i64 160478) (by kernel_rfl) (by kernel_rfl) ⟨rfl, hB⟩
theorem ref_Salt (kind : Int) (h1 : 1 ≤ kind) (h2 : kind ≤ 4) (w : World) : Calls Tryz.prog 95 #[.int .i64 kind] w (Ret (.int .i64 (saltN kind : Int)) w) := by
  obtain rfl | rfl | rfl | rfl : kind = 1 ∨ kind = 2 ∨ kind = 3 ∨ kind = 4 := by omega
  · exact ref_Salt1 w
  · exact ref_Salt2 w
  · exact ref_Salt3 w
  · exact ref_Salt4 w
set_option maxRecDepth 100000 in
set_option maxHeartbeats 1000000 in
theorem ref_known (kind no : Int) (w : World) :
    Calls Tryz.prog 93 #[.int .i64 kind, .int .i64 no] w (Ret (.bool (knownB kind no)) w) := by
  refine calls_of_wp Tryz.func93 rfl ?_
  refine g_fr ⟨#[.int .i64 kind, .int .i64 no, undef, undef, undef, undef, undef, undef, undef, undef, undef, undef, undef, undef, undef, undef, undef, undef, undef], []⟩ (by kernel_rfl) ?_
  refine wp_seq ?_
  refine wp_region_lit ?_
  refine g_pv 1 [(4, .bool false)] (by kernel_rfl) ?_
  refine wpList_nil ?_
  refine wp_seq ?_
  refine wp_region_lit ?_
  refine g_pv 3 [(5, .int .i64 kind), (6, .bool (decide (kind ≥ (1 : Int)))), (7, .bool (decide (kind ≥ (1 : Int))))] (by kernel_rfl) ?_
  rcases Bool.eq_false_or_eq_true (decide (kind ≥ (1 : Int))) with hc1 | hc1
  · refine g_b [6, 7] _ _ hc1 (by kernel_rfl) ?_
    have hc1 := of_decide_eq_true hc1
    refine g_pv 4 [(8, .int .i64 kind), (9, .bool (decide (kind ≤ (4 : Int)))), (10, .bool (decide (kind ≤ (4 : Int)))), (11, .bool (decide (kind ≤ (4 : Int))))] (by kernel_rfl) ?_
    rcases Bool.eq_false_or_eq_true (decide (kind ≤ (4 : Int))) with hc2 | hc2
    · refine g_b [9, 10, 11] _ _ hc2 (by kernel_rfl) ?_
      have hc2 := of_decide_eq_true hc2
      refine g_pv 4 [(12, .int .i64 no), (13, .bool (decide (no ≥ (0 : Int)))), (14, .bool (decide (no ≥ (0 : Int)))), (15, .bool (decide (no ≥ (0 : Int))))] (by kernel_rfl) ?_
      rcases Bool.eq_false_or_eq_true (decide (no ≥ (0 : Int))) with hc3 | hc3
      · refine g_b [13, 14, 15] _ _ hc3 (by kernel_rfl) ?_
        have hc3 := of_decide_eq_true hc3
        refine g_pv 4 [(16, .int .i64 no), (17, .bool (decide (no < (14400 : Int)))), (18, .bool (decide (no < (14400 : Int)))), (4, .bool (decide (no < (14400 : Int))))] (by kernel_rfl) ?_
        refine wpList_nil ?_
        refine wp_ret ?_
        exact g_ret (.bool (decide (no < (14400 : Int)))) (by kernel_rfl) (by kernel_rfl) ⟨by rw [show knownB kind no = decide (no < 14400) from decide_eq_decide.2 ⟨fun h => h.2.2.2, fun h => ⟨by omega, by omega, by omega, h⟩⟩], (Below.refl w.heap.size _)⟩
      · refine g_b [13, 14, 15] _ _ hc3 (by kernel_rfl) ?_
        have hc3 := of_decide_eq_false hc3
        refine g_pv 4 [(16, undef), (17, undef), (18, .bool false), (4, .bool false)] (by kernel_rfl) ?_
        refine wpList_nil ?_
        refine wp_ret ?_
        exact g_ret (.bool false) (by kernel_rfl) (by kernel_rfl) ⟨by rw [show knownB kind no = false from decide_eq_false (by omega)], (Below.refl w.heap.size _)⟩
    · refine g_b [9, 10, 11] _ _ hc2 (by kernel_rfl) ?_
      have hc2 := of_decide_eq_false hc2
      refine g_pv 8 [(12, undef), (13, undef), (14, .bool false), (15, .bool false), (16, undef), (17, undef), (18, .bool false), (4, .bool false)] (by kernel_rfl) ?_
      refine wpList_nil ?_
      refine wp_ret ?_
      exact g_ret (.bool false) (by kernel_rfl) (by kernel_rfl) ⟨by rw [show knownB kind no = false from decide_eq_false (by omega)], (Below.refl w.heap.size _)⟩
  · refine g_b [6, 7] _ _ hc1 (by kernel_rfl) ?_
    have hc1 := of_decide_eq_false hc1
    refine g_pv 12 [(8, undef), (9, undef), (10, .bool false), (11, .bool false), (12, undef), (13, undef), (14, .bool false), (15, .bool false), (16, undef), (17, undef), (18, .bool false), (4, .bool false)] (by kernel_rfl) ?_
    refine wpList_nil ?_
    refine wp_ret ?_
    exact g_ret (.bool false) (by kernel_rfl) (by kernel_rfl) ⟨by rw [show knownB kind no = false from decide_eq_false (by omega)], (Below.refl w.heap.size _)⟩
set_option maxRecDepth 100000 in
set_option maxHeartbeats 1000000 in
theorem ref_Seal_bad (kind no : Int) (a : Option Addr) (c : Nat) (li : List UInt8) (w : World) (hk : knownB kind no = false) :
    Calls Tryz.prog 64 #[.int .i64 kind, .int .i64 no, .slice a li.length c] w (Ret (.tuple #[.slice none 0 0, .int .i64 1]) w) := by
  refine calls_of_wp Tryz.func64 rfl ?_
  refine g_fr ⟨#[.int .i64 kind, .int .i64 no, .slice a li.length c, undef, undef, undef, undef, undef, undef, undef, undef, undef, undef, undef, undef, undef, undef, undef, undef, undef, undef, undef, undef, undef, undef, undef, undef, undef, undef, undef, undef, undef, undef, undef, undef, undef, undef, undef, undef, undef, undef, undef], []⟩ (by kernel_rfl) ?_
  refine wp_seq ?_
  refine wp_region_lit ?_
  refine g_pv 2 [(6, .slice none 0 0), (7, .int .i64 0)] (by kernel_rfl) ?_
  refine wpList_nil ?_
  refine wp_seq ?_
  refine wp_seq ?_
  refine wp_region_lit ?_
  refine g_pv 2 [(9, .int .i64 kind), (10, .int .i64 no)] (by kernel_rfl) ?_
  refine g_op (by kernel_rfl) (op_call (lb := #[]) 93 #[.int .i64 kind, .int .i64 no] rfl (by kernel_rfl) (fun _ _ => by kernel_rfl) (by kernel_rfl) ((ref_known kind no _).mono ?_))
  rintro e W1 ⟨rfl, hb1⟩
  refine ⟨_, rfl, ?_⟩
  have hB := hb1
  refine g_pv 1 [(12, .bool (!(knownB kind no)))] (by kernel_rfl) ?_
  refine wpList_nil ?_
  refine wp_cond_split (t := !(knownB kind no)) (by kernel_rfl) (fun _ => ?_) (fun hh => absurd (hh.symm.trans (show (!(knownB kind no) : Bool) = true from by rw [hk]; rfl)) (by decide))
  refine wp_seq ?_
  refine wp_region_lit ?_
  refine g_pv 2 [(6, .slice none 0 0), (7, .int .i64 1)] (by kernel_rfl) ?_
  refine wpList_nil ?_
  refine wp_ret (then_ret ?_)
  exact g_ret (.tuple #[.slice none 0 0, .int .i64 1]) (by kernel_rfl) (by kernel_rfl) ⟨rfl, hB⟩
set_option maxRecDepth 100000 in
set_option maxHeartbeats 1000000 in
theorem ref_Seal_long (kind no : Int) (a : Option Addr) (c : Nat) (li : List UInt8) (w : World) (hk : knownB kind no = true) (hl : 244 < li.length) :
    Calls Tryz.prog 64 #[.int .i64 kind, .int .i64 no, .slice a li.length c] w (Ret (.tuple #[.slice none 0 0, .int .i64 2]) w) := by
  refine calls_of_wp Tryz.func64 rfl ?_
  refine g_fr ⟨#[.int .i64 kind, .int .i64 no, .slice a li.length c, undef, undef, undef, undef, undef, undef, undef, undef, undef, undef, undef, undef, undef, undef, undef, undef, undef, undef, undef, undef, undef, undef, undef, undef, undef, undef, undef, undef, undef, undef, undef, undef, undef, undef, undef, undef, undef, undef, undef], []⟩ (by kernel_rfl) ?_
  refine wp_seq ?_
  refine wp_region_lit ?_
  refine g_pv 2 [(6, .slice none 0 0), (7, .int .i64 0)] (by kernel_rfl) ?_
  refine wpList_nil ?_
  refine wp_seq ?_
  refine wp_seq ?_
  refine wp_region_lit ?_
  refine g_pv 2 [(9, .int .i64 kind), (10, .int .i64 no)] (by kernel_rfl) ?_
  refine g_op (by kernel_rfl) (op_call (lb := #[]) 93 #[.int .i64 kind, .int .i64 no] rfl (by kernel_rfl) (fun _ _ => by kernel_rfl) (by kernel_rfl) ((ref_known kind no _).mono ?_))
  rintro e W1 ⟨rfl, hb1⟩
  refine ⟨_, rfl, ?_⟩
  have hB := hb1
  refine g_pv 1 [(12, .bool (!(knownB kind no)))] (by kernel_rfl) ?_
  refine wpList_nil ?_
  refine wp_cond_split (t := !(knownB kind no)) (by kernel_rfl) (fun hh => absurd (hh.symm.trans (show (!(knownB kind no) : Bool) = false from by rw [hk]; rfl)) (by decide)) (fun _ => ?_)
  refine wp_skip ?_
  refine wp_seq ?_
  refine wp_seq ?_
  refine wp_region_lit ?_
  refine g_pv 3 [(13, .slice a li.length c), (14, .int .i64 (↑li.length : Int)), (15, .bool (decide ((↑li.length : Int) > (244 : Int))))] (by kernel_rfl) ?_
  refine wpList_nil ?_
  refine wp_cond_split (t := decide ((↑li.length : Int) > (244 : Int))) (by kernel_rfl) (fun _ => ?_) (fun hh => absurd (hh.symm.trans (show (decide ((↑li.length : Int) > (244 : Int)) : Bool) = true from decide_eq_true (by omega))) (by decide))
  refine wp_seq ?_
  refine wp_region_lit ?_
  refine g_pv 2 [(6, .slice none 0 0), (7, .int .i64 2)] (by kernel_rfl) ?_
  refine wpList_nil ?_
  refine wp_ret (then_ret ?_)
  exact g_ret (.tuple #[.slice none 0 0, .int .i64 2]) (by kernel_rfl) (by kernel_rfl) ⟨rfl, hB⟩
def refHead (kind no : Int) (li : List UInt8) : List UInt8 := leB no 4 ++ leB kind 2 ++ [0, 0] ++ li
theorem refHead_len (kind no : Int) (li : List UInt8) : (refHead kind no li).length = 8 + li.length := by simp [refHead, leB_len]; omega
def refPad (kind no : Int) (li : List UInt8) (m : Nat) : List UInt8 := refHead kind no li ++ List.replicate (m - (8 + li.length)) 0
theorem refPad_len {kind no : Int} {li : List UInt8} {m : Nat} (h : 8 + li.length ≤ m) : (refPad kind no li m).length = m := by simp [refPad, refHead_len]; omega
theorem refPad_zero (kind no : Int) (li : List UInt8) : refPad kind no li (8 + li.length) = refHead kind no li := by simp [refPad]
theorem refPad_next {kind no : Int} {li : List UInt8} {m : Nat} (h : 8 + li.length ≤ m) : refPad kind no li (m + 1) = refPad kind no li m ++ [0] := by
  unfold refPad
  rw [show m + 1 - (8 + li.length) = (m - (8 + li.length)) + 1 by omega, List.replicate_succ', ← List.append_assoc]
theorem refPad_seal3 {kind no : Int} {li : List UInt8} (hl : li.length ≤ 244) : refPad kind no li 252 = (seal3 kind no li).take 252 := by
  have l1 := seal1_len hl
  have l2 := seal2_len (no := no) hl
  have l3 := seal3_len (kind := kind) (no := no) hl
  apply ext_getD
  · rw [refPad_len (by omega)]; simp [l3]
  · intro j hj
    rw [refPad_len (by omega)] at hj
    have e : ((seal3 kind no li).take 252).getD j 0 = (seal3 kind no li).getD j 0 := by simp only [List.getD]; rw [List.getElem?_take, if_pos hj]
    rw [e]
    unfold seal3
    rw [putB_get (by rw [leB_len]; omega), leB_len]
    unfold refPad refHead
    simp only [List.getD, List.append_assoc]
    rw [List.getElem?_append, leB_len]
    by_cases h1 : j < 4
    · rw [if_pos h1, if_neg (by omega)]
      have := putB_get (l := seal1 li) (k := 0) (x := leB no 4) (by rw [leB_len]; omega) j
      rw [if_pos (by rw [leB_len]; omega)] at this
      unfold seal2
      simp only [List.getD] at this
      rw [this, Nat.sub_zero]
    · rw [if_neg h1, List.getElem?_append, leB_len]
      by_cases h2 : j < 6
      · rw [if_pos (by omega), if_pos (by omega)]
      · rw [if_neg (by omega), if_neg (by omega)]
        have := putB_get (l := seal1 li) (k := 0) (x := leB no 4) (by rw [leB_len]; omega) j
        rw [if_neg (by rw [leB_len]; omega)] at this
        have h3 := putB_get (l := List.replicate 256 (0 : UInt8)) (k := 8) (x := li) (by rw [List.length_replicate]; omega) j
        unfold seal2
        simp only [List.getD] at this h3
        rw [this]
        unfold seal1
        rw [h3, List.getElem?_append]
        have hz := zeros_get 256 j
        simp only [List.getD] at hz
        by_cases h4 : j < 8
        · rw [if_pos (by simp; omega), if_neg (by omega), hz]
          obtain rfl | rfl : j = 6 ∨ j = 7 := by omega
          · rfl
          · rfl
        · rw [if_neg (by simp; omega), List.getElem?_append]
          simp only [List.length_cons, List.length_nil]
          by_cases h5 : j < 8 + li.length
          · rw [if_pos (by omega), if_pos (by omega), show j - 4 - 2 - (0 + 1 + 1) = j - 8 by omega]
          · rw [if_neg (by omega), if_neg (by omega), hz]
            have := zeros_get (252 - (8 + li.length)) (j - 4 - 2 - (0 + 1 + 1) - li.length)
            simpa only [List.getD] using this
theorem refSeal_eq {kind no : Int} {li : List UInt8} (hl : li.length ≤ 244) : refPad kind no li 252 ++ leB ((crcSum (refPad kind no li 252) ^^^ saltN kind : Nat) : Int) 4 = sealB kind no li := by
  have l3 := seal3_len (kind := kind) (no := no) hl
  rw [refPad_seal3 hl]
  unfold sealB putB sumB
  rw [leB_len, List.drop_eq_nil_of_le (by omega), List.append_nil]
set_option maxRecDepth 100000 in
set_option maxHeartbeats 4000000 in
theorem ref_Seal_ok (kind no : Int) (a : Option Addr) (c : Nat) (li : List UInt8) (w : World) (h1 : 1 ≤ kind) (h2 : kind ≤ 4) (h0 : 0 ≤ no) (hno : no < 14400) (hk : knownB kind no = true) (hl : li.length ≤ 244) (h : Bys w (.slice a li.length c) li) :
    Calls Tryz.prog 64 #[.int .i64 kind, .int .i64 no, .slice a li.length c] w (RetS (fun w' r => ∃ p c, r = .tuple #[.slice p 256 c, .int .i64 0] ∧ w'.ownsRow w.heap.size 5 1 (.slice p 256 c) 256 ((sealB kind no li).map bv)) w) := by
  refine calls_of_wp Tryz.func64 rfl ?_
  refine g_fr ⟨#[.int .i64 kind, .int .i64 no, .slice a li.length c, undef, undef, undef, undef, undef, undef, undef, undef, undef, undef, undef, undef, undef, undef, undef, undef, undef, undef, undef, undef, undef, undef, undef, undef, undef, undef, undef, undef, undef, undef, undef, undef, undef, undef, undef, undef, undef, undef, undef], []⟩ (by kernel_rfl) ?_
  refine wp_seq ?_
  refine wp_region_lit ?_
  refine g_pv 2 [(6, .slice none 0 0), (7, .int .i64 0)] (by kernel_rfl) ?_
  refine wpList_nil ?_
  refine wp_seq ?_
  refine wp_seq ?_
  refine wp_region_lit ?_
  refine g_pv 2 [(9, .int .i64 kind), (10, .int .i64 no)] (by kernel_rfl) ?_
  refine g_op (by kernel_rfl) (op_call (lb := #[]) 93 #[.int .i64 kind, .int .i64 no] rfl (by kernel_rfl) (fun _ _ => by kernel_rfl) (by kernel_rfl) ((ref_known kind no _).mono ?_))
  rintro e W1 ⟨rfl, hb1⟩
  refine ⟨_, rfl, ?_⟩
  have hB := hb1
  refine g_pv 1 [(12, .bool (!(knownB kind no)))] (by kernel_rfl) ?_
  refine wpList_nil ?_
  refine wp_cond_split (t := !(knownB kind no)) (by kernel_rfl) (fun hh => absurd (hh.symm.trans (show (!(knownB kind no) : Bool) = false from by rw [hk]; rfl)) (by decide)) (fun _ => ?_)
  refine wp_skip ?_
  refine wp_seq ?_
  refine wp_seq ?_
  refine wp_region_lit ?_
  refine g_pv 3 [(13, .slice a li.length c), (14, .int .i64 (↑li.length : Int)), (15, .bool (decide ((↑li.length : Int) > (244 : Int))))] (by kernel_rfl) ?_
  refine wpList_nil ?_
  refine wp_cond_split (t := decide ((↑li.length : Int) > (244 : Int))) (by kernel_rfl) (fun hh => absurd (hh.symm.trans (show (decide ((↑li.length : Int) > (244 : Int)) : Bool) = false from decide_eq_false (by omega))) (by decide)) (fun _ => ?_)
  refine wp_skip ?_
  refine wp_seq ?_
  refine wp_region_lit ?_
  refine g_pv 1 [(16, .int .i64 no)] (by kernel_rfl) ?_
  have hs4 : w.heap.size ≤ (W1).heap.size := hB.size
  refine g_op (by kernel_rfl) (op_call (lb := #[]) 47 #[.int .i64 no, .int .i64 4] rfl (by kernel_rfl) (fun _ _ => by kernel_rfl) (by kernel_rfl) ((ref_BytesN no 4 4 _ (h0) (by omega) rfl (by decide)).mono ?_))
  rintro e W4 ⟨_, rfl, hb4, p1_, c1_, rfl, b1_⟩
  refine ⟨_, rfl, ?_⟩
  replace hB := Bl.next hB hb4
  replace b1_ := own_mono b1_ hs4
  refine g_pv 1 [(8, .slice p1_ 4 c1_)] (by kernel_rfl) ?_
  refine wpList_nil ?_
  refine wp_seq ?_
  refine wp_region_lit ?_
  refine g_pv 2 [(18, .slice p1_ 4 c1_), (19, .int .i64 kind)] (by kernel_rfl) ?_
  have hs5 : w.heap.size ≤ (W4).heap.size := hB.size
  refine g_op (by kernel_rfl) (op_call (lb := #[]) 47 #[.int .i64 kind, .int .i64 2] rfl (by kernel_rfl) (fun _ _ => by kernel_rfl) (by kernel_rfl) ((ref_BytesN kind 2 2 _ (by omega) (by omega) rfl (by decide)).mono ?_))
  rintro e W5 ⟨_, rfl, hb5, p2_, c2_, rfl, b2_⟩
  refine ⟨_, rfl, ?_⟩
  replace hB := Bl.next hB hb5
  replace b1_ := own_below b1_ hb5
  replace b2_ := own_mono b2_ hs5
  refine g_op (by kernel_rfl) (op_app (e := 5) (n := 4) (xs := (leB no 4).map bv) (m := 2) (news := (leB kind 2).map bv) (.int .u8 0) 1 1 (6) ((leB no 4 ++ leB kind 2).map bv) rfl Tryz.underlying29 (by kernel_rfl) rfl (by decide) (by kernel_rfl) b1_ (by kernel_rfl) (own_sl b2_) (by rw [List.length_map, leB_len]) (bv_one _) (by unfold maxLen; omega) (by omega) hB.size (by rfl) (by rw [List.map_append]) ?_)
  intro p6 c6 W6 o6 hg6 hb6
  replace hB := hB.trans hb6
  refine g_pv 1 [(8, .slice p6 6 c6)] (by kernel_rfl) ?_
  refine wpList_nil ?_
  refine wp_seq ?_
  refine wp_region_lit ?_
  refine g_pv 1 [(22, .slice p6 6 c6)] (by kernel_rfl) ?_
  refine g_op (by kernel_rfl) (op_buildSlice 5 [.int .u8 0, .int .u8 0] rfl (by kernel_rfl) ?_)
  intro b7 W7 n7
  have g7 := n7.ge hB
  have r7_o6 := own_ne o6 n7
  replace hB := Bl.next hB n7.below
  replace o6 := own_below o6 n7.below
  have k7 := n7.blk
  refine g_op (by kernel_rfl) (op_app (e := 5) (n := 6) (xs := (leB no 4 ++ leB kind 2).map bv) (m := 2) (news := [.int .u8 0, .int .u8 0]) (.int .u8 0) 1 1 (8) ((leB no 4 ++ leB kind 2 ++ [0, 0]).map bv) rfl Tryz.underlying29 (by kernel_rfl) rfl (by decide) (by kernel_rfl) o6 (by kernel_rfl) (k7.sl 2 2 (by decide) (by decide)) rfl (by simp [Value.oneCell']) (by unfold maxLen; omega) (by omega) hB.size (by rfl) (by rw [List.map_append (l₂ := [0, 0])]; rfl) ?_)
  intro p8 c8 W8 o8 hg8 hb8
  replace hB := hB.trans hb8
  refine g_pv 1 [(8, .slice p8 8 c8)] (by kernel_rfl) ?_
  refine wpList_nil ?_
  refine wp_seq ?_
  refine wp_region_lit ?_
  refine g_pv 2 [(25, .slice p8 8 c8), (26, .slice a li.length c)] (by kernel_rfl) ?_
  refine g_op (by kernel_rfl) (op_app (e := 5) (n := 8) (xs := (leB no 4 ++ leB kind 2 ++ [0, 0]).map bv) (m := li.length) (news := li.map bv) (.int .u8 0) 1 1 (8 + li.length) ((refPad kind no li (8 + li.length)).map bv) rfl Tryz.underlying29 (by kernel_rfl) rfl (by decide) (by kernel_rfl) o8 (by kernel_rfl) (h.below hB) (by simp) (bv_one _) (by unfold maxLen; omega) (by omega) hB.size (by rfl) (by rw [refPad_zero, refHead, List.map_append (l₂ := li)]) ?_)
  intro p9 c9 W9 o9 hg9 hb9
  replace hB := hB.trans hb9
  refine g_pv 1 [(8, .slice p9 (8 + li.length) c9)] (by kernel_rfl) ?_
  refine wpList_nil ?_
  refine wp_seq ?_
  refine wp_block ?_
  refine g_fr ⟨#[.int .i64 kind, .int .i64 no, .slice a li.length c, undef, undef, undef, .slice none 0 0, .int .i64 0, .slice p9 (8 + li.length) c9, .int .i64 kind, .int .i64 no, .bool (knownB kind no), .bool (!(knownB kind no)), .slice a li.length c, .int .i64 (↑li.length : Int), .bool (decide ((↑li.length : Int) > (244 : Int))), .int .i64 no, .slice p1_ 4 c1_, .slice p1_ 4 c1_, .int .i64 kind, .slice p2_ 2 c2_, .slice p6 6 c6, .slice p6 6 c6, .slice (some ⟨b7, 0, none⟩) 2 2, .slice p8 8 c8, .slice p8 8 c8, .slice a li.length c, .slice p9 (8 + li.length) c9, undef, undef, undef, undef, undef, undef, undef, undef, undef, undef, undef, undef, undef, undef], []⟩ (by kernel_rfl) ?_
  refine wp_loop (fun act V => ∃ (m : Nat) (p : Option Addr) (c5 : Nat) (x10 : Nat → Value), act = ⟨#[.int .i64 kind, .int .i64 no, .slice a li.length c, undef, undef, undef, .slice none 0 0, .int .i64 0, .slice p m c5, .int .i64 kind, .int .i64 no, .bool (knownB kind no), .bool (!(knownB kind no)), .slice a li.length c, .int .i64 (↑li.length : Int), .bool (decide ((↑li.length : Int) > (244 : Int))), .int .i64 no, .slice p1_ 4 c1_, .slice p1_ 4 c1_, .int .i64 kind, .slice p2_ 2 c2_, .slice p6 6 c6, .slice p6 6 c6, .slice (some ⟨b7, 0, none⟩) 2 2, .slice p8 8 c8, .slice p8 8 c8, .slice a li.length c, .slice p9 (8 + li.length) c9, (x10 0), (x10 1), (x10 2), (x10 3), (x10 4), (x10 5), undef, undef, undef, undef, undef, undef, undef, undef], []⟩ ∧ Below w.heap.size w V ∧ V.ownsRow w.heap.size 5 1 (.slice p m c5) m ((refPad kind no li m).map bv) ∧ 8 + li.length ≤ m ∧ m ≤ 252) (fun act V => 252 - (lenOf (act.tmps.getD 8 undef))) ⟨_, _, _, (pk [undef, undef, undef, undef, undef, undef]), rfl, hB, o9, Nat.le_refl _, by omega⟩ ?_
  rintro _ W10 ⟨m, p, c5, x10, rfl, hB, hm, hm1, hm2⟩
  refine wp_seq ?_
  refine wp_seq ?_
  refine wp_region_lit ?_
  refine g_pv 3 [(28, .slice p m c5), (29, .int .i64 (↑m : Int)), (30, .bool (decide ((↑m : Int) < (252 : Int))))] (by kernel_rfl) ?_
  refine wpList_nil ?_
  refine wp_cond_split (t := decide ((↑m : Int) < (252 : Int))) (by kernel_rfl) (fun hc11 => ?_) (fun hc11 => ?_)
  · have hc11 := of_decide_eq_true hc11
    refine wp_skip ?_
    refine wp_block ?_
    refine wp_region_lit ?_
    refine g_pv 1 [(31, .slice p m c5)] (by kernel_rfl) ?_
    refine g_op (by kernel_rfl) (op_buildSlice 5 [.int .u8 0] rfl (by kernel_rfl) ?_)
    intro b12 W12 n12
    have g12 := n12.ge hB
    have r12_hm := own_ne hm n12
    replace hB := Bl.next hB n12.below
    replace hm := own_below hm n12.below
    have k12 := n12.blk
    refine g_op (by kernel_rfl) (op_app (e := 5) (n := m) (xs := (refPad kind no li m).map bv) (m := 1) (news := [.int .u8 0]) (.int .u8 0) 1 1 (m + 1) ((refPad kind no li (m + 1)).map bv) rfl Tryz.underlying29 (by kernel_rfl) rfl (by decide) (by kernel_rfl) hm (by kernel_rfl) (k12.sl 1 1 (by decide) (by decide)) rfl (by simp [Value.oneCell']) (by unfold maxLen; omega) (by omega) hB.size (by rfl) (by rw [refPad_next (by omega), List.map_append]; rfl) ?_)
    intro p13 c13 W13 o13 hg13 hb13
    replace hB := hB.trans hb13
    refine g_pv 1 [(8, .slice p13 (m + 1) c13)] (by kernel_rfl) ?_
    refine wpList_nil ?_
    refine g_nfr ⟨#[.int .i64 kind, .int .i64 no, .slice a li.length c, undef, undef, undef, .slice none 0 0, .int .i64 0, .slice p13 (m + 1) c13, .int .i64 kind, .int .i64 no, .bool (knownB kind no), .bool (!(knownB kind no)), .slice a li.length c, .int .i64 (↑li.length : Int), .bool (decide ((↑li.length : Int) > (244 : Int))), .int .i64 no, .slice p1_ 4 c1_, .slice p1_ 4 c1_, .int .i64 kind, .slice p2_ 2 c2_, .slice p6 6 c6, .slice p6 6 c6, .slice (some ⟨b7, 0, none⟩) 2 2, .slice p8 8 c8, .slice p8 8 c8, .slice a li.length c, .slice p9 (8 + li.length) c9, .slice p m c5, .int .i64 (↑m : Int), .bool (decide ((↑m : Int) < (252 : Int))), .slice p m c5, .slice (some ⟨b12, 0, none⟩) 1 1, .slice p13 (m + 1) c13, undef, undef, undef, undef, undef, undef, undef, undef], []⟩ (by kernel_rfl) ?_
    refine ⟨⟨m + 1, _, _, (pk [.slice p m c5, .int .i64 (↑m : Int), .bool (decide ((↑m : Int) < (252 : Int))), .slice p m c5, .slice (some ⟨b12, 0, none⟩) 1 1, .slice p13 (m + 1) c13]), rfl, hB, o13, by omega, by omega⟩, ?_⟩
    show 252 - (m + 1) < 252 - m
    omega
  · have hc11 := of_decide_eq_false hc11
    refine wp_exit ?_
    refine then_exit ?_
    refine then_exit ?_
    refine inBlock_hit ?_
    refine wp_seq ?_
    refine wp_region_lit ?_
    refine g_pv 2 [(34, .slice p m c5), (35, .slice p m c5)] (by kernel_rfl) ?_
    have hme : m = 252 := by omega
    refine g_op (by kernel_rfl) (op_call (lb := #[]) 94 #[.slice p m c5] rfl (by kernel_rfl) (fun _ _ => by kernel_rfl) (by kernel_rfl) ((ref_SumN p m c5 (refPad kind no li m) _ (refPad_len hm1) (by omega) (bys_of (own_sl hm) (refPad_len hm1))).mono ?_))
    rintro e W14 ⟨rfl, hb14⟩
    refine ⟨_, rfl, ?_⟩
    replace hB := Bl.next hB hb14
    replace hm := own_below hm hb14
    refine g_pv 1 [(37, .int .i64 kind)] (by kernel_rfl) ?_
    refine g_op (by kernel_rfl) (op_call (lb := #[]) 95 #[.int .i64 kind] rfl (by kernel_rfl) (fun _ _ => by kernel_rfl) (by kernel_rfl) ((ref_Salt kind h1 h2 _).mono ?_))
    rintro e W15 ⟨rfl, hb15⟩
    refine ⟨_, rfl, ?_⟩
    replace hB := Bl.next hB hb15
    replace hm := own_below hm hb15
    refine g_op (by kernel_rfl) (op_eq (.int .i64 (↑(crcSum (refPad kind no li m) ^^^ saltN kind) : Int)) (.int .i64 (IntKind.i64.wrap (↑(BitVec.ofInt 64 (↑(crcSum (refPad kind no li m)) : Int) ^^^ BitVec.ofInt 64 (↑(saltN kind) : Int)).toNat : Int))) (by kernel_rfl) (congrArg (Value.int .i64) (i64_xor (crcSum_lt _) (saltN_lt _))) ?_)
    have hs16 : w.heap.size ≤ (W15).heap.size := hB.size
    refine g_op (by kernel_rfl) (op_call (lb := #[]) 47 #[.int .i64 (↑(crcSum (refPad kind no li m) ^^^ saltN kind) : Int), .int .i64 4] rfl (by kernel_rfl) (fun _ _ => by kernel_rfl) (by kernel_rfl) ((ref_BytesN ((crcSum (refPad kind no li m) ^^^ saltN kind : Nat) : Int) 4 4 _ (Int.natCast_nonneg _) (by have := Nat.xor_lt_two_pow (n := 32) (crcSum_lt (refPad kind no li m)) (saltN_lt kind); omega) rfl (by decide)).mono ?_))
    rintro e W16 ⟨_, rfl, hb16, p3_, c3_, rfl, b3_⟩
    refine ⟨_, rfl, ?_⟩
    replace hB := Bl.next hB hb16
    replace hm := own_below hm hb16
    replace b3_ := own_mono b3_ hs16
    refine g_op (by kernel_rfl) (op_app (e := 5) (n := m) (xs := (refPad kind no li m).map bv) (m := 4) (news := (leB ((crcSum (refPad kind no li m) ^^^ saltN kind : Nat) : Int) 4).map bv) (.int .u8 0) 1 1 (256) ((sealB kind no li).map bv) rfl Tryz.underlying29 (by kernel_rfl) rfl (by decide) (by kernel_rfl) hm (by kernel_rfl) (own_sl b3_) (by rw [List.length_map, leB_len]) (bv_one _) (by unfold maxLen; omega) (by omega) hB.size (by omega) (by rw [hme, ← refSeal_eq hl, List.map_append]) ?_)
    intro p17 c17 W17 o17 hg17 hb17
    replace hB := hB.trans hb17
    refine g_pv 2 [(6, .slice p17 256 c17), (7, .int .i64 0)] (by kernel_rfl) ?_
    refine wpList_nil ?_
    refine wp_ret ?_
    exact g_ret (.tuple #[.slice p17 256 c17, .int .i64 0]) (by kernel_rfl) (by kernel_rfl) ⟨_, rfl, hB, _, _, rfl, o17⟩
theorem ref_Seal (kind no : Int) (a : Option Addr) (c : Nat) (li : List UInt8) (w : World) (h : Bys w (.slice a li.length c) li) :
    Calls Tryz.prog 64 #[.int .i64 kind, .int .i64 no, .slice a li.length c] w (SealP kind no li w) := by
  cases hk : knownB kind no with
  | false =>
    refine (ref_Seal_bad kind no a c li w hk).mono ?_
    rintro e W ⟨rfl, hb⟩
    have he : sealE kind no li = 1 := by simp [sealE, hk]
    exact .inl ⟨by rw [he]; decide, by rw [he], hb⟩
  | true =>
    by_cases hl : li.length ≤ 244
    · obtain ⟨h1, h2, h3, h4⟩ := knownB_all hk
      refine (ref_Seal_ok kind no a c li w h1 h2 h3 h4 hk hl h).mono ?_
      rintro e W ⟨_, rfl, hb, p, c2, rfl, ho⟩
      exact .inr ⟨by simp [sealE, hk, hl], hk, hl, p, c2, rfl, hb, ho⟩
    · refine (ref_Seal_long kind no a c li w hk (by omega)).mono ?_
      rintro e W ⟨rfl, hb⟩
      have he : sealE kind no li = 2 := by simp [sealE, hk, hl]
      exact .inl ⟨by rw [he]; decide, by rw [he], hb⟩
end Go.Proofs.YtbopakjiahojdaaGreatDoor

