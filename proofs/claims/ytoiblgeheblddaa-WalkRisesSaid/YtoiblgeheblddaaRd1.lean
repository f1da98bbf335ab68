/- Reading numbers: code.Get, code.Unpack, code.Zero at places that are there. -/
import Derived.Test.YtoiblgeheblddaaTall
namespace Go.Proofs.Ytoiblgeheblddaa
open Go.RowKit Go.Extern.Stop Go.Stop Go.Extern
set_option linter.unusedVariables false
attribute [local irreducible] wpList wpAnyH Code.wp Oper.wp

/-- the number of w bytes from k on, the lowest first -/
def rawN (l : List UInt8) : Nat → Nat → Nat
  | _, 0 => 0
  | k, w + 1 => (l.getD k 0).toNat + 256 * rawN l (k + 1) w
theorem rawN_lt (l : List UInt8) : ∀ (w k : Nat), rawN l k w < 256 ^ w
  | 0, k => by simp [rawN]
  | w + 1, k => by
    have := rawN_lt l w (k + 1)
    have h := (l.getD k 0).toNat_lt
    rw [rawN, Nat.pow_succ]; omega
theorem rawN_lt8 (l : List UInt8) (k w : Nat) (hw : w ≤ 8) : rawN l k w < 18446744073709551616 := Nat.lt_of_lt_of_le (rawN_lt l w k) (by rw [show (18446744073709551616 : Nat) = 256 ^ 8 from rfl]; exact Nat.pow_le_pow_right (by decide) hw)
theorem rawN_lt7 (l : List UInt8) (k w : Nat) (hw : w ≤ 7) : rawN l k w < 72057594037927936 := Nat.lt_of_lt_of_le (rawN_lt l w k) (by rw [show (72057594037927936 : Nat) = 256 ^ 7 from rfl]; exact Nat.pow_le_pow_right (by decide) hw)
theorem rawN_lt4 (l : List UInt8) (k w : Nat) (hw : w ≤ 4) : rawN l k w < 4294967296 := Nat.lt_of_lt_of_le (rawN_lt l w k) (by rw [show (4294967296 : Nat) = 256 ^ 4 from rfl]; exact Nat.pow_le_pow_right (by decide) hw)
theorem u64_step {n b : Nat} (hn : n < 72057594037927936) (hb : b < 256) : IntKind.u64.wrap (↑(BitVec.ofInt 64 (IntKind.u64.wrap ((n : Int) * 2 ^ 8)) ||| BitVec.ofInt 64 (b : Int)).toNat : Int) = ((b + 256 * n : Nat) : Int) := by
  have h1 : IntKind.u64.wrap ((n : Int) * 2 ^ 8) = ((n * 2 ^ 8 : Nat) : Int) := by
    rw [show (n : Int) * 2 ^ 8 = ((n * 2 ^ 8 : Nat) : Int) by omega]; exact IntWalk.u64_in _ (by constructor <;> omega)
  rw [h1, BitVec.ofInt_natCast, BitVec.ofInt_natCast, BitVec.toNat_or, BitVec.toNat_ofNat, BitVec.toNat_ofNat, Nat.mod_eq_of_lt (by omega), Nat.mod_eq_of_lt (by omega)]
  rw [← Nat.shiftLeft_eq, ← Nat.shiftLeft_add_eq_or_of_lt (by exact hb : b < 2 ^ 8), Nat.shiftLeft_eq, IntWalk.u64_in _ (by constructor <;> omega)]
  congr 1; omega
theorem u64_nat {n : Nat} (h : n < 18446744073709551616) : IntKind.u64.wrap (n : Int) = (n : Int) := IntWalk.u64_in _ (by constructor <;> omega)
theorem there_ok (a : Option Addr) (m c k w : Nat) (hw : w = 1 ∨ w = 2 ∨ w = 4 ∨ w = 8) (hk : k + w ≤ m) (hm : m ≤ 100000000) (W : World) :
    Calls Try.prog 64 #[.slice a m c, .int .i64 (↑k : Int), .int .i64 (↑w : Int)] W (Ret (.int .i64 0) W) := by
  rcases hw with rfl | rfl | rfl | rfl
  · exact there_1 a m c k hk hm W
  · exact there_2 a m c k hk hm W
  · exact there_4 a m c k hk hm W
  · exact there_8 a m c k hk hm W
set_option maxRecDepth 100000 in
set_option maxHeartbeats 2000000 in
theorem Get_ok (a : Option Addr) (c k w : Nat) (l : List UInt8) (W : World) (hw : w = 1 ∨ w = 2 ∨ w = 4 ∨ w = 8) (hk : k + w ≤ l.length) (hl : l.length ≤ 100000000) (h : Bys W (.slice a l.length c) l) (hq : rawN l k w < 9223372036854775808) :
    Calls Try.prog 38 #[.slice a l.length c, .int .i64 (↑k : Int), .int .i64 (↑w : Int)] W (Ret (.tuple #[.int .i64 (rawN l k w : Int), .int .i64 0]) W) := by
  refine calls_of_wp Try.func38 rfl ?_
  refine g_fr ⟨#[.slice a l.length c, .int .i64 (↑k : Int), .int .i64 (↑w : Int), undef, undef, undef, undef, undef, undef, undef, undef, undef, undef, undef, undef, undef, undef, undef, undef, undef, undef, undef, undef, undef, undef, undef, undef, undef, undef, undef, undef, undef, undef, undef, undef, undef, undef, undef], []⟩ (by kernel_rfl) ?_
  refine wp_seq ?_
  refine wp_region_lit ?_
  refine g_pv 2 [(6, .int .i64 0), (7, .int .i64 0)] (by kernel_rfl) ?_
  refine wpList_nil ?_
  refine wp_seq ?_
  refine wp_seq ?_
  refine wp_region_lit ?_
  refine g_pv 3 [(11, .slice a l.length c), (12, .int .i64 (↑k : Int)), (13, .int .i64 (↑w : Int))] (by kernel_rfl) ?_
  refine g_op (by kernel_rfl) (op_call (lb := #[]) 64 #[.slice a l.length c, .int .i64 (↑k : Int), .int .i64 (↑w : Int)] rfl (by kernel_rfl) (fun _ _ => by kernel_rfl) (by kernel_rfl) ((there_ok a l.length c k w hw hk hl _).mono ?_))
  rintro e W1 ⟨rfl, hb1⟩
  refine ⟨_, rfl, ?_⟩
  have hB := hb1
  refine g_pv 1 [(8, .int .i64 0)] (by kernel_rfl) ?_
  refine wpList_nil ?_
  refine wp_seq ?_
  refine wp_region_lit ?_
  refine g_pv 2 [(15, .int .i64 0), (16, .bool false)] (by kernel_rfl) ?_
  refine wpList_nil ?_
  refine wp_cond_false (by kernel_rfl) ?_
  refine wp_skip ?_
  refine wp_seq ?_
  refine wp_region_lit ?_
  refine g_pv 1 [(9, .int .u64 0)] (by kernel_rfl) ?_
  refine wpList_nil ?_
  refine wp_seq ?_
  refine wp_seq ?_
  refine wp_region_lit ?_
  refine g_pv 1 [(18, .int .i64 (↑w : Int))] (by kernel_rfl) ?_
  refine g_op (by kernel_rfl) (op_wrap .i64 ((↑w : Int) - 1) ((↑w : Int) - 1) (by kernel_rfl) (by first | exact IntWalk.i64_in _ (by omega) | (simp only [IntKind.wrap]; omega)) ?_)
  refine g_pv 1 [(10, .int .i64 ((↑w : Int) - 1))] (by kernel_rfl) ?_
  refine wpList_nil ?_
  refine wp_block ?_
  refine g_fr ⟨#[.slice a l.length c, .int .i64 (↑k : Int), .int .i64 (↑w : Int), undef, undef, undef, .int .i64 0, .int .i64 0, .int .i64 0, .int .u64 0, .int .i64 ((↑w : Int) - 1), .slice a l.length c, .int .i64 (↑k : Int), .int .i64 (↑w : Int), .int .i64 0, .int .i64 0, .bool false, undef, .int .i64 (↑w : Int), .int .i64 ((↑w : Int) - 1), undef, undef, undef, undef, undef, undef, undef, undef, undef, undef, undef, undef, undef, undef, undef, undef, undef, undef], []⟩ (by kernel_rfl) ?_
  refine wp_loop (fun act V => ∃ (j r : Nat) (x2 : Nat → Value), act = ⟨#[.slice a l.length c, .int .i64 (↑k : Int), .int .i64 (↑w : Int), undef, undef, undef, .int .i64 0, .int .i64 0, .int .i64 0, .int .u64 (↑(rawN l (k + j) r) : Int), .int .i64 ((↑j : Int) - 1), .slice a l.length c, .int .i64 (↑k : Int), .int .i64 (↑w : Int), .int .i64 0, .int .i64 0, .bool false, undef, .int .i64 (↑w : Int), .int .i64 ((↑w : Int) - 1), (x2 0), (x2 1), (x2 2), (x2 3), (x2 4), (x2 5), (x2 6), (x2 7), (x2 8), (x2 9), (x2 10), (x2 11), (x2 12), (x2 13), undef, undef, undef, undef], []⟩ ∧ Below W.heap.size W V ∧ j + r = w) (fun act V => ((intOf (act.tmps.getD 10 undef)) + 1).toNat) ⟨w, 0, (pk [undef, undef, undef, undef, undef, undef, undef, undef, undef, undef, undef, undef, undef, undef]), rfl, hB, by omega⟩ ?_
  rintro _ W2 ⟨j, r, x2, rfl, hB, hjr⟩
  refine wp_seq ?_
  refine wp_seq ?_
  refine wp_region_lit ?_
  refine g_pv 2 [(20, .int .i64 ((↑j : Int) - 1)), (21, .bool (decide ((↑j : Int) - 1 ≥ (0 : Int))))] (by kernel_rfl) ?_
  refine wpList_nil ?_
  refine wp_cond_split (t := decide ((↑j : Int) - 1 ≥ (0 : Int))) (by kernel_rfl) (fun hc3 => ?_) (fun hc3 => ?_)
  · have hc3 := of_decide_eq_true hc3
    refine wp_skip ?_
    refine wp_seq ?_
    refine wp_block ?_
    refine wp_region_lit ?_
    refine g_pv 5 [(24, .int .u64 (↑(rawN l (k + j) r) : Int)), (25, .int .u64 (IntKind.u64.wrap ((↑(rawN l (k + j) r) : Int) * 2 ^ 8))), (26, .slice a l.length c), (27, .int .i64 (↑k : Int)), (28, .int .i64 ((↑j : Int) - 1))] (by kernel_rfl) ?_
    refine g_op (by kernel_rfl) (op_wrap .i64 ((↑k : Int) + ((↑j : Int) - 1)) (↑(k + (j - 1)) : Int) (by kernel_rfl) ((show IntKind.i64.wrap ((↑k : Int) + ((↑j : Int) - 1)) = ((↑k : Int) + ((↑j : Int) - 1)) from by first | exact IntWalk.i64_in _ (by omega) | (simp only [IntKind.wrap]; omega)).trans (by omega)) ?_)
    refine g_op (by kernel_rfl) (op_val (run_indexA (size := 1) (k := (k + (j - 1))) (b := a) (n := l.length) (c := c) (i := (↑(k + (j - 1)) : Int)) (ki := .i64) rfl (by kernel_rfl) (by kernel_rfl) rfl (by omega) (Bys.elem h (k := (k + (j - 1))) (by omega)).1 Try.underlying22 (by kernel_rfl) W2) ?_)
    refine g_op (by kernel_rfl) (op_load (elemAddr a ((k + (j - 1)) * 1)) (.int .u8 (↑(l.getD (k + (j - 1)) 0).toNat : Int)) rfl (by kernel_rfl) (by kernel_rfl) (Bys.elem (h.below hB) (k := (k + (j - 1))) (by omega)).2 ?_)
    refine g_op (by kernel_rfl) (op_eq (.int .u64 (↑(l.getD (k + (j - 1)) 0).toNat : Int)) (.int .u64 (IntKind.u64.wrap (↑(l.getD (k + (j - 1)) 0).toNat : Int))) (by kernel_rfl) (congrArg (Value.int .u64) (u64_nat (by have := (l.getD (k + (j - 1)) 0).toNat_lt; omega))) ?_)
    refine g_op (by kernel_rfl) (op_eq (.int .u64 (↑(rawN l (k + (j - 1)) (r + 1)) : Int)) (.int .u64 (IntKind.u64.wrap (↑(BitVec.ofInt 64 (IntKind.u64.wrap ((↑(rawN l (k + j) r) : Int) * 2 ^ 8)) ||| BitVec.ofInt 64 (↑(l.getD (k + (j - 1)) 0).toNat : Int)).toNat : Int))) (by kernel_rfl) (congrArg (Value.int .u64) ((u64_step (rawN_lt7 l (k + j) r (by omega)) (l.getD (k + (j - 1)) 0).toNat_lt).trans (congrArg (fun x : Nat => (x : Int)) (by rw [rawN, show k + (j - 1) + 1 = k + j by omega])))) ?_)
    refine g_pv 1 [(9, .int .u64 (↑(rawN l (k + (j - 1)) (r + 1)) : Int))] (by kernel_rfl) ?_
    refine wpList_nil ?_
    refine wp_region_lit ?_
    refine g_pv 1 [(22, .int .i64 ((↑j : Int) - 1))] (by kernel_rfl) ?_
    refine g_op (by kernel_rfl) (op_wrap .i64 ((↑j : Int) - 1 - 1) ((↑(j - 1 : Nat) : Int) - 1) (by kernel_rfl) ((show IntKind.i64.wrap ((↑j : Int) - 1 - 1) = ((↑j : Int) - 1 - 1) from by first | exact IntWalk.i64_in _ (by omega) | (simp only [IntKind.wrap]; omega)).trans (by omega)) ?_)
    refine g_pv 1 [(10, .int .i64 ((↑(j - 1 : Nat) : Int) - 1))] (by kernel_rfl) ?_
    refine wpList_nil ?_
    refine g_nfr ⟨#[.slice a l.length c, .int .i64 (↑k : Int), .int .i64 (↑w : Int), undef, undef, undef, .int .i64 0, .int .i64 0, .int .i64 0, .int .u64 (↑(rawN l (k + (j - 1)) (r + 1)) : Int), .int .i64 ((↑(j - 1 : Nat) : Int) - 1), .slice a l.length c, .int .i64 (↑k : Int), .int .i64 (↑w : Int), .int .i64 0, .int .i64 0, .bool false, undef, .int .i64 (↑w : Int), .int .i64 ((↑w : Int) - 1), .int .i64 ((↑j : Int) - 1), .bool (decide ((↑j : Int) - 1 ≥ (0 : Int))), .int .i64 ((↑j : Int) - 1), .int .i64 ((↑(j - 1 : Nat) : Int) - 1), .int .u64 (↑(rawN l (k + j) r) : Int), .int .u64 (IntKind.u64.wrap ((↑(rawN l (k + j) r) : Int) * 2 ^ 8)), .slice a l.length c, .int .i64 (↑k : Int), .int .i64 ((↑j : Int) - 1), .int .i64 (↑(k + (j - 1)) : Int), .pointer (some (elemAddr a ((k + (j - 1)) * 1))), .int .u8 (↑(l.getD (k + (j - 1)) 0).toNat : Int), .int .u64 (↑(l.getD (k + (j - 1)) 0).toNat : Int), .int .u64 (↑(rawN l (k + (j - 1)) (r + 1)) : Int), undef, undef, undef, undef], []⟩ (by kernel_rfl) ?_
    refine ⟨⟨j - 1, r + 1, (pk [.int .i64 ((↑j : Int) - 1), .bool (decide ((↑j : Int) - 1 ≥ (0 : Int))), .int .i64 ((↑j : Int) - 1), .int .i64 ((↑(j - 1 : Nat) : Int) - 1), .int .u64 (↑(rawN l (k + j) r) : Int), .int .u64 (IntKind.u64.wrap ((↑(rawN l (k + j) r) : Int) * 2 ^ 8)), .slice a l.length c, .int .i64 (↑k : Int), .int .i64 ((↑j : Int) - 1), .int .i64 (↑(k + (j - 1)) : Int), .pointer (some (elemAddr a ((k + (j - 1)) * 1))), .int .u8 (↑(l.getD (k + (j - 1)) 0).toNat : Int), .int .u64 (↑(l.getD (k + (j - 1)) 0).toNat : Int), .int .u64 (↑(rawN l (k + (j - 1)) (r + 1)) : Int)]), rfl, hB, by omega⟩, ?_⟩
    show (((↑(j - 1 : Nat) : Int) - 1) + 1).toNat < (((↑j : Int) - 1) + 1).toNat
    omega
  · have hc3 := of_decide_eq_false hc3
    refine wp_exit ?_
    refine then_exit ?_
    refine then_exit ?_
    refine inBlock_hit ?_
    refine wp_seq ?_
    refine wp_seq ?_
    refine wp_region_lit ?_
    refine g_pv 2 [(34, .int .u64 (↑(rawN l (k + j) r) : Int)), (35, .bool (decide ((↑(rawN l (k + j) r) : Int) ≥ (9223372036854775808 : Int))))] (by kernel_rfl) ?_
    refine wpList_nil ?_
    refine wp_cond_split (t := decide ((↑(rawN l (k + j) r) : Int) ≥ (9223372036854775808 : Int))) (by kernel_rfl) (fun hh => absurd (hh.symm.trans (show (decide ((↑(rawN l (k + j) r) : Int) ≥ (9223372036854775808 : Int)) : Bool) = false from by rw [(show rawN l (k + j) r = rawN l k w from by rw [show j = 0 by omega, show r = w by omega]; rfl)]; exact decide_eq_false (by omega))) (by decide)) (fun _ => ?_)
    refine wp_skip ?_
    refine wp_seq ?_
    refine wp_region_lit ?_
    refine g_pv 1 [(36, .int .u64 (↑(rawN l (k + j) r) : Int))] (by kernel_rfl) ?_
    refine g_op (by kernel_rfl) (op_eq (.int .i64 (↑(rawN l k w) : Int)) (.int .i64 (IntKind.i64.wrap (↑(rawN l (k + j) r) : Int))) (by kernel_rfl) (congrArg (Value.int .i64) (by rw [(show rawN l (k + j) r = rawN l k w from by rw [show j = 0 by omega, show r = w by omega]; rfl)]; exact i64_nat hq)) ?_)
    refine g_pv 2 [(6, .int .i64 (↑(rawN l k w) : Int)), (7, .int .i64 0)] (by kernel_rfl) ?_
    refine wpList_nil ?_
    refine wp_ret ?_
    exact g_ret (.tuple #[.int .i64 (↑(rawN l k w) : Int), .int .i64 0]) (by kernel_rfl) (by kernel_rfl) ⟨rfl, hB⟩
set_option maxRecDepth 100000 in
set_option maxHeartbeats 2000000 in
theorem Get_big (a : Option Addr) (c k w : Nat) (l : List UInt8) (W : World) (hw : w = 1 ∨ w = 2 ∨ w = 4 ∨ w = 8) (hk : k + w ≤ l.length) (hl : l.length ≤ 100000000) (h : Bys W (.slice a l.length c) l) (hq : ¬ rawN l k w < 9223372036854775808) :
    Calls Try.prog 38 #[.slice a l.length c, .int .i64 (↑k : Int), .int .i64 (↑w : Int)] W (Ret (.tuple #[.int .i64 0, .int .i64 2]) W) := by
  refine calls_of_wp Try.func38 rfl ?_
  refine g_fr ⟨#[.slice a l.length c, .int .i64 (↑k : Int), .int .i64 (↑w : Int), undef, undef, undef, undef, undef, undef, undef, undef, undef, undef, undef, undef, undef, undef, undef, undef, undef, undef, undef, undef, undef, undef, undef, undef, undef, undef, undef, undef, undef, undef, undef, undef, undef, undef, undef], []⟩ (by kernel_rfl) ?_
  refine wp_seq ?_
  refine wp_region_lit ?_
  refine g_pv 2 [(6, .int .i64 0), (7, .int .i64 0)] (by kernel_rfl) ?_
  refine wpList_nil ?_
  refine wp_seq ?_
  refine wp_seq ?_
  refine wp_region_lit ?_
  refine g_pv 3 [(11, .slice a l.length c), (12, .int .i64 (↑k : Int)), (13, .int .i64 (↑w : Int))] (by kernel_rfl) ?_
  refine g_op (by kernel_rfl) (op_call (lb := #[]) 64 #[.slice a l.length c, .int .i64 (↑k : Int), .int .i64 (↑w : Int)] rfl (by kernel_rfl) (fun _ _ => by kernel_rfl) (by kernel_rfl) ((there_ok a l.length c k w hw hk hl _).mono ?_))
  rintro e W1 ⟨rfl, hb1⟩
  refine ⟨_, rfl, ?_⟩
  have hB := hb1
  refine g_pv 1 [(8, .int .i64 0)] (by kernel_rfl) ?_
  refine wpList_nil ?_
  refine wp_seq ?_
  refine wp_region_lit ?_
  refine g_pv 2 [(15, .int .i64 0), (16, .bool false)] (by kernel_rfl) ?_
  refine wpList_nil ?_
  refine wp_cond_false (by kernel_rfl) ?_
  refine wp_skip ?_
  refine wp_seq ?_
  refine wp_region_lit ?_
  refine g_pv 1 [(9, .int .u64 0)] (by kernel_rfl) ?_
  refine wpList_nil ?_
  refine wp_seq ?_
  refine wp_seq ?_
  refine wp_region_lit ?_
  refine g_pv 1 [(18, .int .i64 (↑w : Int))] (by kernel_rfl) ?_
  refine g_op (by kernel_rfl) (op_wrap .i64 ((↑w : Int) - 1) ((↑w : Int) - 1) (by kernel_rfl) (by first | exact IntWalk.i64_in _ (by omega) | (simp only [IntKind.wrap]; omega)) ?_)
  refine g_pv 1 [(10, .int .i64 ((↑w : Int) - 1))] (by kernel_rfl) ?_
  refine wpList_nil ?_
  refine wp_block ?_
  refine g_fr ⟨#[.slice a l.length c, .int .i64 (↑k : Int), .int .i64 (↑w : Int), undef, undef, undef, .int .i64 0, .int .i64 0, .int .i64 0, .int .u64 0, .int .i64 ((↑w : Int) - 1), .slice a l.length c, .int .i64 (↑k : Int), .int .i64 (↑w : Int), .int .i64 0, .int .i64 0, .bool false, undef, .int .i64 (↑w : Int), .int .i64 ((↑w : Int) - 1), undef, undef, undef, undef, undef, undef, undef, undef, undef, undef, undef, undef, undef, undef, undef, undef, undef, undef], []⟩ (by kernel_rfl) ?_
  refine wp_loop (fun act V => ∃ (j r : Nat) (x2 : Nat → Value), act = ⟨#[.slice a l.length c, .int .i64 (↑k : Int), .int .i64 (↑w : Int), undef, undef, undef, .int .i64 0, .int .i64 0, .int .i64 0, .int .u64 (↑(rawN l (k + j) r) : Int), .int .i64 ((↑j : Int) - 1), .slice a l.length c, .int .i64 (↑k : Int), .int .i64 (↑w : Int), .int .i64 0, .int .i64 0, .bool false, undef, .int .i64 (↑w : Int), .int .i64 ((↑w : Int) - 1), (x2 0), (x2 1), (x2 2), (x2 3), (x2 4), (x2 5), (x2 6), (x2 7), (x2 8), (x2 9), (x2 10), (x2 11), (x2 12), (x2 13), undef, undef, undef, undef], []⟩ ∧ Below W.heap.size W V ∧ j + r = w) (fun act V => ((intOf (act.tmps.getD 10 undef)) + 1).toNat) ⟨w, 0, (pk [undef, undef, undef, undef, undef, undef, undef, undef, undef, undef, undef, undef, undef, undef]), rfl, hB, by omega⟩ ?_
  rintro _ W2 ⟨j, r, x2, rfl, hB, hjr⟩
  refine wp_seq ?_
  refine wp_seq ?_
  refine wp_region_lit ?_
  refine g_pv 2 [(20, .int .i64 ((↑j : Int) - 1)), (21, .bool (decide ((↑j : Int) - 1 ≥ (0 : Int))))] (by kernel_rfl) ?_
  refine wpList_nil ?_
  refine wp_cond_split (t := decide ((↑j : Int) - 1 ≥ (0 : Int))) (by kernel_rfl) (fun hc3 => ?_) (fun hc3 => ?_)
  · have hc3 := of_decide_eq_true hc3
    refine wp_skip ?_
    refine wp_seq ?_
    refine wp_block ?_
    refine wp_region_lit ?_
    refine g_pv 5 [(24, .int .u64 (↑(rawN l (k + j) r) : Int)), (25, .int .u64 (IntKind.u64.wrap ((↑(rawN l (k + j) r) : Int) * 2 ^ 8))), (26, .slice a l.length c), (27, .int .i64 (↑k : Int)), (28, .int .i64 ((↑j : Int) - 1))] (by kernel_rfl) ?_
    refine g_op (by kernel_rfl) (op_wrap .i64 ((↑k : Int) + ((↑j : Int) - 1)) (↑(k + (j - 1)) : Int) (by kernel_rfl) ((show IntKind.i64.wrap ((↑k : Int) + ((↑j : Int) - 1)) = ((↑k : Int) + ((↑j : Int) - 1)) from by first | exact IntWalk.i64_in _ (by omega) | (simp only [IntKind.wrap]; omega)).trans (by omega)) ?_)
    refine g_op (by kernel_rfl) (op_val (run_indexA (size := 1) (k := (k + (j - 1))) (b := a) (n := l.length) (c := c) (i := (↑(k + (j - 1)) : Int)) (ki := .i64) rfl (by kernel_rfl) (by kernel_rfl) rfl (by omega) (Bys.elem h (k := (k + (j - 1))) (by omega)).1 Try.underlying22 (by kernel_rfl) W2) ?_)
    refine g_op (by kernel_rfl) (op_load (elemAddr a ((k + (j - 1)) * 1)) (.int .u8 (↑(l.getD (k + (j - 1)) 0).toNat : Int)) rfl (by kernel_rfl) (by kernel_rfl) (Bys.elem (h.below hB) (k := (k + (j - 1))) (by omega)).2 ?_)
    refine g_op (by kernel_rfl) (op_eq (.int .u64 (↑(l.getD (k + (j - 1)) 0).toNat : Int)) (.int .u64 (IntKind.u64.wrap (↑(l.getD (k + (j - 1)) 0).toNat : Int))) (by kernel_rfl) (congrArg (Value.int .u64) (u64_nat (by have := (l.getD (k + (j - 1)) 0).toNat_lt; omega))) ?_)
    refine g_op (by kernel_rfl) (op_eq (.int .u64 (↑(rawN l (k + (j - 1)) (r + 1)) : Int)) (.int .u64 (IntKind.u64.wrap (↑(BitVec.ofInt 64 (IntKind.u64.wrap ((↑(rawN l (k + j) r) : Int) * 2 ^ 8)) ||| BitVec.ofInt 64 (↑(l.getD (k + (j - 1)) 0).toNat : Int)).toNat : Int))) (by kernel_rfl) (congrArg (Value.int .u64) ((u64_step (rawN_lt7 l (k + j) r (by omega)) (l.getD (k + (j - 1)) 0).toNat_lt).trans (congrArg (fun x : Nat => (x : Int)) (by rw [rawN, show k + (j - 1) + 1 = k + j by omega])))) ?_)
    refine g_pv 1 [(9, .int .u64 (↑(rawN l (k + (j - 1)) (r + 1)) : Int))] (by kernel_rfl) ?_
    refine wpList_nil ?_
    refine wp_region_lit ?_
    refine g_pv 1 [(22, .int .i64 ((↑j : Int) - 1))] (by kernel_rfl) ?_
    refine g_op (by kernel_rfl) (op_wrap .i64 ((↑j : Int) - 1 - 1) ((↑(j - 1 : Nat) : Int) - 1) (by kernel_rfl) ((show IntKind.i64.wrap ((↑j : Int) - 1 - 1) = ((↑j : Int) - 1 - 1) from by first | exact IntWalk.i64_in _ (by omega) | (simp only [IntKind.wrap]; omega)).trans (by omega)) ?_)
    refine g_pv 1 [(10, .int .i64 ((↑(j - 1 : Nat) : Int) - 1))] (by kernel_rfl) ?_
    refine wpList_nil ?_
    refine g_nfr ⟨#[.slice a l.length c, .int .i64 (↑k : Int), .int .i64 (↑w : Int), undef, undef, undef, .int .i64 0, .int .i64 0, .int .i64 0, .int .u64 (↑(rawN l (k + (j - 1)) (r + 1)) : Int), .int .i64 ((↑(j - 1 : Nat) : Int) - 1), .slice a l.length c, .int .i64 (↑k : Int), .int .i64 (↑w : Int), .int .i64 0, .int .i64 0, .bool false, undef, .int .i64 (↑w : Int), .int .i64 ((↑w : Int) - 1), .int .i64 ((↑j : Int) - 1), .bool (decide ((↑j : Int) - 1 ≥ (0 : Int))), .int .i64 ((↑j : Int) - 1), .int .i64 ((↑(j - 1 : Nat) : Int) - 1), .int .u64 (↑(rawN l (k + j) r) : Int), .int .u64 (IntKind.u64.wrap ((↑(rawN l (k + j) r) : Int) * 2 ^ 8)), .slice a l.length c, .int .i64 (↑k : Int), .int .i64 ((↑j : Int) - 1), .int .i64 (↑(k + (j - 1)) : Int), .pointer (some (elemAddr a ((k + (j - 1)) * 1))), .int .u8 (↑(l.getD (k + (j - 1)) 0).toNat : Int), .int .u64 (↑(l.getD (k + (j - 1)) 0).toNat : Int), .int .u64 (↑(rawN l (k + (j - 1)) (r + 1)) : Int), undef, undef, undef, undef], []⟩ (by kernel_rfl) ?_
    refine ⟨⟨j - 1, r + 1, (pk [.int .i64 ((↑j : Int) - 1), .bool (decide ((↑j : Int) - 1 ≥ (0 : Int))), .int .i64 ((↑j : Int) - 1), .int .i64 ((↑(j - 1 : Nat) : Int) - 1), .int .u64 (↑(rawN l (k + j) r) : Int), .int .u64 (IntKind.u64.wrap ((↑(rawN l (k + j) r) : Int) * 2 ^ 8)), .slice a l.length c, .int .i64 (↑k : Int), .int .i64 ((↑j : Int) - 1), .int .i64 (↑(k + (j - 1)) : Int), .pointer (some (elemAddr a ((k + (j - 1)) * 1))), .int .u8 (↑(l.getD (k + (j - 1)) 0).toNat : Int), .int .u64 (↑(l.getD (k + (j - 1)) 0).toNat : Int), .int .u64 (↑(rawN l (k + (j - 1)) (r + 1)) : Int)]), rfl, hB, by omega⟩, ?_⟩
    show (((↑(j - 1 : Nat) : Int) - 1) + 1).toNat < (((↑j : Int) - 1) + 1).toNat
    omega
  · have hc3 := of_decide_eq_false hc3
    refine wp_exit ?_
    refine then_exit ?_
    refine then_exit ?_
    refine inBlock_hit ?_
    refine wp_seq ?_
    refine wp_seq ?_
    refine wp_region_lit ?_
    refine g_pv 2 [(34, .int .u64 (↑(rawN l (k + j) r) : Int)), (35, .bool (decide ((↑(rawN l (k + j) r) : Int) ≥ (9223372036854775808 : Int))))] (by kernel_rfl) ?_
    refine wpList_nil ?_
    refine wp_cond_split (t := decide ((↑(rawN l (k + j) r) : Int) ≥ (9223372036854775808 : Int))) (by kernel_rfl) (fun _ => ?_) (fun hh => absurd (hh.symm.trans (show (decide ((↑(rawN l (k + j) r) : Int) ≥ (9223372036854775808 : Int)) : Bool) = true from by rw [(show rawN l (k + j) r = rawN l k w from by rw [show j = 0 by omega, show r = w by omega]; rfl)]; exact decide_eq_true (by omega))) (by decide))
    refine wp_seq ?_
    refine wp_region_lit ?_
    refine g_pv 2 [(6, .int .i64 0), (7, .int .i64 2)] (by kernel_rfl) ?_
    refine wpList_nil ?_
    refine wp_ret (then_ret ?_)
    exact g_ret (.tuple #[.int .i64 0, .int .i64 2]) (by kernel_rfl) (by kernel_rfl) ⟨rfl, hB⟩
/-- the numbers of these widths, one behind the other, from a place on -/
def unpL (l : List UInt8) : Nat → List Nat → List Nat
  | _, [] => []
  | k, w :: r => rawN l k w :: unpL l (k + w) r
theorem unpL_len (l : List UInt8) : ∀ (ws : List Nat) (k : Nat), (unpL l k ws).length = ws.length
  | [], k => rfl
  | w :: r, k => by simp [unpL, unpL_len l r]
theorem unpL_snoc (l : List UInt8) (w : Nat) : ∀ (ws : List Nat) (k : Nat), unpL l k (ws ++ [w]) = unpL l k ws ++ [rawN l (k + ws.sum) w]
  | [], k => by simp [unpL]
  | x :: r, k => by simp [unpL, unpL_snoc l w r, Nat.add_assoc]
theorem unpL_get (l : List UInt8) : ∀ (ws : List Nat) (k i : Nat), i < ws.length → (unpL l k ws).getD i 0 = rawN l (k + (ws.take i).sum) (ws.getD i 0)
  | [], k, i, h => by simp at h
  | w :: r, k, 0, h => by simp [unpL]
  | w :: r, k, i + 1, h => by
    have := unpL_get l r (k + w) i (by simpa using h)
    simp only [List.getD_eq_getElem?_getD] at this ⊢
    simp [unpL, this, Nat.add_assoc]
theorem take_snoc {ws : List Nat} {i : Nat} (h : i < ws.length) : ws.take (i + 1) = ws.take i ++ [ws.getD i 0] := by
  rw [List.take_succ_eq_append_getElem h]; simp [List.getD, h]
theorem take_sum_le {ws : List Nat} {i : Nat} (h : i < ws.length) : (ws.take i).sum + ws.getD i 0 ≤ ws.sum := by
  have h1 := take_sum h; have h2 := take_le (L := ws) (i + 1); omega
def getV (l : List UInt8) (k w : Nat) : Int := if rawN l k w < 9223372036854775808 then (rawN l k w : Int) else 0
def getE (l : List UInt8) (k w : Nat) : Int := if rawN l k w < 9223372036854775808 then 0 else 2
theorem getE_zero {l : List UInt8} {k w : Nat} (h : getE l k w = 0) : rawN l k w < 9223372036854775808 := by unfold getE at h; split at h; assumption; cases h
theorem getE_two {l : List UInt8} {k w : Nat} (h : getE l k w ≠ 0) : ¬ rawN l k w < 9223372036854775808 ∧ getE l k w = 2 := by unfold getE at h ⊢; split at h; exact absurd rfl h; rename_i h2; exact ⟨h2, if_neg h2⟩
theorem getE_ok {l : List UInt8} {k w : Nat} (h : rawN l k w < 9223372036854775808) : getE l k w = 0 := if_pos h
theorem getV_ok {l : List UInt8} {k w : Nat} (h : rawN l k w < 9223372036854775808) : getV l k w = (rawN l k w : Int) := if_pos h
theorem Get_gen (a : Option Addr) (c k w : Nat) (l : List UInt8) (W : World) (hw : w = 1 ∨ w = 2 ∨ w = 4 ∨ w = 8) (hk : k + w ≤ l.length) (hl : l.length ≤ 100000000) (h : Bys W (.slice a l.length c) l) :
    Calls Try.prog 38 #[.slice a l.length c, .int .i64 (↑k : Int), .int .i64 (↑w : Int)] W (Ret (.tuple #[.int .i64 (getV l k w), .int .i64 (getE l k w)]) W) := by
  by_cases hq : rawN l k w < 9223372036854775808
  · rw [getV_ok hq, getE_ok hq]; exact Get_ok a c k w l W hw hk hl h hq
  · rw [getV, getE, if_neg hq, if_neg hq]; exact Get_big a c k w l W hw hk hl h hq
set_option maxRecDepth 100000 in
set_option maxHeartbeats 2000000 in
theorem Unpack_ok (a : Option Addr) (c : Nat) (l : List UInt8) (aw : Option Addr) (cw : Nat) (ws : List Nat) (W : World) (hk : ∀ i, i < ws.length → ws.getD i 0 = 1 ∨ ws.getD i 0 = 2 ∨ ws.getD i 0 = 4 ∨ ws.getD i 0 = 8) (hs : ws.sum ≤ l.length) (hl : l.length ≤ 100000000) (hw : ws.length ≤ 1000) (h : Bys W (.slice a l.length c) l) (hws : Sl W (.slice aw ws.length cw) ws.length (ws.map nv)) (hq : ∀ i, i < ws.length → (unpL l 0 ws).getD i 0 < 9223372036854775808) :
    Calls Try.prog 61 #[.slice a l.length c, .slice aw ws.length cw] W (RetS (fun w' r => ∃ p c, r = .tuple #[.slice p ws.length c, .int .i64 0] ∧ w'.ownsRow W.heap.size 3 1 (.slice p ws.length c) ws.length ((unpL l 0 ws).map nv)) W) := by
  refine calls_of_wp Try.func61 rfl ?_
  refine g_fr ⟨#[.slice a l.length c, .slice aw ws.length cw, undef, undef, undef, undef, undef, undef, undef, undef, undef, undef, undef, undef, undef, undef, undef, undef, undef, undef, undef, undef, undef, undef, undef, undef, undef, undef, undef, undef, undef, undef, undef, undef, undef, undef, undef], []⟩ (by kernel_rfl) ?_
  refine wp_seq ?_
  refine wp_region_lit ?_
  refine g_pv 2 [(4, .slice none 0 0), (5, .int .i64 0)] (by kernel_rfl) ?_
  refine wpList_nil ?_
  refine wp_seq ?_
  refine wp_region_lit ?_
  refine g_pv 1 [(6, .slice none 0 0)] (by kernel_rfl) ?_
  refine wpList_nil ?_
  refine wp_seq ?_
  refine wp_region_lit ?_
  refine g_pv 1 [(7, .int .i64 0)] (by kernel_rfl) ?_
  refine wpList_nil ?_
  refine wp_seq ?_
  refine wp_seq ?_
  refine wp_region_lit ?_
  refine g_pv 3 [(12, .slice aw ws.length cw), (13, .int .i64 (↑ws.length : Int)), (14, .int .i64 0)] (by kernel_rfl) ?_
  refine wpList_nil ?_
  refine wp_block ?_
  refine g_fr ⟨#[.slice a l.length c, .slice aw ws.length cw, undef, undef, .slice none 0 0, .int .i64 0, .slice none 0 0, .int .i64 0, undef, undef, undef, undef, .slice aw ws.length cw, .int .i64 (↑ws.length : Int), .int .i64 0, undef, undef, undef, undef, undef, undef, undef, undef, undef, undef, undef, undef, undef, undef, undef, undef, undef, undef, undef, undef, undef, undef], []⟩ (by kernel_rfl) ?_
  have hB := Below.refl W.heap.size W
  refine wp_loop (fun act V => ∃ (i : Nat) (p : Option Addr) (c2 : Nat) (x1 : Nat → Value), act = ⟨#[.slice a l.length c, .slice aw ws.length cw, undef, undef, (x1 0), (x1 1), .slice p i c2, .int .i64 (↑(ws.take i).sum : Int), undef, (x1 2), (x1 3), (x1 4), .slice aw ws.length cw, .int .i64 (↑ws.length : Int), .int .i64 (↑i : Int), (x1 5), (x1 6), (x1 7), (x1 8), (x1 9), (x1 10), (x1 11), (x1 12), (x1 13), (x1 14), (x1 15), (x1 16), (x1 17), (x1 18), (x1 19), (x1 20), (x1 21), (x1 22), (x1 23), (x1 24), (x1 25), undef], []⟩ ∧ Below W.heap.size W V ∧ V.ownsRow W.heap.size 3 1 (.slice p i c2) i ((unpL l 0 (ws.take i)).map nv) ∧ i ≤ ws.length) (fun act V => ws.length - ((intOf (act.tmps.getD 14 undef))).toNat) ⟨0, _, _, (pk [.slice none 0 0, .int .i64 0, undef, undef, undef, undef, undef, undef, undef, undef, undef, undef, undef, undef, undef, undef, undef, undef, undef, undef, undef, undef, undef, undef, undef, undef]), rfl, hB, World.ownsRow_nil _ _ _ _, Nat.zero_le _⟩ ?_
  rintro _ W1 ⟨i, p, c2, x1, rfl, hB, ho, hi⟩
  have hts : i < ws.length → (ws.take i).sum + ws.getD i 0 ≤ ws.sum := take_sum_le
  have hui : i < ws.length → (unpL l 0 ws).getD i 0 = rawN l (ws.take i).sum (ws.getD i 0) := fun h => by rw [unpL_get l ws 0 i h, Nat.zero_add]
  refine wp_seq ?_
  refine wp_region_lit ?_
  refine g_pv 1 [(15, .bool (decide ((↑i : Int) < (↑ws.length : Int))))] (by kernel_rfl) ?_
  refine wpList_nil ?_
  refine wp_seq ?_
  refine wp_cond_split (t := decide ((↑i : Int) < (↑ws.length : Int))) (by kernel_rfl) (fun hc2 => ?_) (fun hc2 => ?_)
  · have hc2 := of_decide_eq_true hc2
    refine wp_skip ?_
    refine wp_seq ?_
    refine wp_block ?_
    refine wp_seq ?_
    refine wp_region_lit ?_
    refine g_op (by kernel_rfl) (op_val (run_indexA (size := 1) (k := i) (b := aw) (n := ws.length) (c := cw) (i := (↑i : Int)) (ki := .i64) rfl (by kernel_rfl) (by kernel_rfl) rfl (by omega) (nv_elem hws rfl (k := i) (by omega)).1 Try.underlying27 (by kernel_rfl) W1) ?_)
    refine g_op (by kernel_rfl) (op_load (elemAddr aw (i * 1)) (.int .i64 (↑(ws.getD i 0) : Int)) rfl (by kernel_rfl) (by kernel_rfl) (nv_elem (hws.below hB) rfl (k := i) (by omega)).2 ?_)
    refine g_pv 1 [(9, .int .i64 (↑(ws.getD i 0) : Int))] (by kernel_rfl) ?_
    refine wpList_nil ?_
    refine wp_seq ?_
    refine wp_region_lit ?_
    refine g_pv 3 [(19, .slice a l.length c), (20, .int .i64 (↑(ws.take i).sum : Int)), (21, .int .i64 (↑(ws.getD i 0) : Int))] (by kernel_rfl) ?_
    refine g_op (by kernel_rfl) (op_call (lb := #[]) 38 #[.slice a l.length c, .int .i64 (↑(ws.take i).sum : Int), .int .i64 (↑(ws.getD i 0) : Int)] rfl (by kernel_rfl) (fun _ _ => by kernel_rfl) (by kernel_rfl) ((Get_gen a c (ws.take i).sum (ws.getD i 0) l _ (hk i (by omega)) (by omega) hl (h.below hB)).mono ?_))
    rintro e W3 ⟨rfl, hb3⟩
    refine ⟨_, rfl, ?_⟩
    replace hB := Bl.next hB hb3
    replace ho := own_below ho hb3
    refine g_pv 5 [(18, .tuple #[.int .i64 (getV l (ws.take i).sum (ws.getD i 0)), .int .i64 (getE l (ws.take i).sum (ws.getD i 0))]), (23, .int .i64 (getV l (ws.take i).sum (ws.getD i 0))), (24, .int .i64 (getE l (ws.take i).sum (ws.getD i 0))), (10, .int .i64 (getV l (ws.take i).sum (ws.getD i 0))), (11, .int .i64 (getE l (ws.take i).sum (ws.getD i 0)))] (by kernel_rfl) ?_
    refine wpList_nil ?_
    refine wp_seq ?_
    refine wp_seq ?_
    refine wp_region_lit ?_
    refine g_pv 2 [(25, .int .i64 (getE l (ws.take i).sum (ws.getD i 0))), (26, .bool ((getE l (ws.take i).sum (ws.getD i 0)) != (0 : Int)))] (by kernel_rfl) ?_
    refine wpList_nil ?_
    refine wp_cond_split (t := ((getE l (ws.take i).sum (ws.getD i 0)) != (0 : Int))) (by kernel_rfl) (fun hh => absurd (hh.symm.trans (show (((getE l (ws.take i).sum (ws.getD i 0)) != (0 : Int)) : Bool) = false from by rw [getE_ok (by rw [← hui (by omega)]; exact hq i (by omega))]; rfl)) (by decide)) (fun _ => ?_)
    refine wp_skip ?_
    refine wp_seq ?_
    refine wp_region_lit ?_
    refine g_pv 2 [(28, .slice p i c2), (29, .int .i64 (getV l (ws.take i).sum (ws.getD i 0)))] (by kernel_rfl) ?_
    refine g_op (by kernel_rfl) (op_buildSlice 3 [.int .i64 (getV l (ws.take i).sum (ws.getD i 0))] rfl (by kernel_rfl) ?_)
    intro b5 W5 n5
    have g5 := n5.ge hB
    have r5_ho := own_ne ho n5
    replace hB := Bl.next hB n5.below
    replace ho := own_below ho n5.below
    have k5 := n5.blk
    refine g_op (by kernel_rfl) (op_app (e := 3) (n := i) (xs := (unpL l 0 (ws.take i)).map nv) (m := 1) (news := [.int .i64 (getV l (ws.take i).sum (ws.getD i 0))]) (.int .i64 0) 1 8 (i + 1) ((unpL l 0 (ws.take (i + 1))).map nv) rfl Try.underlying27 (by kernel_rfl) rfl (by decide) (by kernel_rfl) ho (by kernel_rfl) (k5.sl 1 1 (by decide) (by decide)) rfl (by simp [Value.oneCell']) (by unfold maxLen; omega) (by omega) hB.size (by rfl) (by rw [take_snoc (by omega), unpL_snoc, Nat.zero_add, List.map_append]; simp only [List.map_cons, List.map_nil, nv]; rw [getV_ok (by rw [← hui (by omega)]; exact hq i (by omega))]) ?_)
    intro p6 c6 W6 o6 hg6 hb6
    replace hB := hB.trans hb6
    refine g_pv 1 [(6, .slice p6 (i + 1) c6)] (by kernel_rfl) ?_
    refine wpList_nil ?_
    refine wp_region_lit ?_
    refine g_pv 2 [(32, .int .i64 (↑(ws.take i).sum : Int)), (33, .int .i64 (↑(ws.getD i 0) : Int))] (by kernel_rfl) ?_
    refine g_op (by kernel_rfl) (op_wrap .i64 ((↑(ws.take i).sum : Int) + (↑(ws.getD i 0) : Int)) (↑((ws.take i).sum + (ws.getD i 0)) : Int) (by kernel_rfl) ((show IntKind.i64.wrap ((↑(ws.take i).sum : Int) + (↑(ws.getD i 0) : Int)) = ((↑(ws.take i).sum : Int) + (↑(ws.getD i 0) : Int)) from by first | exact IntWalk.i64_in _ (by omega) | (simp only [IntKind.wrap]; omega)).trans (by omega)) ?_)
    refine g_pv 1 [(7, .int .i64 (↑((ws.take i).sum + (ws.getD i 0)) : Int))] (by kernel_rfl) ?_
    refine wpList_nil ?_
    refine wp_region_lit ?_
    refine g_op (by kernel_rfl) (op_wrap .i64 ((↑i : Int) + 1) (↑(i + 1) : Int) (by kernel_rfl) ((show IntKind.i64.wrap ((↑i : Int) + 1) = ((↑i : Int) + 1) from by first | exact IntWalk.i64_in _ (by omega) | (simp only [IntKind.wrap]; omega)).trans (by omega)) ?_)
    refine g_pv 1 [(14, .int .i64 (↑(i + 1) : Int))] (by kernel_rfl) ?_
    refine wpList_nil ?_
    refine g_nfr ⟨#[.slice a l.length c, .slice aw ws.length cw, undef, undef, (x1 0), (x1 1), .slice p6 (i + 1) c6, .int .i64 (↑((ws.take i).sum + (ws.getD i 0)) : Int), undef, .int .i64 (↑(ws.getD i 0) : Int), .int .i64 (getV l (ws.take i).sum (ws.getD i 0)), .int .i64 (getE l (ws.take i).sum (ws.getD i 0)), .slice aw ws.length cw, .int .i64 (↑ws.length : Int), .int .i64 (↑(i + 1) : Int), .bool (decide ((↑i : Int) < (↑ws.length : Int))), .pointer (some (elemAddr aw (i * 1))), .int .i64 (↑(ws.getD i 0) : Int), .tuple #[.int .i64 (getV l (ws.take i).sum (ws.getD i 0)), .int .i64 (getE l (ws.take i).sum (ws.getD i 0))], .slice a l.length c, .int .i64 (↑(ws.take i).sum : Int), .int .i64 (↑(ws.getD i 0) : Int), .tuple #[.int .i64 (getV l (ws.take i).sum (ws.getD i 0)), .int .i64 (getE l (ws.take i).sum (ws.getD i 0))], .int .i64 (getV l (ws.take i).sum (ws.getD i 0)), .int .i64 (getE l (ws.take i).sum (ws.getD i 0)), .int .i64 (getE l (ws.take i).sum (ws.getD i 0)), .bool ((getE l (ws.take i).sum (ws.getD i 0)) != (0 : Int)), (x1 17), .slice p i c2, .int .i64 (getV l (ws.take i).sum (ws.getD i 0)), .slice (some ⟨b5, 0, none⟩) 1 1, .slice p6 (i + 1) c6, .int .i64 (↑(ws.take i).sum : Int), .int .i64 (↑(ws.getD i 0) : Int), .int .i64 (↑((ws.take i).sum + (ws.getD i 0)) : Int), .int .i64 (↑(i + 1) : Int), undef], []⟩ (by kernel_rfl) ?_
    refine g_nfr ⟨#[.slice a l.length c, .slice aw ws.length cw, undef, undef, (x1 0), (x1 1), .slice p6 (i + 1) c6, .int .i64 (↑(ws.take (i + 1)).sum : Int), undef, .int .i64 (↑(ws.getD i 0) : Int), .int .i64 (getV l (ws.take i).sum (ws.getD i 0)), .int .i64 (getE l (ws.take i).sum (ws.getD i 0)), .slice aw ws.length cw, .int .i64 (↑ws.length : Int), .int .i64 (↑(i + 1) : Int), .bool (decide ((↑i : Int) < (↑ws.length : Int))), .pointer (some (elemAddr aw (i * 1))), .int .i64 (↑(ws.getD i 0) : Int), .tuple #[.int .i64 (getV l (ws.take i).sum (ws.getD i 0)), .int .i64 (getE l (ws.take i).sum (ws.getD i 0))], .slice a l.length c, .int .i64 (↑(ws.take i).sum : Int), .int .i64 (↑(ws.getD i 0) : Int), .tuple #[.int .i64 (getV l (ws.take i).sum (ws.getD i 0)), .int .i64 (getE l (ws.take i).sum (ws.getD i 0))], .int .i64 (getV l (ws.take i).sum (ws.getD i 0)), .int .i64 (getE l (ws.take i).sum (ws.getD i 0)), .int .i64 (getE l (ws.take i).sum (ws.getD i 0)), .bool ((getE l (ws.take i).sum (ws.getD i 0)) != (0 : Int)), (x1 17), .slice p i c2, .int .i64 (getV l (ws.take i).sum (ws.getD i 0)), .slice (some ⟨b5, 0, none⟩) 1 1, .slice p6 (i + 1) c6, .int .i64 (↑(ws.take i).sum : Int), .int .i64 (↑(ws.getD i 0) : Int), .int .i64 (↑((ws.take i).sum + (ws.getD i 0)) : Int), .int .i64 (↑(i + 1) : Int), undef], []⟩ (by rw [take_snoc (by omega), List.sum_append]; simp) ?_
    refine ⟨⟨i + 1, _, _, (pk [(x1 0), (x1 1), .int .i64 (↑(ws.getD i 0) : Int), .int .i64 (getV l (ws.take i).sum (ws.getD i 0)), .int .i64 (getE l (ws.take i).sum (ws.getD i 0)), .bool (decide ((↑i : Int) < (↑ws.length : Int))), .pointer (some (elemAddr aw (i * 1))), .int .i64 (↑(ws.getD i 0) : Int), .tuple #[.int .i64 (getV l (ws.take i).sum (ws.getD i 0)), .int .i64 (getE l (ws.take i).sum (ws.getD i 0))], .slice a l.length c, .int .i64 (↑(ws.take i).sum : Int), .int .i64 (↑(ws.getD i 0) : Int), .tuple #[.int .i64 (getV l (ws.take i).sum (ws.getD i 0)), .int .i64 (getE l (ws.take i).sum (ws.getD i 0))], .int .i64 (getV l (ws.take i).sum (ws.getD i 0)), .int .i64 (getE l (ws.take i).sum (ws.getD i 0)), .int .i64 (getE l (ws.take i).sum (ws.getD i 0)), .bool ((getE l (ws.take i).sum (ws.getD i 0)) != (0 : Int)), (x1 17), .slice p i c2, .int .i64 (getV l (ws.take i).sum (ws.getD i 0)), .slice (some ⟨b5, 0, none⟩) 1 1, .slice p6 (i + 1) c6, .int .i64 (↑(ws.take i).sum : Int), .int .i64 (↑(ws.getD i 0) : Int), .int .i64 (↑((ws.take i).sum + (ws.getD i 0)) : Int), .int .i64 (↑(i + 1) : Int)]), rfl, hB, o6, by omega⟩, ?_⟩
    show ws.length - ((↑(i + 1) : Int)).toNat < ws.length - ((↑i : Int)).toNat
    omega
  · have hc2 := of_decide_eq_false hc2
    refine wp_exit ?_
    refine then_exit ?_
    refine then_exit ?_
    refine inBlock_hit ?_
    refine wp_seq ?_
    refine wp_region_lit ?_
    refine g_pv 3 [(36, .slice p i c2), (4, .slice p i c2), (5, .int .i64 0)] (by kernel_rfl) ?_
    refine wpList_nil ?_
    refine wp_ret ?_
    refine g_ret (.tuple #[.slice p i c2, .int .i64 0]) (by kernel_rfl) (by kernel_rfl) ?_
    obtain rfl : i = ws.length := by omega
    rw [List.take_length] at ho
    exact ⟨_, rfl, hB, _, _, rfl, ho⟩
set_option maxRecDepth 100000 in
set_option maxHeartbeats 2000000 in
theorem Unpack_bad (a : Option Addr) (c : Nat) (l : List UInt8) (aw : Option Addr) (cw : Nat) (ws : List Nat) (W : World) (hk : ∀ i, i < ws.length → ws.getD i 0 = 1 ∨ ws.getD i 0 = 2 ∨ ws.getD i 0 = 4 ∨ ws.getD i 0 = 8) (hs : ws.sum ≤ l.length) (hl : l.length ≤ 100000000) (hw : ws.length ≤ 1000) (h : Bys W (.slice a l.length c) l) (hws : Sl W (.slice aw ws.length cw) ws.length (ws.map nv)) (hq : ¬ ∀ i, i < ws.length → (unpL l 0 ws).getD i 0 < 9223372036854775808) :
    Calls Try.prog 61 #[.slice a l.length c, .slice aw ws.length cw] W (Ret (.tuple #[.slice none 0 0, .int .i64 2]) W) := by
  refine calls_of_wp Try.func61 rfl ?_
  refine g_fr ⟨#[.slice a l.length c, .slice aw ws.length cw, undef, undef, undef, undef, undef, undef, undef, undef, undef, undef, undef, undef, undef, undef, undef, undef, undef, undef, undef, undef, undef, undef, undef, undef, undef, undef, undef, undef, undef, undef, undef, undef, undef, undef, undef], []⟩ (by kernel_rfl) ?_
  refine wp_seq ?_
  refine wp_region_lit ?_
  refine g_pv 2 [(4, .slice none 0 0), (5, .int .i64 0)] (by kernel_rfl) ?_
  refine wpList_nil ?_
  refine wp_seq ?_
  refine wp_region_lit ?_
  refine g_pv 1 [(6, .slice none 0 0)] (by kernel_rfl) ?_
  refine wpList_nil ?_
  refine wp_seq ?_
  refine wp_region_lit ?_
  refine g_pv 1 [(7, .int .i64 0)] (by kernel_rfl) ?_
  refine wpList_nil ?_
  refine wp_seq ?_
  refine wp_seq ?_
  refine wp_region_lit ?_
  refine g_pv 3 [(12, .slice aw ws.length cw), (13, .int .i64 (↑ws.length : Int)), (14, .int .i64 0)] (by kernel_rfl) ?_
  refine wpList_nil ?_
  refine wp_block ?_
  refine g_fr ⟨#[.slice a l.length c, .slice aw ws.length cw, undef, undef, .slice none 0 0, .int .i64 0, .slice none 0 0, .int .i64 0, undef, undef, undef, undef, .slice aw ws.length cw, .int .i64 (↑ws.length : Int), .int .i64 0, undef, undef, undef, undef, undef, undef, undef, undef, undef, undef, undef, undef, undef, undef, undef, undef, undef, undef, undef, undef, undef, undef], []⟩ (by kernel_rfl) ?_
  have hB := Below.refl W.heap.size W
  refine wp_loop (fun act V => ∃ (i : Nat) (p : Option Addr) (c2 : Nat) (x1 : Nat → Value), act = ⟨#[.slice a l.length c, .slice aw ws.length cw, undef, undef, (x1 0), (x1 1), .slice p i c2, .int .i64 (↑(ws.take i).sum : Int), undef, (x1 2), (x1 3), (x1 4), .slice aw ws.length cw, .int .i64 (↑ws.length : Int), .int .i64 (↑i : Int), (x1 5), (x1 6), (x1 7), (x1 8), (x1 9), (x1 10), (x1 11), (x1 12), (x1 13), (x1 14), (x1 15), (x1 16), (x1 17), (x1 18), (x1 19), (x1 20), (x1 21), (x1 22), (x1 23), (x1 24), (x1 25), undef], []⟩ ∧ Below W.heap.size W V ∧ V.ownsRow W.heap.size 3 1 (.slice p i c2) i ((unpL l 0 (ws.take i)).map nv) ∧ i ≤ ws.length ∧ (∀ j, j < i → (unpL l 0 ws).getD j 0 < 9223372036854775808)) (fun act V => ws.length - ((intOf (act.tmps.getD 14 undef))).toNat) ⟨0, _, _, (pk [.slice none 0 0, .int .i64 0, undef, undef, undef, undef, undef, undef, undef, undef, undef, undef, undef, undef, undef, undef, undef, undef, undef, undef, undef, undef, undef, undef, undef, undef]), rfl, hB, World.ownsRow_nil _ _ _ _, Nat.zero_le _, ?_⟩ ?_
  · exact fun j hj => absurd hj (by omega)
  rintro _ W1 ⟨i, p, c2, x1, rfl, hB, ho, hi, hall⟩
  have hts : i < ws.length → (ws.take i).sum + ws.getD i 0 ≤ ws.sum := take_sum_le
  have hui : i < ws.length → (unpL l 0 ws).getD i 0 = rawN l (ws.take i).sum (ws.getD i 0) := fun h => by rw [unpL_get l ws 0 i h, Nat.zero_add]
  refine wp_seq ?_
  refine wp_region_lit ?_
  refine g_pv 1 [(15, .bool (decide ((↑i : Int) < (↑ws.length : Int))))] (by kernel_rfl) ?_
  refine wpList_nil ?_
  refine wp_seq ?_
  refine wp_cond_split (t := decide ((↑i : Int) < (↑ws.length : Int))) (by kernel_rfl) (fun hc2 => ?_) (fun hc2 => ?_)
  · have hc2 := of_decide_eq_true hc2
    refine wp_skip ?_
    refine wp_seq ?_
    refine wp_block ?_
    refine wp_seq ?_
    refine wp_region_lit ?_
    refine g_op (by kernel_rfl) (op_val (run_indexA (size := 1) (k := i) (b := aw) (n := ws.length) (c := cw) (i := (↑i : Int)) (ki := .i64) rfl (by kernel_rfl) (by kernel_rfl) rfl (by omega) (nv_elem hws rfl (k := i) (by omega)).1 Try.underlying27 (by kernel_rfl) W1) ?_)
    refine g_op (by kernel_rfl) (op_load (elemAddr aw (i * 1)) (.int .i64 (↑(ws.getD i 0) : Int)) rfl (by kernel_rfl) (by kernel_rfl) (nv_elem (hws.below hB) rfl (k := i) (by omega)).2 ?_)
    refine g_pv 1 [(9, .int .i64 (↑(ws.getD i 0) : Int))] (by kernel_rfl) ?_
    refine wpList_nil ?_
    refine wp_seq ?_
    refine wp_region_lit ?_
    refine g_pv 3 [(19, .slice a l.length c), (20, .int .i64 (↑(ws.take i).sum : Int)), (21, .int .i64 (↑(ws.getD i 0) : Int))] (by kernel_rfl) ?_
    refine g_op (by kernel_rfl) (op_call (lb := #[]) 38 #[.slice a l.length c, .int .i64 (↑(ws.take i).sum : Int), .int .i64 (↑(ws.getD i 0) : Int)] rfl (by kernel_rfl) (fun _ _ => by kernel_rfl) (by kernel_rfl) ((Get_gen a c (ws.take i).sum (ws.getD i 0) l _ (hk i (by omega)) (by omega) hl (h.below hB)).mono ?_))
    rintro e W3 ⟨rfl, hb3⟩
    refine ⟨_, rfl, ?_⟩
    replace hB := Bl.next hB hb3
    replace ho := own_below ho hb3
    refine g_pv 5 [(18, .tuple #[.int .i64 (getV l (ws.take i).sum (ws.getD i 0)), .int .i64 (getE l (ws.take i).sum (ws.getD i 0))]), (23, .int .i64 (getV l (ws.take i).sum (ws.getD i 0))), (24, .int .i64 (getE l (ws.take i).sum (ws.getD i 0))), (10, .int .i64 (getV l (ws.take i).sum (ws.getD i 0))), (11, .int .i64 (getE l (ws.take i).sum (ws.getD i 0)))] (by kernel_rfl) ?_
    refine wpList_nil ?_
    refine wp_seq ?_
    refine wp_seq ?_
    refine wp_region_lit ?_
    refine g_pv 2 [(25, .int .i64 (getE l (ws.take i).sum (ws.getD i 0))), (26, .bool ((getE l (ws.take i).sum (ws.getD i 0)) != (0 : Int)))] (by kernel_rfl) ?_
    refine wpList_nil ?_
    refine wp_cond_split (t := ((getE l (ws.take i).sum (ws.getD i 0)) != (0 : Int))) (by kernel_rfl) (fun hc4 => ?_) (fun hc4 => ?_)
    · have hc4 := ne_of_bne hc4
      have hgr := getE_two hc4
      refine wp_seq ?_
      refine wp_region_lit ?_
      refine g_pv 3 [(27, .int .i64 (getE l (ws.take i).sum (ws.getD i 0))), (4, .slice none 0 0), (5, .int .i64 (getE l (ws.take i).sum (ws.getD i 0)))] (by kernel_rfl) ?_
      refine wpList_nil ?_
      refine wp_ret (then_ret (inBlock_ret (then_ret (then_ret (inBlock_ret (then_ret ?_))))))
      refine g_ret (.tuple #[.slice none 0 0, .int .i64 (getE l (ws.take i).sum (ws.getD i 0))]) (by kernel_rfl) (by kernel_rfl) ?_
      rw [hgr.2]; exact ⟨rfl, hB⟩
    · have hc4 := eq_of_bne_false hc4
      have hgr := getE_zero hc4
      refine wp_skip ?_
      refine wp_seq ?_
      refine wp_region_lit ?_
      refine g_pv 2 [(28, .slice p i c2), (29, .int .i64 (getV l (ws.take i).sum (ws.getD i 0)))] (by kernel_rfl) ?_
      refine g_op (by kernel_rfl) (op_buildSlice 3 [.int .i64 (getV l (ws.take i).sum (ws.getD i 0))] rfl (by kernel_rfl) ?_)
      intro b5 W5 n5
      have g5 := n5.ge hB
      have r5_ho := own_ne ho n5
      replace hB := Bl.next hB n5.below
      replace ho := own_below ho n5.below
      have k5 := n5.blk
      refine g_op (by kernel_rfl) (op_app (e := 3) (n := i) (xs := (unpL l 0 (ws.take i)).map nv) (m := 1) (news := [.int .i64 (getV l (ws.take i).sum (ws.getD i 0))]) (.int .i64 0) 1 8 (i + 1) ((unpL l 0 (ws.take (i + 1))).map nv) rfl Try.underlying27 (by kernel_rfl) rfl (by decide) (by kernel_rfl) ho (by kernel_rfl) (k5.sl 1 1 (by decide) (by decide)) rfl (by simp [Value.oneCell']) (by unfold maxLen; omega) (by omega) hB.size (by rfl) (by rw [take_snoc (by omega), unpL_snoc, Nat.zero_add, List.map_append]; simp only [List.map_cons, List.map_nil, nv]; rw [getV_ok hgr]) ?_)
      intro p6 c6 W6 o6 hg6 hb6
      replace hB := hB.trans hb6
      refine g_pv 1 [(6, .slice p6 (i + 1) c6)] (by kernel_rfl) ?_
      refine wpList_nil ?_
      refine wp_region_lit ?_
      refine g_pv 2 [(32, .int .i64 (↑(ws.take i).sum : Int)), (33, .int .i64 (↑(ws.getD i 0) : Int))] (by kernel_rfl) ?_
      refine g_op (by kernel_rfl) (op_wrap .i64 ((↑(ws.take i).sum : Int) + (↑(ws.getD i 0) : Int)) (↑((ws.take i).sum + (ws.getD i 0)) : Int) (by kernel_rfl) ((show IntKind.i64.wrap ((↑(ws.take i).sum : Int) + (↑(ws.getD i 0) : Int)) = ((↑(ws.take i).sum : Int) + (↑(ws.getD i 0) : Int)) from by first | exact IntWalk.i64_in _ (by omega) | (simp only [IntKind.wrap]; omega)).trans (by omega)) ?_)
      refine g_pv 1 [(7, .int .i64 (↑((ws.take i).sum + (ws.getD i 0)) : Int))] (by kernel_rfl) ?_
      refine wpList_nil ?_
      refine wp_region_lit ?_
      refine g_op (by kernel_rfl) (op_wrap .i64 ((↑i : Int) + 1) (↑(i + 1) : Int) (by kernel_rfl) ((show IntKind.i64.wrap ((↑i : Int) + 1) = ((↑i : Int) + 1) from by first | exact IntWalk.i64_in _ (by omega) | (simp only [IntKind.wrap]; omega)).trans (by omega)) ?_)
      refine g_pv 1 [(14, .int .i64 (↑(i + 1) : Int))] (by kernel_rfl) ?_
      refine wpList_nil ?_
      refine g_nfr ⟨#[.slice a l.length c, .slice aw ws.length cw, undef, undef, (x1 0), (x1 1), .slice p6 (i + 1) c6, .int .i64 (↑((ws.take i).sum + (ws.getD i 0)) : Int), undef, .int .i64 (↑(ws.getD i 0) : Int), .int .i64 (getV l (ws.take i).sum (ws.getD i 0)), .int .i64 (getE l (ws.take i).sum (ws.getD i 0)), .slice aw ws.length cw, .int .i64 (↑ws.length : Int), .int .i64 (↑(i + 1) : Int), .bool (decide ((↑i : Int) < (↑ws.length : Int))), .pointer (some (elemAddr aw (i * 1))), .int .i64 (↑(ws.getD i 0) : Int), .tuple #[.int .i64 (getV l (ws.take i).sum (ws.getD i 0)), .int .i64 (getE l (ws.take i).sum (ws.getD i 0))], .slice a l.length c, .int .i64 (↑(ws.take i).sum : Int), .int .i64 (↑(ws.getD i 0) : Int), .tuple #[.int .i64 (getV l (ws.take i).sum (ws.getD i 0)), .int .i64 (getE l (ws.take i).sum (ws.getD i 0))], .int .i64 (getV l (ws.take i).sum (ws.getD i 0)), .int .i64 (getE l (ws.take i).sum (ws.getD i 0)), .int .i64 (getE l (ws.take i).sum (ws.getD i 0)), .bool ((getE l (ws.take i).sum (ws.getD i 0)) != (0 : Int)), (x1 17), .slice p i c2, .int .i64 (getV l (ws.take i).sum (ws.getD i 0)), .slice (some ⟨b5, 0, none⟩) 1 1, .slice p6 (i + 1) c6, .int .i64 (↑(ws.take i).sum : Int), .int .i64 (↑(ws.getD i 0) : Int), .int .i64 (↑((ws.take i).sum + (ws.getD i 0)) : Int), .int .i64 (↑(i + 1) : Int), undef], []⟩ (by kernel_rfl) ?_
      refine g_nfr ⟨#[.slice a l.length c, .slice aw ws.length cw, undef, undef, (x1 0), (x1 1), .slice p6 (i + 1) c6, .int .i64 (↑(ws.take (i + 1)).sum : Int), undef, .int .i64 (↑(ws.getD i 0) : Int), .int .i64 (getV l (ws.take i).sum (ws.getD i 0)), .int .i64 (getE l (ws.take i).sum (ws.getD i 0)), .slice aw ws.length cw, .int .i64 (↑ws.length : Int), .int .i64 (↑(i + 1) : Int), .bool (decide ((↑i : Int) < (↑ws.length : Int))), .pointer (some (elemAddr aw (i * 1))), .int .i64 (↑(ws.getD i 0) : Int), .tuple #[.int .i64 (getV l (ws.take i).sum (ws.getD i 0)), .int .i64 (getE l (ws.take i).sum (ws.getD i 0))], .slice a l.length c, .int .i64 (↑(ws.take i).sum : Int), .int .i64 (↑(ws.getD i 0) : Int), .tuple #[.int .i64 (getV l (ws.take i).sum (ws.getD i 0)), .int .i64 (getE l (ws.take i).sum (ws.getD i 0))], .int .i64 (getV l (ws.take i).sum (ws.getD i 0)), .int .i64 (getE l (ws.take i).sum (ws.getD i 0)), .int .i64 (getE l (ws.take i).sum (ws.getD i 0)), .bool ((getE l (ws.take i).sum (ws.getD i 0)) != (0 : Int)), (x1 17), .slice p i c2, .int .i64 (getV l (ws.take i).sum (ws.getD i 0)), .slice (some ⟨b5, 0, none⟩) 1 1, .slice p6 (i + 1) c6, .int .i64 (↑(ws.take i).sum : Int), .int .i64 (↑(ws.getD i 0) : Int), .int .i64 (↑((ws.take i).sum + (ws.getD i 0)) : Int), .int .i64 (↑(i + 1) : Int), undef], []⟩ (by rw [take_snoc (by omega), List.sum_append]; simp) ?_
      refine ⟨⟨i + 1, _, _, (pk [(x1 0), (x1 1), .int .i64 (↑(ws.getD i 0) : Int), .int .i64 (getV l (ws.take i).sum (ws.getD i 0)), .int .i64 (getE l (ws.take i).sum (ws.getD i 0)), .bool (decide ((↑i : Int) < (↑ws.length : Int))), .pointer (some (elemAddr aw (i * 1))), .int .i64 (↑(ws.getD i 0) : Int), .tuple #[.int .i64 (getV l (ws.take i).sum (ws.getD i 0)), .int .i64 (getE l (ws.take i).sum (ws.getD i 0))], .slice a l.length c, .int .i64 (↑(ws.take i).sum : Int), .int .i64 (↑(ws.getD i 0) : Int), .tuple #[.int .i64 (getV l (ws.take i).sum (ws.getD i 0)), .int .i64 (getE l (ws.take i).sum (ws.getD i 0))], .int .i64 (getV l (ws.take i).sum (ws.getD i 0)), .int .i64 (getE l (ws.take i).sum (ws.getD i 0)), .int .i64 (getE l (ws.take i).sum (ws.getD i 0)), .bool ((getE l (ws.take i).sum (ws.getD i 0)) != (0 : Int)), (x1 17), .slice p i c2, .int .i64 (getV l (ws.take i).sum (ws.getD i 0)), .slice (some ⟨b5, 0, none⟩) 1 1, .slice p6 (i + 1) c6, .int .i64 (↑(ws.take i).sum : Int), .int .i64 (↑(ws.getD i 0) : Int), .int .i64 (↑((ws.take i).sum + (ws.getD i 0)) : Int), .int .i64 (↑(i + 1) : Int)]), rfl, hB, o6, by omega, fun j hj => (Nat.lt_or_ge j i).elim (fun q => hall j q) (fun q => by obtain rfl : j = i := (by omega); rw [hui (by omega)]; exact hgr)⟩, ?_⟩
      show ws.length - ((↑(i + 1) : Int)).toNat < ws.length - ((↑i : Int)).toNat
      omega
  · have hc2 := of_decide_eq_false hc2
    refine wp_exit ?_
    refine then_exit ?_
    refine then_exit ?_
    refine inBlock_hit ?_
    refine wp_seq ?_
    refine wp_region_lit ?_
    refine g_pv 3 [(36, .slice p i c2), (4, .slice p i c2), (5, .int .i64 0)] (by kernel_rfl) ?_
    refine wpList_nil ?_
    refine wp_ret ?_
    refine g_ret (.tuple #[.slice p i c2, .int .i64 0]) (by kernel_rfl) (by kernel_rfl) ?_
    exact absurd (fun j hj => hall j (by omega)) hq
end Go.Proofs.Ytoiblgeheblddaa

