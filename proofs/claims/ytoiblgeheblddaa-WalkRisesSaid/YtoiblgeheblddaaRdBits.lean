/- bits.Read. -/
import Derived.Test.YtoiblgeheblddaaRd2
namespace Go.Proofs.Ytoiblgeheblddaa
open Go.RowKit Go.Extern.Stop Go.Stop Go.Extern
set_option linter.unusedVariables false
attribute [local irreducible] wpList wpAnyH Code.wp Oper.wp

section
variable {P : Program} {a : Act}
theorem run_shrU8 {o : Oper} {t t2 : TypeId} {x y : Operand} {n s : Nat} {j : Int} {kj : IntKind} (ho : o.op = .binOp .shr t x y t2) (hx : a.eval x = .int .u8 (n : Int)) (hy : a.eval y = .int kj j) (hj : j = (s : Int)) (hs : s ≤ 8) (w : World) : (execOp a.eval o).run P w = .ok (.value (.int .u8 ((n / 2 ^ s : Nat) : Int))) w := by
  subst hj
  have e := shift_shr_u8 kj (n : Int) (s : Int) (Int.natCast_nonneg s) (by omega)
  simp only [execOp, ho, hx, hy, eqGuard_shr, binOp_shr, e]
  simp
end
theorem Get_okN (a : Option Addr) (n c k w : Nat) (ki wi : Int) (l : List UInt8) (W : World) (hn : l.length = n) (hki : ki = (k : Int)) (hwi : wi = (w : Int)) (hw : w = 1 ∨ w = 2 ∨ w = 4) (hk : k + w ≤ n) (hl : n ≤ 100000000) (h : Bys W (.slice a n c) l) :
    Calls Try.prog 38 #[.slice a n c, .int .i64 ki, .int .i64 wi] W (Ret (.tuple #[.int .i64 (rawN l k w : Int), .int .i64 0]) W) := by
  subst hn hki hwi; exact Get_ok a c k w l W (by omega) hk hl h (by have := rawN_lt4 l k w (by omega); omega)
/-- the i-th count of a block of bits -/
def bitN (l : List UInt8) (i : Nat) : Nat := (l.getD (4 + i / 4) 0).toNat / 2 ^ (i % 4 * 2) % 4
theorem i64_and3 {n : Nat} (h : n < 9223372036854775808) : IntKind.i64.wrap (↑(BitVec.ofInt 64 (n : Int) &&& BitVec.ofInt 64 (3 : Int)).toNat : Int) = ((n % 4 : Nat) : Int) := by
  rw [show (3 : Int) = ((3 : Nat) : Int) from rfl, BitVec.ofInt_natCast, BitVec.ofInt_natCast, BitVec.toNat_and, BitVec.toNat_ofNat, BitVec.toNat_ofNat, Nat.mod_eq_of_lt (by omega), Nat.mod_eq_of_lt (by omega)]
  rw [show n &&& 3 = n % 4 from Nat.and_two_pow_sub_one_eq_mod n 2]
  exact i64_nat (by omega)
theorem quo_natB (n k : Nat) (hn : n < 9223372036854775808) (hk : 0 < k) : IntKind.i64.wrap (Int.tdiv (n : Int) (k : Int)) = ((n / k : Nat) : Int) := by
  rw [Int.tdiv_eq_ediv_of_nonneg (Int.natCast_nonneg _), ← Int.natCast_ediv]
  exact i64_nat (Nat.lt_of_le_of_lt (Nat.div_le_self _ _) hn)
theorem tmod_natB (n k : Nat) : Int.tmod (n : Int) (k : Int) = ((n % k : Nat) : Int) := by
  rw [Int.tmod_eq_emod_of_nonneg (Int.natCast_nonneg _), ← Int.natCast_emod]
theorem shr_lt (l : List UInt8) (k s : Nat) : (l.getD k 0).toNat / 2 ^ s < 256 := Nat.lt_of_le_of_lt (Nat.div_le_self _ _) (l.getD k 0).toNat_lt
def bitsL (l : List UInt8) (n : Nat) : List Nat := (List.range n).map (bitN l)
theorem bitsL_snoc (l : List UInt8) (n : Nat) : bitsL l (n + 1) = bitsL l n ++ [bitN l n] := by simp [bitsL, List.range_succ]
/-- whether bytes are a block of counts -/
def bitsOk (l : List UInt8) : Prop := l.length = 244 ∧ rawN l 0 4 ≤ 960 ∧ ∀ i, i < 960 → rawN l 0 4 ≤ i → bitN l i = 0
def BitsP (l : List UInt8) (w : World) (e : Ending) (w' : World) : Prop :=
  (¬ bitsOk l ∧ e = .returned (.tuple #[.slice none 0 0, .int .i64 7]) ∧ Below w.heap.size w w') ∨
  (bitsOk l ∧ ∃ p c, e = .returned (.tuple #[.slice p (rawN l 0 4) c, .int .i64 0]) ∧ Below w.heap.size w w' ∧ w'.ownsRow w.heap.size 3 1 (.slice p (rawN l 0 4) c) (rawN l 0 4) ((bitsL l (rawN l 0 4)).map nv))
end Go.Proofs.Ytoiblgeheblddaa

