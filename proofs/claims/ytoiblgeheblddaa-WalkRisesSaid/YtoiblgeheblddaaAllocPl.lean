/- Lemmas for the law AllocOnce: remainders, bytes as a string, blocks laid one behind the other. -/
import Derived.Test.YtoiblgeheblddaaAlloc
namespace Go.Proofs.Ytoiblgeheblddaa
open Go.RowKit Go.Extern.Stop Go.Stop Go.Extern
set_option linter.unusedVariables false
attribute [local irreducible] wpList wpAnyH Code.wp Oper.wp

theorem tmod_bd (x : Int) {m : Nat} (hm : 0 < m) : -(m : Int) < Int.tmod x m ∧ Int.tmod x m < m := by
  have h1 := Int.tmod_lt_of_pos x (b := (m : Int)) (by omega)
  have h2 := Int.tmod_lt_of_pos (-x) (b := (m : Int)) (by omega)
  rw [Int.neg_tmod] at h2
  omega
theorem tmod_nn {x : Int} (hx : 0 ≤ x) (m : Nat) : 0 ≤ Int.tmod x m := Int.tmod_nonneg _ hx
theorem run_rem {P : Program} {a : Act} {o : Oper} {t : TypeId} {x y : Operand} {t2 : TypeId} {p q r : Int} {k : IntKind} (ho : o.op = .binOp .rem t x y t2) (hx : a.eval x = .int k p) (hy : a.eval y = .int k q) (hq : q ≠ 0) (hr : Int.tmod p q = r) (w : World) :
    (execOp a.eval o).run P w = .ok (.value (.int k r)) w := by
  subst hr
  have hb : (binOp .rem t (.int k p) (.int k q)).run P w = .ok (.int k (p.tmod q)) w := by
    simp [binOp, Op.intDiv, hq]
  have hg : (eqGuard .rem t x y (.int k p) (.int k q)).run P w = .ok () w := rfl
  simp only [execOp, ho, hx, hy, Sem.run_bind, hg, Result.andThen_ok, hb]
  rfl
theorem run_bstr {P : Program} {a : Act} {o : Oper} {src dst e : TypeId} {x : Operand} {b : Option Addr} {n c : Nat} {l : List UInt8} {w : World} (ho : o.op = .convert src dst x) (hx : a.eval x = .slice b n c) (h : Bys w (.slice b n c) l) (hl : l.length = n)
    (hs : P.underlying src = some (.slice e)) (he : P.underlying e = some (.int .u8)) (hd : P.underlying dst = some .string) : (execOp a.eval o).run P w = .ok (.value (.string ⟨l.toArray⟩)) w := by
  have hr : (convert src dst (.slice b n c)).run P w = .ok (.string ⟨l.toArray⟩) w := by
    subst hl
    rcases Sl.at h with hn | ⟨g, off, rfl, hc⟩
    · obtain rfl : l = [] := by simpa using hn
      cases b with
      | none => rw [run_convert_bytes_string w src dst e none _ c hs he hd]; rfl
      | some p => exact run_convert_bytes_back w src dst e p c [] hs he hd (fun j hj => by simp at hj)
    · exact run_convert_bytes_back w src dst e _ c l hs he hd (fun j hj => by rw [Addr.add_mid]; exact hc j _ (by simp [List.getElem?_eq_getElem hj, bv]))
  simp only [execOp, ho, hx, Sem.run_bind, hr]; rfl
theorem u8_nat (n : Nat) : IntKind.u8.wrap (n : Int) = ((UInt8.ofNat n).toNat : Int) := by simp [IntKind.wrap, IntKind.bits, IntKind.signed]
theorem own_someN {w : World} {base n c size : Nat} {e : TypeId} {p : Option Addr} {xs : List Value} (h : w.ownsRow base e size (.slice p n c) n xs) (hn : 0 < n) : ∃ g, p = some ⟨g, 0, none⟩ ∧ n ≤ c := by
  rcases h.2 with ⟨_, h0⟩ | ⟨g, cap, cur, hv, _, _, hc, _⟩
  · omega
  · simp only [Value.slice.injEq] at hv; exact ⟨g, hv.1, by omega⟩
/-- k blocks from f on, each sealed -/
def layB (l : List UInt8) (kind : Int) (f : Nat) : Nat → List UInt8
  | 0 => l
  | k + 1 => putB (layB l kind f k) ((f + k) * 256) (sealB kind ((f + k : Nat) : Int) [UInt8.ofNat (f + k)])
set_option maxRecDepth 100000 in
theorem layB_len {l : List UInt8} {kind : Int} {f : Nat} : ∀ {k : Nat}, (f + k) * 256 ≤ l.length → (layB l kind f k).length = l.length
  | 0, _ => by simp only [layB]
  | k + 1, h => by
    have ih := layB_len (kind := kind) (f := f) (k := k) (l := l) (by omega)
    rw [layB, putB_len (by rw [sealB_len (by simp), ih]; omega), ih]
theorem putB_take {l : List UInt8} {k m : Nat} {x : List UInt8} (h : m ≤ k) (hk : k ≤ l.length) : (putB l k x).take m = l.take m := by
  unfold putB
  rw [List.append_assoc, List.take_append_of_le_length (by rw [List.length_take]; omega), List.take_take, Nat.min_eq_left h]
set_option maxRecDepth 100000 in
theorem layB_take {l : List UInt8} {kind : Int} {f : Nat} : ∀ {k : Nat}, (f + k) * 256 ≤ l.length → (layB l kind f k).take (256 * f) = l.take (256 * f)
  | 0, _ => by simp only [layB]
  | k + 1, h => by
    rw [layB, putB_take (by omega) (by rw [layB_len (by omega)]; omega), layB_take (by omega)]
theorem Bys.cap {w : World} {a : Option Addr} {n c : Nat} {l : List UInt8} (h : Bys w (.slice a n c) l) (hl : l.length = n) : n ≤ c := by
  rcases h with ⟨a', c', h1, h2, _⟩ | ⟨b, off, cap, h1, h2, _, _⟩
  · omega
  · simp only [Value.slice.injEq] at h1; omega
theorem image_OfN (a : Option Addr) (c n m : Nat) (l : List UInt8) (w : World) (hn : l.length = n) (hm : min (n / 256) 14400 * 256 = m) (h : Bys w (.slice a n c) l) (hl : n ≤ 100000000) (hc : n ≤ c) :
    Calls Try.prog 5 #[.slice a n c] w (RetS (fun w' r => ∃ b p c, r = .pointer (some ⟨b, 0, none⟩) ∧ w.heap.size ≤ b ∧ Blk w' b [.slice p m c] 50 ∧ w'.ownsRow w.heap.size 5 1 (.slice p m c) m ((l.take m).map bv)) w) := by
  subst hn hm; exact image_Of a c l w h hl hc
end Go.Proofs.Ytoiblgeheblddaa

