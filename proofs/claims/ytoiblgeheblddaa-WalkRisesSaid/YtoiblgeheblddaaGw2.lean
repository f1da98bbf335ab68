/- More rules for printed walks. No program is named here. -/
import Derived.Test.YtoiblgeheblddaaGw
namespace Go.Proofs.Ytoiblgeheblddaa
open Go.RowKit
set_option linter.unusedVariables false
section
variable {P : Program} {Q : Exit → Act → World → Prop} {a : Act} {w : World} {K : Act → World → Prop}
/-- a cut of a slice at both bounds, its capacity cut too -/
theorem run_slice3 {o : Oper} {t e : TypeId} {x y y2 y3 : Operand} {b off n k h c : Nat} {i j j2 : Int} {ki kj kj2 : IntKind} (size off' d : Nat) (ho : o.op = .slice t x (some y) (some y2) (some y3)) (hx : a.eval x = .slice (some ⟨b, off, none⟩) n c) (hy : a.eval y = .int ki i) (hi : i = (k : Int)) (hy2 : a.eval y2 = .int kj j) (hj : j = (h : Int)) (hy3 : a.eval y3 = .int kj2 j2) (hj2 : j2 = (h : Int))
    (hk : k < h) (hc : h ≤ c) (hoff : off + k * size = off') (hd : h - k = d) (ht : P.underlying t = some (.slice e)) (hs : (P.info? e).map (·.size) = some size) (w : World) : (execOp a.eval o).run P w = .ok (.value (.slice (some ⟨b, off', none⟩) d d)) w := by
  cases hq : P.info? e with
  | none => simp [hq] at hs
  | some q =>
    have hj : q.size = size := by simpa [hq] using hs
    subst hi hj hj2 hoff hd
    have h1 : (0 : Int) ≤ (k : Int) := by omega
    have h2 : (0 : Int) ≤ (h : Int) := by omega
    have h3 : (k : Int) ≤ (h : Int) := by omega
    have h4 : (h : Int) ≤ (c : Int) := by omega
    have h5 : ¬ h = k := by omega
    simp_all [execOp, Instr.sliceAt, Instr.slice, Instr.sliceBounds, Instr.sliceBound, asIntOf, run_underlying ht, sizeOf, typeInfo, Addr.add_mid]
/-- where a slice begins that is cut at k -/
def cutA (b : Option Addr) (k c size : Nat) : Option Addr := if c = k then b else b.map (·.add (k * size))
theorem run_sliceLA {o : Oper} {t e : TypeId} {x y : Operand} {b : Option Addr} {n k c : Nat} {i : Int} {ki : IntKind} (size : Nat) (ho : o.op = .slice t x (some y) none none) (hx : a.eval x = .slice b n c) (hy : a.eval y = .int ki i) (hi : i = (k : Int)) (hk : k ≤ n)
    (ht : P.underlying t = some (.slice e)) (hs : (P.info? e).map (·.size) = some size) (w : World) : (execOp a.eval o).run P w = .ok (.value (.slice (cutA b k c size) (n - k) (c - k))) w := by
  cases hq : P.info? e with
  | none => simp [hq] at hs
  | some j =>
    have hj : j.size = size := by simpa [hq] using hs
    subst hi
    have h1 : (0 : Int) ≤ (k : Int) := by omega
    have h2 : (k : Int) ≤ (n : Int) := by omega
    by_cases h3 : c = k
    · simp [execOp, ho, hx, hy, Instr.sliceAt, Instr.slice, Instr.sliceBounds, Instr.sliceBound, asIntOf, run_underlying ht, sizeOf, typeInfo, hq, hk, h3, cutA]
    · simp [execOp, ho, hx, hy, Instr.sliceAt, Instr.slice, Instr.sliceBounds, Instr.sliceBound, asIntOf, run_underlying ht, sizeOf, typeInfo, hq, hj, hk, h3, cutA]
end
end Go.Proofs.Ytoiblgeheblddaa

