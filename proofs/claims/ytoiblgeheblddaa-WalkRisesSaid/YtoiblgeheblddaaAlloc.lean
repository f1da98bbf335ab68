/- Package alloc at an image of its own: New, Next, Lay, Left, Used. -/
import Derived.Test.YtoiblgeheblddaaImage
namespace Go.Proofs.Ytoiblgeheblddaa
open Go.RowKit Go.Extern.Stop Go.Stop Go.Extern
set_option linter.unusedVariables false
attribute [local irreducible] wpList wpAnyH Code.wp Oper.wp

/-- j numbers from f on -/
def rngJ (f j : Nat) : List Int := (List.range j).map fun i => ((f + i : Nat) : Int)
theorem rngJ_succ (f j : Nat) : rngJ f (j + 1) = rngJ f j ++ [((f + j : Nat) : Int)] := by simp [rngJ, List.range_succ]
theorem rngJ_get {f N k : Nat} (h : k < N) : (rngJ f N).getD k 0 = ((f + k : Nat) : Int) := by simp [rngJ, List.getD, List.getElem?_range h]
theorem rngJ_len (f j : Nat) : (rngJ f j).length = j := by simp [rngJ]
/-- what never changes of it -/
structure AlC (B ba n c ca f N : Nat) : Prop where
  hn : n ≤ 3686400
  hc : n ≤ c
  hca : N ≤ ca
  hf : f + N ≤ n / 256
  hB : B ≤ ba
theorem IntsN.elem {w : World} {b : Option Addr} {n c : Nat} {l : List Int} (h : Sl w (.slice b n c) n (l.map (Value.int .i64))) (hl : l.length = n) {k : Nat} (hk : k < n) : b.isSome = true ∧ w.cell? (elemAddr b (k * 1)) = some (.int .i64 (l.getD k 0)) := by
  subst hl; exact Ints.elem h hk
theorem Only.mono {T T' : List TypeId} {w w' : World} (h : Only T w w') (hT : ∀ t, T'.contains t = false → T.contains t = false) : Only T' w w' := fun k cs t fr hk ht => h k cs t fr hk (hT t ht)
end Go.Proofs.Ytoiblgeheblddaa

