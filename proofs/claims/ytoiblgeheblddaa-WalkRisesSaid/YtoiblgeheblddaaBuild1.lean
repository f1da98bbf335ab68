/- (*Alloc).Image, and build.right at entries that are right. -/
import Derived.Test.YtoiblgeheblddaaNodePut
import Derived.Test.YtoiblgeheblddaaAlloc
namespace Go.Proofs.Ytoiblgeheblddaa
open Go.RowKit Go.Extern.Stop Go.Stop Go.Extern
set_option linter.unusedVariables false
attribute [local irreducible] wpList wpAnyH Code.wp Oper.wp

/-- an entry: its key, its value, its block -/
abbrev Ent := Int × List UInt8 × Int
def entD : Ent := (0, [], 0)
def entC (x : Ent) : List Value := [.int .i64 x.1, .string ⟨x.2.1.toArray⟩, .int .i64 x.2.2]
theorem entC_len (x : Ent) : (entC x).length = 3 := rfl
/-- the key ahead of entry i -/
def lastK (l : List Ent) : Nat → Int
  | 0 => -1
  | i + 1 => (l.getD i entD).1
/-- entries that a tree may be built of -/
structure EntsOk (v : Nat) (l : List Ent) : Prop where
  hk : ∀ i, i < l.length → 0 ≤ (l.getD i entD).1 ∧ (l.getD i entD).1 ≤ 281474976710655
  hs : ∀ j, j + 1 < l.length → (l.getD j entD).1 < (l.getD (j + 1) entD).1
  hw : ∀ i, i < l.length → (l.getD i entD).2.1.length = v
theorem EntsOk.last {v : Nat} {l : List Ent} (E : EntsOk v l) {i : Nat} (h : i < l.length) : lastK l i < (l.getD i entD).1 := by
  cases i with
  | zero => have := (E.hk 0 h).1; simp only [lastK]; omega
  | succ j => exact E.hs j h
theorem levs_ge (x : Nat) : x ≤ (levs x).sum := by
  by_cases h : x ≤ 1
  · rw [levs_one h]; simp
  · rw [levs_more h]; simp
theorem nodN_pos (t : Int) (n : Nat) : 1 ≤ nodN t n := by
  have h1 := levs_ge (ovN n (maxN t true)); have h2 := ovN_pos n (maxN t true); unfold nodN levL; omega
end Go.Proofs.Ytoiblgeheblddaa

