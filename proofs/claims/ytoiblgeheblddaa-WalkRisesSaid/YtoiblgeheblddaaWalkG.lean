/- The lists of a scan only grow. -/
import Derived.Test.YtoiblgeheblddaaChild
namespace Go.Proofs.Ytoiblgeheblddaa
open Go.RowKit Go.Extern.Stop Go.Stop Go.Extern
set_option linter.unusedVariables false
def Grow (s t : WS) : Prop := s.es.length ≤ t.es.length ∧ s.bs.length ≤ t.bs.length ∧ s.fs.length ≤ t.fs.length
theorem Grow.refl (s : WS) : Grow s s := ⟨Nat.le_refl _, Nat.le_refl _, Nat.le_refl _⟩
theorem Grow.trans {s t u : WS} (h : Grow s t) (k : Grow t u) : Grow s u := ⟨Nat.le_trans h.1 k.1, Nat.le_trans h.2.1 k.2.1, Nat.le_trans h.2.2 k.2.2⟩
theorem noteW_grow (way bs : List Int) (c : Int) (s : WS) : Grow s (noteW way bs c s) := ⟨Nat.le_refl _, Nat.le_refl _, by simp [noteW]⟩
theorem childW_grow {V : List Int → Int → Int → Int → WS → WS} (hV : ∀ way no lo hi s, Grow s (V way no lo hi s)) (way : List Int) (no : Int) (val : List UInt8) (p : Int × Int) (s : WS) : Grow s (childW V way no val p s) := by
  unfold childW
  split
  · exact hV _ _ _ _ _
  · exact noteW_grow _ _ _ _
theorem roundW_grow {V : List Int → Int → Int → Int → WS → WS} (hV : ∀ way no lo hi s, Grow s (V way no lo hi s)) (l : List UInt8) (way : List Int) (no hi : Int) (s : WS) (i : Nat) : Grow s (roundW V l way no hi s i) := by
  unfold roundW
  split
  · exact Grow.refl _
  · exact childW_grow hV _ _ _ _ _
theorem loopW_grow {V : List Int → Int → Int → Int → WS → WS} (hV : ∀ way no lo hi s, Grow s (V way no lo hi s)) (l : List UInt8) (way : List Int) (no hi : Int) (s : WS) {k n : Nat} (hk : k ≤ n) : Grow (loopW V l way no hi k s) (loopW V l way no hi n s) := by
  induction n with
  | zero => obtain rfl : k = 0 := by omega
            exact Grow.refl _
  | succ n ih =>
    rcases Nat.lt_or_ge n k with q | q
    · obtain rfl : k = n + 1 := by omega
      exact Grow.refl _
    · rw [loopW_succ]
      exact (ih q).trans (roundW_grow hV _ _ _ _ _ _)
theorem loopW_zero (V : List Int → Int → Int → Int → WS → WS) (l : List UInt8) (way : List Int) (no hi : Int) (s : WS) : loopW V l way no hi 0 s = s := rfl
theorem visitF_grow (l : List UInt8) (tree fuel : Int) : ∀ (d : Nat) (way : List Int) (no lo hi : Int) (s : WS), Grow s (visitF l tree fuel d way no lo hi s)
  | 0, _, _, _, _, s => Grow.refl s
  | d + 1, way, no, lo, hi, s => by
    unfold visitF
    split
    · exact ⟨Nat.le_refl _, Nat.le_refl _, by simp [noteW]⟩
    · split
      · exact ⟨Nat.le_refl _, Nat.le_refl _, by simp [noteW]⟩
      · split
        · exact ⟨by simp, by simp, Nat.le_refl _⟩
        · refine Grow.trans ⟨?_, ?_, ?_⟩ (loopW_grow (visitF_grow l tree fuel d) l way no hi _ (Nat.zero_le _))
          · exact Nat.le_refl _
          · simp [loopW_zero]
          · exact Nat.le_refl _
/-- looked never falls -/
theorem visitF_looked (l : List UInt8) (tree fuel : Int) : ∀ (d : Nat) (way : List Int) (no lo hi : Int) (s : WS), s.looked ≤ (visitF l tree fuel d way no lo hi s).looked
  | 0, _, _, _, _, s => Nat.le_refl _
  | d + 1, way, no, lo, hi, s => by
    have hl : ∀ (k : Nat) (t : WS), t.looked ≤ (loopW (visitF l tree fuel d) l way no hi k t).looked := by
      intro k t
      induction k with
      | zero => exact Nat.le_refl _
      | succ k ih =>
        rw [loopW_succ]
        refine Nat.le_trans ih ?_
        unfold roundW
        split
        · exact Nat.le_refl _
        · unfold childW
          split
          · exact visitF_looked l tree fuel d _ _ _ _ _
          · exact Nat.le_refl _
    unfold visitF
    split
    · exact Nat.le_refl _
    · split
      · exact Nat.le_succ _
      · split
        · exact Nat.le_succ _
        · exact Nat.le_trans (Nat.le_succ _) (hl (nodC (inB l no)) { s with looked := s.looked + 1, bs := s.bs ++ [no] })
section
variable {B bw Bi b : Nat} {pi : Option Addr} {ni ci : Nat} {l : List UInt8} {tree fuel : Int} {way : List Int} {s : WS} {pe pb pf pw : Option Addr} {ce cb cf cw : Nat} {fv : List Value} {w W : World}
theorem WalkR.below (h : WalkR B bw Bi b pi ni ci l tree fuel way s pe pb pf pw ce cb cf cw fv w) (hb : Below w.heap.size w W) : WalkR B bw Bi b pi ni ci l tree fuel way s pe pb pf pw ce cb cf cw fv W :=
  ⟨h.blk.below hb, own_below h.ents hb, own_below h.blks hb, own_below h.flts hb, h.fltv.below hb, own_below h.ways hb, h.apart, h.img.below hb⟩
theorem WalkR.only {T : List TypeId} (h : WalkR B bw Bi b pi ni ci l tree fuel way s pe pb pf pw ce cb cf cw fv w) (hO : Only T w W)
    (hT : T.contains 53 = false ∧ T.contains 33 = false ∧ T.contains 3 = false ∧ T.contains 38 = false ∧ T.contains 64 = false ∧ T.contains 50 = false ∧ T.contains 5 = false) : WalkR B bw Bi b pi ni ci l tree fuel way s pe pb pf pw ce cb cf cw fv W :=
  ⟨h.blk.only hO hT.1, own_only h.ents hO hT.2.1, own_only h.blks hO hT.2.2.1, own_only h.flts hO hT.2.2.2.1, h.fltv.only hO hT.2.2.2.2.1, own_only h.ways hO hT.2.2.1, h.apart, h.img.only hO ⟨hT.2.2.2.2.2.1, hT.2.2.2.2.2.2⟩⟩
end
end Go.Proofs.Ytoiblgeheblddaa

