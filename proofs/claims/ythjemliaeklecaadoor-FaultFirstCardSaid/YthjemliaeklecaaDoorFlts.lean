/- A slice of structs, each a slice of ints and an int: how a law's argument reads. No program is named here. -/
import Derived.Test.YthjemliaeklecaaDoorOpen
import Derived.Deep.Slices
import Derived.Deep.Fields
import Derived.ChangeSame
namespace Go.Proofs.YthjemliaeklecaaDoor
open Go.ChangeShapes Go.WideShapes Go.ChangeAt Go.RowKit Go.Joins Go.Deep
set_option linter.unusedVariables false

def Flts (w : World) (v : Value) (L : List (List Int × Int)) : Prop :=
  ∃ a c, v = .slice a L.length c ∧ L.length ≤ 9223372036854775807 ∧ ∀ i (h : i < L.length), ∃ b off s, a = some ⟨b, off, none⟩ ∧ w.cell? ⟨b, off + i * 2, none⟩ = some s ∧ w.cell? ⟨b, off + i * 2 + 1, none⟩ = some (.int .i64 L[i].2) ∧ Ints w s L[i].1
theorem Flts.below {w w' : World} {v : Value} {L : List (List Int × Int)} (h : Flts w v L) (hb : Below w.heap.size w w') : Flts w' v L := by
  obtain ⟨a, c, h1, h2, h3⟩ := h
  refine ⟨a, c, h1, h2, fun i hi => ?_⟩
  obtain ⟨b, off, s, k1, k2, k3, k4⟩ := h3 i hi
  exact ⟨b, off, s, k1, getC hb k2, getC hb k3, k4.below hb⟩

theorem flts_open {H : Type} {enc : TypeId × Value → H} {P : Program} {W : World} {r : Reach} {b0 : Nat} {t e u : TypeId} {f0 f1 : Field} {v : Value} {d : DataW H} {p : List MemPlace} (ht : P.underlying t = some (.slice e)) (he : P.underlying e = some (.struct #[f0, f1]))
    (hone : oneCellFields P #[f0, f1] = true) (hC : P.cellsOf e = 2) (h0 : P.underlying f0.type = some (.slice u)) (hu : P.underlying u = some (.int .i64)) (hCu : P.cellsOf u = 1) (h1 : P.underlying f1.type = some (.int .i64))
    (hv : Value.okWide P W r b0 t v) (h : DataW.Trod enc P W 0 (fun _ => true) true t v d p) : ∃ L, Flts W v L := by
  obtain ⟨a, len, cap, rfl⟩ := okWide_slice ht hv
  obtain ⟨fuel, hf⟩ := h
  rcases open_slice ht hf with ⟨hcs, _⟩ | ⟨x, l, c, m, n, D, Pl, hcs, _, hl, hm, hmm, _, hi⟩
  · simp [Value.cells] at hcs
    obtain ⟨rfl, rfl, rfl⟩ := hcs
    exact ⟨[], _, _, rfl, by simp, fun i hi => absurd hi (by simp)⟩
  · simp [Value.cells] at hcs
    obtain ⟨rfl, rfl, rfl⟩ := hcs
    obtain ⟨b, off, spot⟩ := x
    have hml : len ≤ m := by rw [hmm]; simp; omega
    by_cases hlen : len = 0
    · subst hlen
      exact ⟨[], _, _, rfl, by simp, fun i hi => absurd hi (by simp)⟩
    have hspot : spot = none := by
      obtain ⟨cs, hc, htr⟩ := hi 0 (by omega)
      rw [hC] at hc
      obtain ⟨_, hcl, hat⟩ := World.cells?_some hc
      have a0 := hat 0 (by omega)
      rw [List.getElem?_eq_getElem (by omega)] at a0
      simpa [Addr.add] using World.cell?_spot a0
    subst hspot
    have eA : ∀ o n, (⟨b, o, none⟩ : Addr).add n = ⟨b, o + n, none⟩ := by intro o n; unfold Addr.add; split <;> simp_all
    have each : ∀ i : Fin len, ∃ q : List Int × Int, ∃ s, W.cell? ⟨b, off + i.val * 2, none⟩ = some s ∧ W.cell? ⟨b, off + i.val * 2 + 1, none⟩ = some (.int .i64 q.2) ∧ Ints W s q.1 := by
      intro i
      obtain ⟨cs, hc, htr⟩ := hi i.val (by have := i.2; omega)
      rw [hC] at hc
      obtain ⟨_, hcl, hat⟩ := World.cells?_some hc
      obtain ⟨y0, y1, n', _, _, t0, t1⟩ := trod_struct2 he htr
      obtain ⟨o0, k0⟩ := hone_of hone 0 f0 rfl
      obtain ⟨o1, k1⟩ := hone_of hone 1 f1 rfl
      match cs, hcl with
      | [c0, c1], _ =>
        have a0 := hat 0 (by omega)
        have a1 := hat 1 (by omega)
        rw [o0, k0] at t0
        rw [o1, k1] at t1
        obtain ⟨q1, hq1, _⟩ := ints_trod (v := c0) h0 hu hCu (by simpa using t0)
        obtain ⟨z, hz, _, _⟩ := DataW.trod_int (cs := [c1]) h1 (by simpa using t1)
        simp only [List.cons.injEq, and_true] at hz
        subst hz
        refine ⟨(q1, z), c0, ?_, ?_, hq1⟩
        · rw [eA, eA] at a0; exact a0
        · rw [eA, eA] at a1; exact a1
    refine ⟨List.ofFn fun i => Classical.choose (each i), _, _, by rw [List.length_ofFn], by rw [List.length_ofFn]; unfold maxLen at hm; omega, fun i hi' => ?_⟩
    have hi2 : i < len := by simpa using hi'
    obtain ⟨s, k1, k2, k3⟩ := Classical.choose_spec (each ⟨i, hi2⟩)
    refine ⟨b, off, s, rfl, k1, ?_, ?_⟩
    · rw [List.getElem_ofFn]; exact k2
    · rw [List.getElem_ofFn]; exact k3
end Go.Proofs.YthjemliaeklecaaDoor
