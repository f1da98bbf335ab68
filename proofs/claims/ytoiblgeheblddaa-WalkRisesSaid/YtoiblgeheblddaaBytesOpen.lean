/- How a slice of bytes that came in reads: as a list of bytes. -/
import Derived.Test.YtoiblgeheblddaaOpen
import Derived.Test.YtoiblgeheblddaaBytes
namespace Go.Proofs.Ytoiblgeheblddaa
open Go.ChangeShapes Go.WideShapes Go.ChangeAt Go.RowKit Go.Joins
set_option linter.unusedVariables false
theorem bytes_open {H : Type} {enc : TypeId × Value → H} {P : Program} {W : World} {r : Reach} {b0 : Nat} {t e : TypeId} {v : Value} {d : DataW H} {p : List MemPlace} (ht : P.underlying t = some (.slice e)) (he : P.underlying e = some (.int .u8)) (hC : P.cellsOf e = 1)
    (hv : Value.okWide P W r b0 t v) (h : DataW.Trod enc P W 0 (fun _ => true) true t v d p) : ∃ l, Bys W v l := by
  obtain ⟨a, len, cap, rfl⟩ := okWide_slice ht hv
  obtain ⟨fuel, hf⟩ := h
  rcases open_ints ht he hC hf with ⟨hcs, _⟩ | ⟨x, l, c, zs, hcs, _, hl, hm, hz, _, hcell, hwz⟩
  · simp [Value.cells] at hcs
    obtain ⟨rfl, rfl, rfl⟩ := hcs
    exact ⟨[], .inl ⟨_, _, rfl, rfl, rfl⟩⟩
  · simp [Value.cells] at hcs
    obtain ⟨rfl, rfl, rfl⟩ := hcs
    have hz' : zs.length = cap := by simpa using hz
    by_cases h0 : len = 0
    · subst h0
      exact ⟨[], .inl ⟨_, _, rfl, rfl, rfl⟩⟩
    · obtain ⟨b, off, spot⟩ := x
      have hc := hcell 0 (by omega)
      have hspot : spot = none := by simpa [Addr.add] using World.cell?_spot hc
      subst hspot
      have hlen : ((zs.take len).map fun n => UInt8.ofNat n.toNat).length = len := by simp; omega
      refine ⟨(zs.take len).map fun n => UInt8.ofNat n.toNat, .inr ⟨b, off, cap, by rw [hlen], by omega, hm, fun j x hj => ?_⟩⟩
      have hjl : j < len := by have := (List.getElem?_eq_some_iff.1 hj).1; simp at this; omega
      have e1 : zs[j]? = some zs[j] := List.getElem?_eq_getElem (by omega)
      have hw := hwz zs[j] (List.getElem_mem _)
      have hcj := hcell j (by omega)
      have e2 : zs.getD j 0 = zs[j] := by simp [List.getD, e1]
      rw [e2] at hcj
      have hx : x = .int .u8 zs[j] := by
        rw [List.getElem?_map, List.getElem?_map, List.getElem?_take_of_lt hjl, e1] at hj
        simp only [Option.map_some, Option.some.injEq] at hj
        rw [← hj]
        have hb : 0 ≤ zs[j] ∧ zs[j] ≤ 255 := by simpa [Lit.wf, IntKind.min, IntKind.max, IntKind.signed, IntKind.bits] using hw
        have h3 : (zs[j].toNat % 256 : Nat) = zs[j].toNat := Nat.mod_eq_of_lt (by omega)
        simp only [bv, UInt8.toNat_ofNat']
        rw [show (2 ^ 8 : Nat) = 256 from rfl, h3, Int.toNat_of_nonneg hb.1]
      subst hx
      by_cases hj0 : j = 0
      · subst hj0; simpa [Addr.add] using hcj
      · simpa [Addr.add, hj0] using hcj
end Go.Proofs.Ytoiblgeheblddaa

