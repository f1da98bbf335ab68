/- A node as a law's argument: an int, a bool, a slice of ints, a slice of strings. -/
import Derived.SliceStrings
import Derived.Lib.SmallJoins
import Derived.Test.YtinegkldgjhnpaaGreatDoorMg3
namespace Go.Proofs.YtinegkldgjhnpaaGreatDoor
open Go.ChangeShapes Go.WideShapes Go.ChangeAt Go.RowKit Go.Joins Go.Deep
set_option linter.unusedVariables false

theorem strs_trod {H : Type} {enc : TypeId × Value → H} {P : Program} {W : World} {t e : TypeId} {v : Value} {y : DataW H × List MemPlace} {fuel : Nat} (ht : P.underlying t = some (.slice e)) (he : P.underlying e = some .string) (hC : P.cellsOf e = 1)
    (hf : DataW.trod enc P W 0 (fun _ => true) true fuel t [v] = some y) : ∃ (L : List (List UInt8)) (a : Option Addr) (c : Nat), v = .slice a L.length c ∧ Sl W (.slice a L.length c) L.length (L.map sv) := by
  rcases open_strings ht he hC hf with ⟨hcs, _⟩ | ⟨x, l, c, zs, hcs, _, hl, hm, hz, _, hcell, hwz⟩
  · simp at hcs
    subst hcs
    exact ⟨[], none, 0, rfl, .inl ⟨_, _, rfl, rfl, rfl⟩⟩
  · simp at hcs
    subst hcs
    have hz' : zs.length = c := by simpa using hz
    by_cases h0 : l = 0
    · subst h0
      exact ⟨[], _, _, rfl, .inl ⟨_, _, rfl, rfl, rfl⟩⟩
    · obtain ⟨b, off, spot⟩ := x
      have hc := hcell 0 (by omega)
      have hspot : spot = none := by simpa [Addr.add] using World.cell?_spot hc
      subst hspot
      have hlen : ((zs.take l).map fun s : ByteArray => s.data.toList).length = l := by simp; omega
      refine ⟨(zs.take l).map fun s : ByteArray => s.data.toList, some ⟨b, off, none⟩, c, by rw [hlen], ?_⟩
      rw [hlen]
      refine .inr ⟨b, off, c, rfl, hl, hm, fun j x hj => ?_⟩
      rw [List.map_map, List.getElem?_map, List.getElem?_take] at hj
      by_cases hjl : j < l
      · rw [if_pos hjl] at hj
        have hcj := hcell j (by omega)
        have e1 : zs[j]? = some zs[j] := List.getElem?_eq_getElem (by omega)
        rw [e1] at hj
        simp only [Option.map_some, Option.some.injEq] at hj
        subst hj
        have e2 : zs.getD j ByteArray.empty = zs[j] := by simp [List.getD, e1]
        rw [e2] at hcj
        have e3 : (sv ∘ fun s : ByteArray => s.data.toList) zs[j] = .string zs[j] := rfl
        rw [e3]
        by_cases hj0 : j = 0
        · subst hj0; simpa [Addr.add] using hcj
        · simpa [Addr.add, hj0] using hcj
      · rw [if_neg hjl] at hj; simp at hj
theorem node_open {H : Type} {enc : TypeId × Value → H} {P : Program} {W : World} {r : Reach} {b0 : Nat} {t e2 e3 : TypeId} {f0 f1 f2 f3 : Field} {v : Value} {d : DataW H} {p : List MemPlace} (hs : P.underlying t = some (.struct #[f0, f1, f2, f3]))
    (hone : oneCellFields P #[f0, f1, f2, f3] = true) (hC : P.cellsOf t = 4) (h0 : P.underlying f0.type = some (.int .i64)) (h1 : P.underlying f1.type = some .bool) (h2 : P.underlying f2.type = some (.slice e2)) (k2 : P.underlying e2 = some (.int .i64)) (c2 : P.cellsOf e2 = 1)
    (h3 : P.underlying f3.type = some (.slice e3)) (k3 : P.underlying e3 = some .string) (c3 : P.cellsOf e3 = 1)
    (hv : Value.okWide P W r b0 t v) (h : DataW.Trod enc P W 0 (fun _ => true) true t v d p) :
    ∃ (T : Int) (leaf : Bool) (K : List Int) (Vs : List (List UInt8)) (ak av : Option Addr) (ck cv : Nat), v = .agg #[.int .i64 T, .bool leaf, .slice ak K.length ck, .slice av Vs.length cv] ∧ Ints W (.slice ak K.length ck) K ∧ Sl W (.slice av Vs.length cv) Vs.length (Vs.map sv) := by
  obtain ⟨x0, x1, x2, x3, y0, y1, y2, y3, n, rfl, _, _, t0, t1, t2, t3⟩ := open_agg4 hs hone hC hv h
  obtain ⟨z0, hz0, _, _⟩ := DataW.trod_int h0 t0
  obtain ⟨z1, hz1, _⟩ := DataW.trod_bool h1 t1
  obtain ⟨K, hK, _⟩ := ints_trod h2 k2 c2 t2
  obtain ⟨Vs, av, cv, rfl, hVs⟩ := strs_trod h3 k3 c3 t3
  obtain ⟨ak, ck, rfl⟩ := hK.slice
  simp only [List.cons.injEq, and_true] at hz0 hz1
  subst hz0 hz1
  exact ⟨z0, z1, K, Vs, ak, av, ck, cv, rfl, hK, hVs⟩
end Go.Proofs.YtinegkldgjhnpaaGreatDoor
