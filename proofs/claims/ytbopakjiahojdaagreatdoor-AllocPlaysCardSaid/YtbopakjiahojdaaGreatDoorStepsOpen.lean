/- A slice of structs, each a bool, an int and a slice of bytes: how a law's argument reads. -/
import Derived.Test.YtbopakjiahojdaaGreatDoorBytesOpen
import Derived.Deep.Slices
import Derived.Deep.Fields
import Derived.Deep.Strs
import Derived.ChangeSame
namespace Go.Proofs.YtbopakjiahojdaaGreatDoor
open Go.ChangeShapes Go.WideShapes Go.ChangeAt Go.RowKit Go.Joins Go.Deep
set_option linter.unusedVariables false

theorem bytes_trod {H : Type} {enc : TypeId × Value → H} {P : Program} {W : World} {t e : TypeId} {v : Value} {y : DataW H × List MemPlace} {fuel : Nat} (ht : P.underlying t = some (.slice e)) (he : P.underlying e = some (.int .u8)) (hC : P.cellsOf e = 1)
    (hf : DataW.trod enc P W 0 (fun _ => true) true fuel t [v] = some y) : ∃ l, Bys W v l := by
  rcases open_ints ht he hC hf with ⟨hcs, _⟩ | ⟨x, len, cap, zs, hcs, _, hl, hm, hz, _, hcell, hwz⟩
  · simp at hcs
    subst hcs
    exact ⟨[], .inl ⟨_, _, rfl, rfl, rfl⟩⟩
  · simp at hcs
    subst hcs
    have hz' : zs.length = cap := by simpa using hz
    by_cases h0 : len = 0
    · subst h0
      exact ⟨[], .inl ⟨_, _, rfl, rfl, rfl⟩⟩
    · obtain ⟨b, off, spot⟩ := x
      have hc := hcell 0 (by omega)
      have hspot : spot = none := by simpa [Addr.add] using World.cell?_spot hc
      subst hspot
      have hlen : ((zs.take len).map fun n => UInt8.ofNat n.toNat).length = len := by simp; omega
      refine ⟨(zs.take len).map fun n => UInt8.ofNat n.toNat, .inr ⟨b, off, cap, by rw [hlen], by omega, hm, fun j x hj => ?_⟩⟩
      have hjl : j < len := by have := (List.getElem?_eq_some_iff.1 hj).1; simp at this; omega
      have e1 : zs[j]? = some zs[j] := List.getElem?_eq_getElem (by omega)
      have hw := hwz zs[j] (List.getElem_mem _)
      have hcj := hcell j (by omega)
      have e2 : zs.getD j 0 = zs[j] := by simp [List.getD, e1]
      rw [e2] at hcj
      have hx : x = .int .u8 zs[j] := by
        rw [List.getElem?_map, List.getElem?_map, List.getElem?_take_of_lt hjl, e1] at hj
        simp only [Option.map_some, Option.some.injEq] at hj
        rw [← hj]
        have hb : 0 ≤ zs[j] ∧ zs[j] ≤ 255 := by simpa [Lit.wf, IntKind.min, IntKind.max, IntKind.signed, IntKind.bits] using hw
        have h3 : (zs[j].toNat % 256 : Nat) = zs[j].toNat := Nat.mod_eq_of_lt (by omega)
        simp only [bv, UInt8.toNat_ofNat']
        rw [show (2 ^ 8 : Nat) = 256 from rfl, h3, Int.toNat_of_nonneg hb.1]
      subst hx
      by_cases hj0 : j = 0
      · subst hj0; simpa [Addr.add] using hcj
      · simpa [Addr.add, hj0] using hcj
theorem ints_nilcap {H : Type} {enc : TypeId × Value → H} {P : Program} {W : World} {r : Reach} {b0 : Nat} {t e : TypeId} {v : Value} {d : DataW H} {p : List MemPlace} (ht : P.underlying t = some (.slice e)) (he : P.underlying e = some (.int .i64)) (hC : P.cellsOf e = 1)
    (hv : Value.okWide P W r b0 t v) (h : DataW.Trod enc P W 0 (fun _ => true) true t v d p) : ∀ n c, v = .slice none n c → c = 0 := by
  obtain ⟨a, len, cap, rfl⟩ := okWide_slice ht hv
  obtain ⟨fuel, hf⟩ := h
  rcases open_ints ht he hC hf with ⟨hcs, _⟩ | ⟨x, l, c, zs, hcs, _, hl, hm, hz, _, hcell, hwz⟩
  · simp [Value.cells] at hcs
    obtain ⟨rfl, rfl, rfl⟩ := hcs
    intro n c e
    cases e; rfl
  · simp [Value.cells] at hcs
    obtain ⟨rfl, rfl, rfl⟩ := hcs
    intro n c e
    cases e
/-- a step: Next, or Lay of bytes as a kind -/
def Steps (w : World) (v : Value) (L : List (Bool × Int × List UInt8)) : Prop :=
  ∃ a c, v = .slice a L.length c ∧ L.length ≤ c ∧ c ≤ maxLen ∧ ∀ i (h : i < L.length), ∃ b off s, a = some ⟨b, off, none⟩ ∧ w.cell? ⟨b, off + i * 3, none⟩ = some (.bool L[i].1) ∧ w.cell? ⟨b, off + i * 3 + 1, none⟩ = some (.int .i64 L[i].2.1) ∧ w.cell? ⟨b, off + i * 3 + 2, none⟩ = some s ∧ Bys w s L[i].2.2
theorem steps_open {H : Type} {enc : TypeId × Value → H} {P : Program} {W : World} {r : Reach} {b0 : Nat} {t e u : TypeId} {f0 f1 f2 : Field} {v : Value} {d : DataW H} {p : List MemPlace} (ht : P.underlying t = some (.slice e)) (he : P.underlying e = some (.struct #[f0, f1, f2]))
    (hone : oneCellFields P #[f0, f1, f2] = true) (hC : P.cellsOf e = 3) (h0 : P.underlying f0.type = some .bool) (h1 : P.underlying f1.type = some (.int .i64)) (h2 : P.underlying f2.type = some (.slice u)) (hu : P.underlying u = some (.int .u8)) (hCu : P.cellsOf u = 1)
    (hv : Value.okWide P W r b0 t v) (h : DataW.Trod enc P W 0 (fun _ => true) true t v d p) : ∃ L, Steps W v L := by
  obtain ⟨a, len, cap, rfl⟩ := okWide_slice ht hv
  obtain ⟨fuel, hf⟩ := h
  rcases open_slice ht hf with ⟨hcs, _⟩ | ⟨x, l, c, m, n, D, Pl, hcs, _, hl, hm, hmm, _, hi⟩
  · simp [Value.cells] at hcs
    obtain ⟨rfl, rfl, rfl⟩ := hcs
    exact ⟨[], _, _, rfl, by simp, by unfold maxLen; omega, fun i hi => absurd hi (by simp)⟩
  · simp [Value.cells] at hcs
    obtain ⟨rfl, rfl, rfl⟩ := hcs
    obtain ⟨b, off, spot⟩ := x
    have hml : len ≤ m := by rw [hmm]; simp; omega
    by_cases hlen : len = 0
    · subst hlen
      exact ⟨[], _, _, rfl, by simp, hm, fun i hi => absurd hi (by simp)⟩
    have hspot : spot = none := by
      obtain ⟨cs, hc, htr⟩ := hi 0 (by omega)
      rw [hC] at hc
      obtain ⟨_, hcl, hat⟩ := World.cells?_some hc
      have a0 := hat 0 (by omega)
      rw [List.getElem?_eq_getElem (by omega)] at a0
      simpa [Addr.add] using World.cell?_spot a0
    subst hspot
    have eA : ∀ o n, (⟨b, o, none⟩ : Addr).add n = ⟨b, o + n, none⟩ := by intro o n; unfold Addr.add; split <;> simp_all
    have each : ∀ i : Fin len, ∃ q : Bool × Int × List UInt8, ∃ s, W.cell? ⟨b, off + i.val * 3, none⟩ = some (.bool q.1) ∧ W.cell? ⟨b, off + i.val * 3 + 1, none⟩ = some (.int .i64 q.2.1) ∧ W.cell? ⟨b, off + i.val * 3 + 2, none⟩ = some s ∧ Bys W s q.2.2 := by
      intro i
      obtain ⟨cs, hc, htr⟩ := hi i.val (by have := i.2; omega)
      rw [hC] at hc
      obtain ⟨_, hcl, hat⟩ := World.cells?_some hc
      obtain ⟨y0, y1, y2, n', _, _, t0, t1, t2⟩ := trod_struct3 he htr
      obtain ⟨o0, k0⟩ := hone_of hone 0 f0 rfl
      obtain ⟨o1, k1⟩ := hone_of hone 1 f1 rfl
      obtain ⟨o2, k2⟩ := hone_of hone 2 f2 rfl
      match cs, hcl with
      | [c0, c1, c2], _ =>
        have a0 := hat 0 (by omega)
        have a1 := hat 1 (by omega)
        have a2 := hat 2 (by omega)
        rw [o0, k0] at t0
        rw [o1, k1] at t1
        rw [o2, k2] at t2
        obtain ⟨bq, hbq, _⟩ := DataW.trod_bool (cs := [c0]) h0 (by simpa using t0)
        obtain ⟨z, hz, _, _⟩ := DataW.trod_int (cs := [c1]) h1 (by simpa using t1)
        obtain ⟨q2, hq2⟩ := bytes_trod (v := c2) h2 hu hCu (by simpa using t2)
        simp only [List.cons.injEq, and_true] at hbq hz
        subst hbq hz
        refine ⟨(bq, z, q2), c2, ?_, ?_, ?_, hq2⟩
        · rw [eA, eA] at a0; exact a0
        · rw [eA, eA] at a1; exact a1
        · rw [eA, eA] at a2; exact a2
    refine ⟨List.ofFn fun i => Classical.choose (each i), _, _, by rw [List.length_ofFn], by rw [List.length_ofFn]; exact hl, hm, fun i hi' => ?_⟩
    have hi2 : i < len := by simpa using hi'
    obtain ⟨s, k1, k2, k3, k4⟩ := Classical.choose_spec (each ⟨i, hi2⟩)
    refine ⟨b, off, s, rfl, ?_, ?_, k3, ?_⟩
    · rw [List.getElem_ofFn]; exact k1
    · rw [List.getElem_ofFn]; exact k2
    · rw [List.getElem_ofFn]; exact k4
/-- a step with the slice that holds its bytes -/
abbrev StT := Bool × Int × Option Addr × Nat × List UInt8
def stC (x : StT) : List Value := [.bool x.1, .int .i64 x.2.1, .slice x.2.2.1 x.2.2.2.2.length x.2.2.2.1]
def stD : StT := (false, 0, none, 0, [])
theorem stC_len (x : StT) : (stC x).length = 3 := rfl
theorem flat3 {α : Type} {f : α → List Value} (hf : ∀ x, (f x).length = 3) : ∀ (T : List α) (j : Nat) (x : Value), (T.flatMap f)[j]? = some x → ∃ i, ∃ h : i < T.length, ∃ r, r < 3 ∧ j = i * 3 + r ∧ (f T[i])[r]? = some x
  | [], j, x, h => by simp at h
  | y :: T, j, x, h => by
    rw [List.flatMap_cons, List.getElem?_append] at h
    by_cases hj : j < 3
    · rw [if_pos (by rw [hf]; exact hj)] at h
      exact ⟨0, by simp, j, hj, by omega, by simpa using h⟩
    · rw [if_neg (by rw [hf]; exact hj), hf] at h
      obtain ⟨i, hi, r, hr, e, hx⟩ := flat3 hf T (j - 3) x h
      exact ⟨i + 1, by simpa using hi, r, hr, by omega, by simpa using hx⟩
theorem flat3_len {α : Type} {f : α → List Value} (hf : ∀ x, (f x).length = 3) (T : List α) : (T.flatMap f).length = T.length * 3 := by
  induction T with
  | nil => rfl
  | cons y T ih => rw [List.flatMap_cons, List.length_append, hf, ih, List.length_cons]; omega
theorem steps_sts {w : World} {v : Value} {L : List (Bool × Int × List UInt8)} (h : Steps w v L) : ∃ T : List StT, ∃ a c, v = .slice a T.length c ∧ Sl w v T.length (T.flatMap stC) ∧ ∀ i, i < T.length → Bys w (.slice (T.getD i stD).2.2.1 (T.getD i stD).2.2.2.2.length (T.getD i stD).2.2.2.1) (T.getD i stD).2.2.2.2 := by
  obtain ⟨a, c, rfl, h1, h2, h3⟩ := h
  have each : ∀ i : Fin L.length, ∃ t : StT, ∃ b off, a = some ⟨b, off, none⟩ ∧ (∀ r x, (stC t)[r]? = some x → w.cell? ⟨b, off + (i.val * 3 + r), none⟩ = some x) ∧ Bys w (.slice t.2.2.1 t.2.2.2.2.length t.2.2.2.1) t.2.2.2.2 := by
    intro i
    obtain ⟨b, off, s, ha, c0, c1, c2, hb⟩ := h3 i.val i.2
    obtain ⟨sa, sc, hs⟩ := Sl.slice hb
    subst hs
    refine ⟨(L[i].1, L[i].2.1, sa, sc, L[i].2.2), b, off, ha, fun r x hr => ?_, hb⟩
    match r, hr with
    | 0, hr => simp only [stC, List.getElem?_cons_zero, Option.some.injEq] at hr; rw [← hr]; exact c0
    | 1, hr => simp only [stC, List.getElem?_cons_succ, List.getElem?_cons_zero, Option.some.injEq] at hr; rw [← hr, ← Nat.add_assoc]; exact c1
    | 2, hr => simp only [stC, List.getElem?_cons_succ, List.getElem?_cons_zero, Option.some.injEq] at hr; rw [← hr, ← Nat.add_assoc]; exact c2
    | r + 3, hr => simp [stC] at hr
  refine ⟨List.ofFn fun i => Classical.choose (each i), a, c, by rw [List.length_ofFn], ?_, fun i hi => ?_⟩
  · rw [List.length_ofFn]
    by_cases hz : L.length = 0
    · refine .inl ⟨a, c, by rw [hz], hz, List.eq_nil_of_length_eq_zero ?_⟩
      rw [flat3_len stC_len, List.length_ofFn, hz]
    · obtain ⟨b, off, ha, _⟩ := Classical.choose_spec (each ⟨0, by omega⟩)
      subst ha
      refine .inr ⟨b, off, c, rfl, h1, h2, fun j x hj => ?_⟩
      obtain ⟨i, hi, r, hr, e, hx⟩ := flat3 stC_len _ j x hj
      have hi2 : i < L.length := by simpa using hi
      obtain ⟨b', off', ha', hc, _⟩ := Classical.choose_spec (each ⟨i, hi2⟩)
      simp only [Option.some.injEq, Addr.mk.injEq] at ha'
      obtain ⟨rfl, rfl, _⟩ := ha'
      rw [List.getElem_ofFn] at hx
      rw [e]
      exact hc r x hx
  · have hi2 : i < L.length := by simpa using hi
    obtain ⟨_, _, _, _, hb⟩ := Classical.choose_spec (each ⟨i, hi2⟩)
    have e : (List.ofFn fun i => Classical.choose (each i)).getD i stD = Classical.choose (each ⟨i, hi2⟩) := by
      simp [List.getD, hi2]
    rw [e]; exact hb
end Go.Proofs.YtbopakjiahojdaaGreatDoor

