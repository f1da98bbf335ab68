/- More rules for printed walks: copying a string's bytes into a row, a slice cut at its head, slices of strings. No program is named here. -/
import Derived.Test.YtoiblgeheblddaaBytes
import Derived.Test.YtoiblgeheblddaaGw2
import Derived.Lib.BufferWrite
namespace Go.Proofs.Ytoiblgeheblddaa
open Go.RowKit Go.Extern.Stop Go.Stop Go.Extern
set_option linter.unusedVariables false
section
variable {P : Program} {Q : Exit → Act → World → Prop} {a : Act} {w : World} {K : Act → World → Prop}
/-- 'copy' of a string into a row of the call's own -/
theorem op_copyS {o : Oper} {d x : Operand} {dT sT e : TypeId} {base g off n cap dLen dCap : Nat} {xs : List Value} (l : List UInt8) (xs' : List Value) (ho : o.op = .call { callee := .builtin .copy, args := #[d, x], argTypes := #[dT, sT] }) (hu : P.underlying dT = some (.slice e)) (hsz : (P.info? e).map (·.size) = some 1)
    (hd : a.eval d = .slice (some ⟨g, off, none⟩) dLen dCap) (hs : a.eval x = .string ⟨l.toArray⟩) (hown : w.ownsRow base e 1 (.slice (some ⟨g, 0, none⟩) n cap) n xs) (hm : l.length ≤ dLen) (hfit : off + l.length ≤ n)
    (hbase : base ≤ w.heap.size) (hxs : xs.take off ++ l.map bv ++ xs.drop (off + l.length) = xs')
    (h : ∀ W, W.ownsRow base e 1 (.slice (some ⟨g, 0, none⟩) n cap) n xs' → w.grownBy W (Value.slice (some ⟨g, 0, none⟩) n cap).ownBlock → Below base w W → K (a.put o.dst (.int .i64 (l.length : Int))) W) : o.wp P a w K Q := by
  obtain ⟨hl, hr⟩ := hown
  rcases hr with ⟨hv, _⟩ | ⟨g2, cap2, cur, hv, hge, hh, hnc, hcm, hcs, htk⟩
  · cases hv
  simp only [Value.slice.injEq, Option.some.injEq, Addr.mk.injEq] at hv
  obtain ⟨⟨rfl, _, _⟩, _, rfl⟩ := hv
  have hlen : xs.length = n := by simpa using hl
  have hcur : cur.toList.length = cap := by simpa using hcs
  have hml : (l.map bv).length = l.length := by simp
  have key : ∀ W, W.heap[g]? = some (.cells (cur.toList.take off ++ l.map bv ++ cur.toList.drop (off + l.length)).toArray e (0, 0)) → w.grownBy W (some g) → K (a.put o.dst (.int .i64 (l.length : Int))) W := by
    intro W hW hg
    refine h W ⟨?_, .inr ⟨g, cap, _, rfl, hge, hW, hnc, hcm, ?_, ?_⟩⟩ hg (grown_below (v := .slice (some ⟨g, 0, none⟩) n cap) hg ⟨hl, .inr ⟨g, cap, cur, rfl, hge, hh, hnc, hcm, hcs, htk⟩⟩ (Nat.le_refl _) hbase)
    · rw [← hxs]; simp; omega
    · simp only [List.size_toArray, List.length_append, List.length_take, List.length_drop, hcur, Nat.mul_one, hml]; omega
    · have hA : (cur.toList.take off ++ l.map bv).length = off + l.length := by simp only [List.length_append, List.length_take, hcur, hml]; omega
      rw [← hxs, ← htk]
      simp only [Nat.mul_one]
      rw [List.take_append, List.take_of_length_le (by rw [hA]; omega), hA, List.take_take, Nat.min_eq_left (by omega : off ≤ n), List.drop_take]
  have hsize : (⟨l.toArray⟩ : ByteArray).size = l.length := by show l.toArray.size = l.length; simp
  have hrun := Go.Lib.run_copy_row_string (P := P) w dT sT o.type e g off dLen dCap ⟨l.toArray⟩ cur e hu hsz hh (by rw [hsize]; exact hm) (by rw [hsize, hcs]; omega)
  rw [hsize] at hrun
  have hbc : Go.Lib.byteCells (⟨l.toArray⟩ : ByteArray).data.toList = l.map bv := rfl
  rw [hbc] at hrun
  have h2 : (execOp a.eval o).run P w = .ok (.value (.int .i64 (l.length : Int))) (w.setRow g (cur.toList.take off ++ l.map bv ++ cur.toList.drop (off + l.length)).toArray) := by
    simp [execOp, ho, resolve, invoke, builtin, hd, hs, hrun, Result.andThen, goInt]
  exact op_val h2 (key _ (setRow_heap w g _ _ e _ hh) ⟨rfl, rfl, rfl, by simp, fun k _ hk => setRow_other w g k _ (fun e => hk (by rw [e]))⟩)
/-- a slice of one-cell elements, cut to its head -/
theorem Sl.head {b : Option Addr} {n c : Nat} {xs : List Value} (h : Sl w (.slice b n c) n xs) (hn : xs.length = n) (m : Nat) (hm : m ≤ n) : Sl w (.slice b m c) m (xs.take m) := by
  rcases h with ⟨a', c', h1, h2, h3⟩ | ⟨b', off, cap, h1, h2, h3, h4⟩
  · obtain rfl : m = 0 := by omega
    simp only [Value.slice.injEq] at h1
    exact .inl ⟨b, c, rfl, rfl, by simp⟩
  · simp only [Value.slice.injEq] at h1
    obtain ⟨rfl, _, rfl⟩ := h1
    refine .inr ⟨b', off, c, rfl, by omega, h3, fun j x hj => h4 j x ?_⟩
    have hjm : j < m := by have := (List.getElem?_eq_some_iff.1 hj).1; simp at this; omega
    rwa [List.getElem?_take_of_lt hjm] at hj
/-- a string, its bytes a list -/
def sv (l : List UInt8) : Value := .string ⟨l.toArray⟩
theorem Strs.elem {b : Option Addr} {n c : Nat} {V : List (List UInt8)} (h : Sl w (.slice b n c) n (V.map sv)) (hl : V.length = n) {k : Nat} (hk : k < n) : b.isSome = true ∧ w.cell? (elemAddr b (k * 1)) = some (.string ⟨(V.getD k []).toArray⟩) := by
  rcases h with ⟨a', c', h1, h2, h3⟩ | ⟨b', off, cap, h1, h2, h3, h4⟩
  · omega
  · simp only [Value.slice.injEq] at h1
    obtain ⟨rfl, _, rfl⟩ := h1
    refine ⟨rfl, ?_⟩
    have := h4 k (sv (V.getD k [])) (by simp [List.getD, List.getElem?_eq_getElem (show k < V.length by omega)])
    rw [Nat.mul_one]
    show w.cell? ((⟨b', off, none⟩ : Addr).add k) = _
    rw [Addr.add_mid]
    exact this
end
end Go.Proofs.Ytoiblgeheblddaa

