/- append onto one of two rows of the same type: where the new row lies. -/
import Derived.Test.YtoiblgeheblddaaLeaf
namespace Go.Proofs.Ytoiblgeheblddaa
open Go.RowKit Go.Extern.Stop Go.Stop Go.Extern
set_option linter.unusedVariables false
/-- two rows lie apart -/
def Apart (u v : Value) : Prop := ∀ j, u.ownBlock = some j → v.ownBlock ≠ some j
theorem Apart.symm {u v : Value} (h : Apart u v) : Apart v u := fun j h1 h2 => h j h2 h1
theorem Apart.grow {w : World} {u v u' : Value} {base e size n : Nat} {xs : List Value} (h : Apart u v) (k : w.ownsRow base e size v n xs) (hl : u'.ownBlock = u.ownBlock ∨ u'.ownBlock = some w.heap.size) : Apart u' v := by
  rintro j h1 h2
  rcases hl with hl | hl
  · exact h j (hl ▸ h1) h2
  · rw [hl, Option.some.injEq] at h1
    subst h1
    have := (k.lt _ h2).2
    omega
theorem Apart.row {w W : World} {u v : Value} {base e size n : Nat} {xs : List Value} (h : Apart u v) (k : w.ownsRow base e size v n xs) (hg : w.grownBy W u.ownBlock) : W.ownsRow base e size v n xs := by
  obtain ⟨h1, h2⟩ := k
  refine ⟨h1, ?_⟩
  rcases h2 with h2 | ⟨g, cap, cur, rfl, hb, hh, r⟩
  · exact Or.inl h2
  · exact Or.inr ⟨g, cap, cur, rfl, hb, (hg.block g (Array.getElem?_eq_some_iff.1 hh).1 (fun q => h g q.symm rfl)).trans hh, r⟩
theorem Apart.of_lt {w W : World} {u v : Value} {base base2 e e2 size size2 n n2 : Nat} {xs ys : List Value} (k : w.ownsRow base e size u n xs) (q : W.ownsRow base2 e2 size2 v n2 ys) (h : w.heap.size ≤ base2) : Apart u v := fun j h1 h2 => by
  have := (k.lt j h1).2
  have := (q.lt j h2).1
  omega
theorem Apart.nil (v : Value) : Apart (.slice none 0 0) v := fun j h => by cases h
/-- a row cut short at its end is a row -/
theorem own_cut {w : World} {base e n m c : Nat} {p : Option Addr} {xs : List Value} (k : w.ownsRow base e 1 (.slice p n c) n xs) (hm : m ≤ n) (hp : p.isSome = true) : w.ownsRow base e 1 (.slice p m c) m (xs.take m) := by
  obtain ⟨h1, h2⟩ := k
  refine ⟨by rw [List.length_take]; omega, ?_⟩
  rcases h2 with ⟨h2, _⟩ | ⟨g, cap, cur, hv, hb, hh, hc, hr1, hr2, hr3⟩
  · cases h2; cases hp
  · simp only [Value.slice.injEq] at hv
    obtain ⟨rfl, _, rfl⟩ := hv
    refine Or.inr ⟨g, c, cur, rfl, hb, hh, by omega, hr1, hr2, ?_⟩
    rw [← hr3, List.take_take]
    congr 1
    omega
theorem op_app_at {P : Program} {a : Act} {w : World} {K : Act → World → Prop} {Q : Exit → Act → World → Prop} {o : Oper} {s x : Operand} {t e te : TypeId} {base : Nat} {v : Value} {n : Nat} {xs : List Value} {b m c : Nat} {news : List Value} (z : Value) (size bytes n' : Nat) (xs' : List Value)
    (ho : o.op = .call { callee := .builtin .append, args := #[s, x], argTypes := #[t, t] }) (ht : P.underlying t = some (.slice e)) (hi : (P.info? e).map (fun i => (i.zero, i.size, i.bytes)) = some (some z, size, bytes)) (hzs : z.cells.size = size) (hsz : 0 < size) (hs : a.eval s = v)
    (hown : w.ownsRow base e size v n xs) (hx : a.eval x = .slice (some ⟨b, 0, none⟩) m c) (hnew : Blk w b news te) (hl : news.length = m * size) (h1 : ∀ u ∈ news, u.oneCell' = true) (h63 : n + m ≤ maxLen) (hbytes : (n + m) * bytes ≤ 140737488355328) (hbase : base ≤ w.heap.size) (hn : n + m = n') (hxs : xs ++ news = xs')
    (h : ∀ p c W, W.ownsRow base e size (.slice p n' c) n' xs' → w.grownBy W v.ownBlock → Below base w W → ((Value.slice p n' c).ownBlock = v.ownBlock ∨ (Value.slice p n' c).ownBlock = some w.heap.size) → K (a.put o.dst (.slice p n' c)) W) : o.wp P a w K Q := by
  cases hq : P.info? e with
  | none => simp [hq] at hi
  | some i =>
    simp only [hq, Option.map_some, Option.some.injEq, Prod.mk.injEq] at hi
    have hc : ∀ j u, news[j]? = some u → w.cell? ((⟨b, 0, none⟩ : Addr).add j) = some u := fun j u hj => by
      have hc := hnew.cell hj
      by_cases h0 : j = 0
      · subst h0; simpa [Addr.add] using hc
      · simpa [Addr.add, h0] using hc
    obtain ⟨v', W, hr, h2, h3, _, h5⟩ := run_append_own_at (P := P) w base t o.type e i z size bytes ht hq hi.1 hi.2.1 hi.2.2 hzs hsz v n xs hown ⟨b, 0, none⟩ m c news hl hc h1 h63 hbytes hbase
    subst hn hxs
    obtain ⟨p, c2, rfl⟩ := (own_sl h2).slice
    unfold Oper.wp execOp
    simp only [ho, resolve, invoke, builtin, Sem.run_bind, Sem.run_pure, Result.andThen_ok, List.map_toArray, List.map_cons, List.map_nil, hs, hx, hr]
    exact h p c2 W h2 h3 (grown_below h3 hown (Nat.le_refl _) hbase) h5
end Go.Proofs.Ytoiblgeheblddaa

