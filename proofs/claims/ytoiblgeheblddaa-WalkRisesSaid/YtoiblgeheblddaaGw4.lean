/- Further steps of a walk: append of a string to a row of the call's own, a store into a place of such a row, and where an appended row lies. -/
import Derived.Test.YtoiblgeheblddaaGw3
import Derived.Lib.AppendStr
namespace Go.Proofs.Ytoiblgeheblddaa
open Go.RowKit Go.Extern.Stop Go.Stop Go.Extern
set_option linter.unusedVariables false
section
variable {P : Program} {a : Act} {w : World} {K : Act → World → Prop} {Q : Exit → Act → World → Prop}
theorem strCells_bv (l : List UInt8) : Lib.strCells ⟨l.toArray⟩ = l.map bv := by
  unfold Lib.strCells bv
  simp
theorem op_appS {o : Oper} {s x : Operand} {t u e : TypeId} {base : Nat} {v : Value} {n : Nat} {xs : List Value} (l : List UInt8) (n' : Nat) (xs' : List Value) (ho : o.op = .call { callee := .builtin .append, args := #[s, x], argTypes := #[t, u] })
    (ht : P.underlying t = some (.slice e)) (hu : P.underlying u = some .string) (hi : (P.info? e).map (fun i => (i.zero, i.size, i.bytes)) = some (some (.int .u8 0), 1, 1)) (hs : a.eval s = v) (hown : w.ownsRow base e 1 v n xs) (hx : a.eval x = .string ⟨l.toArray⟩)
    (hb : n + l.length ≤ 100000000) (hbase : base ≤ w.heap.size) (hn : n + l.length = n') (hxs : xs ++ l.map bv = xs')
    (h : ∀ b c W, W.ownsRow base e 1 (.slice b n' c) n' xs' → w.grownBy W v.ownBlock → Below base w W → K (a.put o.dst (.slice b n' c)) W) : o.wp P a w K Q := by
  cases hq : P.info? e with
  | none => simp [hq] at hi
  | some i =>
    simp only [hq, Option.map_some, Option.some.injEq, Prod.mk.injEq] at hi
    have hsz : (⟨l.toArray⟩ : ByteArray).size = l.length := by simp [ByteArray.size]
    obtain ⟨v', W, hr, h2, h3, _⟩ := Lib.run_append_own_string (P := P) w base t u o.type e i ht hu hq hi.1 hi.2.1 hi.2.2 v n xs hown ⟨l.toArray⟩ (by rw [hsz]; unfold maxLen; omega) (by rw [hsz]; omega) hbase
    rw [hsz, strCells_bv] at h2
    subst hn hxs
    obtain ⟨b, c, rfl⟩ := (own_sl h2).slice
    unfold Oper.wp execOp
    simp only [ho, resolve, invoke, builtin, Sem.run_bind, Sem.run_pure, Result.andThen_ok, List.map_toArray, List.map_cons, List.map_nil, hs, hx, hr]
    exact h b c W h2 h3 (grown_below h3 hown (Nat.le_refl _) hbase)
theorem elemAddr_own (g k : Nat) : elemAddr (some ⟨g, 0, none⟩) (k * 1) = ⟨g, k, none⟩ := by
  simp [elemAddr, Addr.add]; exact fun h => h.symm
theorem op_storeRow {o : Oper} {t e : TypeId} {x y : Operand} {g n c k base : Nat} {xs : List Value} {v : Value} (ho : o.op = .store t x y) (hx : a.eval x = .pointer (some (elemAddr (some ⟨g, 0, none⟩) (k * 1)))) (hy : a.eval y = v)
    (hi : (P.info? t).map (·.size) = some 1) (h1 : v.oneCell' = true) (hown : w.ownsRow base e 1 (.slice (some ⟨g, 0, none⟩) n c) n xs) (hk : k < n)
    (h : ∀ W, Upd w g W → W.ownsRow base e 1 (.slice (some ⟨g, 0, none⟩) n c) n (xs.set k v) → K (a.put o.dst undef) W) : o.wp P a w K Q := by
  obtain ⟨hl, h2⟩ := hown
  rcases h2 with ⟨h2, _⟩ | ⟨g', cap, cur, hv, hg, hh, hc, hm, hsz, htk⟩
  · cases h2
  · simp only [Value.slice.injEq, Option.some.injEq, Addr.mk.injEq] at hv
    obtain ⟨⟨rfl, _⟩, _, rfl⟩ := hv
    have hb : Blk w g cur.toList e := by unfold Blk; simpa using hh
    rw [elemAddr_own] at hx
    refine op_store ho hx hy hi h1 hb (by simp; omega) fun W hu hW => h W hu ⟨by simpa using hl, .inr ⟨g, c, (cur.toList.set k v).toArray, rfl, hg, hW, hc, hm, by simpa using hsz, ?_⟩⟩
    rw [← htk]
    simp [List.take_set]
end
section
variable {P : Program} {ops : Array Oper} {Q : Exit → Act → World → Prop} {a a' : Act} {w : World} {S : World → Prop} {md : Region.Mode} {L L' : Array Bool} {fuel : Nat}
theorem h_three {o o2 o3 : Oper} (i j m fuel : Nat) {f0 : Nat} (hf : f0 = fuel + 1) (hr : Region.ready md ops L = [i, j, m]) (ho : ops.toList[i]? = some o) (ho2 : ops.toList[j]? = some o2) (ho3 : ops.toList[m]? = some o3) (hw : Region.wanted o (yielded ops a.tmps) = true) (hw2 : Region.wanted o2 (yielded ops a.tmps) = true) (hw3 : Region.wanted o3 (yielded ops a.tmps) = true)
    (h : o.wp P a w (fun a' w' => S w' ∧ wpAnyH P md ops Q S fuel (L.setIfInBounds i true) a' w') Q) (h2 : o2.wp P a w (fun a' w' => S w' ∧ wpAnyH P md ops Q S fuel (L.setIfInBounds j true) a' w') Q) (h3 : o3.wp P a w (fun a' w' => S w' ∧ wpAnyH P md ops Q S fuel (L.setIfInBounds m true) a' w') Q) : wpAnyH P md ops Q S f0 L a w := by
  subst hf
  refine wpAnyH_all hr (by simp) fun k hk => ?_
  have ho' : ops[i]? = some o := by rw [← ho]; simp
  have ho2' : ops[j]? = some o2 := by rw [← ho2]; simp
  have ho3' : ops[m]? = some o3 := by rw [← ho3]; simp
  rcases List.mem_cons.1 hk with rfl | hk
  · unfold wpOp; simp only [ho', hw, if_true]; exact .inl h
  · rcases List.mem_cons.1 hk with rfl | hk
    · unfold wpOp; simp only [ho2', hw2, if_true]; exact .inl h2
    · obtain rfl : k = m := by simpa using hk
      unfold wpOp; simp only [ho3', hw3, if_true]; exact .inl h3
end
theorem res_tc {P : Program} {fn : Func} {tmps : Array Value} {w : World} {k j : Nat} {t : TypeId} {b off : Nat} {cs : List Value} {d : TypeDesc} {u : Value} (hfn : fn.results = #[.tmp j, .cell k t]) (e : tmps.getD k undef = .pointer (some ⟨b, off, none⟩)) (e2 : tmps.getD j undef = u) (hc : w.rangeAt b off cs)
    (hu : P.underlying t = some d) (hd : d.isRow = true) (hi : (P.info? t).map (·.size) = some cs.length) : (results fn tmps).run P w = .ok (.tuple #[u, .agg cs.toArray]) w := by
  have h := run_loadVar_mid w b off t cs d hc hu hd hi
  have e' : tmps[k]?.getD undef = .pointer (some ⟨b, off, none⟩) := by simpa using e
  have e2' : tmps[j]?.getD undef = u := by simpa using e2
  simp [results, hfn, e', e2', asAddr, h]
theorem own_ge {w : World} {base e size g n c : Nat} {xs : List Value} (h : w.ownsRow base e size (.slice (some ⟨g, 0, none⟩) n c) n xs) : base ≤ g := (h.lt g rfl).1
theorem own_blk {w : World} {base e size g n c : Nat} {xs : List Value} (h : w.ownsRow base e size (.slice (some ⟨g, 0, none⟩) n c) n xs) : ∃ cs, Blk w g cs e := by
  rcases h.2 with ⟨h2, _⟩ | ⟨g', cap, cur, hv, hg, hh, _⟩
  · cases h2
  · simp only [Value.slice.injEq, Option.some.injEq, Addr.mk.injEq] at hv
    obtain ⟨⟨rfl, _⟩, _⟩ := hv
    exact ⟨cur.toList, by unfold Blk; simpa using hh⟩
theorem own_blk_ne {w : World} {base e size g n c b : Nat} {t : TypeId} {xs cs : List Value} (k : Blk w b cs t) (h : w.ownsRow base e size (.slice (some ⟨g, 0, none⟩) n c) n xs) (hne : t ≠ e) : b ≠ g := by
  rintro rfl
  obtain ⟨cs', k'⟩ := own_blk h
  have h1 : w.heap[b]? = some (.cells cs.toArray t (0, 0)) := k
  rw [show w.heap[b]? = some (.cells cs'.toArray e (0, 0)) from k'] at h1
  simp only [Option.some.injEq, Obj.cells.injEq] at h1
  exact hne h1.2.1.symm
theorem Only.of_updRow {T : List TypeId} {w W : World} {base e size g n c : Nat} {xs : List Value} (u : Upd w g W) (h : w.ownsRow base e size (.slice (some ⟨g, 0, none⟩) n c) n xs) (hT : T.contains e = true) : Only T w W := by
  obtain ⟨cs, k⟩ := own_blk h
  exact Only.of_upd u k hT
theorem Upd.ownRow {w W : World} {base base2 e e2 size size2 g n c n2 : Nat} {v : Value} {xs ys : List Value} (u : Upd w g W) (h : w.ownsRow base2 e2 size2 v n2 ys) (o : w.ownsRow base e size (.slice (some ⟨g, 0, none⟩) n c) n xs) (hne : e2 ≠ e) : W.ownsRow base2 e2 size2 v n2 ys := by
  obtain ⟨cs, k⟩ := own_blk o
  exact u.own2 h k hne
end Go.Proofs.Ytoiblgeheblddaa

