/- Further steps of a walk: append of a string to a row of the call's own, a store into a place of such a row, and where an appended row lies. The document's answer for the layers 1, 2 and 4: Bytes, Sum, Salt, known, Seal. The document's answer for layer 1, read: width, room, Get, Unpack, Zero. Strings compared, and the bytes of a number that was read. No program is named here. The document's example of chapter 5: scantlinglaw05.lives returns true. scantlinglaw05.Own and Told, scantlingref05.At and Same, as contracts. The document's answer for the layers 3 and 11: an image's blocks, Of, Write, Bytes; Write of a block. The document's answer for the layers 3, 4 and 11, read: Open, Image.Read, in. node.Read, whatever the bytes. value.ReadRoot, whatever the string. The document's answer for the layers 3 and 11, read: Image.Read, in. block.Bits, whatever lies in the image. The document's answer for layer 9: Put of small counts, Read. Two strings, one behind the other. No program is named here. The document's answer for layer 8, written: text, Slot, Count. build.level at entries that are right, in an allocator with room. build.Tree at entries that are right: with room, and without. build.right at any entries; build.Tree at any entries and with any room. The document's answer for layer 7: Width, Max, Right and Put at a node that is right. The document's answer for layer 15: how many sizes there are, Levels, Nodes. -/
import Derived.Lib.AppendStr
import Derived.Laws.IdiomStrings
import Derived.Test.YtcjpomibhbakdaaGreatDoorMg2
namespace Go.Proofs.YtcjpomibhbakdaaGreatDoor
open Go.RowKit Go.Extern.Stop Go.Stop Go.Extern
set_option linter.unusedVariables false
section
variable {P : Program} {a : Act} {w : World} {K : Act → World → Prop} {Q : Exit → Act → World → Prop}
theorem strCells_bv (l : List UInt8) : Lib.strCells ⟨l.toArray⟩ = l.map bv := by
  unfold Lib.strCells bv
  simp
theorem op_appS {o : Oper} {s x : Operand} {t u e : TypeId} {base : Nat} {v : Value} {n : Nat} {xs : List Value} (l : List UInt8) (n' : Nat) (xs' : List Value) (ho : o.op = .call { callee := .builtin .append, args := #[s, x], argTypes := #[t, u] })
    (ht : P.underlying t = some (.slice e)) (hu : P.underlying u = some .string) (hi : (P.info? e).map (fun i => (i.zero, i.size, i.bytes)) = some (some (.int .u8 0), 1, 1)) (hs : a.eval s = v) (hown : w.ownsRow base e 1 v n xs) (hx : a.eval x = .string ⟨l.toArray⟩)
    (hb : n + l.length ≤ 100000000) (hbase : base ≤ w.heap.size) (hn : n + l.length = n') (hxs : xs ++ l.map bv = xs')
    (h : ∀ b c W, W.ownsRow base e 1 (.slice b n' c) n' xs' → w.grownBy W v.ownBlock → Below base w W → K (a.put o.dst (.slice b n' c)) W) : o.wp P a w K Q := by
  cases hq : P.info? e with
  | none => simp [hq] at hi
  | some i =>
    simp only [hq, Option.map_some, Option.some.injEq, Prod.mk.injEq] at hi
    have hsz : (⟨l.toArray⟩ : ByteArray).size = l.length := by simp [ByteArray.size]
    obtain ⟨v', W, hr, h2, h3, _⟩ := Lib.run_append_own_string (P := P) w base t u o.type e i ht hu hq hi.1 hi.2.1 hi.2.2 v n xs hown ⟨l.toArray⟩ (by rw [hsz]; unfold maxLen; omega) (by rw [hsz]; omega) hbase
    rw [hsz, strCells_bv] at h2
    subst hn hxs
    obtain ⟨b, c, rfl⟩ := (own_sl h2).slice
    unfold Oper.wp execOp
    simp only [ho, resolve, invoke, builtin, Sem.run_bind, Sem.run_pure, Result.andThen_ok, List.map_toArray, List.map_cons, List.map_nil, hs, hx, hr]
    exact h b c W h2 h3 (grown_below h3 hown (Nat.le_refl _) hbase)
theorem elemAddr_own (g k : Nat) : elemAddr (some ⟨g, 0, none⟩) (k * 1) = ⟨g, k, none⟩ := by
  simp [elemAddr, Addr.add]; exact fun h => h.symm
theorem op_storeRow {o : Oper} {t e : TypeId} {x y : Operand} {g n c k base : Nat} {xs : List Value} {v : Value} (ho : o.op = .store t x y) (hx : a.eval x = .pointer (some (elemAddr (some ⟨g, 0, none⟩) (k * 1)))) (hy : a.eval y = v)
    (hi : (P.info? t).map (·.size) = some 1) (h1 : v.oneCell' = true) (hown : w.ownsRow base e 1 (.slice (some ⟨g, 0, none⟩) n c) n xs) (hk : k < n)
    (h : ∀ W, Upd w g W → W.ownsRow base e 1 (.slice (some ⟨g, 0, none⟩) n c) n (xs.set k v) → K (a.put o.dst undef) W) : o.wp P a w K Q := by
  obtain ⟨hl, h2⟩ := hown
  rcases h2 with ⟨h2, _⟩ | ⟨g', cap, cur, hv, hg, hh, hc, hm, hsz, htk⟩
  · cases h2
  · simp only [Value.slice.injEq, Option.some.injEq, Addr.mk.injEq] at hv
    obtain ⟨⟨rfl, _⟩, _, rfl⟩ := hv
    have hb : Blk w g cur.toList e := by unfold Blk; simpa using hh
    rw [elemAddr_own] at hx
    refine op_store ho hx hy hi h1 hb (by simp; omega) fun W hu hW => h W hu ⟨by simpa using hl, .inr ⟨g, c, (cur.toList.set k v).toArray, rfl, hg, hW, hc, hm, by simpa using hsz, ?_⟩⟩
    rw [← htk]
    simp [List.take_set]
end
section
variable {P : Program} {ops : Array Oper} {Q : Exit → Act → World → Prop} {a a' : Act} {w : World} {S : World → Prop} {md : Region.Mode} {L L' : Array Bool} {fuel : Nat}
theorem h_three {o o2 o3 : Oper} (i j m fuel : Nat) {f0 : Nat} (hf : f0 = fuel + 1) (hr : Region.ready md ops L = [i, j, m]) (ho : ops.toList[i]? = some o) (ho2 : ops.toList[j]? = some o2) (ho3 : ops.toList[m]? = some o3) (hw : Region.wanted o (yielded ops a.tmps) = true) (hw2 : Region.wanted o2 (yielded ops a.tmps) = true) (hw3 : Region.wanted o3 (yielded ops a.tmps) = true)
    (h : o.wp P a w (fun a' w' => S w' ∧ wpAnyH P md ops Q S fuel (L.setIfInBounds i true) a' w') Q) (h2 : o2.wp P a w (fun a' w' => S w' ∧ wpAnyH P md ops Q S fuel (L.setIfInBounds j true) a' w') Q) (h3 : o3.wp P a w (fun a' w' => S w' ∧ wpAnyH P md ops Q S fuel (L.setIfInBounds m true) a' w') Q) : wpAnyH P md ops Q S f0 L a w := by
  subst hf
  refine wpAnyH_all hr (by simp) fun k hk => ?_
  have ho' : ops[i]? = some o := by rw [← ho]; simp
  have ho2' : ops[j]? = some o2 := by rw [← ho2]; simp
  have ho3' : ops[m]? = some o3 := by rw [← ho3]; simp
  rcases List.mem_cons.1 hk with rfl | hk
  · unfold wpOp; simp only [ho', hw, if_true]; exact .inl h
  · rcases List.mem_cons.1 hk with rfl | hk
    · unfold wpOp; simp only [ho2', hw2, if_true]; exact .inl h2
    · obtain rfl : k = m := by simpa using hk
      unfold wpOp; simp only [ho3', hw3, if_true]; exact .inl h3
end
theorem res_tc {P : Program} {fn : Func} {tmps : Array Value} {w : World} {k j : Nat} {t : TypeId} {b off : Nat} {cs : List Value} {d : TypeDesc} {u : Value} (hfn : fn.results = #[.tmp j, .cell k t]) (e : tmps.getD k undef = .pointer (some ⟨b, off, none⟩)) (e2 : tmps.getD j undef = u) (hc : w.rangeAt b off cs)
    (hu : P.underlying t = some d) (hd : d.isRow = true) (hi : (P.info? t).map (·.size) = some cs.length) : (results fn tmps).run P w = .ok (.tuple #[u, .agg cs.toArray]) w := by
  have h := run_loadVar_mid w b off t cs d hc hu hd hi
  have e' : tmps[k]?.getD undef = .pointer (some ⟨b, off, none⟩) := by simpa using e
  have e2' : tmps[j]?.getD undef = u := by simpa using e2
  simp [results, hfn, e', e2', asAddr, h]
theorem own_ge {w : World} {base e size g n c : Nat} {xs : List Value} (h : w.ownsRow base e size (.slice (some ⟨g, 0, none⟩) n c) n xs) : base ≤ g := (h.lt g rfl).1
theorem own_blk {w : World} {base e size g n c : Nat} {xs : List Value} (h : w.ownsRow base e size (.slice (some ⟨g, 0, none⟩) n c) n xs) : ∃ cs, Blk w g cs e := by
  rcases h.2 with ⟨h2, _⟩ | ⟨g', cap, cur, hv, hg, hh, _⟩
  · cases h2
  · simp only [Value.slice.injEq, Option.some.injEq, Addr.mk.injEq] at hv
    obtain ⟨⟨rfl, _⟩, _⟩ := hv
    exact ⟨cur.toList, by unfold Blk; simpa using hh⟩
theorem own_blk_ne {w : World} {base e size g n c b : Nat} {t : TypeId} {xs cs : List Value} (k : Blk w b cs t) (h : w.ownsRow base e size (.slice (some ⟨g, 0, none⟩) n c) n xs) (hne : t ≠ e) : b ≠ g := by
  rintro rfl
  obtain ⟨cs', k'⟩ := own_blk h
  have h1 : w.heap[b]? = some (.cells cs.toArray t (0, 0)) := k
  rw [show w.heap[b]? = some (.cells cs'.toArray e (0, 0)) from k'] at h1
  simp only [Option.some.injEq, Obj.cells.injEq] at h1
  exact hne h1.2.1.symm
theorem Only.of_updRow {T : List TypeId} {w W : World} {base e size g n c : Nat} {xs : List Value} (u : Upd w g W) (h : w.ownsRow base e size (.slice (some ⟨g, 0, none⟩) n c) n xs) (hT : T.contains e = true) : Only T w W := by
  obtain ⟨cs, k⟩ := own_blk h
  exact Only.of_upd u k hT
theorem Upd.ownRow {w W : World} {base base2 e e2 size size2 g n c n2 : Nat} {v : Value} {xs ys : List Value} (u : Upd w g W) (h : w.ownsRow base2 e2 size2 v n2 ys) (o : w.ownsRow base e size (.slice (some ⟨g, 0, none⟩) n c) n xs) (hne : e2 ≠ e) : W.ownsRow base2 e2 size2 v n2 ys := by
  obtain ⟨cs, k⟩ := own_blk o
  exact u.own2 h k hne
end Go.Proofs.YtcjpomibhbakdaaGreatDoor
namespace Go.Proofs.YtcjpomibhbakdaaGreatDoor
open Go.RowKit Go.Extern.Stop Go.Stop Go.Extern
set_option linter.unusedVariables false
attribute [local irreducible] wpList wpAnyH Code.wp Oper.wp Go

theorem step1_xor (a b : Nat) : step1 (a ^^^ b) = step1 a ^^^ step1 b := by
  have e : ∀ r, step1 r = (r / 2) ^^^ (if r % 2 = 1 then 2197175160 else 0) := fun r => by unfold step1; split <;> simp
  rw [e, e, e, Nat.xor_div_two]
  have hp := Nat.xor_mod_two_eq_one (a := a) (b := b)
  by_cases h1 : a % 2 = 1 <;> by_cases h2 : b % 2 = 1
  · rw [if_neg (by rw [hp]; simp [h1, h2]), if_pos h1, if_pos h2, Nat.xor_zero]
    rw [show a / 2 ^^^ 2197175160 ^^^ (b / 2 ^^^ 2197175160) = a / 2 ^^^ b / 2 ^^^ (2197175160 ^^^ 2197175160) by ac_rfl]; simp
  · rw [if_pos (by rw [hp]; simp [h1, h2]), if_pos h1, if_neg h2, Nat.xor_zero]; ac_rfl
  · rw [if_pos (by rw [hp]; simp [h1, h2]), if_neg h1, if_pos h2, Nat.xor_zero]; ac_rfl
  · rw [if_neg (by rw [hp]; simp [h1, h2]), if_neg h1, if_neg h2, Nat.xor_zero, Nat.xor_zero, Nat.xor_zero]
theorem stepN_xor (n a b : Nat) : stepN n (a ^^^ b) = stepN n a ^^^ stepN n b := by
  induction n with
  | zero => rfl
  | succ n ih => rw [stepN, ih, step1_xor]; rfl
theorem step1_even (q : Nat) : step1 (2 * q) = q := by unfold step1; rw [if_neg (by omega)]; omega
theorem stepN_16 (q : Nat) : stepN 4 (16 * q) = q := by
  show step1 (step1 (step1 (step1 (16 * q)))) = q
  rw [show 16 * q = 2 * (2 * (2 * (2 * q))) by omega, step1_even, step1_even, step1_even, step1_even]
theorem split16 (r : Nat) : r = (16 * (r / 16)) ^^^ (r % 16) := by
  apply Nat.eq_of_testBit_eq
  intro i
  rw [Nat.testBit_xor, show 16 * (r / 16) = 2 ^ 4 * (r / 2 ^ 4) from rfl, Nat.testBit_two_pow_mul, Nat.testBit_div_two_pow, show r % 16 = r % 2 ^ 4 from rfl, Nat.testBit_mod_two_pow]
  by_cases h : 4 ≤ i
  · rw [show i - 4 + 4 = i by omega, show decide (i ≥ 4) = true from decide_eq_true h, show decide (i < 4) = false from decide_eq_false (by omega)]; simp
  · rw [show decide (i ≥ 4) = false from decide_eq_false h, show decide (i < 4) = true from decide_eq_true (by omega)]; simp
theorem stepN_4 (r : Nat) : stepN 4 r = (r / 16) ^^^ half (r % 16) := by
  conv => lhs; rw [split16 r]
  rw [stepN_xor, stepN_16]; rfl
theorem stepN_add (m n r : Nat) : stepN (m + n) r = stepN m (stepN n r) := by
  induction m with
  | zero => simp [stepN]
  | succ m ih => rw [Nat.succ_add, stepN, ih]; rfl
theorem crcStep_8 (r : Nat) (x : UInt8) : crcStep r x = stepN 8 (r ^^^ x.toNat) := by
  show _ = stepN (4 + 4) (r ^^^ x.toNat)
  rw [stepN_add, stepN_4, stepN_4]; rfl
theorem step1_odd {r : Nat} (h : r % 2 = 1) : step1 r = (r / 2) ^^^ 2197175160 := if_pos h
theorem step1_ev {r : Nat} (h : ¬ r % 2 = 1) : step1 r = r / 2 := if_neg h
set_option maxRecDepth 100000 in
set_option maxHeartbeats 1000000 in
theorem ref_Step (r : Nat) (w : World) (hr : r < 4294967296) :
    Calls Tryz.prog 131 #[.int .i64 (↑r : Int)] w (Ret (.int .i64 (stepN 8 r : Int)) w) := by
 refine zin 18 Tryz.func131 ?_
 have hB := Below.refl w.heap.size w
 refine zl 12 18 (fun zm zkv V => ∃ (j : Nat), zkv = [(0, .int .i64 (↑(stepN j r) : Int)), (2, .int .i64 0), (3, .int .i64 (↑j : Int))] ∧ zm = 8 - ((↑j : Int)).toNat ∧ Below w.heap.size w V ∧ j ≤ 8) ⟨0, rfl, rfl, hB, by decide⟩ ?_
 rintro _ _ W1 ⟨j, rfl, rfl, hB_1, hj⟩ J1 hJ1 r1
 refine xid 7 ((↑j : Int) < (8 : Int)) (fun hc2 => ?_) (fun hc2 => ?_)
 · refine xq 7 (congrArg (Value.int .i64) (show (Int.tmod (↑(stepN j r) : Int) 2 : Int) = (↑((stepN j r) % 2) : Int) from tmod_natB (stepN j r) 2)) ?_
   refine xq 7 (congrArg (Value.int .i64) (show (IntKind.i64.wrap (Int.tdiv (↑(stepN j r) : Int) 2) : Int) = (↑((stepN j r) / 2) : Int) from quo_natB (stepN j r) 2 (by have := stepN_lt (j := j) hr; omega) (by decide))) ?_
   refine xie 8 (↑((stepN j r) % 2) : Int) (1 : Int) (fun hc3 => ?_) (fun hc3 => ?_)
   · refine xq 2 (congrArg (Value.int .i64) (show (IntKind.i64.wrap (↑(BitVec.ofInt 64 (↑((stepN j r) / 2) : Int) ^^^ BitVec.ofInt 64 (2197175160 : Int)).toNat : Int) : Int) = (↑(((stepN j r) / 2) ^^^ 2197175160) : Int) from i64_xor (a := (stepN j r) / 2) (b := 2197175160) (by have := stepN_lt (j := j) hr; omega) (by decide))) ?_
     refine xwm 6 ((↑j : Int) + 1) (↑(j + 1) : Int) ?_
     refine xv1 2 0 (show (.int .i64 (↑(((stepN j r) / 2) ^^^ 2197175160) : Int) : Value) = .int .i64 (↑(stepN (j + 1) r) : Int) from by rw [show stepN (j + 1) r = step1 (stepN j r) from rfl, step1_odd (by omega)]) ?_
     exact ze 0 (hJ1 _ _ _ ⟨j + 1, rfl, rfl, hB_1, by omega⟩ (by omega))
   refine xwm 5 ((↑j : Int) + 1) (↑(j + 1) : Int) ?_
   refine xv1 2 0 (show (.int .i64 (↑((stepN j r) / 2) : Int) : Value) = .int .i64 (↑(stepN (j + 1) r) : Int) from by rw [show stepN (j + 1) r = step1 (stepN j r) from rfl, step1_ev (by omega)]) ?_
   exact ze 0 (hJ1 _ _ _ ⟨j + 1, rfl, rfl, hB_1, by omega⟩ (by omega))
 refine xe 12 (.int .i64 (↑(stepN j r) : Int)) ?_
 obtain rfl : j = 8 := by omega
 exact ⟨rfl, hB_1⟩
set_option maxRecDepth 100000 in
set_option maxHeartbeats 1000000 in
theorem ref_More (a : Option Addr) (c : Nat) (l : List UInt8) (w : World) (hl : l.length ≤ 100000000) (h : Bys w (.slice a l.length c) l) :
    Calls Tryz.prog 129 #[.int .i64 0, .slice a l.length c] w (Ret (.int .i64 (crcSum l : Int)) w) := by
 refine zin 31 Tryz.func129 ?_
 have hB := Below.refl w.heap.size w
 refine zl 33 31 (fun zm zkv V => ∃ (i : Nat), zkv = [(1, .slice a l.length c), (4, .int .i64 0), (5, .int .i64 (↑(crcRun 4294967295 (l.take i)) : Int)), (6, .int .i64 (↑i : Int))] ∧ zm = l.length - ((↑i : Int)).toNat ∧ Below w.heap.size w V ∧ i ≤ l.length) ⟨0, rfl, rfl, hB, Nat.zero_le _⟩ ?_
 rintro _ _ W1 ⟨i, rfl, rfl, hB_1, hi⟩ J1 hJ1 r1
 refine xid 9 ((↑i : Int) < (↑l.length : Int)) (fun hc2 => ?_) (fun hc2 => ?_)
 · refine xx 8 _ l.length i 1 (Bys.elem h (k := i) (by omega)).1 ?_
   refine xl 0 ((Bys.elem (h.below hB_1) (k := i) (by omega)).2) ?_
   refine xq 0 (congrArg (Value.int .i64) (show (IntKind.i64.wrap (↑(l.getD i 0).toNat : Int) : Int) = (↑(l.getD i 0).toNat : Int) from i64_nat (by have := (l.getD i 0).toNat_lt; omega))) ?_
   refine xq 0 (congrArg (Value.int .i64) (show (IntKind.i64.wrap (↑(BitVec.ofInt 64 (↑(crcRun 4294967295 (l.take i)) : Int) ^^^ BitVec.ofInt 64 (↑(l.getD i 0).toNat : Int)).toNat : Int) : Int) = (↑((crcRun 4294967295 (l.take i)) ^^^ (l.getD i 0).toNat) : Int) from i64_xor (crcRun_lt (by decide) _) (u8_lt _))) ?_
   refine xr 0 (args := #[.int .i64 (↑((crcRun 4294967295 (l.take i)) ^^^ (l.getD i 0).toNat) : Int)]) (ref_Step ((crcRun 4294967295 (l.take i)) ^^^ (l.getD i 0).toNat) _ (Nat.xor_lt_two_pow (n := 32) (crcRun_lt (by decide) _) (u8_lt _))) fun W3 hb3 => ?_
   refine xwm 6 ((↑i : Int) + 1) (↑(i + 1) : Int) ?_
   refine xv1 2 5 (show (.int .i64 (↑(stepN 8 ((crcRun 4294967295 (l.take i)) ^^^ (l.getD i 0).toNat)) : Int) : Value) = .int .i64 (↑(crcRun 4294967295 (l.take (i + 1))) : Int) from by rw [crcRun_take (by omega), crcStep_8]) ?_
   have hB'1 := Bl.next hB_1 hb3
   exact ze 0 (hJ1 _ _ _ ⟨i + 1, rfl, rfl, hB'1, by omega⟩ (by omega))
 refine xq 8 (congrArg (Value.int .i64) (show (IntKind.i64.wrap (↑(BitVec.ofInt 64 (↑(crcRun 4294967295 (l.take i)) : Int) ^^^ BitVec.ofInt 64 (4294967295 : Int)).toNat : Int) : Int) = (↑((crcRun 4294967295 (l.take i)) ^^^ 4294967295) : Int) from i64_xor (b := 4294967295) (crcRun_lt (by decide) _) (by decide))) ?_
 refine xe 4 (.int .i64 (↑((crcRun 4294967295 (l.take i)) ^^^ 4294967295) : Int)) ?_
 obtain rfl : i = l.length := by omega
 rw [List.take_length]
 exact ⟨rfl, hB_1⟩
set_option maxRecDepth 100000 in
set_option maxHeartbeats 1000000 in
theorem ref_Sum (a : Option Addr) (c : Nat) (l : List UInt8) (w : World) (hl : l.length ≤ 100000000) (h : Bys w (.slice a l.length c) l) :
    Calls Tryz.prog 121 #[.slice a l.length c] w (Ret (.int .i64 (crcSum l : Int)) w) := by
 refine zin 5 Tryz.func121 ?_
 refine xr 8 (args := #[.int .i64 0, .slice a l.length c]) (ref_More a c l _ hl (h.below (Below.refl w.heap.size _))) fun W1 hb1 => ?_
 exact xe 4 (.int .i64 (↑(crcSum l) : Int)) ⟨rfl, hb1⟩
theorem ref_SumN (a : Option Addr) (n c : Nat) (l : List UInt8) (w : World) (hn : l.length = n) (hl : n ≤ 100000000) (h : Bys w (.slice a n c) l) : Calls Tryz.prog 121 #[.slice a n c] w (Ret (.int .i64 (crcSum l : Int)) w) := by
  subst hn; exact ref_Sum a c l w hl h
theorem leB_snoc (n : Int) (w : Nat) : leB n (w + 1) = leB n w ++ [byteAt n w] := by simp [leB, List.range_succ]
theorem u8_byteAt (m i : Nat) : IntKind.u8.wrap (((m / 256 ^ i) % 256 : Nat) : Int) = ((byteAt (m : Int) i).toNat : Int) := by
  rw [byte_0 (Int.natCast_nonneg _)]
  unfold byteAt
  simp only [Int.toNat_natCast, Nat.pow_zero, Nat.div_one]
  congr 2
  apply UInt8.toNat_inj.1
  simp [UInt8.toNat_ofNat']
set_option maxRecDepth 100000 in
set_option maxHeartbeats 1000000 in
theorem ref_Bytes (m w : Nat) (W : World) (hm : m < 9223372036854775808) (hw : w ≤ 8) :
    Calls Tryz.prog 76 #[.int .i64 (↑m : Int), .int .i64 (↑w : Int)] W (RetS (fun W' r => ∃ p c, r = .slice p w c ∧ W'.ownsRow W.heap.size 5 1 (.slice p w c) w ((leB (↑m : Int) w).map bv)) W) := by
 refine zin 21 Tryz.func76 ?_
 refine xv1 17 0 (show (.int .i64 (↑m : Int) : Value) = .int .i64 ((m / 256 ^ 0 : Nat) : Int) from by rw [Nat.pow_zero, Nat.div_one]) ?_
 have hB := Below.refl W.heap.size W
 refine zl 0 21 (fun zm zkv V => ∃ (i : Nat) (p : Option Addr) (c : Nat), zkv = [(0, .int .i64 (↑(m / 256 ^ i) : Int)), (1, .int .i64 (↑w : Int)), (4, .slice none 0 0), (5, .slice p i c), (6, .int .i64 (↑i : Int))] ∧ zm = w - ((↑i : Int)).toNat ∧ Below W.heap.size W V ∧ V.ownsRow W.heap.size 5 1 (.slice p i c) i ((leB (↑m : Int) i).map bv) ∧ i ≤ w) ⟨0, _, _, rfl, rfl, hB, World.ownsRow_nil _ _ _ _, Nat.zero_le _⟩ ?_
 rintro _ _ W1 ⟨i, p, c, rfl, rfl, hB_1, ho, hi⟩ J1 hJ1 r1
 refine xid 8 ((↑i : Int) < (↑w : Int)) (fun hc2 => ?_) (fun hc2 => ?_)
 · refine xq 8 (congrArg (Value.int .i64) (show (Int.tmod (↑(m / 256 ^ i) : Int) 256 : Int) = (↑((m / 256 ^ i) % 256) : Int) from tmod_natB (m / 256 ^ i) 256)) ?_
   refine xq 0 (congrArg (Value.int .u8) (show (IntKind.u8.wrap (↑((m / 256 ^ i) % 256) : Int) : Int) = (↑(byteAt (↑m : Int) i).toNat : Int) from u8_byteAt m i)) ?_
   refine xbs 0 1 [.int .u8 (↑(byteAt (↑m : Int) i).toNat : Int)] 5 fun b3 W3 n3 => ?_
   have r3_ho := own_ne ho n3
   have ho'1 := own_below ho n3.below
   have hB'1 := Bl.next hB_1 n3.below
   refine xbi 0 fun _ _ _ _ zJ zQ zo zx zy zK => op_app (m := 1) (news := [.int .u8 (↑(byteAt (↑m : Int) i).toNat : Int)]) (.int .u8 0) 1 1 (i + 1) ((leB (↑m : Int) (i + 1)).map bv) zo Tryz.underlying28 (by kernel_rfl) rfl (by decide) zx ho'1 zy (n3.blk.sl 1 1 (by decide) (by decide)) rfl (by simp [Value.oneCell']) (by unfold maxLen; omega) (by omega) hB'1.size (by rfl) (by rw [leB_snoc, List.map_append]; rfl) fun p4 c4 W4 o4 hg4 hb4 => ?_
   refine zK _ _ ?_
   refine xq 5 (congrArg (Value.int .i64) (show (IntKind.i64.wrap (Int.tdiv (↑(m / 256 ^ i) : Int) 256) : Int) = (↑((m / 256 ^ i) / 256) : Int) from quo_natB (m / 256 ^ i) 256 (Nat.lt_of_le_of_lt (Nat.div_le_self _ _) hm) (by decide))) ?_
   refine xwm 6 ((↑i : Int) + 1) (↑(i + 1) : Int) ?_
   refine xv1 2 0 (show (.int .i64 (↑((m / 256 ^ i) / 256) : Int) : Value) = .int .i64 (↑(m / 256 ^ (i + 1)) : Int) from by rw [Nat.pow_succ, ← Nat.div_div_eq_div_mul]) ?_
   have hB'2 := hB'1.trans hb4
   exact ze 0 (hJ1 _ _ _ ⟨i + 1, _, _, rfl, rfl, hB'2, o4, by omega⟩ (by omega))
 refine xe 12 (.slice p i c) ?_
 obtain rfl : i = w := by omega
 exact ⟨_, rfl, hB_1, _, _, rfl, ho⟩
theorem ref_BytesN (n : Int) (w : Nat) (wi : Int) (W : World) (h0 : 0 ≤ n) (hn : n < 9223372036854775808) (hwi : wi = (w : Int)) (hw : w ≤ 8) : Calls Tryz.prog 76 #[.int .i64 n, .int .i64 wi] W (RetS (fun W' r => ∃ p c, r = .slice p w c ∧ W'.ownsRow W.heap.size 5 1 (.slice p w c) w ((leB n w).map bv)) W) := by
  subst hwi
  obtain ⟨m, rfl⟩ : ∃ m : Nat, n = m := ⟨n.toNat, by omega⟩
  exact ref_Bytes m w W (by omega) hw
set_option maxRecDepth 100000 in
set_option maxHeartbeats 1000000 in
theorem ref_Salt1 (w : World) :
    Calls Tryz.prog 122 #[.int .i64 1] w (Ret (.int .i64 (saltN 1 : Int)) w) := by
 refine zin 15 Tryz.func122 ?_
 refine xbs 7 5 [.int .i64 0, .int .i64 160774, .int .i64 121107, .int .i64 240779, .int .i64 160478] 3 fun b1 W1 n1 => ?_
 refine xb 22 1 n1.blk ?_
 exact xe 4 (.int .i64 160774) ⟨rfl, n1.below⟩
set_option maxRecDepth 100000 in
set_option maxHeartbeats 1000000 in
theorem ref_Salt2 (w : World) :
    Calls Tryz.prog 122 #[.int .i64 2] w (Ret (.int .i64 (saltN 2 : Int)) w) := by
 refine zin 15 Tryz.func122 ?_
 refine xbs 7 5 [.int .i64 0, .int .i64 160774, .int .i64 121107, .int .i64 240779, .int .i64 160478] 3 fun b1 W1 n1 => ?_
 refine xb 22 2 n1.blk ?_
 exact xe 4 (.int .i64 121107) ⟨rfl, n1.below⟩
set_option maxRecDepth 100000 in
set_option maxHeartbeats 1000000 in
theorem ref_Salt3 (w : World) :
    Calls Tryz.prog 122 #[.int .i64 3] w (Ret (.int .i64 (saltN 3 : Int)) w) := by
 refine zin 15 Tryz.func122 ?_
 refine xbs 7 5 [.int .i64 0, .int .i64 160774, .int .i64 121107, .int .i64 240779, .int .i64 160478] 3 fun b1 W1 n1 => ?_
 refine xb 22 3 n1.blk ?_
 exact xe 4 (.int .i64 240779) ⟨rfl, n1.below⟩
set_option maxRecDepth 100000 in
set_option maxHeartbeats 1000000 in
theorem ref_Salt4 (w : World) :
    Calls Tryz.prog 122 #[.int .i64 4] w (Ret (.int .i64 (saltN 4 : Int)) w) := by
 refine zin 15 Tryz.func122 ?_
 refine xbs 7 5 [.int .i64 0, .int .i64 160774, .int .i64 121107, .int .i64 240779, .int .i64 160478] 3 fun b1 W1 n1 => ?_
 refine xb 22 4 n1.blk ?_
 exact xe 4 (.int .i64 160478) ⟨rfl, n1.below⟩
theorem ref_Salt (kind : Int) (h1 : 1 ≤ kind) (h2 : kind ≤ 4) (w : World) : Calls Tryz.prog 122 #[.int .i64 kind] w (Ret (.int .i64 (saltN kind : Int)) w) := by
  obtain rfl | rfl | rfl | rfl : kind = 1 ∨ kind = 2 ∨ kind = 3 ∨ kind = 4 := by omega
  · exact ref_Salt1 w
  · exact ref_Salt2 w
  · exact ref_Salt3 w
  · exact ref_Salt4 w
set_option maxRecDepth 100000 in
set_option maxHeartbeats 1000000 in
theorem ref_known (kind no : Int) (w : World) :
    Calls Tryz.prog 120 #[.int .i64 kind, .int .i64 no] w (Ret (.bool (knownB kind no)) w) := by
 refine zin 19 Tryz.func120 ?_
 refine xg 10 [6, 7] (decide (kind ≥ (1 : Int))) (fun hc1 => ?_) (fun hc1 => ?_)
 · have hc1 := of_decide_eq_true hc1
   refine xg 4 [9, 10, 11] (decide (kind ≤ (4 : Int))) (fun hc2 => ?_) (fun hc2 => ?_)
   · have hc2 := of_decide_eq_true hc2
     refine xg 4 [13, 14, 15] (decide (no ≥ (0 : Int))) (fun hc3 => ?_) (fun hc3 => ?_)
     · have hc3 := of_decide_eq_true hc3
       exact xe 7 (.bool (decide (no < (14400 : Int)))) ⟨by rw [show knownB kind no = decide (no < 14400) from decide_eq_decide.2 ⟨fun h => h.2.2.2, fun h => ⟨by omega, by omega, by omega, h⟩⟩], (Below.refl w.heap.size _)⟩
     have hc3 := of_decide_eq_false hc3
     exact xe 7 (.bool false) ⟨by rw [show knownB kind no = false from decide_eq_false (by omega)], (Below.refl w.heap.size _)⟩
   have hc2 := of_decide_eq_false hc2
   exact xe 11 (.bool false) ⟨by rw [show knownB kind no = false from decide_eq_false (by omega)], (Below.refl w.heap.size _)⟩
 have hc1 := of_decide_eq_false hc1
 exact xe 15 (.bool false) ⟨by rw [show knownB kind no = false from decide_eq_false (by omega)], (Below.refl w.heap.size _)⟩
set_option maxRecDepth 100000 in
set_option maxHeartbeats 1000000 in
theorem ref_Seal_bad (kind no : Int) (a : Option Addr) (c : Nat) (li : List UInt8) (w : World) (hk : knownB kind no = false) :
    Calls Tryz.prog 107 #[.int .i64 kind, .int .i64 no, .slice a li.length c] w (Ret (.tuple #[.slice none 0 0, .int .i64 1]) w) := by
 refine zin 42 Tryz.func107 ?_
 refine xr 11 (args := #[.int .i64 kind, .int .i64 no]) (ref_known kind no _) fun W1 hb1 => ?_
 refine xk 3 (show (!(knownB kind no) : Bool) = true from by rw [hk]; rfl) ?_
 exact xe 8 (.tuple #[.slice none 0 0, .int .i64 1]) ⟨rfl, hb1⟩
set_option maxRecDepth 100000 in
set_option maxHeartbeats 1000000 in
theorem ref_Seal_long (kind no : Int) (a : Option Addr) (c : Nat) (li : List UInt8) (w : World) (hk : knownB kind no = true) (hl : 244 < li.length) :
    Calls Tryz.prog 107 #[.int .i64 kind, .int .i64 no, .slice a li.length c] w (Ret (.tuple #[.slice none 0 0, .int .i64 2]) w) := by
 refine zin 42 Tryz.func107 ?_
 refine xr 11 (args := #[.int .i64 kind, .int .i64 no]) (ref_known kind no _) fun W1 hb1 => ?_
 refine xk 3 (show (!(knownB kind no) : Bool) = false from by rw [hk]; rfl) ?_
 refine xk 10 (show (decide ((↑li.length : Int) > (244 : Int)) : Bool) = true from decide_eq_true (by omega)) ?_
 exact xe 8 (.tuple #[.slice none 0 0, .int .i64 2]) ⟨rfl, hb1⟩
def refHead (kind no : Int) (li : List UInt8) : List UInt8 := leB no 4 ++ leB kind 2 ++ [0, 0] ++ li
theorem refHead_len (kind no : Int) (li : List UInt8) : (refHead kind no li).length = 8 + li.length := by simp [refHead, leB_len]; omega
def refPad (kind no : Int) (li : List UInt8) (m : Nat) : List UInt8 := refHead kind no li ++ List.replicate (m - (8 + li.length)) 0
theorem refPad_len {kind no : Int} {li : List UInt8} {m : Nat} (h : 8 + li.length ≤ m) : (refPad kind no li m).length = m := by simp [refPad, refHead_len]; omega
theorem refPad_zero (kind no : Int) (li : List UInt8) : refPad kind no li (8 + li.length) = refHead kind no li := by simp [refPad]
theorem refPad_next {kind no : Int} {li : List UInt8} {m : Nat} (h : 8 + li.length ≤ m) : refPad kind no li (m + 1) = refPad kind no li m ++ [0] := by
  unfold refPad
  rw [show m + 1 - (8 + li.length) = (m - (8 + li.length)) + 1 by omega, List.replicate_succ', ← List.append_assoc]
theorem refPad_seal3 {kind no : Int} {li : List UInt8} (hl : li.length ≤ 244) : refPad kind no li 252 = (seal3 kind no li).take 252 := by
  have l1 := seal1_len hl
  have l2 := seal2_len (no := no) hl
  have l3 := seal3_len (kind := kind) (no := no) hl
  apply ext_getD
  · rw [refPad_len (by omega)]; simp [l3]
  · intro j hj
    rw [refPad_len (by omega)] at hj
    have e : ((seal3 kind no li).take 252).getD j 0 = (seal3 kind no li).getD j 0 := by simp only [List.getD]; rw [List.getElem?_take, if_pos hj]
    rw [e]
    unfold seal3
    rw [putB_get (by rw [leB_len]; omega), leB_len]
    unfold refPad refHead
    simp only [List.getD, List.append_assoc]
    rw [List.getElem?_append, leB_len]
    by_cases h1 : j < 4
    · rw [if_pos h1, if_neg (by omega)]
      have := putB_get (l := seal1 li) (k := 0) (x := leB no 4) (by rw [leB_len]; omega) j
      rw [if_pos (by rw [leB_len]; omega)] at this
      unfold seal2
      simp only [List.getD] at this
      rw [this, Nat.sub_zero]
    · rw [if_neg h1, List.getElem?_append, leB_len]
      by_cases h2 : j < 6
      · rw [if_pos (by omega), if_pos (by omega)]
      · rw [if_neg (by omega), if_neg (by omega)]
        have := putB_get (l := seal1 li) (k := 0) (x := leB no 4) (by rw [leB_len]; omega) j
        rw [if_neg (by rw [leB_len]; omega)] at this
        have h3 := putB_get (l := List.replicate 256 (0 : UInt8)) (k := 8) (x := li) (by rw [List.length_replicate]; omega) j
        unfold seal2
        simp only [List.getD] at this h3
        rw [this]
        unfold seal1
        rw [h3, List.getElem?_append]
        have hz := zeros_get 256 j
        simp only [List.getD] at hz
        by_cases h4 : j < 8
        · rw [if_pos (by simp; omega), if_neg (by omega), hz]
          obtain rfl | rfl : j = 6 ∨ j = 7 := by omega
          · rfl
          · rfl
        · rw [if_neg (by simp; omega), List.getElem?_append]
          simp only [List.length_cons, List.length_nil]
          by_cases h5 : j < 8 + li.length
          · rw [if_pos (by omega), if_pos (by omega), show j - 4 - 2 - (0 + 1 + 1) = j - 8 by omega]
          · rw [if_neg (by omega), if_neg (by omega), hz]
            have := zeros_get (252 - (8 + li.length)) (j - 4 - 2 - (0 + 1 + 1) - li.length)
            simpa only [List.getD] using this
theorem refSeal_eq {kind no : Int} {li : List UInt8} (hl : li.length ≤ 244) : refPad kind no li 252 ++ leB ((crcSum (refPad kind no li 252) ^^^ saltN kind : Nat) : Int) 4 = sealB kind no li := by
  have l3 := seal3_len (kind := kind) (no := no) hl
  rw [refPad_seal3 hl]
  unfold sealB putB sumB
  rw [leB_len, List.drop_eq_nil_of_le (by omega), List.append_nil]
set_option maxRecDepth 100000 in
set_option maxHeartbeats 4000000 in
theorem ref_Seal_ok (kind no : Int) (a : Option Addr) (c : Nat) (li : List UInt8) (w : World) (h1 : 1 ≤ kind) (h2 : kind ≤ 4) (h0 : 0 ≤ no) (hno : no < 14400) (hk : knownB kind no = true) (hl : li.length ≤ 244) (h : Bys w (.slice a li.length c) li) :
    Calls Tryz.prog 107 #[.int .i64 kind, .int .i64 no, .slice a li.length c] w (RetS (fun w' r => ∃ p c, r = .tuple #[.slice p 256 c, .int .i64 0] ∧ w'.ownsRow w.heap.size 5 1 (.slice p 256 c) 256 ((sealB kind no li).map bv)) w) := by
 refine zin 42 Tryz.func107 ?_
 refine xr 11 (args := #[.int .i64 kind, .int .i64 no]) (ref_known kind no _) fun W1 hb1 => ?_
 refine xk 3 (show (!(knownB kind no) : Bool) = false from by rw [hk]; rfl) ?_
 refine xk 10 (show (decide ((↑li.length : Int) > (244 : Int)) : Bool) = false from decide_eq_false (by omega)) ?_
 refine xc 5 (args := #[.int .i64 no, .int .i64 4]) (ref_BytesN no 4 4 _ (h0) (by omega) rfl (by decide)) ?_
 rintro _ W2 ⟨_, rfl, hb2, p1_, c1_, rfl, b1_⟩
 refine xc 7 (args := #[.int .i64 kind, .int .i64 2]) (ref_BytesN kind 2 2 _ (by omega) (by omega) rfl (by decide)) ?_
 rintro _ W3 ⟨_, rfl, hb3, p2_, c2_, rfl, b2_⟩
 have hs3 := (Bl.next hb1 hb2).size
 have b1_'1 := own_below (own_mono b1_ hb1.size) hb3
 have b2_'1 := own_mono b2_ hs3
 have hB := Bl.next (Bl.next hb1 hb2) hb3
 refine xbi 0 fun _ _ _ _ zJ zQ zo zx zy zK => op_app (m := 2) (news := (leB kind 2).map bv) (.int .u8 0) 1 1 (6) ((leB no 4 ++ leB kind 2).map bv) zo Tryz.underlying28 (by kernel_rfl) rfl (by decide) zx b1_'1 zy (own_sl b2_'1) (by rw [List.length_map, leB_len]) (bv_one _) (by unfold maxLen; omega) (by omega) hB.size (by rfl) (by rw [List.map_append]) fun p4 c4 W4 o4 hg4 hb4 => ?_
 refine zK _ _ ?_
 refine xbs 6 2 [.int .u8 0, .int .u8 0] 5 fun b5 W5 n5 => ?_
 have r5_o4 := own_ne o4 n5
 have o4'1 := own_below o4 n5.below
 have hB'1 := Bl.next (hB.trans hb4) n5.below
 refine xbi 0 fun _ _ _ _ zJ zQ zo zx zy zK => op_app (m := 2) (news := [.int .u8 0, .int .u8 0]) (.int .u8 0) 1 1 (8) ((leB no 4 ++ leB kind 2 ++ [0, 0]).map bv) zo Tryz.underlying28 (by kernel_rfl) rfl (by decide) zx o4'1 zy (n5.blk.sl 2 2 (by decide) (by decide)) rfl (by simp [Value.oneCell']) (by unfold maxLen; omega) (by omega) hB'1.size (by rfl) (by rw [List.map_append (l₂ := [0, 0])]; rfl) fun p6 c6 W6 o6 hg6 hb6 => ?_
 refine zK _ _ ?_
 have hB'2 := hB'1.trans hb6
 refine xbi 7 fun _ _ _ _ zJ zQ zo zx zy zK => op_app (m := li.length) (news := li.map bv) (.int .u8 0) 1 1 (8 + li.length) ((refPad kind no li (8 + li.length)).map bv) zo Tryz.underlying28 (by kernel_rfl) rfl (by decide) zx o6 zy (h.below hB'2) (by simp) (bv_one _) (by unfold maxLen; omega) (by omega) hB'2.size (by rfl) (by rw [refPad_zero, refHead, List.map_append (l₂ := li)]) fun p7 c7 W7 o7 hg7 hb7 => ?_
 refine zK _ _ ?_
 have hB'3 := hB'2.trans hb7
 refine zl 5 42 (fun zm zkv V => ∃ (m : Nat) (p : Option Addr) (c5 : Nat), zkv = [(0, .int .i64 kind), (6, .slice none 0 0), (7, .int .i64 0), (8, .slice p m c5)] ∧ zm = 252 - m ∧ Below w.heap.size w V ∧ V.ownsRow w.heap.size 5 1 (.slice p m c5) m ((refPad kind no li m).map bv) ∧ 8 + li.length ≤ m ∧ m ≤ 252) ⟨_, _, _, rfl, rfl, hB'3, o7, Nat.le_refl _, by omega⟩ ?_
 rintro _ _ W8 ⟨m, p, c5, rfl, rfl, hB_8, hm, hm1, hm2⟩ J8 hJ8 r8
 refine xid 8 ((↑m : Int) < (252 : Int)) (fun hc9 => ?_) (fun hc9 => ?_)
 · refine xbs 5 1 [.int .u8 0] 5 fun b10 W10 n10 => ?_
   have r10_hm := own_ne hm n10
   have hm'1 := own_below hm n10.below
   have hB'4 := Bl.next hB_8 n10.below
   refine xbi 0 fun _ _ _ _ zJ zQ zo zx zy zK => op_app (m := 1) (news := [.int .u8 0]) (.int .u8 0) 1 1 (m + 1) ((refPad kind no li (m + 1)).map bv) zo Tryz.underlying28 (by kernel_rfl) rfl (by decide) zx hm'1 zy (n10.blk.sl 1 1 (by decide) (by decide)) rfl (by simp [Value.oneCell']) (by unfold maxLen; omega) (by omega) hB'4.size (by rfl) (by rw [refPad_next (by omega), List.map_append]; rfl) fun p11 c11 W11 o11 hg11 hb11 => ?_
   refine zK _ _ ?_
   have hB'5 := hB'4.trans hb11
   exact ze 3 (hJ8 _ _ _ ⟨m + 1, _, _, rfl, rfl, hB'5, o11, by omega, by omega⟩ (by omega))
 have hme : m = 252 := by omega
 refine xr 9 (args := #[.slice p m c5]) (ref_SumN p m c5 (refPad kind no li m) _ (refPad_len hm1) (by omega) (bys_of (own_sl hm) (refPad_len hm1))) fun W12 hb12 => ?_
 refine xr 1 (args := #[.int .i64 kind]) (ref_Salt kind h1 h2 _) fun W13 hb13 => ?_
 refine xq 0 (congrArg (Value.int .i64) (show (IntKind.i64.wrap (↑(BitVec.ofInt 64 (↑(crcSum (refPad kind no li m)) : Int) ^^^ BitVec.ofInt 64 (↑(saltN kind) : Int)).toNat : Int) : Int) = (↑(crcSum (refPad kind no li m) ^^^ saltN kind) : Int) from i64_xor (crcSum_lt _) (saltN_lt _))) ?_
 refine xc 0 (args := #[.int .i64 (↑(crcSum (refPad kind no li m) ^^^ saltN kind) : Int), .int .i64 4]) (ref_BytesN ((crcSum (refPad kind no li m) ^^^ saltN kind : Nat) : Int) 4 4 _ (Int.natCast_nonneg _) (by have := Nat.xor_lt_two_pow (n := 32) (crcSum_lt (refPad kind no li m)) (saltN_lt kind); omega) rfl (by decide)) ?_
 rintro _ W14 ⟨_, rfl, hb14, p3_, c3_, rfl, b3_⟩
 have hs14 := (Bl.next (Bl.next hB_8 hb12) hb13).size
 have hm'2 := own_below (own_below (own_below hm hb12) hb13) hb14
 have b3_'1 := own_mono b3_ hs14
 have hB'6 := Bl.next (Bl.next (Bl.next hB_8 hb12) hb13) hb14
 refine xbi 0 fun _ _ _ _ zJ zQ zo zx zy zK => op_app (m := 4) (news := (leB ((crcSum (refPad kind no li m) ^^^ saltN kind : Nat) : Int) 4).map bv) (.int .u8 0) 1 1 (256) ((sealB kind no li).map bv) zo Tryz.underlying28 (by kernel_rfl) rfl (by decide) zx hm'2 zy (own_sl b3_'1) (by rw [List.length_map, leB_len]) (bv_one _) (by unfold maxLen; omega) (by omega) hB'6.size (by omega) (by rw [hme, ← refSeal_eq hl, List.map_append]) fun p15 c15 W15 o15 hg15 hb15 => ?_
 refine zK _ _ ?_
 have hB'7 := hB'6.trans hb15
 exact xe 5 (.tuple #[.slice p15 256 c15, .int .i64 0]) ⟨_, rfl, hB'7, _, _, rfl, o15⟩
theorem ref_Seal (kind no : Int) (a : Option Addr) (c : Nat) (li : List UInt8) (w : World) (h : Bys w (.slice a li.length c) li) :
    Calls Tryz.prog 107 #[.int .i64 kind, .int .i64 no, .slice a li.length c] w (SealP kind no li w) := by
  cases hk : knownB kind no with
  | false =>
    refine (ref_Seal_bad kind no a c li w hk).mono ?_
    rintro e W ⟨rfl, hb⟩
    have he : sealE kind no li = 1 := by simp [sealE, hk]
    exact .inl ⟨by rw [he]; decide, by rw [he], hb⟩
  | true =>
    by_cases hl : li.length ≤ 244
    · obtain ⟨h1, h2, h3, h4⟩ := knownB_all hk
      refine (ref_Seal_ok kind no a c li w h1 h2 h3 h4 hk hl h).mono ?_
      rintro e W ⟨_, rfl, hb, p, c2, rfl, ho⟩
      exact .inr ⟨by simp [sealE, hk, hl], hk, hl, p, c2, rfl, hb, ho⟩
    · refine (ref_Seal_long kind no a c li w hk (by omega)).mono ?_
      rintro e W ⟨rfl, hb⟩
      have he : sealE kind no li = 2 := by simp [sealE, hk, hl]
      exact .inl ⟨by rw [he]; decide, by rw [he], hb⟩
end Go.Proofs.YtcjpomibhbakdaaGreatDoor
namespace Go.Proofs.YtcjpomibhbakdaaGreatDoor
open Go.RowKit Go.Extern.Stop Go.Stop Go.Extern
set_option linter.unusedVariables false
attribute [local irreducible] wpList wpAnyH Code.wp Oper.wp Go

theorem rawN_hi (l : List UInt8) : ∀ (j k r : Nat), rawN l (k + j) r ≤ rawN l k (j + r)
  | 0, k, r => by simp
  | j + 1, k, r => by
    have ih := rawN_hi l j (k + 1) r
    rw [show j + 1 + r = (j + r) + 1 by omega, rawN, show k + (j + 1) = k + 1 + j by omega]
    omega
theorem raw8 (l : List UInt8) (k : Nat) : rawN l k 8 < 9223372036854775808 ↔ (l.getD (k + 7) 0).toNat < 128 := by
  have h : ∀ i, (l.getD i 0).toNat < 256 := fun i => (l.getD i 0).toNat_lt
  have h0 := h k
  have h1 := h (k + 1)
  have h2 := h (k + 2)
  have h3 := h (k + 3)
  have h4 := h (k + 4)
  have h5 := h (k + 5)
  have h6 := h (k + 6)
  have h7 := h (k + 7)
  simp only [rawN, Nat.add_assoc, Nat.reduceAdd]
  omega
theorem rawN_last {l : List UInt8} {k w j r : Nat} (h : rawN l k w < 9223372036854775808) (hj : 0 < j) (e : j + r = w) : (l.getD (k + (j - 1)) 0).toNat + 256 * rawN l (k + j) r < 9223372036854775808 ∧ rawN l (k + (j - 1)) (r + 1) = rawN l (k + j) r * 256 + (l.getD (k + (j - 1)) 0).toNat := by
  have h1 := rawN_hi l (j - 1) k (r + 1)
  rw [show j - 1 + (r + 1) = w by omega, rawN, show k + (j - 1) + 1 = k + j by omega] at h1
  refine ⟨by omega, ?_⟩
  rw [rawN, show k + (j - 1) + 1 = k + j by omega]; omega
end Go.Proofs.YtcjpomibhbakdaaGreatDoor
namespace Go.Proofs.YtcjpomibhbakdaaGreatDoor
open Go.RowKit
set_option linter.unusedVariables false
theorem loop_eq (bs : ByteArray) (i : Nat) (r : List UInt8) : ByteArray.toList.loop bs i r = r.reverse ++ bs.data.toList.drop i := by
  have hs : bs.data.toList.length = bs.size := by rw [Array.length_toList]; rfl
  rw [ByteArray.toList.loop]
  split
  · rename_i h
    have h' : i < bs.data.toList.length := by omega
    rw [loop_eq bs (i + 1) _, List.drop_eq_getElem_cons h']
    have e : bs.get! i = bs.data.toList[i] := by
      have h2 : i < bs.data.size := by rw [← Array.length_toList]; exact h'
      show bs.data[i]! = _
      rw [getElem!_pos bs.data i h2]; simp
    rw [e]; simp
  · rename_i h
    rw [List.drop_eq_nil_of_le (by omega)]; simp
termination_by bs.size - i
theorem str_list (a : List UInt8) : (⟨a.toArray⟩ : ByteArray).toList = a := by
  unfold ByteArray.toList; rw [loop_eq]; simp
theorem str_beq (a b : List UInt8) : ((⟨a.toArray⟩ : ByteArray).toList == (⟨b.toArray⟩ : ByteArray).toList) = (a == b) := by rw [str_list, str_list]
theorem byte_at_raw (l : List UInt8) : ∀ (w k i : Nat), i < w → rawN l k w / 256 ^ i % 256 = (l.getD (k + i) 0).toNat
  | 0, k, i, h => absurd h (by omega)
  | w + 1, k, 0, _ => by
    have := (l.getD k 0).toNat_lt
    rw [rawN]; simp only [Nat.pow_zero, Nat.div_one, Nat.add_zero]; omega
  | w + 1, k, i + 1, h => by
    have := (l.getD k 0).toNat_lt
    have ih := byte_at_raw l w (k + 1) i (by omega)
    rw [rawN, Nat.pow_succ, Nat.mul_comm (256 ^ i) 256, ← Nat.div_div_eq_div_mul, show ((l.getD k 0).toNat + 256 * rawN l (k + 1) w) / 256 = rawN l (k + 1) w by omega, ih, show k + 1 + i = k + (i + 1) by omega]
/-- the bytes of a number that was read are the bytes that were read -/
theorem leB_raw {l : List UInt8} {k w : Nat} (h : k + w ≤ l.length) : leB (rawN l k w : Int) w = (l.drop k).take w := by
  apply List.ext_getElem
  · simp [leB_len]; omega
  intro i h1 h2
  have hw : i < w := by simpa [leB_len] using h1
  have e := byte_at_raw l w k i hw
  apply UInt8.toNat_inj.1
  simp only [leB, List.getElem_map, List.getElem_range, byteAt, Int.toNat_natCast, UInt8.toNat_ofNat', List.getElem_take, List.getElem_drop]
  have e2 : l.getD (k + i) 0 = l[k + i]'(by omega) := by simp [List.getD, show k + i < l.length by omega]
  rw [e2] at e
  rw [← e]
theorem leB_inj {m n w : Nat} (hm : m < 256 ^ w) (hn : n < 256 ^ w) (h : leB (m : Int) w = leB (n : Int) w) : m = n := by
  have e : ∀ i, i < w → m / 256 ^ i % 256 = n / 256 ^ i % 256 := fun i hi => by
    have := congrArg (fun l => (l.getD i 0).toNat) h
    simpa [leB, byteAt, List.getD, List.getElem?_range hi, UInt8.toNat_ofNat'] using this
  clear h
  induction w generalizing m n with
  | zero => simp at hm hn; omega
  | succ w ih =>
    have h0 := e 0 (by omega)
    have h1 : m / 256 = n / 256 := ih (by rw [Nat.pow_succ] at hm; omega) (by rw [Nat.pow_succ] at hn; omega) fun i hi => by
      have := e (i + 1) (by omega)
      rw [Nat.pow_succ, Nat.mul_comm (256 ^ i) 256, ← Nat.div_div_eq_div_mul, ← Nat.div_div_eq_div_mul] at this
      exact this
    simp only [Nat.pow_zero, Nat.div_one] at h0
    omega
theorem str_bne (a b : List UInt8) : (!((⟨a.toArray⟩ : ByteArray).toList == (⟨b.toArray⟩ : ByteArray).toList)) = !(a == b) := by rw [str_beq]
theorem not_t {b : Bool} (h : (!b) = true) : b = false := by simpa using h
theorem not_f {b : Bool} (h : (!b) = false) : b = true := by simpa using h
end Go.Proofs.YtcjpomibhbakdaaGreatDoor
namespace Go.Proofs.YtcjpomibhbakdaaGreatDoor
open Go.RowKit Go.Extern.Stop Go.Stop Go.Extern
set_option linter.unusedVariables false

theorem numB_digit (n : Nat) (h : n < 10) : numB n = ⟨#[48 + n.toUInt8]⟩ := by
  have : n = 0 ∨ n = 1 ∨ n = 2 ∨ n = 3 ∨ n = 4 ∨ n = 5 ∨ n = 6 ∨ n = 7 ∨ n = 8 ∨ n = 9 := by omega
  rcases this with rfl | rfl | rfl | rfl | rfl | rfl | rfl | rfl | rfl | rfl <;> (simp [numB, Lib.itoa, Lib.decDigits]; try decide)
theorem text_lives : textB [some 3, some 7] (some 4) = ⟨#[98, 108, 111, 99, 107, 32, 51, 58, 32, 98, 108, 111, 99, 107, 32, 55, 58, 32, 101, 114, 114, 111, 114, 32, 52]⟩ := by
  simp only [textB]
  rw [show numB 3 = ⟨#[51]⟩ from numB_digit 3 (by omega), show numB 7 = ⟨#[55]⟩ from numB_digit 7 (by omega), show numB 4 = ⟨#[52]⟩ from numB_digit 4 (by omega)]
  rfl

end Go.Proofs.YtcjpomibhbakdaaGreatDoor
namespace Go.Proofs.YtcjpomibhbakdaaGreatDoor
open Go.RowKit Go.Extern.Stop Go.Stop Go.Extern
set_option linter.unusedVariables false

/-- an error as the document has it -/
def FltV (w : World) (v : Value) (l : List Int) (c : Int) : Prop := ∃ s, v = .agg #[s, .int .i64 c] ∧ Ints w s l
theorem FltV.below {w w' : World} {v : Value} {l : List Int} {c : Int} (h : FltV w v l c) (hb : Below w.heap.size w w') : FltV w' v l c := by
  obtain ⟨s, rfl, hs⟩ := h
  exact ⟨s, rfl, hs.below hb⟩
def ownL (l : List Int) (c : Int) : List (Option Int) := if c = 0 then [] else l.map some
def ownT (c : Int) : Option Int := if c = 0 then none else some c
theorem ownL_nz {l : List Int} {c : Int} (h : c ≠ 0) : ownL l c = l.map some := if_neg h
theorem ownT_nz {c : Int} (h : c ≠ 0) : ownT c = some c := if_neg h
theorem codeOf_own (l : List Int) (c : Int) : codeOf (ownL l c) (ownT c) = c := by
  by_cases h : c = 0
  · subst h; rfl
  · rw [ownL_nz h, ownT_nz h]; simp [codeOf, noErr]
theorem blocksOf_own (l : List Int) (c : Int) : blocksOf (ownL l c) = if c = 0 then [] else l := by
  by_cases h : c = 0
  · subst h; rfl
  · rw [ownL_nz h, if_neg h]; simp [blocksOf, List.filterMap_map]
theorem drop_some {l : List Int} {k : Nat} (h : k < l.length) : (l.drop k).map some = some l[k] :: (l.drop (k + 1)).map some := by
  rw [List.drop_eq_getElem_cons h]; rfl

theorem res_told {w : World} {B : Nat} {s : Value} {c : Int} {t : TypeId} (h : Blk w B [s, .int .i64 c] t) (hs : ∃ a n m, s = .slice a n m) {tmps : Array Value} (e : tmps.getD 2 undef = .pointer (some ⟨B, 0, none⟩)) :
    (results Tryz.f13 tmps).run Tryz.prog w = .ok (.agg #[s, .int .i64 c]) w := by
  obtain ⟨a, n, m, rfl⟩ := hs
  have c0 := h.cell (i := 0) rfl
  have c1 := h.cell (i := 1) rfl
  have e' : tmps[2]?.getD undef = .pointer (some ⟨B, 0, none⟩) := by simpa using e
  simp [results, Tryz.results13, go_sem, c0, c1, e']
set_option maxHeartbeats 1000000 in
theorem law05_Told (t : Option Int) (l : List (Option Int)) (v : Value) (w : World) (hlen : l.length ≤ 1000000) (hg : ErrT w) (hv : ErrV w l t v) :
    Calls Tryz.prog 13 #[v] w (RetS (fun w' r => FltV w' r (blocksOf l) (codeOf l t)) w) := by
  have hB := Bl.box w (.cells #[.slice none 0 0, .int .i64 0] 31)
  have k0 := Blk.new w [.slice none 0 0, .int .i64 0] 31
  rcases hv.nil_or with ⟨hz, rfl⟩ | ⟨hz, ty, x, rfl⟩
  · obtain ⟨rfl, rfl⟩ := noErr_true hz
    go_enter Tryz.func13, Tryz.ntmps13
    go_wp2_with fail
    exact bodyPost_ret (res_told k0 ⟨_, _, _, rfl⟩ rfl) rfl ⟨_, rfl, hB, _, rfl, .inl ⟨_, _, rfl, rfl, rfl⟩⟩
  · go_enter Tryz.func13, Tryz.ntmps13
    have hv1 := hv.below hB
    go_wp2_with fail
    refine (fault_Blocks t l _ _ hlen hv1).mono ?_
    rintro e w1 ⟨r, rfl, hb1, h1⟩
    have hB1 := Bl.next hB hb1
    go_wp2_with fail
    refine (fault_Code t l _ w1 (hg.below hB1) (hv.below hB1)).mono ?_
    rintro e w2 ⟨rfl, hb2⟩
    have k2 := (k0.below hb1).below hb2
    obtain ⟨a, m, rfl⟩ := (own_sl h1).slice
    have d0 := k2.cell (i := 0) rfl
    have d1 := k2.cell (i := 1) rfl
    have f0 := k2.frozen 0
    have f1 := k2.frozen 1
    have hB2 := Bl.next hB1 hb2
    have hB3 : Below w.heap.size w ((w2.setCell ⟨w.heap.size, 0, none⟩ (.slice a (blocksOf l).length m)).setCell ⟨w.heap.size, 1, none⟩ (.int .i64 (codeOf l t))) := (hB2.setCell (Nat.le_refl _) _).setCell (Nat.le_refl _) _
    have h3 := ownsRow_setCell_below (ownsRow_setCell_below (own_below h1 hb2) (a := ⟨w.heap.size, 0, none⟩) (by simp) (.slice a (blocksOf l).length m)) (a := ⟨w.heap.size, 1, none⟩) (by simp) (.int .i64 (codeOf l t))
    go_wp2_with fail
    exact bodyPost_ret (res_told ((k2.set 0 _).set 1 _) ⟨_, _, _, rfl⟩ rfl) rfl ⟨_, rfl, hB3, _, rfl, own_sl h3⟩
set_option maxRecDepth 100000 in
set_option maxHeartbeats 2000000 in
theorem ref05_Same (l : List Int) (c : Int) (v1 v2 : Value) (w : World) (h1 : FltV w v1 l c) (h2 : FltV w v2 l c) :
    Calls Tryz.prog 12 #[v1, v2] w (Ret (.bool true) w) := by
  obtain ⟨s1, rfl, k1⟩ := h1
  obtain ⟨s2, rfl, k2⟩ := h2
  obtain ⟨a1, p1, rfl⟩ := k1.slice
  obtain ⟨a2, p2, rfl⟩ := k2.slice
  have hmax := k1.len
  have hB : Below w.heap.size w ((w.alloc (.cells #[.slice a1 l.length p1, .int .i64 c] 31)).alloc (.cells #[.slice a2 l.length p2, .int .i64 c] 31)) := Bl.next (Bl.box _ _) (Bl.box _ _)
  have b1 : Blk ((w.alloc (.cells #[.slice a1 l.length p1, .int .i64 c] 31)).alloc (.cells #[.slice a2 l.length p2, .int .i64 c] 31)) w.heap.size [.slice a1 l.length p1, .int .i64 c] 31 := (Blk.new _ _ _).alloc _
  have b2 := Blk.new (w.alloc (.cells #[.slice a1 l.length p1, .int .i64 c] 31)) [.slice a2 l.length p2, .int .i64 c] 31
  simp only [World.size_alloc] at b2
  go_enter Tryz.func12, Tryz.ntmps12
  go_wp2_with fail
  obtain ⟨W, hW⟩ : ∃ W, (w.alloc (.cells #[.slice a1 l.length p1, .int .i64 c] 31)).alloc (.cells #[.slice a2 l.length p2, .int .i64 c] 31) = W := ⟨_, rfl⟩
  change Blk ((w.alloc (.cells #[.slice a1 l.length p1, .int .i64 c] 31)).alloc (.cells #[.slice a2 l.length p2, .int .i64 c] 31)) _ _ _ at b2
  rw [hW] at hB b1 b2 ⊢
  have k1 := k1.below hB
  have k2 := k2.below hB
  clear hW
  go_loopw [5] (fun i wr => ∃ k : Nat, k ≤ l.length ∧ i = .int .i64 k ∧ Below W.heap.size W wr) (fun i _ => l.length - (intOf i).toNat)
  case atStart => exact ⟨0, by omega, rfl, Below.refl _ _⟩
  case round =>
    obtain ⟨k, hk, rfl, hbr⟩ := hrel
    have q1 := b1.below hbr
    have q2 := b2.below hbr
    have c1 := q1.cell (i := 0) rfl
    have c2 := q2.cell (i := 0) rfl
    by_cases hlt : k < l.length
    · rcases Sl.at (k1.below hbr) with h0 | ⟨g1, o1, rfl, hc1⟩
      · rw [List.map_eq_nil_iff] at h0; subst h0; exact absurd hlt (by simp)
      rcases Sl.at (k2.below hbr) with h0 | ⟨g2, o2, rfl, hc2⟩
      · rw [List.map_eq_nil_iff] at h0; subst h0; exact absurd hlt (by simp)
      have e1 : ∀ z : Ext wr, z.val.cell? ⟨w.heap.size, 0, none⟩ = some (.slice (some ⟨g1, o1, none⟩) l.length p1) := fun z => z.get c1
      have e2 : ∀ z : Ext wr, z.val.cell? ⟨w.heap.size + 1, 0, none⟩ = some (.slice (some ⟨g2, o2, none⟩) l.length p2) := fun z => z.get c2
      have e3 : ∀ z : Ext wr, z.val.cell? ⟨g1, o1 + k, none⟩ = some (.int .i64 l[k]) := fun z => z.get (hc1 k _ (by simp [hlt]))
      have e4 : ∀ z : Ext wr, z.val.cell? ⟨g2, o2 + k, none⟩ = some (.int .i64 l[k]) := fun z => z.get (hc2 k _ (by simp [hlt]))
      have i1 : (0 : Int) ≤ (k : Int) := by omega
      have i2 : (k : Int) < (l.length : Int) := by omega
      clear hc1 hc2
      go_wp2_with fail
      refine wp_region_ext (by kernel_rfl) (by kernel_rfl) ?_
      repeat (go_big_quiet_step (fail))
      refine wpQuiet_nil ?_
      intro wx
      go_wp2_with fail
      exact ⟨⟨k + 1, by omega, by go_num, Bl.next hbr wx.below⟩, by simp [intOf]; omega⟩
    · go_wp2_with fail
      go_ret
      exact ⟨rfl, Bl.next hB hbr⟩

theorem res_at05 {w : World} {B : Nat} {s : Value} {c : Int} {t : TypeId} (h : Blk w B [s, .int .i64 c] t) (hs : ∃ a n m, s = .slice a n m) {tmps : Array Value} (e : tmps.getD 4 undef = .pointer (some ⟨B, 0, none⟩)) :
    (results Tryz.f123 tmps).run Tryz.prog w = .ok (.agg #[s, .int .i64 c]) w := by
  obtain ⟨a, n, m, rfl⟩ := hs
  have c0 := h.cell (i := 0) rfl
  have c1 := h.cell (i := 1) rfl
  have e' : tmps[4]?.getD undef = .pointer (some ⟨B, 0, none⟩) := by simpa using e
  simp [results, Tryz.results123, go_sem, c0, c1, e']
set_option maxRecDepth 100000 in
set_option maxHeartbeats 2000000 in
theorem ref05_At (b : Int) (l : List Int) (c : Int) (v : Value) (w : World) (hlen : l.length ≤ 1000000) (hv : FltV w v l c) :
    Calls Tryz.prog 123 #[.int .i64 b, v] w (RetS (fun w' r => FltV w' r (if c = 0 then [] else b :: l) c) w) := by
  obtain ⟨s, rfl, k⟩ := hv
  obtain ⟨i0, hi0, hz0, hz1, hz2⟩ := info_parts (P := Tryz.prog) (e := 3) (z := .int .i64 0) (size := 1) (bytes := 8) (by kernel_rfl)
  obtain ⟨a, p, rfl⟩ := k.slice
  have hB : Below w.heap.size w ((w.alloc (.cells #[.slice a l.length p, .int .i64 c] 31)).alloc (.cells #[.slice none 0 0, .int .i64 0] 31)) := Bl.next (Bl.box _ _) (Bl.box _ _)
  have b1 : Blk ((w.alloc (.cells #[.slice a l.length p, .int .i64 c] 31)).alloc (.cells #[.slice none 0 0, .int .i64 0] 31)) w.heap.size [.slice a l.length p, .int .i64 c] 31 := (Blk.new _ _ _).alloc _
  have b2 := Blk.new (w.alloc (.cells #[.slice a l.length p, .int .i64 c] 31)) [.slice none 0 0, .int .i64 0] 31
  simp only [World.size_alloc] at b2
  by_cases hc : c = 0
  · subst hc
    go_enter Tryz.func123, Tryz.ntmps123
    go_wp2_with fail
    exact bodyPost_ret (res_at05 b2 ⟨_, _, _, rfl⟩ rfl) rfl ⟨_, rfl, hB, _, rfl, .inl ⟨_, _, rfl, rfl, rfl⟩⟩
  have hc' : (c == 0) = false := by simpa using hc
  simp only [hc, if_false]
  clear hc
  go_enter Tryz.func123, Tryz.ntmps123
  go_wp2_with fail
  obtain ⟨W, hW⟩ : ∃ W, (w.alloc (.cells #[.slice a l.length p, .int .i64 c] 31)).alloc (.cells #[.slice none 0 0, .int .i64 0] 31) = W := ⟨_, rfl⟩
  have hsz : w.heap.size + 1 + 1 = W.heap.size := by rw [← hW]; simp
  change Blk ((w.alloc (.cells #[.slice a l.length p, .int .i64 c] 31)).alloc (.cells #[.slice none 0 0, .int .i64 0] 31)) _ _ _ at b2
  rw [hW] at hB b1 b2 ⊢
  have k1 := k.below hB
  clear hW k
  have c10 := b1.cell (i := 0) rfl
  have c11 := b1.cell (i := 1) rfl
  have c20 := b2.cell (i := 0) rfl
  have c21 := b2.cell (i := 1) rfl
  have f20 := b2.frozen 0
  have f21 := b2.frozen 1
  have hO : (W.alloc (.cells #[.int .i64 b] 3)).ownsRow W.heap.size 3 1 (.slice (some ⟨W.heap.size, 0, none⟩) 1 1) 1 [.int .i64 b] := World.ownsRow_lit W #[.int .i64 b] 1 (Nat.le_refl _) (by unfold maxLen; omega) rfl
  have kA := k1.below (Bl.box W (.cells #[.int .i64 b] 3))
  have hz : w.heap.size < W.heap.size := by omega
  have hz2' : w.heap.size + 1 < W.heap.size := by omega
  have hone : ∀ u ∈ l.map (Value.int .i64), u.oneCell' = true := by intro u hu; obtain ⟨x, _, rfl⟩ := List.mem_map.1 hu; rfl
  go_region_held3 (fun w' => w'.cell? ⟨w.heap.size, 0, none⟩ = some (.slice a l.length p) ∧ w'.cell? ⟨w.heap.size, 1, none⟩ = some (.int .i64 c))
    (first | go_keep | exact ⟨(hb2.cell (by exact hz)).trans (getA _ c10), (hb2.cell (by exact hz)).trans (getA _ c11)⟩)
    ((refine step_app_sl (by rfl) _ _ _ (by rfl) W.heap.size 3 i0 (.int .i64 0) 1 8 Tryz.underlying22 hi0 hz0 hz1 hz2 rfl (by omega) (.slice (some ⟨W.heap.size, 0, none⟩) 1 1) 1 [.int .i64 b] (by rfl) hO (.slice a l.length p) l.length (l.map (Value.int .i64)) (by rfl) kA (by simp) hone (by unfold maxLen; omega) (by omega) (by simp) ?_; intro v2 w2 hown2 hgrow2 hb2; obtain ⟨a2, p2, rfl⟩ := (own_sl hown2).slice; have q2 : Blk w2 (w.heap.size + 1) [.slice none 0 0, .int .i64 0] 31 := Blk.below' (by exact b2.alloc (.cells #[.int .i64 b] 3)) hb2 hz2'; have d0 := q2.cell (i := 0) rfl; have d1 := q2.cell (i := 1) rfl; have g0 := q2.frozen 0; have g1 := q2.frozen 1))
  rename_i hHeld
  clear hHeld
  have hB2 : Below w.heap.size w w2 := Bl.next hB (Below.trans (Bl.box W (.cells #[.int .i64 b] 3)).drew hb2)
  have hB3 : Below w.heap.size w ((w2.setCell ⟨w.heap.size + 1, 0, none⟩ (.slice a2 (1 + l.length) p2)).setCell ⟨w.heap.size + 1, 1, none⟩ (.int .i64 c)) := (hB2.setCell (by simp) _).setCell (by simp) _
  have h3 := own_sl (ownsRow_setCell_below (ownsRow_setCell_below hown2 (a := ⟨w.heap.size + 1, 0, none⟩) hz2' (.slice a2 (1 + l.length) p2)) (a := ⟨w.heap.size + 1, 1, none⟩) hz2' (.int .i64 c))
  go_wp2_with fail
  refine bodyPost_ret (res_at05 ((q2.set 0 _).set 1 _) ⟨_, _, _, rfl⟩ rfl) rfl ⟨_, rfl, hB3, _, rfl, ?_⟩
  simpa [Ints, Nat.add_comm] using h3
end Go.Proofs.YtcjpomibhbakdaaGreatDoor
namespace Go.Proofs.YtcjpomibhbakdaaGreatDoor
open Go.RowKit Go.Extern.Stop Go.Stop Go.Extern
set_option linter.unusedVariables false
attribute [local irreducible] wpList wpAnyH Code.wp Oper.wp Go

def blksL (l : List UInt8) (k : Nat) : List (List UInt8) := (List.range k).map (blkB l)
theorem blksL_len (l : List UInt8) (k : Nat) : (blksL l k).length = k := by simp [blksL]
theorem blksL_snoc (l : List UInt8) (k : Nat) : blksL l (k + 1) = blksL l k ++ [blkB l k] := by simp [blksL, List.range_succ]
theorem blksL_get (l : List UInt8) {k i : Nat} (h : i < k) : (blksL l k).getD i [] = blkB l i := by simp [blksL, List.getD, List.getElem?_range h]
theorem blkB_take {l : List UInt8} {i m : Nat} (h : i < m) : blkB (l.take (m * 256)) i = blkB l i := by
  unfold blkB
  rw [List.drop_take, List.take_take, Nat.min_eq_left (by omega)]
theorem blksL_take {l : List UInt8} {k : Nat} : blksL (l.take (k * 256)) k = blksL l k := List.map_congr_left fun i hi => blkB_take (List.mem_range.1 hi)
theorem blksL_set {l x : List UInt8} {k j : Nat} (hx : x.length = 256) (hl : k * 256 ≤ l.length) (hj : j < k) : (blksL l k).set j x = blksL (putB l (j * 256) x) k := by
  apply List.ext_getElem?
  intro i
  by_cases hi : i < k
  · rw [List.getElem?_set]
    have e1 : ∀ l : List UInt8, (blksL l k)[i]? = some (blkB l i) := fun l => by simp [blksL, List.getElem?_range hi]
    rw [e1, e1]
    by_cases h : j = i
    · subst h; rw [if_pos rfl, blksL_len, if_pos hi, blkB_put hx (by omega)]
    · rw [if_neg h, blkB_put_other hx (by omega) (by omega) (by omega)]
  · rw [List.getElem?_eq_none (by rw [List.length_set, blksL_len]; omega), List.getElem?_eq_none (by rw [blksL_len]; omega)]
theorem take_blk {l : List UInt8} {i : Nat} : l.take (i * 256) ++ blkB l i = l.take ((i + 1) * 256) := by
  unfold blkB
  rw [Nat.add_mul, Nat.one_mul, List.take_add]
/-- an image of the document's at block bm: k blocks, their bytes l -/
structure RefI (B bm : Nat) (p : Option Addr) (k c : Nat) (l : List UInt8) (w : World) : Prop where
  blk : Blk w bm [.slice p k c] 57
  row : w.ownsRow B 9 1 (.slice p k c) k ((blksL l k).map sv)
  hk : k ≤ 14400
  hl : l.length = k * 256
theorem RefI.below {B bm : Nat} {p : Option Addr} {k c : Nat} {l : List UInt8} {w W : World} (h : RefI B bm p k c l w) (hb : Below w.heap.size w W) : RefI B bm p k c l W := ⟨h.blk.below hb, own_below h.row hb, h.hk, h.hl⟩
theorem RefI.only {B bm : Nat} {p : Option Addr} {k c : Nat} {l : List UInt8} {w W : World} {T : List TypeId} (h : RefI B bm p k c l w) (hO : Only T w W) (hT : T.contains 57 = false ∧ T.contains 9 = false) : RefI B bm p k c l W := ⟨h.blk.only hO hT.1, own_only h.row hO hT.2, h.hk, h.hl⟩
theorem RefI.mono {B B' bm : Nat} {p : Option Addr} {k c : Nat} {l : List UInt8} {w : World} (h : RefI B bm p k c l w) (hB : B' ≤ B) : RefI B' bm p k c l w := ⟨h.blk, own_mono h.row hB, h.hk, h.hl⟩
theorem RefI.base {B bm : Nat} {p : Option Addr} {k c : Nat} {l : List UInt8} {w : World} (h : RefI B bm p k c l w) (hn : 0 < k) : ∃ g, p = some ⟨g, 0, none⟩ := by
  rcases h.row.2 with ⟨_, h0⟩ | ⟨g, cap, cur, hv, _, _, hc, _⟩
  · omega
  · simp only [Value.slice.injEq] at hv
    obtain ⟨rfl, _, rfl⟩ := hv
    exact ⟨g, rfl⟩
set_option maxRecDepth 100000 in
set_option maxHeartbeats 1000000 in
theorem ref_Of (a : Option Addr) (c : Nat) (l : List UInt8) (w : World) (h : Bys w (.slice a l.length c) l) (hl : l.length ≤ 100000000) :
    Calls Tryz.prog 7 #[.slice a l.length c] w (RetS (fun w' r => ∃ bm p c2, r = .pointer (some ⟨bm, 0, none⟩) ∧ w.heap.size ≤ bm ∧ RefI w.heap.size bm p (min (l.length / 256) 14400) c2 (l.take (min (l.length / 256) 14400 * 256)) w') w) := by
 refine zin 32 Tryz.func7 ?_
 refine xa 8 [.slice none 0 0] 57 fun b1 W1 n1 => ?_
 refine zl 5 32 (fun zm zkv V => ∃ (k : Nat) (p : Option Addr) (cp : Nat) (a2 : Option Addr) (c2 : Nat) (l2 : List UInt8), zkv = [(0, .slice a2 l2.length c2), (2, .pointer none), (3, .pointer (some ⟨b1, 0, none⟩))] ∧ zm = l2.length ∧ Below w.heap.size w V ∧ Blk V b1 ([.slice p k cp]) 57 ∧ V.ownsRow w.heap.size 9 1 (.slice p k cp) k ((blksL l k).map sv) ∧ Bys w (.slice a2 l2.length c2) l2 ∧ l2 = l.drop (k * 256) ∧ k * 256 ≤ l.length ∧ k ≤ 14400) ⟨0, none, 0, a, c, l, rfl, rfl, n1.below, n1.blk, World.ownsRow_nil _ _ _ _, h, by simp, by omega, by decide⟩ ?_
 rintro _ _ W2 ⟨k, p, cp, a2, c2, l2, rfl, rfl, hB_2, k2_b1, ho, hen, hl2, hk1, hk2⟩ J2 hJ2 r2
 have hcap := hen.cap rfl
 have hl2n : l2.length = l.length - k * 256 := by rw [hl2]; simp
 refine xg 7 [8, 9] (decide ((↑l2.length : Int) ≥ (256 : Int))) (fun hc3 => ?_) (fun hc3 => ?_)
 · have hc3 := of_decide_eq_true hc3
   refine xb 3 0 k2_b1 ?_
   refine xid 5 ((↑k : Int) < (14400 : Int)) (fun hc4 => ?_) (fun hc4 => ?_)
   · refine xd 4 (.t w.heap.size [9, 57]) ?_
     refine xsH (.e [0, 1, 2, 3, 5] 6) (fun _ _ _ _ zo zx zy V => run_sliceH (k := 256) (b := a2) (n := l2.length) (c := c2) (i := 256) (ki := .i64) zo zx zy rfl (by omega) Tryz.underlying28 (by kernel_rfl) V) ?_
     have hB'1 := Bl.next hB_2 (below_drew W2)
     refine xcvt (.e [] 7) (.t w.heap.size [9, 57]) (fun _ _ _ zo zx V hV => run_bstr zo zx ((Bys.take hen rfl 256 (by omega)).below (sft_keep hB'1 hV (Nat.le_refl _))) (by simp; omega) Tryz.underlying28 Tryz.underlying5 Tryz.underlying9) ?_
     refine xm2 0 4 8 ?_ ?_
     · have k2_b1'1 := k2_b1.below (below_drew W2)
       refine xb 0 0 k2_b1'1 ?_
       refine xbs (.o [] 8) 1 [.string ⟨(l2.take 256).toArray⟩] 9 fun b5 W5 n5 => ?_
       have g5 := n5.ge hB'1
       have ho'1 := own_below ho (below_drew W2)
       have r5_ho := own_ne ho'1 n5
       have ho'2 := own_below ho'1 n5.below
       have hB'2 := Bl.next hB'1 n5.below
       refine ybi (.o [] 9) (.t w.heap.size [9, 57]) fun _ _ _ _ zJ zQ zo zx zy zK => op_app (m := 1) (news := [.string ⟨(l2.take 256).toArray⟩]) (.string ⟨#[]⟩) 1 16 (k + 1) ((blksL l (k + 1)).map sv) zo Tryz.underlying55 (by kernel_rfl) rfl (by decide) zx ho'2 zy (n5.blk.sl 1 1 (by decide) (by decide)) rfl (by simp [Value.oneCell']) (by unfold maxLen; omega) (by omega) hB'2.size (by rfl) (by rw [blksL_snoc, List.map_append, show blkB l k = l2.take 256 from by rw [hl2]; rfl]; rfl) fun px6 cx6 W6 o6 hg6 hb6 => ?_
       refine zK _ _ (sft_grown hb6 hg6 ho'2 (by decide)) ?_
       have k2_b1'2 := (k2_b1'1.below n5.below).grown hg6 ho'2 (by decide)
       have g1 := n1.ge (Below.refl w.heap.size _)
       refine ys (.o [10, 11] 12) k2_b1'2 [.slice px6 (k + 1) cx6] (.t w.heap.size [9, 57]) fun W7 u7 k7 => ⟨(sft_upd u7 k2_b1'2 g1 (by decide)), ?_⟩
       refine xsL 4 (fun _ _ _ _ zo zx zy V => run_sliceLA (k := 256) (b := a2) (n := l2.length) (c := c2) (i := 256) (ki := .i64) 1 zo zx zy rfl (by omega) Tryz.underlying28 (by kernel_rfl) V) ?_
       refine xv1 3 0 (show (.slice (cutA a2 256 c2 1) (l2.length - 256) (c2 - 256) : Value) = .slice (cutA a2 256 c2 1) ((l2.drop 256).length) (c2 - 256) from by rw [List.length_drop]) ?_
       have hB'3 := u7.below (hB'2.trans hb6) g1
       have o6'1 := u7.own2 o6 k2_b1'2 (by decide)
       refine ze 0 (hJ2 _ _ _ ⟨k + 1, _, _, _, _, (l2.drop 256), rfl, rfl, hB'3, k7, o6'1, (by have := Bys.cut hen rfl 256 l2.length (by omega) (Nat.le_refl _); rw [List.take_of_length_le (by simp)] at this; rwa [show (l2.drop 256).length = l2.length - 256 by simp]), by rw [hl2, List.drop_drop, Nat.add_mul, Nat.one_mul], by omega, by omega⟩ ?_)
       show ((l2.drop 256).length) < l2.length
       rw [List.length_drop]; omega
     refine xbs 0 1 [.string ⟨(l2.take 256).toArray⟩] 9 fun b8 W8 n8 => ?_
     have g8 := n8.ge hB'1
     have ho'3 := own_below ho (below_drew W2)
     have r8_ho := own_ne ho'3 n8
     have k2_b1'3 := (k2_b1.below (below_drew W2)).below n8.below
     refine xb (.o [] 4) 0 k2_b1'3 ?_
     have ho'4 := own_below ho'3 n8.below
     have hB'4 := Bl.next hB'1 n8.below
     refine ybi (.o [] 9) (.t w.heap.size [9, 57]) fun _ _ _ _ zJ zQ zo zx zy zK => op_app (m := 1) (news := [.string ⟨(l2.take 256).toArray⟩]) (.string ⟨#[]⟩) 1 16 (k + 1) ((blksL l (k + 1)).map sv) zo Tryz.underlying55 (by kernel_rfl) rfl (by decide) zx ho'4 zy (n8.blk.sl 1 1 (by decide) (by decide)) rfl (by simp [Value.oneCell']) (by unfold maxLen; omega) (by omega) hB'4.size (by rfl) (by rw [blksL_snoc, List.map_append, show blkB l k = l2.take 256 from by rw [hl2]; rfl]; rfl) fun px9 cx9 W9 o9 hg9 hb9 => ?_
     refine zK _ _ (sft_grown hb9 hg9 ho'4 (by decide)) ?_
     have k2_b1'4 := k2_b1'3.grown hg9 ho'4 (by decide)
     have g1 := n1.ge (Below.refl w.heap.size _)
     refine ys (.o [10, 11] 12) k2_b1'4 [.slice px9 (k + 1) cx9] (.t w.heap.size [9, 57]) fun W10 u10 k10 => ⟨(sft_upd u10 k2_b1'4 g1 (by decide)), ?_⟩
     refine xsL 4 (fun _ _ _ _ zo zx zy V => run_sliceLA (k := 256) (b := a2) (n := l2.length) (c := c2) (i := 256) (ki := .i64) 1 zo zx zy rfl (by omega) Tryz.underlying28 (by kernel_rfl) V) ?_
     refine xv1 3 0 (show (.slice (cutA a2 256 c2 1) (l2.length - 256) (c2 - 256) : Value) = .slice (cutA a2 256 c2 1) ((l2.drop 256).length) (c2 - 256) from by rw [List.length_drop]) ?_
     have hB'5 := u10.below (hB'4.trans hb9) g1
     have o9'1 := u10.own2 o9 k2_b1'4 (by decide)
     refine ze 0 (hJ2 _ _ _ ⟨k + 1, _, _, _, _, (l2.drop 256), rfl, rfl, hB'5, k10, o9'1, (by have := Bys.cut hen rfl 256 l2.length (by omega) (Nat.le_refl _); rw [List.take_of_length_le (by simp)] at this; rwa [show (l2.drop 256).length = l2.length - 256 by simp]), by rw [hl2, List.drop_drop, Nat.add_mul, Nat.one_mul], by omega, by omega⟩ ?_)
     show ((l2.drop 256).length) < l2.length
     rw [List.length_drop]; omega
   have g1 := n1.ge (Below.refl w.heap.size _)
   refine xe 12 (.pointer (some ⟨b1, 0, none⟩)) ?_
   obtain rfl : k = min (l.length / 256) 14400 := by omega
   exact ⟨_, rfl, hB_2, _, _, _, rfl, g1, k2_b1, by rw [blksL_take]; exact ho, by omega, by simp; omega⟩
 have hc3 := of_decide_eq_false hc3
 have g1 := n1.ge (Below.refl w.heap.size _)
 refine xe 22 (.pointer (some ⟨b1, 0, none⟩)) ?_
 obtain rfl : k = min (l.length / 256) 14400 := by omega
 exact ⟨_, rfl, hB_2, _, _, _, rfl, g1, k2_b1, by rw [blksL_take]; exact ho, by omega, by simp; omega⟩
set_option maxRecDepth 100000 in
set_option maxHeartbeats 1000000 in
theorem ref_ImgBytes (B bm : Nat) (p : Option Addr) (k c : Nat) (l : List UInt8) (w : World) (hI : RefI B bm p k c l w) :
    Calls Tryz.prog 17 #[.pointer (some ⟨bm, 0, none⟩)] w (RetS (fun w' r => ∃ p2 c2, r = .slice p2 (k * 256) c2 ∧ w'.ownsRow w.heap.size 5 1 (.slice p2 (k * 256) c2) (k * 256) (l.map bv)) w) := by
 have hk := hI.blk
 have hkl := hI.hk
 have hll := hI.hl
 have hr := own_sl hI.row
 refine zin 24 Tryz.func17 ?_
 refine xv1 17 3 (show (.slice none 0 0 : Value) = .slice none (0 * 256) 0 from by rw [Nat.zero_mul]) ?_
 have hB := Below.refl w.heap.size w
 refine zl 0 24 (fun zm zkv V => ∃ (i : Nat) (pb : Option Addr) (cb : Nat), zkv = [(0, .pointer (some ⟨bm, 0, none⟩)), (2, .slice none 0 0), (3, .slice pb (i * 256) cb), (4, .int .i64 (↑i : Int))] ∧ zm = k - ((↑i : Int)).toNat ∧ Below w.heap.size w V ∧ Blk V bm ([.slice p k c]) 57 ∧ V.ownsRow w.heap.size 5 1 (.slice pb (i * 256) cb) (i * 256) ((l.take (i * 256)).map bv) ∧ i ≤ k) ⟨0, _, _, rfl, rfl, hB, hk, by rw [Nat.zero_mul]; exact World.ownsRow_nil _ _ _ _, Nat.zero_le _⟩ ?_
 rintro _ _ W1 ⟨i, pb, cb, rfl, rfl, hB_1, k1_bm, hb_, hi⟩ J1 hJ1 r1
 refine xb 7 0 k1_bm ?_
 refine xid 4 ((↑i : Int) < (↑k : Int)) (fun hc2 => ?_) (fun hc2 => ?_)
 · refine xb 9 0 k1_bm ?_
   refine xx 1 _ k i 1 (Strs.elem hr (blksL_len l k) (k := i) (by omega)).1 ?_
   refine xl 0 ((Strs.elem (hr.below hB_1) (blksL_len l k) (k := i) (by omega)).2) ?_
   have hge3 : (blksL l k).getD i [] = blkB l i := blksL_get l (by omega)
   have hgl3 : ((blksL l k).getD i []).length = 256 := by rw [hge3]; exact blkB_len (by omega)
   refine xbi 0 (t2 := 9) fun _ _ _ _ zJ zQ zo zx zy zK => op_appS ((blksL l k).getD i []) ((i + 1) * 256) ((l.take ((i + 1) * 256)).map bv) zo Tryz.underlying28 Tryz.underlying9 (by kernel_rfl) zx hb_ zy (by omega) hB_1.size (by omega) (by rw [hge3, ← List.map_append, take_blk]) ?_
   intro p3 c3 W3 o3 hg3 hb3
   refine zK _ _ ?_
   refine xwm 6 ((↑i : Int) + 1) (↑(i + 1) : Int) ?_
   have hB'1 := hB_1.trans hb3
   have k1_bm'1 := k1_bm.grown hg3 hb_ (by decide)
   exact ze 2 (hJ1 _ _ _ ⟨i + 1, _, _, rfl, rfl, hB'1, k1_bm'1, o3, by omega⟩ (by omega))
 refine xe 12 (.slice pb (i * 256) cb) ?_
 obtain rfl : i = k := by omega
 rw [List.take_of_length_le (by omega)] at hb_
 exact ⟨_, rfl, hB_1, _, _, rfl, hb_⟩
set_option maxRecDepth 100000 in
set_option maxHeartbeats 1000000 in
theorem ref_ImgWrite_out (B bm : Nat) (p : Option Addr) (k c : Nat) (l : List UInt8) (w : World) (hI : RefI B bm p k c l w) (no : Int) (x : Value) (ho : ¬ (0 ≤ no ∧ no < (k : Int))) :
    Calls Tryz.prog 109 #[.pointer (some ⟨bm, 0, none⟩), .int .i64 no, x] w (Ret (.int .i64 3) w) := by
 have hk := hI.blk
 have hkl := hI.hk
 have hll := hI.hl
 refine zin 29 Tryz.func109 ?_
 refine xg 11 [8, 9] (decide (no < (0 : Int))) (fun hc1 => ?_) (fun hc1 => ?_)
 · have hc1 := of_decide_eq_true hc1
   exact xe 18 (.int .i64 3) ⟨rfl, (Below.refl w.heap.size _)⟩
 have hc1 := of_decide_eq_false hc1
 refine xb 4 0 hk ?_
 refine xk 5 (show (decide (no ≥ (↑k : Int)) : Bool) = true from decide_eq_true (by omega)) ?_
 exact xe 7 (.int .i64 3) ⟨rfl, (Below.refl w.heap.size _)⟩
set_option maxRecDepth 100000 in
set_option maxHeartbeats 1000000 in
theorem ref_ImgWrite_raw (B bm g Bx : Nat) (k c j : Nat) (cur : List Value) (a : Option Addr) (cx : Nat) (lx : List UInt8) (w : World) (hk : Blk w bm [.slice (some ⟨g, 0, none⟩) k c] 57) (kg : Blk w g cur 9) (hne : bm ≠ g) (hcl : k ≤ cur.length) (hj : j < k) (hx : w.ownsRow Bx 5 1 (.slice a 256 cx) 256 (lx.map bv)) (hlx : lx.length = 256) (hBw : B ≤ w.heap.size) (hBg : B ≤ g) :
    Calls Tryz.prog 109 #[.pointer (some ⟨bm, 0, none⟩), .int .i64 (↑j : Int), .slice a 256 cx] w ((fun e w' => e = .returned (.int .i64 0) ∧ Below B w w' ∧ Only [9] w w' ∧ Blk w' g (cur.set j (sv lx)) 9)) := by
 refine zin 29 Tryz.func109 ?_
 refine xgk 11 [8, 9] (show (decide ((↑j : Int) < (0 : Int)) : Bool) = false from decide_eq_false (by omega)) ?_
 refine xb 4 0 hk ?_
 refine xk 5 (show (decide ((↑j : Int) ≥ (↑k : Int)) : Bool) = false from decide_eq_false (by omega)) ?_
 refine xd 14 (.t B [9]) ?_
 have hk'1 := hk.below (below_drew w)
 refine xbt (.e [0, 1, 2] 3) 0 B [9] hk'1 ?_
 have hx'1 := own_below hx (below_drew w)
 refine xcvt (.e [4, 5] 6) (.t B [9]) (fun _ _ _ zo zx V hV => run_bstr zo zx (bys_of (own_sl (own_only hx'1 hV.2 (by decide))) hlx) hlx Tryz.underlying28 Tryz.underlying5 Tryz.underlying9) ?_
 refine xxb (.e [] 7) g 0 k j 1 ?_
 have kg'1 := kg.below (below_drew w)
 refine ysg (.o [] 8) kg'1 (0 + j * 1) (.string ⟨lx.toArray⟩) (by omega) (.t B [9]) fun W2 u2 k2 => ⟨(sft_upd u2 kg'1 hBg (by decide)), ?_⟩
 replace k2 : Blk W2 g (cur.set j (sv lx)) 9 := by rw [← (show cur.set (0 + j * 1) (.string ⟨lx.toArray⟩) = cur.set j (sv lx) from by rw [Nat.zero_add, Nat.mul_one]; rfl)]; exact k2
 have hB := u2.below (Bl.nextB (Below.refl B w) hBw (below_drew w)) hBg
 have hO := (show Only [9] w _ from (Only.of_below (below_drew w))).trans (Only.of_upd u2 kg'1 (by decide))
 exact xe 8 (.int .i64 0) ⟨rfl, hB, hO, k2⟩
def WroteI (B bm : Nat) (p : Option Addr) (k c : Nat) (l : List UInt8) (v : Value) (w : World) (e : Ending) (w' : World) : Prop :=
  e = .returned v ∧ Below B w w' ∧ Only [9] w w' ∧ RefI B bm p k c l w'
theorem ref_ImgWrite (B bm Bx : Nat) (p : Option Addr) (k c : Nat) (l : List UInt8) (j : Nat) (a : Option Addr) (cx : Nat) (lx : List UInt8) (w : World) (hI : RefI B bm p k c l w) (hj : j < k) (hx : w.ownsRow Bx 5 1 (.slice a 256 cx) 256 (lx.map bv)) (hlx : lx.length = 256) (hBw : B ≤ w.heap.size) :
    Calls Tryz.prog 109 #[.pointer (some ⟨bm, 0, none⟩), .int .i64 (j : Int), .slice a 256 cx] w (WroteI B bm p k c (putB l (j * 256) lx) (.int .i64 0) w) := by
  obtain ⟨g, rfl⟩ := hI.base (by omega)
  have hrow := hI.row
  have hge := own_ge hrow
  have hne := own_blk_ne hI.blk hrow (by decide)
  have hkl := hI.hk
  have hll := hI.hl
  obtain ⟨hl1, h2⟩ := hrow
  rcases h2 with ⟨h2, _⟩ | ⟨g', cap, cur, hv, hg, hh, hc, hm, hsz, htk⟩
  · cases h2
  · simp only [Value.slice.injEq, Option.some.injEq, Addr.mk.injEq] at hv
    obtain ⟨⟨rfl, _⟩, _, rfl⟩ := hv
    have hb : Blk w g cur.toList 9 := by unfold Blk; simpa using hh
    refine (ref_ImgWrite_raw B bm g Bx k c j cur.toList a cx lx w hI.blk hb hne (by simp; omega) hj hx hlx hBw hge).mono ?_
    rintro e W ⟨rfl, hB, hO, k2⟩
    refine ⟨rfl, hB, hO, hI.blk.only hO (by decide), ⟨by rw [List.length_map, blksL_len, Nat.mul_one], .inr ⟨g, c, (cur.toList.set j (sv lx)).toArray, rfl, hg, k2, hc, hm, by simpa using hsz, ?_⟩⟩, hkl, by rw [putB_len (by omega), hll]⟩
    rw [← blksL_set hlx (by omega) hj, List.map_set, ← htk]
    simp [List.take_set]
/-- the document's fault of a number at a block -/
def fltL (no er : Int) : List Int := if er = 0 then [] else [no]
theorem fltL_nz {no er : Int} (h : er ≠ 0) : fltL no er = [no] := if_neg h
set_option maxRecDepth 100000 in
set_option maxHeartbeats 1000000 in
theorem ref05_At_z (no : Int) (w : World) :
    Calls Tryz.prog 123 #[.int .i64 no, .agg #[.slice none 0 0, .int .i64 0]] w (Ret (.agg #[.slice none 0 0, .int .i64 0]) w) := by
 refine zin 17 Tryz.func123 ?_
 refine xa 2 [.slice none 0 0, .int .i64 0] 31 fun b1 W1 n1 => ?_
 refine xa 0 [.slice none 0 0, .int .i64 0] 31 fun b2 W2 n2 => ?_
 have d2_b1 := n2.ne n1.blk
 have k1'1 := n1.blk.below n2.below
 refine xb 6 1 k1'1 ?_
 refine xsv 7 n2.blk [.slice none 0 0, .int .i64 0] fun W3 u3 k3 => ?_
 have g2 := n2.ge n1.below
 have hB := u3.below (Bl.next n1.below n2.below) g2
 exact xec 4 k3 (.agg #[.slice none 0 0, .int .i64 0]) ⟨rfl, hB⟩
set_option maxRecDepth 100000 in
set_option maxHeartbeats 1000000 in
theorem ref05_At_n (no er : Int) (w : World) (he : er ≠ 0) :
    Calls Tryz.prog 123 #[.int .i64 no, .agg #[.slice none 0 0, .int .i64 er]] w (RetS (fun w' r => ∃ a c, r = .agg #[.slice a 1 c, .int .i64 er] ∧ w'.ownsRow w.heap.size 3 1 (.slice a 1 c) 1 [.int .i64 no]) w) := by
 refine zin 17 Tryz.func123 ?_
 refine xa 2 [.slice none 0 0, .int .i64 er] 31 fun b1 W1 n1 => ?_
 refine xa 0 [.slice none 0 0, .int .i64 0] 31 fun b2 W2 n2 => ?_
 have d2_b1 := n2.ne n1.blk
 have k1'1 := n1.blk.below n2.below
 refine xb 6 1 k1'1 ?_
 refine xk 3 (show ((er == (0 : Int)) : Bool) = false from beq_false_of_ne he) ?_
 refine xd 3 (.t w.heap.size [3, 31]) ?_
 refine xm3 (.b [0, 2, 5]) 1 3 6 ?_ ?_ ?_
 · refine xbs 0 1 [.int .i64 no] 3 fun b3 W3 n3 => ?_
   refine xm2 0 3 6 ?_ ?_
   · have k1'2 := (k1'1.below (below_drew W2)).below n3.below
     refine xb 0 0 k1'2 ?_
     refine xm2 0 4 6 ?_ ?_
     · have g3 := n3.ge (Bl.next (Bl.next n1.below n2.below) (below_drew W2))
       have o4 := own_of_blk (size := 1) (n := 1) n3.blk g3 rfl (by decide)
       have hB := Bl.next (Bl.next (Bl.next n1.below n2.below) (below_drew W2)) n3.below
       refine ybi 0 (.t w.heap.size [3, 31]) fun _ _ _ _ zJ zQ zo zx zy zK => op_app (m := 0) (news := []) (.int .i64 0) 1 8 (1) ([.int .i64 no]) zo Tryz.underlying22 (by kernel_rfl) rfl (by decide) zx o4 zy (.inl ⟨none, 0, rfl, rfl, rfl⟩) rfl (by simp) (by unfold maxLen; omega) (by omega) hB.size (by rfl) (by rfl) fun px5 cx5 W5 o5 hg5 hb5 => ?_
       refine zK _ _ (sft_grown hb5 hg5 o4 (by decide)) ?_
       have k1'3 := k1'2.grown hg5 o4 (by decide)
       refine xb (.o [] 6) 1 k1'3 ?_
       have k2 := ((n2.blk.below (below_drew W2)).below n3.below).grown hg5 o4 (by decide)
       have g2 := n2.ge n1.below
       refine ysv (.o [7] 8) k2 [.slice px5 1 cx5, .int .i64 er] (.t w.heap.size [3, 31]) fun W6 u6 k6 => ⟨(sft_upd u6 k2 g2 (by decide)), ?_⟩
       have hB'1 := u6.below (hB.trans hb5) g2
       have o5'1 := u6.own2 o5 k2 (by decide)
       exact xec 3 k6 (.agg #[.slice px5 1 cx5, .int .i64 er]) ⟨_, rfl, hB'1, _, _, rfl, o5'1⟩
     refine xb 0 1 k1'2 ?_
     have g3 := n3.ge (Bl.next (Bl.next n1.below n2.below) (below_drew W2))
     have o7 := own_of_blk (size := 1) (n := 1) n3.blk g3 rfl (by decide)
     have hB := Bl.next (Bl.next (Bl.next n1.below n2.below) (below_drew W2)) n3.below
     refine ybi (.o [] 4) (.t w.heap.size [3, 31]) fun _ _ _ _ zJ zQ zo zx zy zK => op_app (m := 0) (news := []) (.int .i64 0) 1 8 (1) ([.int .i64 no]) zo Tryz.underlying22 (by kernel_rfl) rfl (by decide) zx o7 zy (.inl ⟨none, 0, rfl, rfl, rfl⟩) rfl (by simp) (by unfold maxLen; omega) (by omega) hB.size (by rfl) (by rfl) fun px8 cx8 W8 o8 hg8 hb8 => ?_
     refine zK _ _ (sft_grown hb8 hg8 o7 (by decide)) ?_
     have k2 := ((n2.blk.below (below_drew W2)).below n3.below).grown hg8 o7 (by decide)
     have g2 := n2.ge n1.below
     refine ysv (.o [7] 8) k2 [.slice px8 1 cx8, .int .i64 er] (.t w.heap.size [3, 31]) fun W9 u9 k9 => ⟨(sft_upd u9 k2 g2 (by decide)), ?_⟩
     have hB'2 := u9.below (hB.trans hb8) g2
     have o8'1 := u9.own2 o8 k2 (by decide)
     exact xec 3 k9 (.agg #[.slice px8 1 cx8, .int .i64 er]) ⟨_, rfl, hB'2, _, _, rfl, o8'1⟩
   have k1'4 := (k1'1.below (below_drew W2)).below n3.below
   refine xb 0 1 k1'4 ?_
   refine xb (.o [] 3) 0 k1'4 ?_
   have g3 := n3.ge (Bl.next (Bl.next n1.below n2.below) (below_drew W2))
   have o10 := own_of_blk (size := 1) (n := 1) n3.blk g3 rfl (by decide)
   have hB := Bl.next (Bl.next (Bl.next n1.below n2.below) (below_drew W2)) n3.below
   refine ybi (.o [] 4) (.t w.heap.size [3, 31]) fun _ _ _ _ zJ zQ zo zx zy zK => op_app (m := 0) (news := []) (.int .i64 0) 1 8 (1) ([.int .i64 no]) zo Tryz.underlying22 (by kernel_rfl) rfl (by decide) zx o10 zy (.inl ⟨none, 0, rfl, rfl, rfl⟩) rfl (by simp) (by unfold maxLen; omega) (by omega) hB.size (by rfl) (by rfl) fun px11 cx11 W11 o11 hg11 hb11 => ?_
   refine zK _ _ (sft_grown hb11 hg11 o10 (by decide)) ?_
   have k2 := ((n2.blk.below (below_drew W2)).below n3.below).grown hg11 o10 (by decide)
   have g2 := n2.ge n1.below
   refine ysv (.o [7] 8) k2 [.slice px11 1 cx11, .int .i64 er] (.t w.heap.size [3, 31]) fun W12 u12 k12 => ⟨(sft_upd u12 k2 g2 (by decide)), ?_⟩
   have hB'3 := u12.below (hB.trans hb11) g2
   have o11'1 := u12.own2 o11 k2 (by decide)
   exact xec 3 k12 (.agg #[.slice px11 1 cx11, .int .i64 er]) ⟨_, rfl, hB'3, _, _, rfl, o11'1⟩
 · have k1'5 := k1'1.below (below_drew W2)
   refine xb 0 0 k1'5 ?_
   refine xm2 0 1 6 ?_ ?_
   · refine xbs 0 1 [.int .i64 no] 3 fun b13 W13 n13 => ?_
     refine xm2 0 4 6 ?_ ?_
     · have g13 := n13.ge (Bl.next (Bl.next n1.below n2.below) (below_drew W2))
       have o14 := own_of_blk (size := 1) (n := 1) n13.blk g13 rfl (by decide)
       have hB := Bl.next (Bl.next (Bl.next n1.below n2.below) (below_drew W2)) n13.below
       refine ybi 0 (.t w.heap.size [3, 31]) fun _ _ _ _ zJ zQ zo zx zy zK => op_app (m := 0) (news := []) (.int .i64 0) 1 8 (1) ([.int .i64 no]) zo Tryz.underlying22 (by kernel_rfl) rfl (by decide) zx o14 zy (.inl ⟨none, 0, rfl, rfl, rfl⟩) rfl (by simp) (by unfold maxLen; omega) (by omega) hB.size (by rfl) (by rfl) fun px15 cx15 W15 o15 hg15 hb15 => ?_
       refine zK _ _ (sft_grown hb15 hg15 o14 (by decide)) ?_
       have k1'6 := (k1'5.below n13.below).grown hg15 o14 (by decide)
       refine xb (.o [] 6) 1 k1'6 ?_
       have k2 := ((n2.blk.below (below_drew W2)).below n13.below).grown hg15 o14 (by decide)
       have g2 := n2.ge n1.below
       refine ysv (.o [7] 8) k2 [.slice px15 1 cx15, .int .i64 er] (.t w.heap.size [3, 31]) fun W16 u16 k16 => ⟨(sft_upd u16 k2 g2 (by decide)), ?_⟩
       have hB'4 := u16.below (hB.trans hb15) g2
       have o15'1 := u16.own2 o15 k2 (by decide)
       exact xec 3 k16 (.agg #[.slice px15 1 cx15, .int .i64 er]) ⟨_, rfl, hB'4, _, _, rfl, o15'1⟩
     have k1'7 := k1'5.below n13.below
     refine xb 0 1 k1'7 ?_
     have g13 := n13.ge (Bl.next (Bl.next n1.below n2.below) (below_drew W2))
     have o17 := own_of_blk (size := 1) (n := 1) n13.blk g13 rfl (by decide)
     have hB := Bl.next (Bl.next (Bl.next n1.below n2.below) (below_drew W2)) n13.below
     refine ybi (.o [] 4) (.t w.heap.size [3, 31]) fun _ _ _ _ zJ zQ zo zx zy zK => op_app (m := 0) (news := []) (.int .i64 0) 1 8 (1) ([.int .i64 no]) zo Tryz.underlying22 (by kernel_rfl) rfl (by decide) zx o17 zy (.inl ⟨none, 0, rfl, rfl, rfl⟩) rfl (by simp) (by unfold maxLen; omega) (by omega) hB.size (by rfl) (by rfl) fun px18 cx18 W18 o18 hg18 hb18 => ?_
     refine zK _ _ (sft_grown hb18 hg18 o17 (by decide)) ?_
     have k2 := ((n2.blk.below (below_drew W2)).below n13.below).grown hg18 o17 (by decide)
     have g2 := n2.ge n1.below
     refine ysv (.o [7] 8) k2 [.slice px18 1 cx18, .int .i64 er] (.t w.heap.size [3, 31]) fun W19 u19 k19 => ⟨(sft_upd u19 k2 g2 (by decide)), ?_⟩
     have hB'5 := u19.below (hB.trans hb18) g2
     have o18'1 := u19.own2 o18 k2 (by decide)
     exact xec 3 k19 (.agg #[.slice px18 1 cx18, .int .i64 er]) ⟨_, rfl, hB'5, _, _, rfl, o18'1⟩
   refine xb 0 1 k1'5 ?_
   refine xbs (.o [] 1) 1 [.int .i64 no] 3 fun b20 W20 n20 => ?_
   have g20 := n20.ge (Bl.next (Bl.next n1.below n2.below) (below_drew W2))
   have o21 := own_of_blk (size := 1) (n := 1) n20.blk g20 rfl (by decide)
   have hB := Bl.next (Bl.next (Bl.next n1.below n2.below) (below_drew W2)) n20.below
   refine ybi (.o [] 4) (.t w.heap.size [3, 31]) fun _ _ _ _ zJ zQ zo zx zy zK => op_app (m := 0) (news := []) (.int .i64 0) 1 8 (1) ([.int .i64 no]) zo Tryz.underlying22 (by kernel_rfl) rfl (by decide) zx o21 zy (.inl ⟨none, 0, rfl, rfl, rfl⟩) rfl (by simp) (by unfold maxLen; omega) (by omega) hB.size (by rfl) (by rfl) fun px22 cx22 W22 o22 hg22 hb22 => ?_
   refine zK _ _ (sft_grown hb22 hg22 o21 (by decide)) ?_
   have k2 := ((n2.blk.below (below_drew W2)).below n20.below).grown hg22 o21 (by decide)
   have g2 := n2.ge n1.below
   refine ysv (.o [7] 8) k2 [.slice px22 1 cx22, .int .i64 er] (.t w.heap.size [3, 31]) fun W23 u23 k23 => ⟨(sft_upd u23 k2 g2 (by decide)), ?_⟩
   have hB'6 := u23.below (hB.trans hb22) g2
   have o22'1 := u23.own2 o22 k2 (by decide)
   exact xec 3 k23 (.agg #[.slice px22 1 cx22, .int .i64 er]) ⟨_, rfl, hB'6, _, _, rfl, o22'1⟩
 have k1'8 := k1'1.below (below_drew W2)
 refine xb 0 1 k1'8 ?_
 refine xm2 0 1 3 ?_ ?_
 · refine xbs 0 1 [.int .i64 no] 3 fun b24 W24 n24 => ?_
   have k1'9 := k1'8.below n24.below
   refine xb (.o [] 3) 0 k1'9 ?_
   have g24 := n24.ge (Bl.next (Bl.next n1.below n2.below) (below_drew W2))
   have o25 := own_of_blk (size := 1) (n := 1) n24.blk g24 rfl (by decide)
   have hB := Bl.next (Bl.next (Bl.next n1.below n2.below) (below_drew W2)) n24.below
   refine ybi (.o [] 4) (.t w.heap.size [3, 31]) fun _ _ _ _ zJ zQ zo zx zy zK => op_app (m := 0) (news := []) (.int .i64 0) 1 8 (1) ([.int .i64 no]) zo Tryz.underlying22 (by kernel_rfl) rfl (by decide) zx o25 zy (.inl ⟨none, 0, rfl, rfl, rfl⟩) rfl (by simp) (by unfold maxLen; omega) (by omega) hB.size (by rfl) (by rfl) fun px26 cx26 W26 o26 hg26 hb26 => ?_
   refine zK _ _ (sft_grown hb26 hg26 o25 (by decide)) ?_
   have k2 := ((n2.blk.below (below_drew W2)).below n24.below).grown hg26 o25 (by decide)
   have g2 := n2.ge n1.below
   refine ysv (.o [7] 8) k2 [.slice px26 1 cx26, .int .i64 er] (.t w.heap.size [3, 31]) fun W27 u27 k27 => ⟨(sft_upd u27 k2 g2 (by decide)), ?_⟩
   have hB'7 := u27.below (hB.trans hb26) g2
   have o26'1 := u27.own2 o26 k2 (by decide)
   exact xec 3 k27 (.agg #[.slice px26 1 cx26, .int .i64 er]) ⟨_, rfl, hB'7, _, _, rfl, o26'1⟩
 refine xb 0 0 k1'8 ?_
 refine xbs (.o [] 1) 1 [.int .i64 no] 3 fun b28 W28 n28 => ?_
 have g28 := n28.ge (Bl.next (Bl.next n1.below n2.below) (below_drew W2))
 have o29 := own_of_blk (size := 1) (n := 1) n28.blk g28 rfl (by decide)
 have hB := Bl.next (Bl.next (Bl.next n1.below n2.below) (below_drew W2)) n28.below
 refine ybi (.o [] 4) (.t w.heap.size [3, 31]) fun _ _ _ _ zJ zQ zo zx zy zK => op_app (m := 0) (news := []) (.int .i64 0) 1 8 (1) ([.int .i64 no]) zo Tryz.underlying22 (by kernel_rfl) rfl (by decide) zx o29 zy (.inl ⟨none, 0, rfl, rfl, rfl⟩) rfl (by simp) (by unfold maxLen; omega) (by omega) hB.size (by rfl) (by rfl) fun px30 cx30 W30 o30 hg30 hb30 => ?_
 refine zK _ _ (sft_grown hb30 hg30 o29 (by decide)) ?_
 have k2 := ((n2.blk.below (below_drew W2)).below n28.below).grown hg30 o29 (by decide)
 have g2 := n2.ge n1.below
 refine ysv (.o [7] 8) k2 [.slice px30 1 cx30, .int .i64 er] (.t w.heap.size [3, 31]) fun W31 u31 k31 => ⟨(sft_upd u31 k2 g2 (by decide)), ?_⟩
 have hB'8 := u31.below (hB.trans hb30) g2
 have o30'1 := u31.own2 o30 k2 (by decide)
 exact xec 3 k31 (.agg #[.slice px30 1 cx30, .int .i64 er]) ⟨_, rfl, hB'8, _, _, rfl, o30'1⟩
def FltO (no er : Int) (w : World) (e : Ending) (w' : World) : Prop := ∃ a c, e = .returned (.agg #[.slice a (fltL no er).length c, .int .i64 er]) ∧ Below w.heap.size w w' ∧ w'.ownsRow w.heap.size 3 1 (.slice a (fltL no er).length c) (fltL no er).length ((fltL no er).map (Value.int .i64))
theorem ref05_AtP (no er : Int) (w : World) : Calls Tryz.prog 123 #[.int .i64 no, .agg #[.slice none 0 0, .int .i64 er]] w (FltO no er w) := by
  by_cases he : er = 0
  · subst he
    refine (ref05_At_z no w).mono ?_
    rintro e W ⟨rfl, hb⟩
    exact ⟨none, 0, rfl, hb, World.ownsRow_nil _ _ _ _⟩
  · refine (ref05_At_n no er w he).mono ?_
    rintro e W ⟨_, rfl, hb, a, c, rfl, ho⟩
    rw [FltO, fltL_nz he]
    exact ⟨a, c, rfl, hb, ho⟩
set_option maxRecDepth 100000 in
set_option maxHeartbeats 1000000 in
theorem ref11_At (no er : Int) (w : World) :
    Calls Tryz.prog 108 #[.int .i64 no, .int .i64 er] w (FltO no er w) := by
 refine zin 9 Tryz.func108 ?_
 refine xa 2 [.slice none 0 0, .int .i64 0] 31 fun b1 W1 n1 => ?_
 refine xc 7 (args := #[.int .i64 no, .agg #[.slice none 0 0, .int .i64 er]]) (ref05_AtP no er _) ?_
 rintro _ W2 ⟨a5, c5, rfl, hb2, hs5⟩
 have k1 := n1.blk.below hb2
 refine xsv 0 k1 [.slice a5 ((fltL no er).length) c5, .int .i64 er] fun W3 u3 k3 => ?_
 have g1 := n1.ge (Below.refl w.heap.size _)
 have hB := u3.below (Bl.next n1.below hb2) g1
 have hs5'1 := u3.own2 (own_mono hs5 n1.below.size) k1 (by decide)
 exact xec 3 k3 (.agg #[.slice a5 ((fltL no er).length) c5, .int .i64 er]) ⟨_, _, rfl, hB, hs5'1⟩
/-- the number that a block's writing hands back -/
def wrE (kind no : Int) (k : Nat) (li : List UInt8) : Int := if sealE kind no li = 0 then (if 0 ≤ no ∧ no < (k : Int) then 0 else 3) else sealE kind no li
/-- the image behind it -/
def wrL (kind no : Int) (k : Nat) (li l : List UInt8) : List UInt8 := if wrE kind no k li = 0 then putB l (no.toNat * 256) (sealB kind no li) else l
theorem wrL_len {kind no : Int} {k : Nat} {li l : List UInt8} (hl : l.length = k * 256) (hs : li.length ≤ 244 ∨ wrE kind no k li ≠ 0) : (wrL kind no k li l).length = k * 256 := by
  unfold wrL
  split
  · rename_i h
    have h1 : sealE kind no li = 0 := by unfold wrE at h; split at h; assumption; rename_i h2; exact absurd h h2
    have h2 : 0 ≤ no ∧ no < (k : Int) := by unfold wrE at h; rw [if_pos h1] at h; split at h; assumption; cases h
    have h3 : li.length ≤ 244 := by
      rcases hs with hs | hs
      · exact hs
      · exact absurd h hs
    rw [putB_len (by rw [sealB_len h3]; omega), hl]
  · exact hl
def RefWr (B bm : Nat) (p : Option Addr) (k c : Nat) (l : List UInt8) (no er : Int) (w : World) (e : Ending) (w' : World) : Prop :=
  ∃ a c2, e = .returned (.agg #[.slice a (fltL no er).length c2, .int .i64 er]) ∧ Below B w w' ∧ Only [9] w w' ∧ RefI B bm p k c l w' ∧ w'.ownsRow w.heap.size 3 1 (.slice a (fltL no er).length c2) (fltL no er).length ((fltL no er).map (Value.int .i64))
theorem ref_Seal_err (kind no : Int) (a : Option Addr) (c : Nat) (li : List UInt8) (w : World) (h : Bys w (.slice a li.length c) li) (hs : sealE kind no li ≠ 0) :
    Calls Tryz.prog 107 #[.int .i64 kind, .int .i64 no, .slice a li.length c] w (Ret (.tuple #[.slice none 0 0, .int .i64 (sealE kind no li)]) w) := by
  refine (ref_Seal kind no a c li w h).mono ?_
  rintro e W (⟨_, rfl, hb⟩ | ⟨h0, _⟩)
  · exact ⟨rfl, hb⟩
  · exact absurd h0 hs
theorem ref_Seal_yes (kind no : Int) (a : Option Addr) (c : Nat) (li : List UInt8) (w : World) (h : Bys w (.slice a li.length c) li) (hs : sealE kind no li = 0) :
    Calls Tryz.prog 107 #[.int .i64 kind, .int .i64 no, .slice a li.length c] w (fun e w' => li.length ≤ 244 ∧ ∃ p c, e = .returned (.tuple #[.slice p 256 c, .int .i64 0]) ∧ Below w.heap.size w w' ∧ w'.ownsRow w.heap.size 5 1 (.slice p 256 c) 256 ((sealB kind no li).map bv)) := by
  refine (ref_Seal kind no a c li w h).mono ?_
  rintro e W (⟨h0, _⟩ | ⟨_, _, hl, p, c2, rfl, hb, ho⟩)
  · exact absurd hs h0
  · exact ⟨hl, p, c2, rfl, hb, ho⟩
set_option maxRecDepth 100000 in
set_option maxHeartbeats 1000000 in
theorem ref11_Write_bad (B bm : Nat) (p : Option Addr) (k c : Nat) (l : List UInt8) (no kind : Int) (a : Option Addr) (ca : Nat) (li : List UInt8) (w : World) (hI : RefI B bm p k c l w) (hin : Bys w (.slice a li.length ca) li) (hBw : B ≤ w.heap.size) (hs : sealE kind no li ≠ 0) :
    Calls Tryz.prog 82 #[.pointer (some ⟨bm, 0, none⟩), .int .i64 no, .int .i64 kind, .slice a li.length ca] w (RefWr B bm p k c l no (sealE kind no li) w) := by
 refine zin 29 Tryz.func82 ?_
 refine xa 2 [.slice none 0 0, .int .i64 0] 31 fun b1 W1 n1 => ?_
 have hin'1 := hin.below n1.below
 refine xc 7 (args := #[.int .i64 kind, .int .i64 no, .slice a li.length ca]) (ref_Seal_err kind no a ca li _ hin'1 hs) ?_
 rintro _ W2 ⟨rfl, hb2⟩
 refine xk 14 (show (((sealE kind no li) != (0 : Int)) : Bool) = true from bne_iff_ne.2 hs) ?_
 refine xc 4 (args := #[.int .i64 no, .int .i64 (sealE kind no li)]) (ref11_At no (sealE kind no li) _) ?_
 rintro _ W3 ⟨a5, c5, rfl, hb3, hs5⟩
 have hs3 := (Bl.nextB (Bl.nextB (Below.refl B w) hBw n1.below) hBw hb2).size
 have k1 := (n1.blk.below hb2).below hb3
 refine xsv 0 k1 [.slice a5 ((fltL no (sealE kind no li)).length) c5, .int .i64 (sealE kind no li)] fun W4 u4 k4 => ?_
 have g1 := n1.ge0 (Below.refl B _)
 have hB := u4.below (Bl.nextB (Bl.nextB (Bl.nextB (Below.refl B w) hBw n1.below) hBw hb2) hBw hb3) (Nat.le_trans hBw g1)
 have hO := (Only.upd_new (((show Only [9] w _ from (Only.of_below n1.below)).trans (Only.of_below hb2)).trans (Only.of_below hb3)) u4 g1)
 have hI'1 := (((hI.below n1.below).below hb2).below hb3).only (Only.of_upd (T := [31]) u4 k1 (by decide)) (by decide)
 have hs5'1 := u4.own2 (own_mono hs5 hs3) k1 (by decide)
 exact xec 4 k4 (.agg #[.slice a5 ((fltL no (sealE kind no li)).length) c5, .int .i64 (sealE kind no li)]) ⟨_, _, rfl, hB, hO, hI'1, hs5'1⟩
set_option maxRecDepth 100000 in
set_option maxHeartbeats 1000000 in
theorem ref11_Write_out (B bm : Nat) (p : Option Addr) (k c : Nat) (l : List UInt8) (no kind : Int) (a : Option Addr) (ca : Nat) (li : List UInt8) (w : World) (hI : RefI B bm p k c l w) (hin : Bys w (.slice a li.length ca) li) (hBw : B ≤ w.heap.size) (hs : sealE kind no li = 0) (ho : ¬ (0 ≤ no ∧ no < (k : Int))) :
    Calls Tryz.prog 82 #[.pointer (some ⟨bm, 0, none⟩), .int .i64 no, .int .i64 kind, .slice a li.length ca] w (RefWr B bm p k c l no 3 w) := by
 refine zin 29 Tryz.func82 ?_
 refine xa 2 [.slice none 0 0, .int .i64 0] 31 fun b1 W1 n1 => ?_
 have hin'1 := hin.below n1.below
 refine xc 7 (args := #[.int .i64 kind, .int .i64 no, .slice a li.length ca]) (ref_Seal_yes kind no a ca li _ hin'1 hs) ?_
 rintro _ W2 ⟨hl4, p2, c2, rfl, hb2, h2⟩
 have hs2 := (Bl.nextB (Below.refl B w) hBw n1.below).size
 have hI'1 := (hI.below n1.below).below hb2
 refine xr 23 (args := #[.pointer (some ⟨bm, 0, none⟩), .int .i64 no, .slice p2 256 c2]) (ref_ImgWrite_out B bm p k c l _ hI'1 no _ ho) fun W3 hb3 => ?_
 refine xc 0 (args := #[.int .i64 no, .int .i64 3]) (ref11_At no 3 _) ?_
 rintro _ W4 ⟨a5, c5, rfl, hb4, hs5⟩
 have hs4 := (Bl.nextB (Bl.nextB (Bl.nextB (Below.refl B w) hBw n1.below) hBw hb2) hBw hb3).size
 have k1 := ((n1.blk.below hb2).below hb3).below hb4
 refine xsv 0 k1 [.slice a5 ((fltL no 3).length) c5, .int .i64 3] fun W5 u5 k5 => ?_
 have g1 := n1.ge0 (Below.refl B _)
 have hB := u5.below (Bl.nextB (Bl.nextB (Bl.nextB (Bl.nextB (Below.refl B w) hBw n1.below) hBw hb2) hBw hb3) hBw hb4) (Nat.le_trans hBw g1)
 have hO := (Only.upd_new ((((show Only [9] w _ from (Only.of_below n1.below)).trans (Only.of_below hb2)).trans (Only.of_below hb3)).trans (Only.of_below hb4)) u5 g1)
 have hI'2 := ((hI'1.below hb3).below hb4).only (Only.of_upd (T := [31]) u5 k1 (by decide)) (by decide)
 have hs5'1 := u5.own2 (own_mono hs5 hs4) k1 (by decide)
 exact xec 3 k5 (.agg #[.slice a5 ((fltL no 3).length) c5, .int .i64 3]) ⟨_, _, rfl, hB, hO, hI'2, hs5'1⟩
set_option maxRecDepth 100000 in
set_option maxHeartbeats 1000000 in
theorem ref11_Write_in (B bm : Nat) (p : Option Addr) (k c : Nat) (l : List UInt8) (j : Nat) (kind : Int) (a : Option Addr) (ca : Nat) (li : List UInt8) (w : World) (hI : RefI B bm p k c l w) (hin : Bys w (.slice a li.length ca) li) (hBw : B ≤ w.heap.size) (hs : sealE kind j li = 0) (hj : j < k) :
    Calls Tryz.prog 82 #[.pointer (some ⟨bm, 0, none⟩), .int .i64 (↑j : Int), .int .i64 kind, .slice a li.length ca] w (RefWr B bm p k c (putB l (j * 256) (sealB kind j li)) (j : Int) 0 w) := by
 refine zin 29 Tryz.func82 ?_
 refine xa 2 [.slice none 0 0, .int .i64 0] 31 fun b1 W1 n1 => ?_
 have hin'1 := hin.below n1.below
 refine xc 7 (args := #[.int .i64 kind, .int .i64 (↑j : Int), .slice a li.length ca]) (ref_Seal_yes kind j a ca li _ hin'1 hs) ?_
 rintro _ W2 ⟨hl4, p2, c2, rfl, hb2, h2⟩
 have hs2 := (Bl.nextB (Below.refl B w) hBw n1.below).size
 have hI'1 := (hI.below n1.below).below hb2
 have h2'1 := own_mono h2 hs2
 have hB := Bl.nextB (Bl.nextB (Below.refl B w) hBw n1.below) hBw hb2
 refine xc 23 (args := #[.pointer (some ⟨bm, 0, none⟩), .int .i64 (↑j : Int), .slice p2 256 c2]) (ref_ImgWrite B bm _ p k c l j p2 c2 (sealB kind j li) _ hI'1 hj h2'1 (sealB_len hl4) (Nat.le_trans hBw hB.size)) ?_
 rintro _ W3 ⟨rfl, hb3, hO3, hI⟩
 refine xc 0 (args := #[.int .i64 (↑j : Int), .int .i64 0]) (ref11_At (↑j : Int) 0 _) ?_
 rintro _ W4 ⟨a5, c5, rfl, hb4, hs5⟩
 have hs4 := (hB.trans hb3).size
 have k1 := ((n1.blk.below hb2).only hO3 (by decide)).below hb4
 refine xsv 0 k1 [.slice a5 ((fltL (↑j : Int) 0).length) c5, .int .i64 0] fun W5 u5 k5 => ?_
 have g1 := n1.ge0 (Below.refl B _)
 have hB'1 := u5.below (Bl.nextB (hB.trans hb3) hBw hb4) (Nat.le_trans hBw g1)
 have hO := (Only.upd_new ((((show Only [9] w _ from (Only.of_below n1.below)).trans (Only.of_below hb2)).trans hO3).trans (Only.of_below hb4)) u5 g1)
 have hI'2 := (hI.below hb4).only (Only.of_upd (T := [31]) u5 k1 (by decide)) (by decide)
 have hs5'1 := u5.own2 (own_mono hs5 hs4) k1 (by decide)
 exact xec 3 k5 (.agg #[.slice a5 ((fltL (↑j : Int) 0).length) c5, .int .i64 0]) ⟨_, _, rfl, hB'1, hO, hI'2, hs5'1⟩
theorem ref11_Write (B bm : Nat) (p : Option Addr) (k c : Nat) (l : List UInt8) (no kind : Int) (a : Option Addr) (ca : Nat) (li : List UInt8) (w : World) (hI : RefI B bm p k c l w) (hin : Bys w (.slice a li.length ca) li) (hBw : B ≤ w.heap.size) :
    Calls Tryz.prog 82 #[.pointer (some ⟨bm, 0, none⟩), .int .i64 no, .int .i64 kind, .slice a li.length ca] w (RefWr B bm p k c (wrL kind no k li l) no (wrE kind no k li) w) := by
  by_cases hs : sealE kind no li = 0
  · by_cases ho : 0 ≤ no ∧ no < (k : Int)
    · have he : wrE kind no k li = 0 := by unfold wrE; rw [if_pos hs, if_pos ho]
      obtain ⟨j, rfl⟩ : ∃ j : Nat, no = j := ⟨no.toNat, by omega⟩
      rw [wrL, if_pos he, he]
      exact ref11_Write_in B bm p k c l j kind a ca li w hI hin hBw hs (by omega)
    · have he : wrE kind no k li = 3 := by unfold wrE; rw [if_pos hs, if_neg ho]
      rw [wrL, if_neg (by rw [he]; decide), he]
      exact ref11_Write_out B bm p k c l no kind a ca li w hI hin hBw hs ho
  · have he : wrE kind no k li = sealE kind no li := by unfold wrE; rw [if_neg hs]
    rw [wrL, if_neg (by rw [he]; exact hs), he]
    exact ref11_Write_bad B bm p k c l no kind a ca li w hI hin hBw hs
end Go.Proofs.YtcjpomibhbakdaaGreatDoor
namespace Go.Proofs.YtcjpomibhbakdaaGreatDoor
open Go.RowKit Go.Extern.Stop Go.Stop Go.Extern
set_option linter.unusedVariables false
attribute [local irreducible] wpList wpAnyH Code.wp Oper.wp Go

theorem raw1 (l : List UInt8) (k : Nat) : rawN l k 1 = (l.getD k 0).toNat := by simp [rawN]
theorem raw2 (l : List UInt8) (k : Nat) : rawN l k 2 = (l.getD k 0).toNat + 256 * (l.getD (k + 1) 0).toNat := by simp [rawN]
theorem BysM.elem {w : World} {a : Option Addr} {n c : Nat} {l : List UInt8} (h : Bys w (.slice a n c) l) (hl : l.length = n) {k : Nat} (hk : k < n) : a.isSome = true ∧ w.cell? (elemAddr a (k * 1)) = some (.int .u8 (↑(l.getD k 0).toNat : Int)) := by
  subst hl; exact Bys.elem h hk
theorem slN_of {w : World} {v : Value} {n : Nat} {l : List UInt8} (h : Bys w v l) (hl : l.length = n) : Sl w v n (l.map bv) := by subst hl; exact h
theorem drop_take_len {l : List UInt8} {k m n : Nat} (h : l.length = n) (hk : k ≤ m) (hm : m ≤ n) : ((l.drop k).take (m - k)).length = m - k := by simp; omega
/-- the sum is asked by its bytes -/
theorem ask_sum {kind no : Int} {l : List UInt8} (hl : l.length = 256) : (!(((l.drop 252).take 4) == leB ((sumB l kind : Nat) : Int) 4)) = askB kind no l 2 := by
  have h1 := leB_raw (l := l) (k := 252) (w := 4) (by omega)
  have hs : sumB l kind < 256 ^ 4 := by
    have := Nat.xor_lt_two_pow (n := 32) (crcSum_lt (l.take 252)) (saltN_lt kind)
    unfold sumB; exact this
  have hr := rawN_lt l 4 252
  show _ = ((rawN l 252 4 : Int) != (sumB l kind : Int))
  rw [← h1]
  by_cases e : rawN l 252 4 = sumB l kind
  · rw [e]; simp
  · have e2 : leB (rawN l 252 4 : Int) 4 ≠ leB (sumB l kind : Int) 4 := fun h => e (leB_inj hr hs h)
    rw [beq_false_of_ne e2, bne_iff_ne.2 (by omega)]; rfl
end Go.Proofs.YtcjpomibhbakdaaGreatDoor
namespace Go.Proofs.YtcjpomibhbakdaaGreatDoor
open Go.RowKit Go.Extern.Stop Go.Stop Go.Extern
set_option linter.unusedVariables false
attribute [local irreducible] wpList wpAnyH Code.wp Oper.wp Go

def widG (t : Int) (leaf : Bool) : Nat := if 1 ≤ t ∧ t ≤ 5 then widN t leaf else 0
def maxG (t : Int) (leaf : Bool) : Nat := if 1 ≤ t ∧ t ≤ 5 then maxN t leaf else 0
theorem fitG (t : Int) (leaf : Bool) : 12 + maxG t leaf * 8 + maxG t leaf * widG t leaf ≤ 244 := by
  unfold maxG widG; split
  · exact fitN t leaf
  · decide
theorem maxG_le (t : Int) (leaf : Bool) : maxG t leaf ≤ 18 := by
  unfold maxG; split
  · exact (maxN_pos t leaf).2
  · decide
theorem widG_le (t : Int) (leaf : Bool) : widG t leaf ≤ 24 := by
  unfold widG; split
  · exact (widN_bd t leaf).2
  · decide
set_option maxRecDepth 100000 in
set_option maxHeartbeats 1000000 in
theorem node_Width_out (t : Int) (leaf : Bool) (w : World) (h : ¬ (1 ≤ t ∧ t ≤ 5)) :
    Calls Tryz.prog 90 #[.int .i64 t, .bool leaf] w (Ret (.int .i64 0) w) := by
 refine zin 31 Tryz.func90 ?_
 refine xg 17 [8, 9] (decide (t < (1 : Int))) (fun hc1 => ?_) (fun hc1 => ?_)
 · have hc1 := of_decide_eq_true hc1
   exact xe 15 (.int .i64 0) ⟨rfl, (Below.refl w.heap.size _)⟩
 have hc1 := of_decide_eq_false hc1
 refine xk 6 (show (decide (t > (5 : Int)) : Bool) = true from decide_eq_true (by omega)) ?_
 exact xe 8 (.int .i64 0) ⟨rfl, (Below.refl w.heap.size _)⟩
theorem node_WidthG (t : Int) (leaf : Bool) (w : World) : Calls Tryz.prog 90 #[.int .i64 t, .bool leaf] w (Ret (.int .i64 (widG t leaf : Int)) w) := by
  unfold widG
  by_cases h : 1 ≤ t ∧ t ≤ 5
  · rw [if_pos h]; exact node_Width t leaf h.1 h.2 w
  · rw [if_neg h]; exact node_Width_out t leaf w h
set_option maxRecDepth 100000 in
set_option maxHeartbeats 1000000 in
theorem node_Max_out (t : Int) (leaf : Bool) (w : World) (h : ¬ (1 ≤ t ∧ t ≤ 5)) :
    Calls Tryz.prog 86 #[.int .i64 t, .bool leaf] w (Ret (.int .i64 0) w) := by
 refine zin 16 Tryz.func86 ?_
 refine xr 9 (args := #[.int .i64 t, .bool leaf]) (node_Width_out t leaf _ h) fun W1 hb1 => ?_
 exact xe 18 (.int .i64 0) ⟨rfl, hb1⟩
theorem node_MaxG (t : Int) (leaf : Bool) (w : World) : Calls Tryz.prog 86 #[.int .i64 t, .bool leaf] w (Ret (.int .i64 (maxG t leaf : Int)) w) := by
  unfold maxG
  by_cases h : 1 ≤ t ∧ t ≤ 5
  · rw [if_pos h]; exact node_Max t leaf h.1 h.2 w
  · rw [if_neg h]; exact node_Max_out t leaf w h
/-- a key's number, by the last of the keys ahead -/
def keyR (L : List Int) (i : Nat) (k : Int) : Int := if k < 0 ∨ 281474976710655 < k then 2 else if 0 < i ∧ k ≤ L.getD (i - 1) 0 then 8 else 0
/-- the head of a node's bytes -/
def nodT (l : List UInt8) : Int := (rawN l 1 1 : Int)
def nodL (l : List UInt8) : Bool := (rawN l 0 1 : Int) == (1 : Int)
def nodC (l : List UInt8) : Nat := rawN l 2 2
def nodW (l : List UInt8) : Nat := widG (nodT l) (nodL l)
def nodM (l : List UInt8) : Nat := maxG (nodT l) (nodL l)
def shapeB (l : List UInt8) : Bool := decide (rawN l 0 1 ≤ 1 ∧ nodW l ≠ 0 ∧ rawN l 2 2 ≤ nodM l ∧ rawN l 4 2 = nodW l ∧ rawN l 6 2 = nodM l ∧ rawN l 8 4 = 0 ∧ (rawN l 0 1 = 1 ∨ 0 < rawN l 2 2))
def ShapeP (l : List UInt8) (w : World) (e : Ending) (w' : World) : Prop :=
  (shapeB l = false ∧ ∃ a b c, e = .returned (.tuple #[.agg #[.int .i64 a, .bool b, .slice none 0 0, .slice none 0 0], .int .i64 c, .bool false]) ∧ Below w.heap.size w w') ∨
  (shapeB l = true ∧ e = .returned (.tuple #[.agg #[.int .i64 (nodT l), .bool (nodL l), .slice none 0 0, .slice none 0 0], .int .i64 (nodC l : Int), .bool true]) ∧ Below w.heap.size w w')
def head6 (l : List UInt8) : List Nat := [rawN l 0 1, rawN l 1 1, rawN l 2 2, rawN l 4 2, rawN l 6 2, rawN l 8 4]
theorem head6_bd (l : List UInt8) (i : Nat) (hi : i < 6) : (unpL l 0 [1, 1, 2, 2, 2, 4]).getD i 0 < 9223372036854775808 := by
  have h1 := rawN_lt4 l 0 1 (by decide)
  have h2 := rawN_lt4 l 1 1 (by decide)
  have h3 := rawN_lt4 l 2 2 (by decide)
  have h4 := rawN_lt4 l 4 2 (by decide)
  have h5 := rawN_lt4 l 6 2 (by decide)
  have h6 := rawN_lt4 l 8 4 (by decide)
  obtain rfl | rfl | rfl | rfl | rfl | rfl : i = 0 ∨ i = 1 ∨ i = 2 ∨ i = 3 ∨ i = 4 ∨ i = 5 := by omega
  all_goals simp [unpL]
  all_goals omega
set_option maxRecDepth 100000 in
set_option maxHeartbeats 1000000 in
theorem node_keyG (a : Option Addr) (i c : Nat) (L : List Int) (k : Int) (w : World) (hL : L.length = i) (h : Sl w (.slice a i c) i (L.map (Value.int .i64))) (hi : i ≤ 1000) :
    Calls Tryz.prog 124 #[.slice a i c, .int .i64 k] w (Ret (.int .i64 (keyR L i k)) w) := by
 refine zin 26 Tryz.func124 ?_
 refine xg 12 [7, 8] (decide (k < (0 : Int))) (fun hc1 => ?_) (fun hc1 => ?_)
 · have hc1 := of_decide_eq_true hc1
   exact xe 15 (.int .i64 2) ⟨by rw [show keyR L i k = 2 from by unfold keyR; rw [if_pos (by omega)]], (Below.refl w.heap.size _)⟩
 have hc1 := of_decide_eq_false hc1
 refine xid 6 (k > (281474976710655 : Int)) (fun hc2 => ?_) (fun hc2 => ?_)
 · exact xe 8 (.int .i64 2) ⟨by rw [show keyR L i k = 2 from by unfold keyR; rw [if_pos (by omega)]], (Below.refl w.heap.size _)⟩
 refine xg 6 [15, 16] (decide ((↑i : Int) > (0 : Int))) (fun hc3 => ?_) (fun hc3 => ?_)
 · have hc3 := of_decide_eq_true hc3
   refine xwm 3 ((↑i : Int) - 1) (↑(i - 1) : Int) ?_
   refine xx 0 _ i (i - 1) 1 (IntsN.elem h hL (k := (i - 1)) (by omega)).1 ?_
   refine xl 0 ((IntsN.elem h hL (k := (i - 1)) (by omega)).2) ?_
   refine xid 6 ((L.getD (i - 1) 0) ≥ k) (fun hc4 => ?_) (fun hc4 => ?_)
   · exact xe 8 (.int .i64 8) ⟨by rw [show keyR L i k = 8 from by unfold keyR; rw [if_neg (by omega), if_pos (by omega)]], (Below.refl w.heap.size _)⟩
   exact xe 9 (.int .i64 0) ⟨by rw [show keyR L i k = 0 from by unfold keyR; rw [if_neg (by omega), if_neg (by omega)]], (Below.refl w.heap.size _)⟩
 have hc3 := of_decide_eq_false hc3
 exact xe 22 (.int .i64 0) ⟨by rw [show keyR L i k = 0 from by unfold keyR; rw [if_neg (by omega), if_neg (by omega)]], (Below.refl w.heap.size _)⟩
def keyN (l : List UInt8) (i : Nat) : Nat := rawN l (12 + i * 8) 8
def keysI (l : List UInt8) (n : Nat) : List Int := (List.range n).map fun i => (keyN l i : Int)
theorem keysI_len (l : List UInt8) (n : Nat) : (keysI l n).length = n := by simp [keysI]
theorem keysI_snoc (l : List UInt8) (n : Nat) : keysI l (n + 1) = keysI l n ++ [(keyN l n : Int)] := by simp [keysI, List.range_succ]
theorem keysI_get (l : List UInt8) {n i : Nat} (h : i < n) : (keysI l n).getD i 0 = (keyN l i : Int) := by simp [keysI, List.getD, List.getElem?_range h]
def valN (l : List UInt8) (i : Nat) : List UInt8 := (l.drop (12 + nodM l * 8 + i * nodW l)).take (nodW l)
def valsL (l : List UInt8) (n : Nat) : List (List UInt8) := (List.range n).map (valN l)
theorem valsL_len (l : List UInt8) (n : Nat) : (valsL l n).length = n := by simp [valsL]
theorem valsL_snoc (l : List UInt8) (n : Nat) : valsL l (n + 1) = valsL l n ++ [valN l n] := by simp [valsL, List.range_succ]
theorem valsL_get (l : List UInt8) {n i : Nat} (h : i < n) : (valsL l n).getD i [] = valN l i := by simp [valsL, List.getD, List.getElem?_range h]
def keyE (l : List UInt8) (i : Nat) : Int := if 281474976710655 < keyN l i then 2 else if 0 < i ∧ keyN l i ≤ keyN l (i - 1) then 8 else 0
def keysErr (l : List UInt8) : Nat → Int
  | 0 => 0
  | i + 1 => if keysErr l i ≠ 0 then keysErr l i else keyE l i
theorem keysErr_stop {l : List UInt8} {i : Nat} (h : keysErr l i ≠ 0) : ∀ n, i ≤ n → keysErr l n = keysErr l i
  | 0, h2 => by obtain rfl : i = 0 := by omega
                rfl
  | n + 1, h2 => by
    by_cases e : i = n + 1
    · rw [e]
    · have ih := keysErr_stop h n (by omega)
      rw [keysErr, if_pos (by rw [ih]; exact h), ih]
theorem keysErr_at {l : List UInt8} {i n : Nat} (h : keysErr l i = 0) (he : keyE l i ≠ 0) (hi : i < n) : keysErr l n = keyE l i := by
  have e : keysErr l (i + 1) = keyE l i := by rw [keysErr, if_neg (by rw [h]; decide)]
  rw [keysErr_stop (by rw [e]; exact he) n hi, e]
theorem keysErr_next {l : List UInt8} {i : Nat} (h : keysErr l i = 0) (he : keyE l i = 0) : keysErr l (i + 1) = 0 := by rw [keysErr, if_neg (by rw [h]; decide), he]
theorem keyE_R {l : List UInt8} {i : Nat} : keyR (keysI l i) i (keyN l i : Int) = keyE l i := by
  unfold keyR keyE
  by_cases h : 281474976710655 < keyN l i
  · rw [if_pos (by omega), if_pos h]
  · rw [if_neg (by omega), if_neg h]
    by_cases h2 : 0 < i
    · rw [keysI_get l (show i - 1 < i by omega)]
      by_cases h3 : keyN l i ≤ keyN l (i - 1)
      · rw [if_pos (by omega), if_pos (by omega)]
      · rw [if_neg (by omega), if_neg (by omega)]
    · rw [if_neg (by omega), if_neg (by omega)]
def node0 (l : List UInt8) : Nat := 12 + nodC l * 8
def node1 (l : List UInt8) : Nat := 12 + nodM l * 8
def node2 (l : List UInt8) : Nat := node1 l + nodC l * nodW l
def nodeZ (l : List UInt8) : Bool := zeroB ((l.drop (node0 l)).take (node1 l - node0 l)) && zeroB ((l.drop (node2 l)).take (244 - node2 l))
def nodeE (l : List UInt8) : Int := if shapeB l then (if nodeZ l then keysErr l (nodC l) else 7) else 7
def NodeP (l : List UInt8) (w : World) (e : Ending) (w' : World) : Prop :=
  (nodeE l ≠ 0 ∧ e = .returned (.tuple #[.agg #[.int .i64 0, .bool false, .slice none 0 0, .slice none 0 0], .int .i64 (nodeE l)]) ∧ Below w.heap.size w w') ∨
  (nodeE l = 0 ∧ ∃ kp kc vp vc, e = .returned (.tuple #[.agg #[.int .i64 (nodT l), .bool (nodL l), .slice kp (nodC l) kc, .slice vp (nodC l) vc], .int .i64 0]) ∧ Below w.heap.size w w' ∧
    w'.ownsRow w.heap.size 3 1 (.slice kp (nodC l) kc) (nodC l) ((keysI l (nodC l)).map (Value.int .i64)) ∧ w'.ownsRow w.heap.size 9 1 (.slice vp (nodC l) vc) (nodC l) ((valsL l (nodC l)).map sv))
theorem node_shapeP {l : List UInt8} (h : shapeB l = true) : nodC l ≤ nodM l := (of_decide_eq_true h).2.2.1
theorem valN_bys {a : Option Addr} {c i : Nat} {l : List UInt8} {w : World} (h : Bys w (.slice a 244 c) l) (hl : l.length = 244) (hb : 12 + nodM l * 8 + (i + 1) * nodW l ≤ 244) (hi : (i + 1) * nodW l = i * nodW l + nodW l) :
    Bys w (.slice (cutA a (12 + nodM l * 8 + i * nodW l) c 1) (12 + nodM l * 8 + (i + 1) * nodW l - (12 + nodM l * 8 + i * nodW l)) (c - (12 + nodM l * 8 + i * nodW l))) (valN l i) := by
  have := Bys.cut h hl (12 + nodM l * 8 + i * nodW l) (12 + nodM l * 8 + (i + 1) * nodW l) (by omega) hb
  rw [show 12 + nodM l * 8 + (i + 1) * nodW l - (12 + nodM l * 8 + i * nodW l) = nodW l by omega] at this ⊢
  exact this
theorem valN_lenN {i : Nat} {l : List UInt8} (hl : l.length = 244) (hb : 12 + nodM l * 8 + (i + 1) * nodW l ≤ 244) (hi : (i + 1) * nodW l = i * nodW l + nodW l) : (valN l i).length = 12 + nodM l * 8 + (i + 1) * nodW l - (12 + nodM l * 8 + i * nodW l) := by
  unfold valN; simp only [List.length_take, List.length_drop]; omega
def GetP (l : List UInt8) (k w : Nat) (W : World) (e : Ending) (w' : World) : Prop :=
  (rawN l k w < 9223372036854775808 ∧ e = .returned (.tuple #[.int .i64 (rawN l k w : Int), .int .i64 0]) ∧ Below W.heap.size W w') ∨ (¬ rawN l k w < 9223372036854775808 ∧ e = .returned (.tuple #[.int .i64 0, .int .i64 2]) ∧ Below W.heap.size W w')
theorem node_keyP (l : List UInt8) (a : Option Addr) (i c : Nat) (w : World) (h : Sl w (.slice a i c) i ((keysI l i).map (Value.int .i64))) (hi : i ≤ 1000) :
    Calls Tryz.prog 124 #[.slice a i c, .int .i64 (↑(keyN l i) : Int)] w (fun e w' => (keyE l i = 0 ∧ e = .returned (.int .i64 0) ∧ Below w.heap.size w w') ∨ (keyE l i ≠ 0 ∧ e = .returned (.int .i64 (keyE l i)) ∧ Below w.heap.size w w')) := by
  refine (node_keyG a i c (keysI l i) (keyN l i) w (keysI_len l i) h hi).mono ?_
  rintro e W ⟨rfl, hb⟩
  rw [keyE_R]
  by_cases hz : keyE l i = 0
  · exact .inl ⟨hz, by rw [hz], hb⟩
  · exact .inr ⟨hz, rfl, hb⟩
end Go.Proofs.YtcjpomibhbakdaaGreatDoor
namespace Go.Proofs.YtcjpomibhbakdaaGreatDoor
open Go.RowKit Go.Extern.Stop Go.Stop Go.Extern
set_option linter.unusedVariables false
attribute [local irreducible] wpList wpAnyH Code.wp Oper.wp Go

theorem op_strBytes {P : Program} {a : Act} {w : World} {K : Act → World → Prop} {Q : Exit → Act → World → Prop} {o : Oper} {src dst e : TypeId} {x : Operand} (l : List UInt8) (ho : o.op = .convert src dst x) (hx : a.eval x = .string ⟨l.toArray⟩)
    (hs : P.underlying src = some .string) (hd : P.underlying dst = some (.slice e)) (he : P.underlying e = some (.int .u8)) (hl : l.length ≤ 1000000)
    (k : ∀ b c W, Below w.heap.size w W → Bys W (.slice (some ⟨b, 0, none⟩) l.length c) l → K (a.put o.dst (.slice (some ⟨b, 0, none⟩) l.length c)) W) : o.wp P a w K Q := by
  have hr := run_bytes_of_string (P := P) w src dst e ⟨l.toArray⟩ hs hd he
  have hsz : (⟨l.toArray⟩ : ByteArray).size = l.length := by simp [ByteArray.size]
  rw [hsz] at hr
  obtain ⟨W1, hW1⟩ : ∃ W1, W1 = w.drew.alloc (.cells (bytesRow ⟨l.toArray⟩ (grownCap w l.length 0 e)) e ((bytesRow ⟨l.toArray⟩ (grownCap w l.length 0 e)).size, (bytesRow ⟨l.toArray⟩ (grownCap w l.length 0 e)).size + 1)) := ⟨_, rfl⟩
  rw [← hW1] at hr
  have h2 : (execOp a.eval o).run P w = .ok (.value (.slice (some ⟨w.heap.size, 0, none⟩) l.length (grownCap w l.length 0 e))) W1 := by
    simp only [execOp, ho, hx, Sem.run_bind, hr]; rfl
  refine op_val h2 (k _ _ _ (by rw [hW1]; exact (below_drew w).trans (show Below w.drew.heap.size w.drew _ from Bl.box w.drew _)) (.inr ⟨w.heap.size, 0, _, rfl, grownCap_ge w l.length 0 e, grownCap_le_maxLen w l.length 0 e (by unfold maxLen; omega), fun j y hj => ?_⟩))
  have hjl : j < l.length := by have := (List.getElem?_eq_some_iff.1 hj).1; simpa using this
  have hb := bytesRow_at ⟨l.toArray⟩ (grownCap w l.length 0 e) j (by simpa using hjl)
  have hy : y = .int .u8 ((l.toArray[j]'(by simpa using hjl)).toNat : Int) := by
    rw [List.getElem?_map, List.getElem?_eq_getElem hjl] at hj
    simp only [Option.map_some, Option.some.injEq] at hj
    rw [← hj]; rfl
  have hh : W1.heap[w.heap.size]? = some (.cells (bytesRow ⟨l.toArray⟩ (grownCap w l.length 0 e)) e ((bytesRow ⟨l.toArray⟩ (grownCap w l.length 0 e)).size, (bytesRow ⟨l.toArray⟩ (grownCap w l.length 0 e)).size + 1)) := by rw [hW1]; exact heap_alloc_new w.drew _
  rw [hy]
  simp [World.cell?, hh, hb]
/-- a root's number, by the four bytes of a value -/
def rootE (s : List UInt8) : Int := if s.length = 4 then (if 1 ≤ rawN s 0 4 ∧ rawN s 0 4 ≤ 14399 then 0 else 2) else 7
def rootN (s : List UInt8) : Nat := if rootE s = 0 then rawN s 0 4 else 0
theorem loop_len (bs : ByteArray) (i : Nat) (r : List UInt8) (h : i ≤ bs.size) : (ByteArray.toList.loop bs i r).length = r.length + (bs.size - i) := by
  rw [ByteArray.toList.loop]
  split
  · rename_i h2
    rw [loop_len bs (i + 1) _ (by omega)]
    simp; omega
  · simp; omega
termination_by bs.size - i
theorem toList_len (bs : ByteArray) : bs.toList.length = bs.size := by
  unfold ByteArray.toList; rw [loop_len _ _ _ (Nat.zero_le _)]; simp
theorem four_ne (n : Int) : ((⟨(leB n 4).toArray⟩ : ByteArray).toList == (⟨#[]⟩ : ByteArray).toList) = false := by
  cases hq : ((⟨(leB n 4).toArray⟩ : ByteArray).toList == (⟨#[]⟩ : ByteArray).toList) with
  | false => rfl
  | true =>
    have e := congrArg List.length (eq_of_beq hq)
    rw [toList_len, toList_len] at e
    simp [ByteArray.size, leB_len] at e
set_option maxRecDepth 100000 in
set_option maxHeartbeats 1000000 in
theorem value_rootR (w : World) :
    Calls Tryz.prog 113 #[] w (RetS (fun w' r => ∃ b, r = .slice (some ⟨b, 0, none⟩) 1 1 ∧ w.heap.size ≤ b ∧ Blk w' b [.int .i64 4, .int .i64 1, .int .i64 14399] 152) w) := by
 refine zin 3 Tryz.func113 ?_
 refine xbs 8 1 [.int .i64 4, .int .i64 1, .int .i64 14399] 152 fun b1 W1 n1 => ?_
 have g1 := n1.ge (Below.refl w.heap.size _)
 exact xe 4 (.slice (some ⟨b1, 0, none⟩) 1 1) ⟨_, rfl, n1.below, _, rfl, g1, n1.blk⟩
set_option maxRecDepth 100000 in
set_option maxHeartbeats 1000000 in
theorem value_putR (gl : Nat) (an : Option Addr) (cn : Nat) (n : Int) (w : World) (hl : Blk w gl [.int .i64 4, .int .i64 1, .int .i64 14399] 152) (hn : Sl w (.slice an 1 cn) 1 [.int .i64 n]) (h1 : 1 ≤ n) (h2 : n ≤ 14399) :
    Calls Tryz.prog 58 #[.slice (some ⟨gl, 0, none⟩) 1 1, .slice an 1 cn] w (Ret (.string ⟨(leB n 4).toArray⟩) w) := by
 have hlo := h1
 have hhi := h2
 clear h2
 refine zin 51 Tryz.func58 ?_
 refine xu 19 2 ?_
 refine xlv 15 hl.rp ?_
 refine xa 0 [.int .i64 0, .int .i64 0, .int .i64 0] 152 fun b1 W1 n1 => ?_
 have d1_gl := n1.ne hl
 refine xsv 1 n1.blk [.int .i64 4, .int .i64 1, .int .i64 14399] fun W2 u2 k2 => ?_
 have g1 := n1.ge (Below.refl w.heap.size _)
 refine xd 4 .z ?_
 refine xx (.e [0, 1] 2) _ 1 0 1 (Ints.elem (l := [n]) hn (k := 0) (by simp)).1 ?_
 have hB := Bl.next (u2.below n1.below g1) (below_drew W2)
 refine xl (.e [] 3) ((Ints.elem (l := [n]) (hn.below hB) (k := 0) (by simp)).2) ?_
 have k2'1 := k2.below (below_drew W2)
 refine xb (.e [4] 5) 1 k2'1 ?_
 refine xgk (.b [6, 7]) [23, 24] (show (decide (n < (1 : Int)) : Bool) = false from decide_eq_false (by omega)) ?_
 refine xx (.e [8, 9] 10) _ 1 0 1 (Ints.elem (l := [n]) hn (k := 0) (by simp)).1 ?_
 refine xl (.e [] 11) ((Ints.elem (l := [n]) (hn.below hB) (k := 0) (by simp)).2) ?_
 refine xb (.e [12] 13) 2 k2'1 ?_
 refine xk (.r [14, 15] 2) (show (decide (n > (14399 : Int)) : Bool) = false from decide_eq_false (by omega)) ?_
 refine xd 3 .z ?_
 have k2'2 := k2'1.below (below_drew W2.drew)
 refine xb (.e [0] 1) 0 k2'2 ?_
 refine xx (.e [2, 3] 4) _ 1 0 1 (Ints.elem (l := [n]) hn (k := 0) (by simp)).1 ?_
 have hB'1 := Bl.next hB (below_drew W2.drew)
 refine xl (.e [] 5) ((Ints.elem (l := [n]) (hn.below hB'1) (k := 0) (by simp)).2) ?_
 refine xbs (.o [6] 7) 1 [.int .i64 4, .int .i64 n] 143 fun b4 W4 n4 => ?_
 have g4 := n4.ge hB'1
 refine yc (.o [] 8) (args := #[.slice (some ⟨b4, 0, none⟩) 1 1]) .z (Pack_4 b4 n (by omega) (by omega) _ n4.blk) ?_
 rintro _ W5 ⟨_, rfl, hb5, p2, c2, rfl, h2⟩
 have hs5 := (Bl.next hB'1 n4.below).size
 refine ⟨hb5, ?_⟩
 have o6 := World.ownsRow_nil W5 w.heap.size 5 1
 have h2'1 := own_mono h2 hs5
 have hB'2 := Bl.next (Bl.next hB'1 n4.below) hb5
 refine xbi (.r [9, 10, 11, 12, 13] 5) fun _ _ _ _ zJ zQ zo zx zy zK => op_app (m := 4) (news := (leB n 4).map bv) (.int .u8 0) 1 1 (4) ((leB n 4).map bv) zo Tryz.underlying28 (by kernel_rfl) rfl (by decide) zx o6 zy (own_sl h2'1) (by simp [leB_len]) (bv_one _) (by unfold maxLen; omega) (by omega) hB'2.size (by rfl) (by simp) fun p7 c7 W7 o7 hg7 hb7 => ?_
 refine zK _ _ ?_
 refine xcv0 24 (fun _ _ _ zo zx => run_bstr zo zx (bys_of (own_sl o7) (leB_len _ _)) (leB_len _ _) Tryz.underlying28 Tryz.underlying5 Tryz.underlying9) ?_
 have hB'3 := hB'2.trans hb7
 exact xe 4 (.string ⟨(leB n 4).toArray⟩) ⟨rfl, hB'3⟩
set_option maxRecDepth 100000 in
set_option maxHeartbeats 1000000 in
theorem value_putX (gl : Nat) (an : Option Addr) (cn : Nat) (n : Int) (w : World) (hl : Blk w gl [.int .i64 4, .int .i64 1, .int .i64 14399] 152) (hn : Sl w (.slice an 1 cn) 1 [.int .i64 n]) (h : ¬ (1 ≤ n ∧ n ≤ 14399)) :
    Calls Tryz.prog 58 #[.slice (some ⟨gl, 0, none⟩) 1 1, .slice an 1 cn] w (Ret (.string ⟨#[]⟩) w) := by
 refine zin 51 Tryz.func58 ?_
 refine xu 19 2 ?_
 refine xlv 15 hl.rp ?_
 refine xa 0 [.int .i64 0, .int .i64 0, .int .i64 0] 152 fun b1 W1 n1 => ?_
 have d1_gl := n1.ne hl
 refine xsv 1 n1.blk [.int .i64 4, .int .i64 1, .int .i64 14399] fun W2 u2 k2 => ?_
 have g1 := n1.ge (Below.refl w.heap.size _)
 refine xd 4 .z ?_
 refine xx (.e [0, 1] 2) _ 1 0 1 (Ints.elem (l := [n]) hn (k := 0) (by simp)).1 ?_
 have hB := Bl.next (u2.below n1.below g1) (below_drew W2)
 refine xl (.e [] 3) ((Ints.elem (l := [n]) (hn.below hB) (k := 0) (by simp)).2) ?_
 have k2'1 := k2.below (below_drew W2)
 refine xb (.e [4] 5) 1 k2'1 ?_
 refine xg (.b [6, 7]) [23, 24] (decide (n < (1 : Int))) (fun hc3 => ?_) (fun hc3 => ?_)
 · have hc3 := of_decide_eq_true hc3
   exact xe (.r [8, 9, 10, 11, 12, 13, 14, 15] 15) (.string ⟨#[]⟩) ⟨rfl, hB⟩
 have hc3 := of_decide_eq_false hc3
 refine xx (.e [8, 9] 10) _ 1 0 1 (Ints.elem (l := [n]) hn (k := 0) (by simp)).1 ?_
 refine xl (.e [] 11) ((Ints.elem (l := [n]) (hn.below hB) (k := 0) (by simp)).2) ?_
 refine xb (.e [12] 13) 2 k2'1 ?_
 refine xk (.r [14, 15] 2) (show (decide (n > (14399 : Int)) : Bool) = true from decide_eq_true (by omega)) ?_
 exact xe 12 (.string ⟨#[]⟩) ⟨rfl, hB⟩
end Go.Proofs.YtcjpomibhbakdaaGreatDoor
namespace Go.Proofs.YtcjpomibhbakdaaGreatDoor
open Go.RowKit Go.Extern.Stop Go.Stop Go.Extern
set_option linter.unusedVariables false
attribute [local irreducible] wpList wpAnyH Code.wp Oper.wp Go

def RReadP (k : Nat) (l : List UInt8) (no : Int) (w : World) (e : Ending) (w' : World) : Prop :=
  (¬ (0 ≤ no ∧ no < (k : Int)) ∧ e = .returned (.tuple #[.slice none 0 0, .int .i64 3]) ∧ Below w.heap.size w w') ∨
  (∃ j : Nat, no = (j : Int) ∧ j < k ∧ ∃ b c, e = .returned (.tuple #[.slice (some ⟨b, 0, none⟩) 256 c, .int .i64 0]) ∧ Below w.heap.size w w' ∧ Bys w' (.slice (some ⟨b, 0, none⟩) 256 c) (blkB l j))
def RInP (l : List UInt8) (kind no : Int) (w : World) (e : Ending) (w' : World) : Prop :=
  (inE l kind no ≠ 0 ∧ e = .returned (.tuple #[.slice none 0 0, .int .i64 (inE l kind no)]) ∧ Below w.heap.size w w') ∨
  (inE l kind no = 0 ∧ (inB l no).length = 244 ∧ ∃ p c, e = .returned (.tuple #[.slice p 244 c, .int .i64 0]) ∧ Below w.heap.size w w' ∧ w'.ownsRow w.heap.size 5 1 (.slice p 244 c) 244 ((inB l no).map bv))
end Go.Proofs.YtcjpomibhbakdaaGreatDoor
namespace Go.Proofs.YtcjpomibhbakdaaGreatDoor
open Go.RowKit Go.Extern.Stop Go.Stop Go.Extern
set_option linter.unusedVariables false
attribute [local irreducible] wpList wpAnyH Code.wp Oper.wp Go

def bitsOkB (l : List UInt8) : Bool := decide (l.length = 244) && decide (rawN l 0 4 ≤ 960) && (List.range 960).all fun i => decide (i < rawN l 0 4) || bitN l i == 0
theorem bitsOkB_iff (l : List UInt8) : bitsOkB l = true ↔ bitsOk l := by
  unfold bitsOkB bitsOk
  simp only [Bool.and_eq_true, decide_eq_true_eq, List.all_eq_true, List.mem_range, Bool.or_eq_true, beq_iff_eq]
  constructor
  · rintro ⟨⟨h1, h2⟩, h3⟩
    exact ⟨h1, h2, fun i hi hc => (h3 i hi).resolve_left (by omega)⟩
  · rintro ⟨h1, h2, h3⟩
    exact ⟨⟨h1, h2⟩, fun i hi => by by_cases h : i < rawN l 0 4; exact .inl h; exact .inr (h3 i hi (by omega))⟩
/-- the number of Bits' error -/
def bitsErr (l : List UInt8) (no : Int) : Int := if inE l 3 no = 0 then (if bitsOkB (inB l no) then 0 else 7) else inE l 3 no
def BlkBitsP (l : List UInt8) (no : Int) (w : World) (e : Ending) (w' : World) : Prop :=
  (bitsErr l no ≠ 0 ∧ ∃ b, e = .returned (.tuple #[.slice none 0 0, .iface 135 (.pointer (some ⟨b, 0, none⟩))]) ∧ Below w.heap.size w w' ∧ ErrV w' [some no] (some (bitsErr l no)) (.iface 135 (.pointer (some ⟨b, 0, none⟩)))) ∨
  (bitsErr l no = 0 ∧ ∃ p c, e = .returned (.tuple #[.slice p (rawN (inB l no) 0 4) c, .nilIface]) ∧ Below w.heap.size w w' ∧ w'.ownsRow w.heap.size 3 1 (.slice p (rawN (inB l no) 0 4) c) (rawN (inB l no) 0 4) ((bitsL (inB l no) (rawN (inB l no) 0 4)).map nv))
end Go.Proofs.YtcjpomibhbakdaaGreatDoor
namespace Go.Proofs.YtcjpomibhbakdaaGreatDoor
open Go.RowKit Go.Extern.Stop Go.Stop Go.Extern
set_option linter.unusedVariables false
attribute [local irreducible] wpList wpAnyH Code.wp Oper.wp Go

def padI (l : List Int) (n : Nat) : List Int := (List.range 960).map (atI l n)
theorem padI_len (l : List Int) (n : Nat) : (padI l n).length = 960 := by simp [padI]
theorem padI_get (l : List Int) (n : Nat) {k : Nat} (h : k < 960) : (padI l n).getD k 0 = atI l n k := by simp [padI, List.getD, List.getElem?_range h]
theorem padN_zero (l : List Int) (n : Nat) : (List.range n).map (atI l 0) = List.replicate n 0 := by
  apply List.ext_getElem
  · simp
  · intro i h1 h2; simp [atI]
theorem padI_zero (l : List Int) : padI l 0 = List.replicate 960 0 := padN_zero l 960
theorem padN_set {l : List Int} {i n : Nat} (hi : i < n) : (((List.range n).map (atI l i)).map (Value.int .i64)).set i (.int .i64 (l.getD i 0)) = ((List.range n).map (atI l (i + 1))).map (Value.int .i64) := by
  rw [← List.map_set]
  congr 1
  apply List.ext_getElem
  · simp
  · intro k h1 h2
    rw [List.getElem_set]
    simp only [List.getElem_map, List.getElem_range, atI]
    by_cases e : i = k
    · subst e; rw [if_pos rfl, if_pos (by omega)]
    · rw [if_neg e]
      by_cases h3 : k < i
      · rw [if_pos h3, if_pos (by omega)]
      · rw [if_neg h3, if_neg (by omega)]
theorem padI_set {l : List Int} {i : Nat} (hi : i < 960) : ((padI l i).map (Value.int .i64)).set i (.int .i64 (l.getD i 0)) = (padI l (i + 1)).map (Value.int .i64) := padN_set hi
theorem zeros960 : zeros (Value.int .i64 0).cells.toList 960 = (List.replicate 960 (0 : Int)).map (Value.int .i64) := by
  rw [show (Value.int .i64 0).cells.toList = [Value.int .i64 0] from rfl, zeros, List.map_replicate]
  generalize 960 = n
  induction n with
  | zero => rfl
  | succ n ih => rw [List.replicate_succ, List.flatten_cons, ih, List.replicate_succ]; rfl
/-- the bytes of the first k groups of four -/
def grpB (l : List Int) (k : Nat) : List UInt8 := leB l.length 4 ++ (List.range k).map (g4B l l.length)
theorem grpB_len (l : List Int) (k : Nat) : (grpB l k).length = 4 + k := by simp [grpB, leB_len]
theorem grpB_succ (l : List Int) (k : Nat) : grpB l (k + 1) = grpB l k ++ [g4B l l.length k] := by simp [grpB, List.range_succ]
theorem g4_u8 {x : Int} (h0 : 0 ≤ x) (h1 : x < 256) : IntKind.u8.wrap x = ((UInt8.ofNat x.toNat).toNat : Int) := by
  rw [UInt8.toNat_ofNat', Nat.mod_eq_of_lt (by omega), IntWalk.u8_in x (by omega)]; omega
set_option maxRecDepth 100000 in
set_option maxHeartbeats 4000000 in
theorem ref09_Put (a : Option Addr) (c : Nat) (l : List Int) (w : World) (hS : Small l) (hl : l.length ≤ 960) (h : Sl w (.slice a l.length c) l.length (l.map (Value.int .i64))) :
    Calls Tryz.prog 69 #[.slice a l.length c] w (RetS (fun w' r => ∃ p c, r = .tuple #[.slice p 244 c, .int .i64 0] ∧ w'.ownsRow w.heap.size 5 1 (.slice p 244 c) 244 ((bitsB l).map bv)) w) := by
 refine zin 74 Tryz.func69 ?_
 refine xk 14 (show (decide ((↑l.length : Int) > (960 : Int)) : Bool) = false from decide_eq_false (by omega)) ?_
 refine xmk 4 fun _ _ _ _ zJ zQ zo zx zy zK => op_make 960 (.int .i64 0) 1 8 ((List.replicate 960 (0 : Int)).map (Value.int .i64)) zo zx zy Tryz.underlying22 (by kernel_rfl) rfl (by omega) (by omega) (zeros960) fun b1 W1 n1 => ?_
 refine zK _ _ ?_
 have o1 := own_of_blk (size := 1) (n := 960) n1.blk (n1.ge (Below.refl w.heap.size _)) (by rw [List.length_map, List.length_replicate]) (by unfold maxLen; omega)
 refine zl 10 74 (fun zm zkv V => ∃ (i : Nat), zkv = [(0, .slice a l.length c), (4, .slice (some ⟨b1, 0, none⟩) 960 960), (5, .int .i64 (↑i : Int))] ∧ zm = l.length - ((↑i : Int)).toNat ∧ Below w.heap.size w V ∧ V.ownsRow w.heap.size 3 1 (.slice (some ⟨b1, 0, none⟩) 960 960) 960 ((padI l i).map (Value.int .i64)) ∧ i ≤ l.length) ⟨0, rfl, rfl, n1.below, (by rw [padI_zero]; exact o1), Nat.zero_le _⟩ ?_
 rintro _ _ W2 ⟨i, rfl, rfl, hB_2, ho, hi⟩ J2 hJ2 r2
 refine xid 9 ((↑i : Int) < (↑l.length : Int)) (fun hc3 => ?_) (fun hc3 => ?_)
 · refine xx 9 _ l.length i 1 (IntsN.elem h rfl (k := i) (by omega)).1 ?_
   refine xl 0 ((IntsN.elem (h.below hB_2) rfl (k := i) (by omega)).2) ?_
   refine xgk 2 [22, 23] (show (decide ((l.getD i 0) < (0 : Int)) : Bool) = false from decide_eq_false (by have := getI_bd hS i; omega)) ?_
   refine xx 2 _ l.length i 1 (IntsN.elem h rfl (k := i) (by omega)).1 ?_
   refine xl 0 ((IntsN.elem (h.below hB_2) rfl (k := i) (by omega)).2) ?_
   refine xk 4 (show (decide ((l.getD i 0) > (3 : Int)) : Bool) = false from decide_eq_false (by have := getI_bd hS i; omega)) ?_
   refine xx 7 _ l.length i 1 (IntsN.elem h rfl (k := i) (by omega)).1 ?_
   refine xl 0 ((IntsN.elem (h.below hB_2) rfl (k := i) (by omega)).2) ?_
   refine xx 0 _ 960 i 1 (show (some (⟨b1, 0, none⟩ : Addr)).isSome = true from rfl) ?_
   refine xst 0 fun _ _ _ _ zJ zQ zo zx zy zK => op_storeRow (t := 3) (k := i) (v := .int .i64 (l.getD i 0)) zo zx zy (by kernel_rfl) rfl ho (by omega) fun W5 u5 o5 => ?_
   rw [padI_set (l := l) (i := i) (by omega)] at o5
   refine zK _ _ ?_
   refine xwm 5 ((↑i : Int) + 1) (↑(i + 1) : Int) ?_
   have hB'1 := u5.below hB_2 (own_ge ho)
   exact ze 2 (hJ2 _ _ _ ⟨i + 1, rfl, rfl, hB'1, o5, by omega⟩ (by omega))
 refine xc 9 (args := #[.int .i64 (↑l.length : Int), .int .i64 4]) (ref_BytesN (↑l.length : Int) 4 4 _ (Int.natCast_nonneg _) (by omega) rfl (by decide)) ?_
 rintro _ W6 ⟨_, rfl, hb6, p4, c4, rfl, h4⟩
 have hin : i = l.length := by omega
 have ho'1 := own_below ho hb6
 have h4'1 := own_mono h4 hB_2.size
 have hB'2 := Bl.next hB_2 hb6
 refine zl 10 74 (fun zm zkv V => ∃ (k m : Nat) (q : Option Addr) (d : Nat), zkv = [(4, .slice (some ⟨b1, 0, none⟩) 960 960), (6, .slice q m d), (7, .int .i64 (↑(4 * k) : Int))] ∧ zm = 960 - ((↑(4 * k) : Int)).toNat ∧ Below w.heap.size w V ∧ V.ownsRow w.heap.size 3 1 (.slice (some ⟨b1, 0, none⟩) 960 960) 960 ((padI l l.length).map (Value.int .i64)) ∧ V.ownsRow w.heap.size 5 1 (.slice q m d) m ((grpB l k).map bv) ∧ k ≤ 240 ∧ m = 4 + k) ⟨0, 4, _, _, rfl, rfl, hB'2, (by rw [← hin]; exact ho'1), (by simpa [grpB] using h4'1), Nat.zero_le _, rfl⟩ ?_
 rintro _ _ W7 ⟨k, m, q, d, rfl, rfl, hB_7, hq, hr, hk, hm⟩ J7 hJ7 r7
 have hp : ∀ j, j < 960 → (padI l l.length).getD j 0 = atI l l.length j := fun j hj => padI_get l _ hj
 have hb0 := atI_bd hS l.length (4 * k)
 have hb1 := atI_bd hS l.length (4 * k + 1)
 have hb2 := atI_bd hS l.length (4 * k + 2)
 have hb3 := atI_bd hS l.length (4 * k + 3)
 have h9 : k < 240 → (padI l l.length).getD (4 * k) 0 = atI l l.length (4 * k) ∧ (padI l l.length).getD (4 * k + 1) 0 = atI l l.length (4 * k + 1) ∧ (padI l l.length).getD (4 * k + 2) 0 = atI l l.length (4 * k + 2) ∧ (padI l l.length).getD (4 * k + 3) 0 = atI l l.length (4 * k + 3) := fun q => ⟨hp _ (by omega), hp _ (by omega), hp _ (by omega), hp _ (by omega)⟩
 refine xid 7 ((↑(4 * k) : Int) < (960 : Int)) (fun hc8 => ?_) (fun hc8 => ?_)
 · refine xd 4 (.t w.heap.size [5]) ?_
   refine xx (.e [0, 1, 2] 3) _ 960 (4 * k) 1 (show (some (⟨b1, 0, none⟩ : Addr)).isSome = true from rfl) ?_
   have hq'1 := own_below hq (below_drew W7)
   refine xlt (.e [] 4) (.t w.heap.size [5]) (fun V hV => (IntsN.elem (own_sl (own_only hq'1 hV.2 (by decide))) (padI_len l l.length) (k := (4 * k)) (by omega)).2) ?_
   refine xwm (.e [5, 6] 7) ((↑(4 * k) : Int) + 1) (↑((4 * k) + 1) : Int) ?_
   refine xx (.e [] 8) _ 960 ((4 * k) + 1) 1 (show (some (⟨b1, 0, none⟩ : Addr)).isSome = true from rfl) ?_
   refine xlt (.e [] 9) (.t w.heap.size [5]) (fun V hV => (IntsN.elem (own_sl (own_only hq'1 hV.2 (by decide))) (padI_len l l.length) (k := ((4 * k) + 1)) (by omega)).2) ?_
   refine xw (.e [] 10) (4 * ((padI l l.length).getD ((4 * k) + 1) 0)) ?_
   refine xw (.e [] 11) (((padI l l.length).getD (4 * k) 0) + (4 * ((padI l l.length).getD ((4 * k) + 1) 0))) ?_
   refine xwm (.e [12, 13] 14) ((↑(4 * k) : Int) + 2) (↑((4 * k) + 2) : Int) ?_
   refine xx (.e [] 15) _ 960 ((4 * k) + 2) 1 (show (some (⟨b1, 0, none⟩ : Addr)).isSome = true from rfl) ?_
   refine xlt (.e [] 16) (.t w.heap.size [5]) (fun V hV => (IntsN.elem (own_sl (own_only hq'1 hV.2 (by decide))) (padI_len l l.length) (k := ((4 * k) + 2)) (by omega)).2) ?_
   refine xw (.e [] 17) (16 * ((padI l l.length).getD ((4 * k) + 2) 0)) ?_
   refine xw (.e [] 18) (((padI l l.length).getD (4 * k) 0) + (4 * ((padI l l.length).getD ((4 * k) + 1) 0)) + (16 * ((padI l l.length).getD ((4 * k) + 2) 0))) ?_
   refine xwm (.e [19, 20] 21) ((↑(4 * k) : Int) + 3) (↑((4 * k) + 3) : Int) ?_
   refine xx (.e [] 22) _ 960 ((4 * k) + 3) 1 (show (some (⟨b1, 0, none⟩ : Addr)).isSome = true from rfl) ?_
   refine xlt (.e [] 23) (.t w.heap.size [5]) (fun V hV => (IntsN.elem (own_sl (own_only hq'1 hV.2 (by decide))) (padI_len l l.length) (k := ((4 * k) + 3)) (by omega)).2) ?_
   refine xw (.e [] 24) (64 * ((padI l l.length).getD ((4 * k) + 3) 0)) ?_
   refine xw (.e [] 25) (((padI l l.length).getD (4 * k) 0) + (4 * ((padI l l.length).getD ((4 * k) + 1) 0)) + (16 * ((padI l l.length).getD ((4 * k) + 2) 0)) + (64 * ((padI l l.length).getD ((4 * k) + 3) 0))) ?_
   refine xq (.e [] 26) (congrArg (Value.int .u8) (show (IntKind.u8.wrap (((padI l l.length).getD (4 * k) 0) + (4 * ((padI l l.length).getD ((4 * k) + 1) 0)) + (16 * ((padI l l.length).getD ((4 * k) + 2) 0)) + (64 * ((padI l l.length).getD ((4 * k) + 3) 0))) : Int) = (↑(g4B l l.length k).toNat : Int) from by obtain ⟨q0, q1, q2, q3⟩ := h9 (by omega); rw [q0, q1, q2, q3]; exact g4_u8 (by omega) (by omega))) ?_
   refine xbs (.o [] 27) 1 [.int .u8 (↑(g4B l l.length k).toNat : Int)] 5 fun b9 W9 n9 => ?_
   have hB'3 := Bl.next hB_7 (below_drew W7)
   have g9 := n9.ge hB'3
   have hr'1 := own_below hr (below_drew W7)
   have r9_hr := own_ne hr'1 n9
   have hr'2 := own_below hr'1 n9.below
   have hB'4 := Bl.next hB'3 n9.below
   refine ybi (.o [] 28) (.t w.heap.size [5]) fun _ _ _ _ zJ zQ zo zx zy zK => op_app (m := 1) (news := [.int .u8 (↑(g4B l l.length k).toNat : Int)]) (.int .u8 0) 1 1 (m + 1) (((grpB l (k + 1)).map bv)) zo Tryz.underlying28 (by kernel_rfl) rfl (by decide) zx hr'2 zy (n9.blk.sl 1 1 (by decide) (by decide)) rfl (by simp [Value.oneCell']) (by unfold maxLen; omega) (by omega) hB'4.size (by rfl) (by rw [grpB_succ, List.map_append]; rfl) fun px10 cx10 W10 o10 hg10 hb10 => ?_
   refine zK _ _ (sft_grown hb10 hg10 hr'2 (by decide)) ?_
   refine xwm (.r [29] 5) ((↑(4 * k) : Int) + 4) (↑((4 * k) + 4) : Int) ?_
   refine xv1 2 7 (show (.int .i64 (↑((4 * k) + 4) : Int) : Value) = .int .i64 (↑(4 * (k + 1)) : Int) from by congr 1) ?_
   have hB'5 := hB'4.trans hb10
   have hq'2 := own_grown (own_below hq'1 n9.below) hg10 hr'2 (by decide)
   exact ze 0 (hJ7 _ _ _ ⟨k + 1, m + 1, _, _, rfl, rfl, hB'5, hq'2, o10, by omega, by omega⟩ (by omega))
 refine xe 13 (.tuple #[.slice q m d, .int .i64 0]) ?_
 obtain rfl : k = 240 := by omega
 subst hm
 exact ⟨_, rfl, hB_7, _, _, rfl, hr⟩
end Go.Proofs.YtcjpomibhbakdaaGreatDoor
namespace Go.Proofs.YtcjpomibhbakdaaGreatDoor
open Go.RowKit
set_option linter.unusedVariables false
theorem run_cat {P : Program} {a : Act} {o : Oper} {t t2 : TypeId} {x y : Operand} {l m : List UInt8} (ho : o.op = .binOp .add t x y t2) (hx : a.eval x = .string ⟨l.toArray⟩) (hy : a.eval y = .string ⟨m.toArray⟩) (hl : l.length + m.length ≤ 1000000) (w : World) : (execOp a.eval o).run P w = .ok (.value (.string ⟨(l ++ m).toArray⟩)) w := by
  have e : (⟨l.toArray⟩ : ByteArray) ++ ⟨m.toArray⟩ = ⟨(l ++ m).toArray⟩ := by
    apply ByteArray.ext
    simp
  have g : binOp .add t (.string ⟨l.toArray⟩) (.string ⟨m.toArray⟩) = pure (.string ((⟨l.toArray⟩ : ByteArray) ++ ⟨m.toArray⟩)) := by
    have h : ¬ (9223372036854775807 : Int) < ((⟨l.toArray⟩ : ByteArray).size : Int) + ((⟨m.toArray⟩ : ByteArray).size : Int) := by simp [ByteArray.size]; omega
    simp [binOp, Op.stringOp]
    intro q; exact absurd q h
  have q : eqGuard .add t x y (.string ⟨l.toArray⟩ : Value) (.string ⟨m.toArray⟩ : Value) = pure () := rfl
  simp only [execOp, ho, hx, hy, g, e, q]
  simp
end Go.Proofs.YtcjpomibhbakdaaGreatDoor
namespace Go.Proofs.YtcjpomibhbakdaaGreatDoor
open Go.RowKit Go.Extern.Stop Go.Stop Go.Extern
set_option linter.unusedVariables false
attribute [local irreducible] wpList wpAnyH Code.wp Oper.wp Go

set_option maxRecDepth 100000 in
set_option maxHeartbeats 1000000 in
theorem ref08_inT (n lo hi : Int) (w : World) :
    Calls Tryz.prog 71 #[.int .i64 n, .int .i64 lo, .int .i64 hi] w (Ret (.bool (decide (lo ≤ n ∧ n ≤ hi))) w) := by
 refine zin 15 Tryz.func71 ?_
 refine xg 11 [9, 10] (decide (n ≥ lo)) (fun hc1 => ?_) (fun hc1 => ?_)
 · have hc1 := of_decide_eq_true hc1
   exact xe 8 (.bool (decide (n ≤ hi))) ⟨by rw [show decide (lo ≤ n ∧ n ≤ hi) = decide (n ≤ hi) from by simp; omega], (Below.refl w.heap.size _)⟩
 have hc1 := of_decide_eq_false hc1
 exact xe 8 (.bool false) ⟨by rw [show decide (lo ≤ n ∧ n ≤ hi) = false from decide_eq_false (by omega)], (Below.refl w.heap.size _)⟩
def txtL (N : List Int) (ws : List Nat) (k : Nat) : List UInt8 := (List.range k).flatMap fun i => leB (N.getD i 0) (ws.getD i 0)
theorem txtL_succ (N : List Int) (ws : List Nat) (k : Nat) : txtL N ws (k + 1) = txtL N ws k ++ leB (N.getD k 0) (ws.getD k 0) := by simp [txtL, List.range_succ]
/-- numbers that may be told, in so many bytes each -/
def TxtOk (N : List Int) (ws : List Nat) : Prop := N.length ≤ 100 ∧ ws.length = N.length ∧ ∀ i, i < N.length → 0 ≤ N.getD i 0 ∧ N.getD i 0 < 9223372036854775808 ∧ ws.getD i 0 ≤ 8
theorem txtL_len {N : List Int} {ws : List Nat} (h : TxtOk N ws) : ∀ k, k ≤ N.length → (txtL N ws k).length ≤ k * 8
  | 0, _ => Nat.zero_le _
  | k + 1, hk => by
    rw [txtL_succ, List.length_append, leB_len]
    have := txtL_len h k (by omega)
    have := (h.2.2 k (by omega)).2.2
    omega
set_option maxRecDepth 100000 in
set_option maxHeartbeats 1000000 in
theorem ref08_textG (N : List Int) (ws : List Nat) (gn gw : Option Addr) (cn cw : Nat) (w : World) (hok : TxtOk N ws) (hN : Sl w (.slice gn N.length cn) N.length (N.map (Value.int .i64))) (hW : Sl w (.slice gw N.length cw) N.length (ws.map nv)) :
    Calls Tryz.prog 72 #[.slice gn N.length cn, .slice gw N.length cw] w (Ret (.string ⟨(txtL N ws N.length).toArray⟩) w) := by
 have hnl := hok.1
 have hwl := hok.2.1
 refine zin 26 Tryz.func72 ?_
 have hB := Below.refl w.heap.size w
 refine zl 17 26 (fun zm zkv V => ∃ (i : Nat), zkv = [(0, .slice gn N.length cn), (1, .slice gw N.length cw), (4, .string ⟨#[]⟩), (5, .string ⟨(txtL N ws i).toArray⟩), (6, .int .i64 (↑i : Int))] ∧ zm = N.length - ((↑i : Int)).toNat ∧ Below w.heap.size w V ∧ i ≤ N.length) ⟨0, rfl, rfl, hB, Nat.zero_le _⟩ ?_
 rintro _ _ W1 ⟨i, rfl, rfl, hB_1, hi⟩ J1 hJ1 r1
 have htl := txtL_len hok i hi
 have hw8 : i < N.length → ws.getD i 0 ≤ 8 := fun q => (hok.2.2 i q).2.2
 refine xid 9 ((↑i : Int) < (↑N.length : Int)) (fun hc2 => ?_) (fun hc2 => ?_)
 · refine xd 4 .z ?_
   refine xx (.e [0, 1, 2] 3) _ N.length i 1 (IntsN.elem hN rfl (k := i) (by omega)).1 ?_
   have hB'1 := Bl.next hB_1 (below_drew W1)
   refine xl (.e [] 4) ((IntsN.elem (hN.below hB'1) rfl (k := i) (by omega)).2) ?_
   refine xx (.e [5, 6] 7) _ N.length i 1 (nv_elem hW hwl (k := i) (by omega)).1 ?_
   refine xl (.e [] 8) ((nv_elem (hW.below hB'1) hwl (k := i) (by omega)).2) ?_
   refine yc (.o [] 9) (args := #[.int .i64 (N.getD i 0), .int .i64 (↑(ws.getD i 0) : Int)]) .z (ref_BytesN (N.getD i 0) (ws.getD i 0) (↑(ws.getD i 0) : Int) _ (hok.2.2 i (by omega)).1 (hok.2.2 i (by omega)).2.1 rfl (hok.2.2 i (by omega)).2.2) ?_
   rintro _ W3 ⟨_, rfl, hb3, p2, c2, rfl, h2⟩
   refine ⟨hb3, ?_⟩
   have h2'1 := own_mono h2 hB'1.size
   refine xcv (.e [] 10) (fun _ _ _ zo zx V hV => run_bstr zo zx (bys_of (own_sl (own_below h2'1 hV)) (leB_len _ _)) (leB_len _ _) Tryz.underlying28 Tryz.underlying5 Tryz.underlying9) ?_
   refine xbo (.e [] 11) (t := 9) (t2 := 9) (fun _ _ _ _ zo zx zy V hV => run_cat (l := txtL N ws i) (m := leB (N.getD i 0) (ws.getD i 0)) zo zx zy (by rw [leB_len]; omega) V) ?_
   refine xwm (.r [12] 5) ((↑i : Int) + 1) (↑(i + 1) : Int) ?_
   refine xv1 2 5 (show (.string ⟨(txtL N ws i ++ leB (N.getD i 0) (ws.getD i 0)).toArray⟩ : Value) = .string ⟨(txtL N ws (i + 1)).toArray⟩ from by rw [txtL_succ]) ?_
   have hB'2 := Bl.next hB'1 hb3
   exact ze 0 (hJ1 _ _ _ ⟨i + 1, rfl, rfl, hB'2, by omega⟩ (by omega))
 refine xe 12 (.string ⟨(txtL N ws i).toArray⟩) ?_
 obtain rfl : i = N.length := by omega
 exact ⟨rfl, hB_1⟩
def slotQ (x y z : Int) : Bool := decide (1 ≤ x ∧ x ≤ 14399) && decide (0 ≤ y ∧ y ≤ 960) && decide (0 ≤ z ∧ z ≤ 960)
def SlotStrP (x y z : Int) (w : World) (e : Ending) (w' : World) : Prop :=
  (slotQ x y z = false ∧ e = .returned (.string ⟨#[]⟩) ∧ Below w.heap.size w w') ∨ (slotQ x y z = true ∧ e = .returned (.string ⟨(txtL [x, y, z] [8, 4, 4] 3).toArray⟩) ∧ Below w.heap.size w w')
theorem slotQ_ok {x y z : Int} (h : slotQ x y z = true) : TxtOk [x, y, z] [8, 4, 4] := by
  unfold slotQ at h
  simp only [Bool.and_eq_true, decide_eq_true_iff] at h
  refine ⟨show 3 ≤ 100 from by decide, rfl, fun i hi => ?_⟩
  have hi' : i < 3 := hi
  obtain rfl | rfl | rfl : i = 0 ∨ i = 1 ∨ i = 2 := by omega
  all_goals simp [List.getD]
  all_goals omega
theorem txt3_ne (x y z : Int) : ((⟨(txtL [x, y, z] [8, 4, 4] 3).toArray⟩ : ByteArray).toList == (⟨#[]⟩ : ByteArray).toList) = false := by
  rw [show (⟨#[]⟩ : ByteArray) = ⟨([] : List UInt8).toArray⟩ from rfl, str_beq]
  apply beq_false_of_ne
  intro q
  have h1 := congrArg List.length q
  rw [txtL_succ, List.length_append, leB_len, List.length_nil] at h1
  simp at h1
set_option maxRecDepth 100000 in
set_option maxHeartbeats 1000000 in
theorem ref08_Slot (x y z : Int) (w : World) :
    Calls Tryz.prog 36 #[.agg #[.int .i64 x, .int .i64 y, .int .i64 z]] w (SlotStrP x y z w) := by
 refine zin 28 Tryz.func36 ?_
 refine xa 2 [.int .i64 x, .int .i64 y, .int .i64 z] 66 fun b1 W1 n1 => ?_
 refine xb 7 0 n1.blk ?_
 refine xr 0 (args := #[.int .i64 x, .int .i64 1, .int .i64 14399]) (ref08_inT x 1 14399 _) fun W2 hb2 => ?_
 refine xg 2 [6, 7] (!(decide ((1 : Int) ≤ x ∧ x ≤ 14399))) (fun hc3 => ?_) (fun hc3 => ?_)
 · have hd4 : (decide ((1 : Int) ≤ x ∧ x ≤ 14399)) = false := not_t hc3
   have hB := Bl.next n1.below hb2
   exact xe 21 (.string ⟨#[]⟩) (.inl ⟨by unfold slotQ; first | (rw [hd4]; done) | (rw [hd4]; rfl), rfl, hB⟩)
 have hd5 : (decide ((1 : Int) ≤ x ∧ x ≤ 14399)) = true := not_f hc3
 have k1'1 := n1.blk.below hb2
 refine xb 1 1 k1'1 ?_
 refine xr 0 (args := #[.int .i64 y, .int .i64 0, .int .i64 960]) (ref08_inT y 0 960 _) fun W6 hb6 => ?_
 refine xg 3 [11, 12, 13] (!(decide ((0 : Int) ≤ y ∧ y ≤ 960))) (fun hc7 => ?_) (fun hc7 => ?_)
 · have hd8 : (decide ((0 : Int) ≤ y ∧ y ≤ 960)) = false := not_t hc7
   have hB := Bl.next (Bl.next n1.below hb2) hb6
   exact xe 15 (.string ⟨#[]⟩) (.inl ⟨by unfold slotQ; first | (rw [hd5, hd8]; done) | (rw [hd5, hd8]; rfl), rfl, hB⟩)
 have hd9 : (decide ((0 : Int) ≤ y ∧ y ≤ 960)) = true := not_f hc7
 have k1'2 := k1'1.below hb6
 refine xb 1 2 k1'2 ?_
 refine xr 0 (args := #[.int .i64 z, .int .i64 0, .int .i64 960]) (ref08_inT z 0 960 _) fun W10 hb10 => ?_
 refine xi 4 (!(decide ((0 : Int) ≤ z ∧ z ≤ 960))) (fun hc11 => ?_) (fun hc11 => ?_)
 · have hd12 : (decide ((0 : Int) ≤ z ∧ z ≤ 960)) = false := not_t hc11
   have hB := Bl.next (Bl.next (Bl.next n1.below hb2) hb6) hb10
   exact xe 7 (.string ⟨#[]⟩) (.inl ⟨by unfold slotQ; first | (rw [hd5, hd9, hd12]; done) | (rw [hd5, hd9, hd12]; rfl), rfl, hB⟩)
 have hd13 : (decide ((0 : Int) ≤ z ∧ z ≤ 960)) = true := not_f hc11
 have k1'3 := k1'2.below hb10
 refine xb 5 0 k1'3 ?_
 refine xb 1 1 k1'3 ?_
 refine xb 1 2 k1'3 ?_
 refine xbs 0 3 [.int .i64 x, .int .i64 y, .int .i64 z] 3 fun b14 W14 n14 => ?_
 refine xbs 0 3 [.int .i64 8, .int .i64 4, .int .i64 4] 3 fun b15 W15 n15 => ?_
 have d15_b14 := n15.ne n14.blk
 have hsb : slotQ x y z = true := by
   unfold slotQ
   rw [hd5, hd9, hd13]; rfl
 have k14'1 := n14.blk.below n15.below
 refine xr 0 (args := #[.slice (some ⟨b14, 0, none⟩) 3 3, .slice (some ⟨b15, 0, none⟩) 3 3]) (ref08_textG [x, y, z] [8, 4, 4] (some ⟨b14, 0, none⟩) (some ⟨b15, 0, none⟩) 3 3 _ (slotQ_ok hsb) (k14'1.sl 3 3 (by decide) (by decide)) (n15.blk.sl 3 3 (by decide) (by decide))) fun W16 hb16 => ?_
 have hB := Bl.next (Bl.next (Bl.next (Bl.next (Bl.next (Bl.next n1.below hb2) hb6) hb10) n14.below) n15.below) hb16
 exact xe 4 (.string ⟨(txtL [x, y, z] [8, 4, 4] 3).toArray⟩) (.inr ⟨hsb, rfl, hB⟩)
theorem slot_txt (x y z : Int) : txtL [x, y, z] [8, 4, 4] 3 = leB x 8 ++ leB y 4 ++ leB z 4 := by simp [txtL, List.range, List.range.loop]
theorem cnt_txt (x : Int) : txtL [x] [4] 1 = leB x 4 := by simp [txtL, List.range, List.range.loop]
theorem cnt_ok {n : Int} (h : 3 ≤ n ∧ n ≤ 2147483647) : TxtOk [n] [4] := by
  refine ⟨show 1 ≤ 100 from by decide, rfl, fun i hi => ?_⟩
  have hi' : i < 1 := hi
  obtain rfl : i = 0 := by omega
  simp [List.getD]
  omega
set_option maxRecDepth 100000 in
set_option maxHeartbeats 1000000 in
theorem ref08_CountT (n : Int) (w : World) (hn : 3 ≤ n ∧ n ≤ 2147483647) :
    Calls Tryz.prog 67 #[.int .i64 n] w (Ret (.string ⟨(leB n 4).toArray⟩) w) := by
 refine zin 10 Tryz.func67 ?_
 refine xr 9 (args := #[.int .i64 n, .int .i64 3, .int .i64 2147483647]) (ref08_inT n 3 2147483647 _) fun W1 hb1 => ?_
 refine xk 3 (show (!(decide ((3 : Int) ≤ n ∧ n ≤ (2147483647 : Int))) : Bool) = false from by rw [decide_eq_true hn]; rfl) ?_
 refine xbs 5 1 [.int .i64 n] 3 fun b2 W2 n2 => ?_
 refine xbs 0 1 [.int .i64 4] 3 fun b3 W3 n3 => ?_
 have d3_b2 := n3.ne n2.blk
 have k2'1 := n2.blk.below n3.below
 refine xr 0 (args := #[.slice (some ⟨b2, 0, none⟩) 1 1, .slice (some ⟨b3, 0, none⟩) 1 1]) (ref08_textG [n] [4] (some ⟨b2, 0, none⟩) (some ⟨b3, 0, none⟩) 1 1 _ (cnt_ok hn) (k2'1.sl 1 1 (by decide) (by decide)) (n3.blk.sl 1 1 (by decide) (by decide))) fun W4 hb4 => ?_
 have hB := Bl.next (Bl.next (Bl.next hb1 n2.below) n3.below) hb4
 exact xe 4 (.string ⟨(txtL [n] [4] 1).toArray⟩) ⟨by rw [cnt_txt], hB⟩
theorem ref08_SlotT (x y z : Int) (w : World) (h1 : 1 ≤ x ∧ x ≤ 14399) (h2 : 0 ≤ y ∧ y ≤ 960) (h3 : 0 ≤ z ∧ z ≤ 960) : Calls Tryz.prog 36 #[.agg #[.int .i64 x, .int .i64 y, .int .i64 z]] w (Ret (.string ⟨(leB x 8 ++ leB y 4 ++ leB z 4).toArray⟩) w) := by
  refine (ref08_Slot x y z w).mono ?_
  rintro e W (⟨h, _, _⟩ | ⟨_, rfl, hb⟩)
  · unfold slotQ at h
    rw [decide_eq_true h1, decide_eq_true h2, decide_eq_true h3] at h
    exact absurd h (by decide)
  · exact ⟨by rw [slot_txt], hb⟩
end Go.Proofs.YtcjpomibhbakdaaGreatDoor
namespace Go.Proofs.YtcjpomibhbakdaaGreatDoor
open Go.RowKit Go.Extern.Stop Go.Stop Go.Extern
set_option linter.unusedVariables false
attribute [local irreducible] wpList wpAnyH Code.wp Oper.wp Go

def LevelPost (B ba b g nn cc : Nat) (pa : Option Addr) (ca f N k0 : Nat) (bs : List UInt8) (t : Int) (leaf : Bool) (m v : Nat) (l : List Ent) (w : World) (e : Ending) (w' : World) : Prop :=
  ∃ p c, e = .returned (.tuple #[.slice p (ovN l.length m) c, .nilIface]) ∧ Below B w w' ∧ Only [87, 5] w w' ∧ Fr [ba, g] w w' ∧ Al B ba b g nn cc pa ca f N (k0 + ovN l.length m) (levB t leaf m v l (f + k0) bs (ovN l.length m)) w' ∧ w'.ownsRow w.heap.size 69 3 (.slice p (ovN l.length m) c) (ovN l.length m) ((upE l m (f + k0) (ovN l.length m)).flatMap entC)
set_option maxRecDepth 100000 in
set_option maxHeartbeats 8000000 in
theorem build_level (B ba b g nn cc : Nat) (pa : Option Addr) (ca f N k0 : Nat) (bs : List UInt8) (t : Int) (leaf : Bool) (m v : Nat) (a : Option Addr) (c : Nat) (l : List Ent) (w : World) (hC : AlC B ba nn cc ca f N) (hA : Al B ba b g nn cc pa ca f N k0 bs w) (ht1 : 1 ≤ t) (ht2 : t ≤ 5) (hm : maxN t leaf = m) (hv : widN t leaf = v) (E : EntsOk v l) (hl : leaf = false → 1 ≤ l.length) (hn : l.length ≤ 32768) (hf1 : 1 ≤ f) (hk : k0 + ovN l.length m ≤ N) (hin : ∀ W, Below B w W → Only [87, 5] w W → Sts entC W (.slice a l.length c) l) (hBw : B ≤ w.heap.size) :
    Calls Tryz.prog 62 #[.pointer (some ⟨ba, 0, none⟩), .int .i64 t, .bool leaf, .slice a l.length c] w (LevelPost B ba b g nn cc pa ca f N k0 bs t leaf m v l w) := by
 have hmb := maxN_pos t leaf
 rw [hm] at hmb
 have hcf := hC.hf
 have hcn := hC.hn
 refine zin 96 Tryz.func62 ?_
 refine xr 18 (args := #[.int .i64 t, .bool leaf]) (node_MaxN t leaf m hm ht1 ht2 _) fun W1 hb1 => ?_
 refine xc 0 (args := #[.int .i64 (↑l.length : Int), .int .i64 (↑m : Int)]) (tall_Sizes l.length m _ hn (by omega) (by omega)) ?_
 rintro _ W2 ⟨_, rfl, hb2, ps, cs, rfl, hsz⟩
 have hs2 := (Bl.nextB (Below.refl B w) hBw hb1).size
 have hsz'1 := own_mono hsz hs2
 have hA'1 := (hA.below hb1).below hb2
 have hB := Bl.nextB (Bl.nextB (Below.refl B w) hBw hb1) hBw hb2
 have hX := (show Fr [ba, g] w _ from (Fr.of_below hb1)).trans (Fr.of_below hb2)
 have hO := (show Only [87, 5] w _ from (Only.of_below hb1)).trans (Only.of_below hb2)
 refine zl 5 96 (fun zm zkv V => ∃ (i : Nat) (a2 : Option Addr) (c2 : Nat) (l2 : List Ent) (p4 : Option Addr) (c4 : Nat), zkv = [(0, .pointer (some ⟨ba, 0, none⟩)), (1, .int .i64 t), (2, .bool leaf), (3, .slice a2 l2.length c2), (10, .slice p4 i c4), (26, .slice ps (ovN l.length m) cs), (27, .int .i64 (↑(ovN l.length m) : Int)), (28, .int .i64 (↑i : Int))] ∧ zm = ovN l.length m - ((↑i : Int)).toNat ∧ Below B w V ∧ Fr [ba, g] w V ∧ Only [87, 5] w V ∧ V.ownsRow w.heap.size 3 1 (.slice ps (ovN l.length m) cs) (ovN l.length m) ((sizL l.length m).map nv) ∧ V.ownsRow w.heap.size 69 3 (.slice p4 i c4) i ((upE l m (f + k0) i).flatMap entC) ∧ Al B ba b g nn cc pa ca f N (k0 + i) (levB t leaf m v l (f + k0) bs i) V ∧ (∀ W, Below B w W → Only [87, 5] w W → Sts entC W (.slice a2 l2.length c2) l2) ∧ i ≤ ovN l.length m ∧ l2 = l.drop (i * m)) ⟨0, a, c, l, none, 0, rfl, rfl, hB, hX, hO, hsz'1, World.ownsRow_nil _ _ _ _, hA'1, ?_, Nat.zero_le _, by simp⟩ ?_
 · exact hin
 rintro _ _ W3 ⟨i, a2, c2, l2, p4, c4, rfl, rfl, hB_3, hX_3, hO_3, hsz, hup, hA, hen, hi, hl2⟩ J3 hJ3 r3
 have hcap := Sl.cap (hen _ hB_3 hO_3)
 have hsl : i < ovN l.length m → i * m ≤ l.length := siz_le (by omega)
 have hl2n : l2.length = l.length - i * m := by rw [hl2]; simp
 have hszn : sizN l.length m i ≤ l2.length := by rw [hl2n]; unfold sizN; omega
 refine xid 6 ((↑i : Int) < (↑(ovN l.length m) : Int)) (fun hc4 => ?_) (fun hc4 => ?_)
 · refine xx 6 _ (ovN l.length m) i 1 (siz_elem (own_sl hsz) (k := i) (by omega)).1 ?_
   refine xl 0 ((siz_elem (own_sl hsz) (k := i) (by omega)).2) ?_
   have hF5 := hB_3
   have hOhF5 := hO_3
   have hXhF5 := hX_3
   refine xa 8 [.int .i64 0, .bool false, .slice none 0 0, .slice none 0 0] 132 fun b6 W6 n6 => ?_
   refine xsv 0 n6.blk [.int .i64 t, .bool leaf, .slice none 0 0, .slice none 0 0] fun W7 u7 k7 => ?_
   have g6 := n6.ge (Below.refl W3.heap.size _)
   refine xsH 7 (fun _ _ _ _ zo zx zy V => run_sliceH (k := (sizN l.length m i)) (b := a2) (n := l2.length) (c := c2) (i := (↑(sizN l.length m i) : Int)) (ki := .i64) zo zx zy rfl (by omega) Tryz.underlying60 (by kernel_rfl) V) ?_
   have hB := u7.below n6.below g6
   refine zl 5 96 (fun zm zkv V => ∃ (j : Nat) (kp : Option Addr) (kc : Nat) (vp : Option Addr) (vc : Nat), zkv = [(0, .pointer (some ⟨ba, 0, none⟩)), (1, .int .i64 t), (2, .bool leaf), (3, .slice a2 l2.length c2), (10, .slice p4 i c4), (12, .int .i64 (↑(sizN l.length m i) : Int)), (13, .pointer (some ⟨b6, 0, none⟩)), (26, .slice ps (ovN l.length m) cs), (27, .int .i64 (↑(ovN l.length m) : Int)), (28, .int .i64 (↑i : Int)), (37, .slice a2 (sizN l.length m i) c2), (38, .int .i64 (↑(sizN l.length m i) : Int)), (39, .int .i64 (↑j : Int))] ∧ zm = sizN l.length m i - ((↑j : Int)).toNat ∧ Below W3.heap.size W3 V ∧ Blk V b6 ([.int .i64 t, .bool leaf, .slice kp j kc, .slice vp j vc]) 132 ∧ V.ownsRow W3.heap.size 3 1 (.slice kp j kc) j (((keysE l2).take j).map (Value.int .i64)) ∧ V.ownsRow W3.heap.size 9 1 (.slice vp j vc) j (((valsE l2).take j).map sv) ∧ j ≤ sizN l.length m i) ⟨0, none, 0, none, 0, rfl, rfl, hB, k7, World.ownsRow_nil _ _ _ _, World.ownsRow_nil _ _ _ _, Nat.zero_le _⟩ ?_
   rintro _ _ W8 ⟨j, kp, kc, vp, vc, rfl, rfl, hB_8, k8_b6, hK, hV, hj⟩ J8 hJ8 r8
   refine xid 6 ((↑j : Int) < (↑(sizN l.length m i) : Int)) (fun hc9 => ?_) (fun hc9 => ?_)
   · have hen_hF5 := hen _ hF5 hOhF5
     refine xx 6 _ (sizN l.length m i) j 3 (Sts.cell hen_hF5 entC_len entD (k := j) (i := 0) (by omega) rfl).1 ?_
     refine xlv 0 (Sts.rp (k := j) (hen_hF5.below hB_8) entC_len entD (by omega) (by decide)) ?_
     refine xa 0 [.int .i64 0, .string ⟨#[]⟩, .int .i64 0] 69 fun b10 W10 n10 => ?_
     have g10 := n10.ge hB_8
     refine xsv 0 n10.blk [.int .i64 ((l2.getD j entD).1), .string ⟨((l2.getD j entD).2.1).toArray⟩, .int .i64 ((l2.getD j entD).2.2)] fun W11 u11 k11 => ?_
     have k8_b6'1 := u11.blkT (k8_b6.below n10.below) n10.blk (by decide)
     refine xb 5 2 k8_b6'1 ?_
     refine xb 1 0 k11 ?_
     refine xbs 0 1 [.int .i64 ((l2.getD j entD).1)] 3 fun b12 W12 n12 => ?_
     have hB'1 := u11.below (Bl.next hB_8 n10.below) g10
     have g12 := n12.ge hB'1
     have hK'1 := u11.own2 (own_below hK n10.below) n10.blk (by decide)
     have r12_hK := own_ne hK'1 n12
     have hK'2 := own_below hK'1 n12.below
     have hB'2 := Bl.next hB'1 n12.below
     refine xbi 0 fun _ _ _ _ zJ zQ zo zx zy zK => op_app (m := 1) (news := [.int .i64 ((l2.getD j entD).1)]) (.int .i64 0) 1 8 (j + 1) (((keysE l2).take (j + 1)).map (Value.int .i64)) zo Tryz.underlying22 (by kernel_rfl) rfl (by decide) zx hK'2 zy (n12.blk.sl 1 1 (by decide) (by decide)) rfl (by simp [Value.oneCell']) (by unfold maxLen; omega) (by omega) hB'2.size (by rfl) ((keys_take (by omega)).symm) fun px13 cx13 W13 o13 hg13 hb13 => ?_
     refine zK _ _ ?_
     have k8_b6'2 := (k8_b6'1.below n12.below).grown hg13 hK'2 (by decide)
     refine xs 1 k8_b6'2 [.int .i64 t, .bool leaf, .slice px13 (j + 1) cx13, .slice vp j vc] fun W14 u14 k14 => ?_
     refine xb 4 3 k14 ?_
     have k11'1 := u14.blkT ((k11.below n12.below).grown hg13 hK'2 (by decide)) k8_b6'2 (by decide)
     refine xb 1 1 k11'1 ?_
     refine xbs 0 1 [.string ⟨((l2.getD j entD).2.1).toArray⟩] 9 fun b15 W15 n15 => ?_
     have hB'3 := u14.below (hB'2.trans hb13) g6
     have g15 := n15.ge hB'3
     have hV'1 := u14.own2 (own_grown (own_below (u11.own2 (own_below hV n10.below) n10.blk (by decide)) n12.below) hg13 hK'2 (by decide)) k8_b6'2 (by decide)
     have r15_hV := own_ne hV'1 n15
     have hV'2 := own_below hV'1 n15.below
     have hB'4 := Bl.next hB'3 n15.below
     refine xbi 0 fun _ _ _ _ zJ zQ zo zx zy zK => op_app (m := 1) (news := [.string ⟨((l2.getD j entD).2.1).toArray⟩]) (.string ⟨#[]⟩) 1 16 (j + 1) (((valsE l2).take (j + 1)).map sv) zo Tryz.underlying55 (by kernel_rfl) rfl (by decide) zx hV'2 zy (n15.blk.sl 1 1 (by decide) (by decide)) rfl (by simp [Value.oneCell']) (by unfold maxLen; omega) (by omega) hB'4.size (by rfl) ((vals_take (by omega)).symm) fun px16 cx16 W16 o16 hg16 hb16 => ?_
     refine zK _ _ ?_
     have k14'1 := (k14.below n15.below).grown hg16 hV'2 (by decide)
     refine xs 1 k14'1 [.int .i64 t, .bool leaf, .slice px13 (j + 1) cx13, .slice px16 (j + 1) cx16] fun W17 u17 k17 => ?_
     refine xwm 4 ((↑j : Int) + 1) (↑(j + 1) : Int) ?_
     have hB'5 := u17.below (hB'4.trans hb16) g6
     have o13'1 := u17.own2 (own_grown (own_below (u14.own2 o13 k8_b6'2 (by decide)) n15.below) hg16 hV'2 (by decide)) k14'1 (by decide)
     have o16'1 := u17.own2 o16 k14'1 (by decide)
     exact ze 2 (hJ8 _ _ _ ⟨j + 1, _, _, _, _, rfl, rfl, hB'5, k17, o13'1, o16'1, by omega⟩ (by omega))
   refine xsL 9 (fun _ _ _ _ zo zx zy V => run_sliceLA (k := (sizN l.length m i)) (b := a2) (n := l2.length) (c := c2) (i := (↑(sizN l.length m i) : Int)) (ki := .i64) 3 zo zx zy rfl (by omega) Tryz.underlying60 (by kernel_rfl) V) ?_
   refine xlv 5 k8_b6.rp ?_
   have hT18 : Below W3.heap.size W3 W8 := hB_8
   have hs18 : w.heap.size ≤ W3.heap.size := hF5.size
   have hjs : sizN l.length m i = j := by omega
   have hck : (keysE l2).take j = keysE (chunkE l m i) := by rw [hl2]; exact keys_chunk hjs
   have hcv : (valsE l2).take j = valsE (chunkE l m i) := by rw [hl2]; exact vals_chunk hjs
   have hcl : (chunkE l m i).length = j := by rw [chunk_len, hjs]
   have hK'3 := own_mono hK hs18
   rw [hck] at hK'3
   have hV'3 := own_mono hV hs18
   rw [hcv] at hV'3
   have hN := chunk_ok E ht1 ht2 hm hv hl (show i < ovN l.length m by omega)
   have hlen := nodB_len hN
   rw [hcl] at hN
   have hnd : nodeP m v (headB t leaf j m v) (keysE (chunkE l m i)) (valsE (chunkE l m i)) j = nodB t leaf m v (chunkE l m i) := by rw [← hcl]; rfl
   refine xc 0 (args := #[.agg #[.int .i64 t, .bool leaf, .slice kp j kc, .slice vp j vc]]) (node_Put t leaf j m v (keysE (chunkE l m i)) (valsE (chunkE l m i)) kp vp kc vc _ hN (own_sl hK'3) (own_sl hV'3)) ?_
   rintro _ W19 ⟨_, rfl, hb19, p6, c6, rfl, h6⟩
   have hs19 := (Bl.nextB hF5 hBw hT18).size
   have h6'1 := own_mono h6 hs19
   rw [hnd] at h6'1
   have hA'2 := (hA.below hT18).below hb19
   have hO := (hOhF5.trans (Only.of_below hT18)).trans (Only.of_below hb19)
   have hB := Bl.nextB (Bl.nextB hF5 hBw hT18) hBw hb19
   refine xc 21 (args := #[.pointer (some ⟨ba, 0, none⟩), .int .i64 2, .slice p6 244 c6]) (alloc_LayQ B ba b g nn cc pa ca f N (k0 + i) (levB t leaf m v l (f + k0) bs i) 2 p6 c6 (nodB t leaf m v (chunkE l m i)) (f + k0 + i) 244 _ (Nat.add_assoc _ _ _).symm hlen hC hA'2 (by omega) (by decide) (by decide) (fun W _ hO => bys_of (own_sl (own_only h6'1 hO (by decide))) hlen) (by decide) (Nat.le_trans hBw hB.size)) ?_
   rintro _ W20 ⟨rfl, hb20, hO20, hX20, hA⟩
   refine xr 20 (args := #[.int .i64 (↑(f + k0 + i) : Int)]) (value_Root ((f + k0 + i : Nat) : Int) (by omega) (by omega) _) fun W21 hb21 => ?_
   refine xa 2 [.int .i64 0, .string ⟨#[]⟩, .int .i64 0] 69 fun b22 W22 n22 => ?_
   have hB'6 := Bl.nextB (hB.trans hb20) hBw hb21
   have g22 := n22.ge0 hB'6
   have hup'1 := own_below (own_only (own_below (own_below hup hT18) hb19) hO20 (by decide)) hb21
   have r22_hup := own_ne hup'1 n22
   refine xsv 0 n22.blk [.int .i64 0, .string ⟨(leB (↑(f + k0 + i) : Int) 4).toArray⟩, .int .i64 (↑(f + k0 + i) : Int)] fun W23 u23 k23 => ?_
   refine xid 9 ((↑(sizN l.length m i) : Int) > (0 : Int)) (fun hc24 => ?_) (fun hc24 => ?_)
   · have hkey : ((keysE (chunkE l m i))).getD 0 0 = ((chunkE l m i).getD 0 entD).1 := chunk_key hjs (by omega)
     have k8_b6'3 := u23.blkT ((((k8_b6.below hb19).only hO20 (by decide)).below hb21).below n22.below) n22.blk (by decide)
     refine xb 2 2 k8_b6'3 ?_
     have hK'4 := u23.own2 (own_below (own_below (own_only (own_below hK'3 hb19) hO20 (by decide)) hb21) n22.below) n22.blk (by decide)
     refine xx 0 _ j 0 1 (IntsN.elem (own_sl hK'4) (by rw [keysE_len, hcl]) (k := 0) (by omega)).1 ?_
     refine xl 0 ((IntsN.elem (own_sl hK'4) (by rw [keysE_len, hcl]) (k := 0) (by omega)).2) ?_
     refine xs 1 k23 [.int .i64 ((keysE (chunkE l m i)).getD 0 0), .string ⟨(leB (↑(f + k0 + i) : Int) 4).toArray⟩, .int .i64 (↑(f + k0 + i) : Int)] fun W25 u25 k25 => ?_
     refine xlv 4 k25.rp ?_
     refine xbs 0 1 [.int .i64 ((keysE (chunkE l m i)).getD 0 0), .string ⟨(leB (↑(f + k0 + i) : Int) 4).toArray⟩, .int .i64 (↑(f + k0 + i) : Int)] 69 fun b26 W26 n26 => ?_
     have d26_b22 := n26.ne k25
     have hB'7 := u25.below (u23.below (Bl.nextB hB'6 hBw n22.below) (Nat.le_trans hBw g22)) (Nat.le_trans hBw g22)
     have g26 := n26.ge0 hB'7
     have hup'2 := u25.own3 (u23.own3 (own_below hup'1 n22.below) r22_hup) r22_hup
     have r26_hup := own_ne hup'2 n26
     have hup'3 := own_below hup'2 n26.below
     have hB'8 := Bl.nextB hB'7 hBw n26.below
     refine xbi 0 fun _ _ _ _ zJ zQ zo zx zy zK => op_app (m := 1) (news := [.int .i64 ((keysE (chunkE l m i)).getD 0 0), .string ⟨(leB (↑(f + k0 + i) : Int) 4).toArray⟩, .int .i64 (↑(f + k0 + i) : Int)]) (.agg #[.int .i64 0, .string ⟨#[]⟩, .int .i64 0]) 3 32 (i + 1) ((upE l m (f + k0) (i + 1)).flatMap entC) zo Tryz.underlying60 (by kernel_rfl) rfl (by decide) zx hup'3 zy (n26.blk.sl 1 1 (by decide) (by decide)) rfl (by simp [Value.oneCell']) (by unfold maxLen; omega) (by omega) hB'8.size (by rfl) (up_row (by first | exact hkey | exact hkey0)) fun px27 cx27 W27 o27 hg27 hb27 => ?_
     refine zK _ _ ?_
     refine xwm 5 ((↑i : Int) + 1) (↑(i + 1) : Int) ?_
     refine xv1 2 3 (show (.slice (cutA a2 (sizN l.length m i) c2 3) (l2.length - (sizN l.length m i)) (c2 - (sizN l.length m i)) : Value) = .slice (cutA a2 (sizN l.length m i) c2 3) ((l2.drop (sizN l.length m i)).length) (c2 - sizN l.length m i) from by rw [List.length_drop]) ?_
     have hA'3 := (((((hA.below hb21).below n22.below).only (Only.of_upd (T := [69]) u23 n22.blk (by decide)) (by decide)).only (Only.of_upd (T := [69]) u25 k23 (by decide)) (by decide)).below n26.below).only (Only.of_grown (T := [69]) hg27 hup'3 (by decide)) (by decide)
     have hl2s : l2.drop (sizN l.length m i) = l.drop ((i + 1) * m) := by
       rw [hl2, List.drop_drop, Nat.add_mul, Nat.one_mul]
       unfold sizN
       rcases Nat.le_total m (l.length - i * m) with q | q
       · rw [Nat.min_eq_left q]
       · rw [Nat.min_eq_right q, List.drop_eq_nil_of_le (by omega), List.drop_eq_nil_of_le (by omega)]
     have hB'9 := hB'8.trans (hb27.mono hBw)
     have hX := (Fr.grown_new ((Fr.upd_new (Fr.upd_new (((((hXhF5.trans (Fr.of_below hT18)).trans (Fr.of_below hb19)).trans (hX20.mono (by simp))).trans (Fr.of_below hb21)).trans (Fr.of_below n22.below)) u23 g22) u25 g22).trans (Fr.of_below n26.below)) hg27 hup'3)
     have hO'1 := (Only.grown_new ((Only.upd_new (Only.upd_new (((hO.trans hO20).trans (Only.of_below hb21)).trans (Only.of_below n22.below)) u23 g22) u25 g22).trans (Only.of_below n26.below)) hg27 hup'3)
     have hsz'2 := own_grown (own_below (u25.own2 (u23.own2 (own_below (own_below (own_only (own_below (own_below hsz hT18) hb19) hO20 (by decide)) hb21) n22.below) n22.blk (by decide)) k23 (by decide)) n26.below) hg27 hup'3 (by decide)
     exact ze 0 (hJ3 _ _ _ ⟨i + 1, _, _, (l2.drop (sizN l.length m i)), _, _, rfl, rfl, hB'9, hX, hO'1, hsz'2, o27, hA'3, fun W h1 h2 => Sts.cut entC_len (hen W h1 h2) _ hszn, by omega, hl2s⟩ (by omega))
   have hkey0 : (0 : Int) = ((chunkE l m i).getD 0 entD).1 := chunk_nokey hjs (by omega)
   refine xlv 4 k23.rp ?_
   refine xbs 0 1 [.int .i64 0, .string ⟨(leB (↑(f + k0 + i) : Int) 4).toArray⟩, .int .i64 (↑(f + k0 + i) : Int)] 69 fun b28 W28 n28 => ?_
   have d28_b22 := n28.ne k23
   have hB'10 := u23.below (Bl.nextB hB'6 hBw n22.below) (Nat.le_trans hBw g22)
   have g28 := n28.ge0 hB'10
   have hup'4 := u23.own3 (own_below hup'1 n22.below) r22_hup
   have r28_hup := own_ne hup'4 n28
   have hup'5 := own_below hup'4 n28.below
   have hB'11 := Bl.nextB hB'10 hBw n28.below
   refine xbi 0 fun _ _ _ _ zJ zQ zo zx zy zK => op_app (m := 1) (news := [.int .i64 0, .string ⟨(leB (↑(f + k0 + i) : Int) 4).toArray⟩, .int .i64 (↑(f + k0 + i) : Int)]) (.agg #[.int .i64 0, .string ⟨#[]⟩, .int .i64 0]) 3 32 (i + 1) ((upE l m (f + k0) (i + 1)).flatMap entC) zo Tryz.underlying60 (by kernel_rfl) rfl (by decide) zx hup'5 zy (n28.blk.sl 1 1 (by decide) (by decide)) rfl (by simp [Value.oneCell']) (by unfold maxLen; omega) (by omega) hB'11.size (by rfl) (up_row (by first | exact hkey | exact hkey0)) fun px29 cx29 W29 o29 hg29 hb29 => ?_
   refine zK _ _ ?_
   refine xwm 5 ((↑i : Int) + 1) (↑(i + 1) : Int) ?_
   refine xv1 2 3 (show (.slice (cutA a2 (sizN l.length m i) c2 3) (l2.length - (sizN l.length m i)) (c2 - (sizN l.length m i)) : Value) = .slice (cutA a2 (sizN l.length m i) c2 3) ((l2.drop (sizN l.length m i)).length) (c2 - sizN l.length m i) from by rw [List.length_drop]) ?_
   have hA'4 := ((((hA.below hb21).below n22.below).only (Only.of_upd (T := [69]) u23 n22.blk (by decide)) (by decide)).below n28.below).only (Only.of_grown (T := [69]) hg29 hup'5 (by decide)) (by decide)
   have hl2s : l2.drop (sizN l.length m i) = l.drop ((i + 1) * m) := by
     rw [hl2, List.drop_drop, Nat.add_mul, Nat.one_mul]
     unfold sizN
     rcases Nat.le_total m (l.length - i * m) with q | q
     · rw [Nat.min_eq_left q]
     · rw [Nat.min_eq_right q, List.drop_eq_nil_of_le (by omega), List.drop_eq_nil_of_le (by omega)]
   have hB'12 := hB'11.trans (hb29.mono hBw)
   have hX := (Fr.grown_new ((Fr.upd_new (((((hXhF5.trans (Fr.of_below hT18)).trans (Fr.of_below hb19)).trans (hX20.mono (by simp))).trans (Fr.of_below hb21)).trans (Fr.of_below n22.below)) u23 g22).trans (Fr.of_below n28.below)) hg29 hup'5)
   have hO'2 := (Only.grown_new ((Only.upd_new (((hO.trans hO20).trans (Only.of_below hb21)).trans (Only.of_below n22.below)) u23 g22).trans (Only.of_below n28.below)) hg29 hup'5)
   have hsz'3 := own_grown (own_below (u23.own2 (own_below (own_below (own_only (own_below (own_below hsz hT18) hb19) hO20 (by decide)) hb21) n22.below) n22.blk (by decide)) n28.below) hg29 hup'5 (by decide)
   exact ze 0 (hJ3 _ _ _ ⟨i + 1, _, _, (l2.drop (sizN l.length m i)), _, _, rfl, rfl, hB'12, hX, hO'2, hsz'3, o29, hA'4, fun W h1 h2 => Sts.cut entC_len (hen W h1 h2) _ hszn, by omega, hl2s⟩ (by omega))
 refine xe 13 (.tuple #[.slice p4 i c4, .nilIface]) ?_
 obtain rfl : i = ovN l.length m := by omega
 exact ⟨_, _, rfl, hB_3, hO_3, hX_3, hA, hup⟩
end Go.Proofs.YtcjpomibhbakdaaGreatDoor
namespace Go.Proofs.YtcjpomibhbakdaaGreatDoor
open Go.RowKit Go.Extern.Stop Go.Stop Go.Extern
set_option linter.unusedVariables false
attribute [local irreducible] wpList wpAnyH Code.wp Oper.wp Go

theorem only_a3 {w w' : World} (h : Only [87, 5] w w') : Only [87, 5, 35] w w' := h.mono fun t ht => by simp at ht ⊢; exact ⟨ht.1, ht.2.1⟩
def Tree1Post (B ba b g nn cc : Nat) (pa : Option Addr) (ca f N k0 : Nat) (bs : List UInt8) (t : Int) (leaf : Bool) (m v : Nat) (l : List Ent) (b8 : Nat) (w : World) (e : Ending) (w' : World) : Prop :=
  ∃ p c, e = .returned (.slice p (ovN l.length m) c) ∧ Below B w w' ∧ Only [87, 5, 35] w w' ∧ Fr [ba, g, b8] w w' ∧ Blk w' b8 [.nilIface] 35 ∧ Al B ba b g nn cc pa ca f N (k0 + ovN l.length m) (levB t leaf m v l (f + k0) bs (ovN l.length m)) w' ∧ w'.ownsRow w.heap.size 69 3 (.slice p (ovN l.length m) c) (ovN l.length m) ((upE l m (f + k0) (ovN l.length m)).flatMap entC)
set_option maxRecDepth 100000 in
set_option maxHeartbeats 4000000 in
theorem build_Tree1 (B ba b g nn cc : Nat) (pa : Option Addr) (ca f N k0 : Nat) (bs : List UInt8) (t : Int) (leaf : Bool) (m v : Nat) (a : Option Addr) (c : Nat) (l : List Ent) (b3 b4 b8 : Nat) (w : World) (k3 : Blk w b3 [.pointer (some ⟨ba, 0, none⟩)] 24) (k4 : Blk w b4 [.int .i64 t] 3) (k8 : Blk w b8 [.nilIface] 35) (h38 : b3 ≠ b8) (h48 : b4 ≠ b8) (hB8 : B ≤ b8) (hC : AlC B ba nn cc ca f N) (hA : Al B ba b g nn cc pa ca f N k0 bs w) (ht1 : 1 ≤ t) (ht2 : t ≤ 5) (hm : maxN t leaf = m) (hv : widN t leaf = v) (E : EntsOk v l) (hl : leaf = false → 1 ≤ l.length) (hn : l.length ≤ 32768) (hf1 : 1 ≤ f) (hk : k0 + ovN l.length m ≤ N) (hin : ∀ W, Below B w W → Only [87, 5, 35] w W → Sts entC W (.slice a l.length c) l) (hBw : B ≤ w.heap.size) :
    Calls Tryz.prog 61 #[.bool leaf, .slice a l.length c, .pointer (some ⟨b3, 0, none⟩), .pointer (some ⟨b4, 0, none⟩), .pointer (some ⟨b8, 0, none⟩)] w (Tree1Post B ba b g nn cc pa ca f N k0 bs t leaf m v l b8 w) := by
 refine zin 20 Tryz.func61 ?_
 refine xb 7 0 k3 ?_
 refine xb 0 0 k4 ?_
 refine xc 2 (args := #[.pointer (some ⟨ba, 0, none⟩), .int .i64 t, .bool leaf, .slice a l.length c]) (build_level B ba b g nn cc pa ca f N k0 bs t leaf m v a c l _ hC hA ht1 ht2 hm hv E hl hn hf1 hk (fun W h1 h2 => hin W ((Below.refl B _).trans h1) ((Only.refl _ _).trans (only_a3 h2))) (Nat.le_trans hBw (Below.refl B _).size)) ?_
 rintro _ W1 ⟨p4, c4, rfl, hb1, hO1, hX1, hA, hup⟩
 have hs1 := Nat.le_refl w.heap.size
 have k8'1 := k8.only hO1 (by decide)
 refine xs 10 k8'1 [.nilIface] fun W2 u2 k2 => ?_
 have hB := u2.below hb1 hB8
 have hO := (show Only [87, 5, 35] w _ from (only_a3 hO1)).trans (Only.of_upd u2 k8'1 (by decide))
 have hX := (show Fr [ba, g, b8] w _ from (hX1.mono (by simp))).trans (Fr.of_upd u2 (by simp))
 have hA'1 := hA.only (Only.of_upd (T := [35]) u2 k8'1 (by decide)) (by decide)
 have hup'1 := u2.own2 (own_mono hup hs1) k8'1 (by decide)
 exact xe 9 (.slice p4 (ovN l.length m) c4) ⟨_, _, rfl, hB, hO, hX, k2, hA'1, hup'1⟩
def TreePost (B ba b g nn cc : Nat) (pa : Option Addr) (ca f N k0 : Nat) (bs : List UInt8) (t : Int) (l : List Ent) (w : World) (e : Ending) (w' : World) : Prop :=
  e = .returned (.tuple #[.int .i64 (treeB t l (f + k0) bs).1, .nilIface]) ∧ Below B w w' ∧ Only [87, 5, 35] w w' ∧ Fr [ba, g] w w' ∧ Al B ba b g nn cc pa ca f N (k0 + nodN t l.length) (treeB t l (f + k0) bs).2 w'
set_option maxRecDepth 100000 in
set_option maxHeartbeats 8000000 in
theorem build_Tree (B ba b g nn cc : Nat) (pa : Option Addr) (ca f N k0 : Nat) (bs : List UInt8) (t : Int) (a : Option Addr) (c : Nat) (l : List Ent) (w : World) (hC : AlC B ba nn cc ca f N) (hA : Al B ba b g nn cc pa ca f N k0 bs w) (ht1 : 1 ≤ t) (ht2 : t ≤ 5) (E : EntsOk (widN t true) l) (hn : l.length ≤ 32768) (hf1 : 1 ≤ f) (hkN : k0 ≤ N) (hk : k0 + nodN t l.length ≤ N) (hin : ∀ W, Below B w W → Only [87, 5, 35] w W → Sts entC W (.slice a l.length c) l) (hBw : B ≤ w.heap.size) :
    Calls Tryz.prog 30 #[.pointer (some ⟨ba, 0, none⟩), .int .i64 t, .slice a l.length c] w (TreePost B ba b g nn cc pa ca f N k0 bs t l w) := by
 have hnp := nodN_pos t l.length
 have hog : (ovN l.length (maxN t true)) ≤ nodN t l.length := levs_ge _
 have hov := ovN_le l.length (maxN t true) (maxN_pos t true).1
 have hop := ovN_pos l.length (maxN t true)
 have hcf := hC.hf
 have hcn := hC.hn
 refine zin 52 Tryz.func30 ?_
 refine xa 2 [.pointer (some ⟨ba, 0, none⟩)] 24 fun b1 W1 n1 => ?_
 refine xa 0 [.int .i64 t] 3 fun b2 W2 n2 => ?_
 have k1 := n1.blk.below n2.below
 refine xb 8 0 k1 ?_
 have hA'1 := (hA.below n1.below).below n2.below
 refine xr 0 (args := #[.pointer (some ⟨ba, 0, none⟩)]) (alloc_Image ba b _ _ _ hA'1.blkA) fun W3 hb3 => ?_
 have k2 := n2.blk.below hb3
 refine xb 7 0 k2 ?_
 have hB := Bl.nextB (Bl.nextB (Bl.nextB (Below.refl B w) hBw n1.below) hBw n2.below) hBw hb3
 have hO := ((show Only [87, 5, 35] w _ from (Only.of_below n1.below)).trans (Only.of_below n2.below)).trans (Only.of_below hb3)
 refine xr 1 (args := #[.int .i64 t, .slice a l.length c]) (build_right t (widN t true) a c l _ ht1 ht2 rfl E (hin _ hB hO) hn) fun W4 hb4 => ?_
 refine xd 6 .z ?_
 have k1'1 := ((k1.below hb3).below hb4).below (below_drew W4)
 refine xb (.e [] 0) 0 k1'1 ?_
 have k2'1 := (k2.below hb4).below (below_drew W4)
 refine xb (.e [] 2) 0 k2'1 ?_
 have hA'2 := ((hA'1.below hb3).below hb4).below (below_drew W4)
 refine xr (.o [3, 4] 1) (args := #[.pointer (some ⟨ba, 0, none⟩)]) (alloc_Left ba b pa N ca k0 _ hA'2.blkA hkN) fun W5 hb5 => ?_
 refine xr (.o [] 5) (args := #[.int .i64 t, .int .i64 (↑l.length : Int)]) (tall_Nodes t l.length _ ht1 ht2 hn) fun W6 hb6 => ?_
 refine xk (.r [6, 7] 2) (show (decide ((↑(N - k0) : Int) < (↑(nodN t l.length) : Int)) : Bool) = false from decide_eq_false (by omega)) ?_
 refine xa 5 [.nilIface] 35 fun b7 W7 n7 => ?_
 have hB'1 := Bl.nextB (Bl.nextB (Bl.nextB (Bl.nextB hB hBw hb4) hBw (below_drew W4)) hBw hb5) hBw hb6
 have g7 := n7.ge0 hB'1
 have k1'2 := ((k1'1.below hb5).below hb6).below n7.below
 have k2'2 := ((k2'1.below hb5).below hb6).below n7.below
 have hA'3 := ((hA'2.below hb5).below hb6).below n7.below
 have hB'2 := Bl.nextB hB'1 hBw n7.below
 have hO'1 := ((((hO.trans (Only.of_below hb4)).trans (Only.of_below (below_drew W4))).trans (Only.of_below hb5)).trans (Only.of_below hb6)).trans (Only.of_below n7.below)
 refine xc 12 (args := #[.bool true, .slice a l.length c, .pointer (some ⟨b1, 0, none⟩), .pointer (some ⟨b2, 0, none⟩), .pointer (some ⟨b7, 0, none⟩)]) (build_Tree1 B ba b g nn cc pa ca f N k0 bs t true (maxN t true) (widN t true) a c l b1 b2 b7 _ k1'2 k2'2 n7.blk (Blk.tne k1'2 n7.blk (by decide)) (Blk.tne k2'2 n7.blk (by decide)) (Nat.le_trans hBw g7) hC hA'3 ht1 ht2 rfl rfl E (by simp) hn hf1 (by omega) (fun W h1 h2 => hin W (hB'2.trans h1) (hO'1.trans h2)) (Nat.le_trans hBw hB'2.size)) ?_
 rintro _ W8 ⟨p41, c41, rfl, hb8, hO8, hX8, k8n, hA, hup⟩
 have hs8 := (Bl.nextB hB'1 hBw n7.below).size
 refine xv1 5 10 (show (.slice p41 (ovN l.length (maxN t true)) c41 : Value) = .slice p41 ((upE l (maxN t true) (f + k0) (ovN l.length (maxN t true))).length) c41 from by rw [upE_len]) ?_
 have hup'1 := own_mono hup hs8
 have hB'3 := hB'2.trans hb8
 have hX := (Fr.trans_new ((((((((show Fr [ba, g] w _ from (Fr.of_below n1.below)).trans (Fr.of_below n2.below)).trans (Fr.of_below hb3)).trans (Fr.of_below hb4)).trans (Fr.of_below (below_drew W4))).trans (Fr.of_below hb5)).trans (Fr.of_below hb6)).trans (Fr.of_below n7.below)) hX8 g7)
 have hO'2 := hO'1.trans hO8
 have k1'3 := k1'2.only hO8 (by decide)
 have k2'3 := k2'2.only hO8 (by decide)
 refine zl 0 52 (fun zm zkv V => ∃ (u : List Ent) (K : Nat) (bs2 : List UInt8) (p : Option Addr) (c2 : Nat), zkv = [(6, .int .i64 0), (7, .nilIface), (8, .pointer (some ⟨b7, 0, none⟩)), (9, .func (.func 61) #[] #[.pointer (some ⟨b1, 0, none⟩), .pointer (some ⟨b2, 0, none⟩), .pointer (some ⟨b7, 0, none⟩)]), (10, .slice p u.length c2)] ∧ zm = u.length ∧ Below B w V ∧ Fr [ba, g] w V ∧ Only [87, 5, 35] w V ∧ Blk V b1 ([.pointer (some ⟨ba, 0, none⟩)]) 24 ∧ Blk V b2 ([.int .i64 t]) 3 ∧ Blk V b7 ([.nilIface]) 35 ∧ V.ownsRow w.heap.size 69 3 (.slice p u.length c2) u.length (u.flatMap entC) ∧ Al B ba b g nn cc pa ca f N K bs2 V ∧ K + (levs u.length).sum = k0 + nodN t l.length + u.length ∧ 1 ≤ u.length ∧ u.length ≤ 32768 ∧ EntsOk 4 u ∧ treeUp t u (f + K) bs2 = treeB t l (f + k0) bs) ⟨(upE l (maxN t true) (f + k0) (ovN l.length (maxN t true))), (k0 + (ovN l.length (maxN t true))), (levB t true (maxN t true) (widN t true) l (f + k0) bs (ovN l.length (maxN t true))), p41, c41, rfl, rfl, hB'3, hX, hO'2, k1'3, k2'3, k8n, (by rw [upE_len]; exact hup'1), hA, (by rw [upE_len]; unfold nodN levL; omega), (by rw [upE_len]; exact hop), (by rw [upE_len]; omega), up_ok E (maxN_pos t true).1, (by rw [← Nat.add_assoc]; rfl)⟩ ?_
 rintro _ _ W9 ⟨u, K, bs2, p, c2, rfl, rfl, hB_9, hX_9, hO_9, k9_b1, k9_b2, k9_b7, hup, hA, hK, hu1, hun, hE, htr⟩ J9 hJ9 r9
 have hlm : ¬ u.length ≤ 1 → (levs u.length).sum = u.length + (levs (ovN u.length 18)).sum := fun h => by rw [levs_more h]; rfl
 have hlg := levs_ge (ovN u.length 18)
 have h18 : 2 ≤ u.length → ovN u.length 18 ≤ u.length / 2 := ov18
 have h18p := ovN_pos u.length 18
 refine xb 3 0 k9_b7 ?_
 refine xid 8 ((↑u.length : Int) > (1 : Int)) (fun hc10 => ?_) (fun hc10 => ?_)
 · refine xc 6 (args := #[.bool false, .slice p u.length c2, .pointer (some ⟨b1, 0, none⟩), .pointer (some ⟨b2, 0, none⟩), .pointer (some ⟨b7, 0, none⟩)]) (build_Tree1 B ba b g nn cc pa ca f N K bs2 t false 18 4 p c2 u b1 b2 b7 _ k9_b1 k9_b2 k9_b7 (Blk.tne k9_b1 k9_b7 (by decide)) (Blk.tne k9_b2 k9_b7 (by decide)) (Nat.le_trans hBw g7) hC hA ht1 ht2 rfl rfl hE (fun _ => hu1) (by omega) hf1 (by omega) (fun W _ h2 => own_sl (own_only hup h2 (by decide))) (Nat.le_trans hBw hB_9.size)) ?_
   rintro _ W11 ⟨p42, c42, rfl, hb11, hO11, hX11, k8n, hA, hup⟩
   refine xv1 3 10 (show (.slice p42 (ovN u.length 18) c42 : Value) = .slice p42 ((upE u 18 (f + K) (ovN u.length 18)).length) c42 from by rw [upE_len]) ?_
   have hup'2 := own_mono hup hB_9.size
   have hB'4 := hB_9.trans hb11
   have hX'1 := (Fr.trans_new hX_9 hX11 g7)
   have hO'3 := hO_9.trans hO11
   have k9_b1'1 := k9_b1.only hO11 (by decide)
   have k9_b2'1 := k9_b2.only hO11 (by decide)
   refine ze 0 (hJ9 _ _ _ ⟨(upE u 18 (f + K) (ovN u.length 18)), (K + ovN u.length 18), _, _, _, rfl, rfl, hB'4, hX'1, hO'3, k9_b1'1, k9_b2'1, k8n, (by rw [upE_len]; exact hup'2), hA, (by rw [upE_len]; omega), (by rw [upE_len]; exact h18p), (by rw [upE_len]; omega), up_ok hE (by decide), (by rw [← htr, ← Nat.add_assoc]; exact (treeUp_more (by omega)).symm)⟩ ?_)
   show ((upE u 18 (f + K) (ovN u.length 18)).length) < u.length
   rw [upE_len]; omega
 refine xb 8 0 k9_b7 ?_
 refine xx 9 _ u.length 0 3 (Sts.cell (own_sl hup) entC_len entD (k := 0) (i := 0) (by omega) rfl).1 ?_
 refine xl 1 ((Sts.cell (own_sl hup) entC_len entD (k := 0) (i := 2) (by omega) rfl).2) ?_
 refine xe 5 (.tuple #[.int .i64 ((u.getD 0 entD).2.2), .nilIface]) ?_
 have h1 : u.length ≤ 1 := by omega
 rw [treeUp_one h1] at htr
 rw [levs_one h1] at hK
 simp only [List.sum_cons, List.sum_nil] at hK
 obtain rfl : K = k0 + nodN t l.length := by omega
 refine ⟨by rw [← htr], hB_9, hO_9, hX_9, by rw [← htr]; exact hA⟩
set_option maxRecDepth 100000 in
set_option maxHeartbeats 8000000 in
theorem build_Tree_none (B ba b g nn cc : Nat) (pa : Option Addr) (ca f N k0 : Nat) (bs : List UInt8) (t : Int) (a : Option Addr) (c : Nat) (l : List Ent) (w : World) (hA : Al B ba b g nn cc pa ca f N k0 bs w) (ht1 : 1 ≤ t) (ht2 : t ≤ 5) (E : EntsOk (widN t true) l) (hn : l.length ≤ 32768) (hkN : k0 ≤ N) (hk : N < k0 + nodN t l.length) (h : Sts entC w (.slice a l.length c) l) :
    Calls Tryz.prog 30 #[.pointer (some ⟨ba, 0, none⟩), .int .i64 t, .slice a l.length c] w (Ret (.tuple #[.int .i64 0, .iface 38 (.int .i64 14)]) w) := by
 refine zin 52 Tryz.func30 ?_
 refine xa 2 [.pointer (some ⟨ba, 0, none⟩)] 24 fun b1 W1 n1 => ?_
 refine xa 0 [.int .i64 t] 3 fun b2 W2 n2 => ?_
 have k1 := n1.blk.below n2.below
 refine xb 8 0 k1 ?_
 have hA'1 := (hA.below n1.below).below n2.below
 refine xr 0 (args := #[.pointer (some ⟨ba, 0, none⟩)]) (alloc_Image ba b _ _ _ hA'1.blkA) fun W3 hb3 => ?_
 have k2 := n2.blk.below hb3
 refine xb 7 0 k2 ?_
 have hB := Bl.next (Bl.next n1.below n2.below) hb3
 refine xr 1 (args := #[.int .i64 t, .slice a l.length c]) (build_right t (widN t true) a c l _ ht1 ht2 rfl E (h.below hB) hn) fun W4 hb4 => ?_
 refine xd 6 .z ?_
 have k1'1 := ((k1.below hb3).below hb4).below (below_drew W4)
 refine xb (.e [] 0) 0 k1'1 ?_
 have k2'1 := (k2.below hb4).below (below_drew W4)
 refine xb (.e [] 2) 0 k2'1 ?_
 have hA'2 := ((hA'1.below hb3).below hb4).below (below_drew W4)
 refine xr (.o [3, 4] 1) (args := #[.pointer (some ⟨ba, 0, none⟩)]) (alloc_Left ba b pa N ca k0 _ hA'2.blkA hkN) fun W5 hb5 => ?_
 refine xr (.o [] 5) (args := #[.int .i64 t, .int .i64 (↑l.length : Int)]) (tall_Nodes t l.length _ ht1 ht2 hn) fun W6 hb6 => ?_
 refine xk (.r [6, 7] 2) (show (decide ((↑(N - k0) : Int) < (↑(nodN t l.length) : Int)) : Bool) = true from decide_eq_true (by omega)) ?_
 have hB'1 := Bl.next (Bl.next (Bl.next (Bl.next hB hb4) (below_drew W4)) hb5) hb6
 exact xe 10 (.tuple #[.int .i64 0, .iface 38 (.int .i64 14)]) ⟨rfl, hB'1⟩
end Go.Proofs.YtcjpomibhbakdaaGreatDoor
namespace Go.Proofs.YtcjpomibhbakdaaGreatDoor
open Go.RowKit Go.Extern.Stop Go.Stop Go.Extern
set_option linter.unusedVariables false
attribute [local irreducible] wpList wpAnyH Code.wp Oper.wp Go

def entE (v : Nat) (l : List Ent) (i : Nat) : Prop := lastK l i < (l.getD i entD).1 ∧ (l.getD i entD).1 ≤ 281474976710655 ∧ (l.getD i entD).2.1.length = v
instance (v : Nat) (l : List Ent) (i : Nat) : Decidable (entE v l i) := by unfold entE; infer_instance
/-- may entries be a tree's? -/
def entsB (v : Nat) (l : List Ent) : Bool := (List.range l.length).all fun i => decide (entE v l i)
theorem entsB_true {v : Nat} {l : List Ent} (h : ∀ i, i < l.length → entE v l i) : entsB v l = true := by
  unfold entsB; rw [List.all_eq_true]
  intro i hi
  exact decide_eq_true (h i (List.mem_range.1 hi))
theorem entsB_get {v : Nat} {l : List Ent} (h : entsB v l = true) {i : Nat} (hi : i < l.length) : entE v l i := by
  unfold entsB at h; rw [List.all_eq_true] at h
  exact of_decide_eq_true (h i (List.mem_range.2 hi))
theorem entsB_false {v : Nat} {l : List Ent} {i : Nat} (hi : i < l.length) (h : ¬ entE v l i) : entsB v l = false := by
  cases hr : entsB v l with
  | false => rfl
  | true => exact absurd (entsB_get hr hi) h
theorem lastK_pos {l : List Ent} {i : Nat} (h : 0 < i) : lastK l i = (l.getD (i - 1) entD).1 := by
  cases i with
  | zero => omega
  | succ i => rfl
theorem lastK_zero {l : List Ent} {i : Nat} (h : i = 0) : lastK l i = -1 := by subst h; rfl
theorem lastK_ge {v : Nat} {l : List Ent} : ∀ {i : Nat}, (∀ j, j < i → entE v l j) → -1 ≤ lastK l i
  | 0, _ => by simp [lastK]
  | i + 1, h => by
    have h1 := lastK_ge (i := i) fun j hj => h j (by omega)
    have h2 := (h i (by omega)).1
    simp only [lastK]; omega
theorem entsB_ok {v : Nat} {l : List Ent} (h : entsB v l = true) : EntsOk v l where
  hk i hi := by
    have h1 := entsB_get h hi
    have h2 := lastK_ge (v := v) (l := l) (i := i) fun j hj => entsB_get h (by omega)
    exact ⟨by have := h1.1; omega, h1.2.1⟩
  hs j hj := (entsB_get h hj).1
  hw i hi := (entsB_get h hi).2.2
/-- the number of a tree's error, with so many blocks left -/
def treeE (t : Int) (l : List Ent) (left : Nat) : Int := if 1 ≤ t ∧ t ≤ 5 ∧ entsB (widN t true) l = true then (if left < nodN t l.length then 14 else 0) else 1
theorem treeE_ok {t : Int} {l : List Ent} {left : Nat} (h : treeE t l left = 0) : 1 ≤ t ∧ t ≤ 5 ∧ EntsOk (widN t true) l ∧ nodN t l.length ≤ left := by
  unfold treeE at h
  split at h
  · rename_i h1
    split at h
    · cases h
    · exact ⟨h1.1, h1.2.1, entsB_ok h1.2.2, by omega⟩
  · cases h
set_option maxRecDepth 100000 in
set_option maxHeartbeats 1000000 in
theorem node_Width_o (t : Int) (leaf : Bool) (w : World) (h : ¬ (1 ≤ t ∧ t ≤ 5)) :
    Calls Tryz.prog 90 #[.int .i64 t, .bool leaf] w (Ret (.int .i64 0) w) := by
 refine zin 31 Tryz.func90 ?_
 refine xg 17 [8, 9] (decide (t < (1 : Int))) (fun hc1 => ?_) (fun hc1 => ?_)
 · have hc1 := of_decide_eq_true hc1
   exact xe 15 (.int .i64 0) ⟨rfl, (Below.refl w.heap.size _)⟩
 have hc1 := of_decide_eq_false hc1
 refine xk 6 (show (decide (t > (5 : Int)) : Bool) = true from decide_eq_true (by omega)) ?_
 exact xe 8 (.int .i64 0) ⟨rfl, (Below.refl w.heap.size _)⟩
set_option maxRecDepth 100000 in
set_option maxHeartbeats 1000000 in
theorem build_right_o (t : Int) (x : Value) (w : World) (h : ¬ (1 ≤ t ∧ t ≤ 5)) :
    Calls Tryz.prog 60 #[.int .i64 t, x] w (Ret (.bool false) w) := by
 refine zin 45 Tryz.func60 ?_
 refine xr 8 (args := #[.int .i64 t, .bool true]) (node_Width_o t true _ h) fun W1 hb1 => ?_
 exact xe 25 (.bool false) ⟨rfl, hb1⟩
set_option maxRecDepth 100000 in
set_option maxHeartbeats 4000000 in
theorem build_rightG (t : Int) (v : Nat) (a : Option Addr) (c : Nat) (l : List Ent) (w : World) (ht1 : 1 ≤ t) (ht2 : t ≤ 5) (hv : widN t true = v) (h : Sts entC w (.slice a l.length c) l) (hn : l.length ≤ 32768) :
    Calls Tryz.prog 60 #[.int .i64 t, .slice a l.length c] w (Ret (.bool (entsB v l)) w) := by
 have hwb := widN_bd t true
 rw [hv] at hwb
 have hnp := nodN_pos t l.length
 refine zin 45 Tryz.func60 ?_
 refine xr 8 (args := #[.int .i64 t, .bool true]) (node_WidthN t true v hv ht1 ht2 _) fun W1 hb1 => ?_
 refine xgk 9 [12, 13] (show (((↑v : Int) == (0 : Int)) : Bool) = false from by simp; omega) ?_
 refine xr 3 (args := #[.int .i64 t, .int .i64 (↑l.length : Int)]) (tall_Nodes t l.length _ ht1 ht2 hn) fun W3 hb3 => ?_
 refine xk 4 (show (((↑(nodN t l.length) : Int) == (0 : Int)) : Bool) = false from by simp; omega) ?_
 have hB := Bl.next hb1 hb3
 refine zl 16 45 (fun zm zkv V => ∃ (i : Nat), zkv = [(5, .int .i64 (↑v : Int)), (6, .int .i64 (lastK l i)), (20, .slice a l.length c), (21, .int .i64 (↑l.length : Int)), (22, .int .i64 (↑i : Int))] ∧ zm = l.length - ((↑i : Int)).toNat ∧ Below w.heap.size w V ∧ i ≤ l.length ∧ (∀ j, j < i → entE v l j)) ⟨0, rfl, rfl, hB, Nat.zero_le _, ?_⟩ ?_
 · exact fun j hj => absurd hj (by omega)
 rintro _ _ W4 ⟨i, rfl, rfl, hB_4, hi, hz⟩ J4 hJ4 r4
 refine xid 6 ((↑i : Int) < (↑l.length : Int)) (fun hc5 => ?_) (fun hc5 => ?_)
 · refine xx 6 _ l.length i 3 (Sts.cell h entC_len entD (k := i) (i := 0) (by omega) rfl).1 ?_
   refine xlv 0 (Sts.rp (k := i) (h.below hB_4) entC_len entD (by omega) (by decide)) ?_
   refine xa 0 [.int .i64 0, .string ⟨#[]⟩, .int .i64 0] 69 fun b6 W6 n6 => ?_
   refine xsv 0 n6.blk [.int .i64 ((l.getD i entD).1), .string ⟨((l.getD i entD).2.1).toArray⟩, .int .i64 ((l.getD i entD).2.2)] fun W7 u7 k7 => ?_
   have g6 := n6.ge hB_4
   refine xb 6 0 k7 ?_
   refine xg 3 [29, 30] (decide ((l.getD i entD).1 ≤ (lastK l i))) (fun hc8 => ?_) (fun hc8 => ?_)
   · have hc8 := of_decide_eq_true hc8
     have hB'1 := u7.below (Bl.next hB_4 n6.below) g6
     exact xe 26 (.bool false) ⟨by rw [entsB_false (i := i) (by omega) (fun hz9 => by unfold entE at hz9; omega)], hB'1⟩
   have hc8 := of_decide_eq_false hc8
   refine xb 1 0 k7 ?_
   refine xg 3 [33, 34, 35] (decide ((l.getD i entD).1 > (281474976710655 : Int))) (fun hc9 => ?_) (fun hc9 => ?_)
   · have hc9 := of_decide_eq_true hc9
     have hB'2 := u7.below (Bl.next hB_4 n6.below) g6
     exact xe 21 (.bool false) ⟨by rw [entsB_false (i := i) (by omega) (fun hz9 => by unfold entE at hz9; omega)], hB'2⟩
   have hc9 := of_decide_eq_false hc9
   refine xb 1 1 k7 ?_
   refine xin 6 (↑((l.getD i entD).2.1).length : Int) (↑v : Int) (fun hc10 => ?_) (fun hc10 => ?_)
   · have hB'3 := u7.below (Bl.next hB_4 n6.below) g6
     exact xe 12 (.bool false) ⟨by rw [entsB_false (i := i) (by omega) (fun hz9 => by unfold entE at hz9; omega)], hB'3⟩
   refine xb 4 0 k7 ?_
   refine xw 5 ((↑i : Int) + 1) ?_
   have hB'4 := u7.below (Bl.next hB_4 n6.below) g6
   exact ze 2 (hJ4 _ _ _ ⟨i + 1, rfl, rfl, hB'4, by omega, fun j hj => (Nat.lt_or_ge j i).elim (hz j) (fun q => by obtain rfl : j = i := (by omega); unfold entE; omega)⟩ (by omega))
 exact xe 11 (.bool true) ⟨by rw [entsB_true (fun j hj => hz j (by omega))], hB_4⟩
set_option maxRecDepth 100000 in
set_option maxHeartbeats 1000000 in
theorem build_Tree_o (B ba b g nn cc : Nat) (pa : Option Addr) (ca f N k0 : Nat) (bs : List UInt8) (t : Int) (a : Option Addr) (c : Nat) (l : List Ent) (w : World) (hA : Al B ba b g nn cc pa ca f N k0 bs w) (ht : ¬ (1 ≤ t ∧ t ≤ 5)) :
    Calls Tryz.prog 30 #[.pointer (some ⟨ba, 0, none⟩), .int .i64 t, .slice a l.length c] w (Ret (.tuple #[.int .i64 0, .iface 38 (.int .i64 1)]) w) := by
 refine zin 52 Tryz.func30 ?_
 refine xa 2 [.pointer (some ⟨ba, 0, none⟩)] 24 fun b1 W1 n1 => ?_
 refine xa 0 [.int .i64 t] 3 fun b2 W2 n2 => ?_
 have k1 := n1.blk.below n2.below
 refine xb 8 0 k1 ?_
 have hA'1 := (hA.below n1.below).below n2.below
 refine xr 0 (args := #[.pointer (some ⟨ba, 0, none⟩)]) (alloc_Image ba b _ _ _ hA'1.blkA) fun W3 hb3 => ?_
 have k2 := n2.blk.below hb3
 refine xb 7 0 k2 ?_
 refine xr 1 (args := #[.int .i64 t, .slice a l.length c]) (build_right_o t _ _ ht) fun W4 hb4 => ?_
 have hB := Bl.next (Bl.next (Bl.next n1.below n2.below) hb3) hb4
 exact xe 15 (.tuple #[.int .i64 0, .iface 38 (.int .i64 1)]) ⟨rfl, hB⟩
set_option maxRecDepth 100000 in
set_option maxHeartbeats 1000000 in
theorem build_Tree_w (B ba b g nn cc : Nat) (pa : Option Addr) (ca f N k0 : Nat) (bs : List UInt8) (t : Int) (a : Option Addr) (c : Nat) (l : List Ent) (w : World) (hA : Al B ba b g nn cc pa ca f N k0 bs w) (ht1 : 1 ≤ t) (ht2 : t ≤ 5) (hr : entsB (widN t true) l = false) (hn : l.length ≤ 32768) (h : Sts entC w (.slice a l.length c) l) :
    Calls Tryz.prog 30 #[.pointer (some ⟨ba, 0, none⟩), .int .i64 t, .slice a l.length c] w (Ret (.tuple #[.int .i64 0, .iface 38 (.int .i64 1)]) w) := by
 refine zin 52 Tryz.func30 ?_
 refine xa 2 [.pointer (some ⟨ba, 0, none⟩)] 24 fun b1 W1 n1 => ?_
 refine xa 0 [.int .i64 t] 3 fun b2 W2 n2 => ?_
 have k1 := n1.blk.below n2.below
 refine xb 8 0 k1 ?_
 have hA'1 := (hA.below n1.below).below n2.below
 refine xr 0 (args := #[.pointer (some ⟨ba, 0, none⟩)]) (alloc_Image ba b _ _ _ hA'1.blkA) fun W3 hb3 => ?_
 have k2 := n2.blk.below hb3
 refine xb 7 0 k2 ?_
 have hB := Bl.next (Bl.next n1.below n2.below) hb3
 refine xr 1 (args := #[.int .i64 t, .slice a l.length c]) (build_rightG t (widN t true) a c l _ ht1 ht2 rfl (h.below hB) hn) fun W4 hb4 => ?_
 refine xk 4 (show (!(entsB (widN t true) l) : Bool) = true from by rw [hr]; rfl) ?_
 have hB'1 := Bl.next hB hb4
 exact xe 10 (.tuple #[.int .i64 0, .iface 38 (.int .i64 1)]) ⟨rfl, hB'1⟩
set_option maxRecDepth 100000 in
set_option maxHeartbeats 1000000 in
theorem alloc_nobody_nil (w : World) :
    Calls Tryz.prog 39 #[.pointer none] w (Ret (.bool true) w) := by
 refine zin 12 Tryz.func39 ?_
 exact xe 20 (.bool true) ⟨rfl, (Below.refl w.heap.size _)⟩
set_option maxRecDepth 100000 in
set_option maxHeartbeats 1000000 in
theorem alloc_Image_nil (w : World) :
    Calls Tryz.prog 15 #[.pointer none] w (Ret (.pointer none) w) := by
 refine zin 9 Tryz.func15 ?_
 refine xr 9 (args := #[.pointer none]) (alloc_nobody_nil _) fun W1 hb1 => ?_
 exact xe 10 (.pointer none) ⟨rfl, hb1⟩
set_option maxRecDepth 100000 in
set_option maxHeartbeats 1000000 in
theorem build_Tree_nil (t : Int) (x : Value) (w : World) :
    Calls Tryz.prog 30 #[.pointer none, .int .i64 t, x] w (Ret (.tuple #[.int .i64 0, .iface 38 (.int .i64 18)]) w) := by
 refine zin 52 Tryz.func30 ?_
 refine xa 2 [.pointer none] 24 fun b1 W1 n1 => ?_
 refine xa 0 [.int .i64 t] 3 fun b2 W2 n2 => ?_
 have k1 := n1.blk.below n2.below
 refine xb 8 0 k1 ?_
 refine xr 0 (args := #[.pointer none]) (alloc_Image_nil _) fun W3 hb3 => ?_
 have hB := Bl.next (Bl.next n1.below n2.below) hb3
 exact xe 15 (.tuple #[.int .i64 0, .iface 38 (.int .i64 18)]) ⟨rfl, hB⟩
/-- build.Tree, whatever the entries and the room -/
def TreeG (B ba b g nn cc : Nat) (pa : Option Addr) (ca f N k0 : Nat) (bs : List UInt8) (t : Int) (l : List Ent) (w : World) (e : Ending) (w' : World) : Prop :=
  (treeE t l (N - k0) ≠ 0 ∧ e = .returned (.tuple #[.int .i64 0, .iface 38 (.int .i64 (treeE t l (N - k0)))]) ∧ Below w.heap.size w w') ∨
  (treeE t l (N - k0) = 0 ∧ TreePost B ba b g nn cc pa ca f N k0 bs t l w e w')
theorem build_TreeG (B ba b g nn cc : Nat) (pa : Option Addr) (ca f N k0 : Nat) (bs : List UInt8) (t : Int) (a : Option Addr) (c : Nat) (l : List Ent) (w : World) (hC : AlC B ba nn cc ca f N) (hA : Al B ba b g nn cc pa ca f N k0 bs w) (hn : l.length ≤ 32768) (hf1 : 1 ≤ f) (hkN : k0 ≤ N) (hin : ∀ W, Below B w W → Only [87, 5, 35] w W → Sts entC W (.slice a l.length c) l) (hBw : B ≤ w.heap.size) :
    Calls Tryz.prog 30 #[.pointer (some ⟨ba, 0, none⟩), .int .i64 t, .slice a l.length c] w (TreeG B ba b g nn cc pa ca f N k0 bs t l w) := by
  have h := hin w (Below.refl _ _) (Only.refl _ _)
  by_cases ht : 1 ≤ t ∧ t ≤ 5
  · cases hr : entsB (widN t true) l with
    | false =>
      have e1 : treeE t l (N - k0) = 1 := if_neg (by rw [hr]; simp)
      refine (build_Tree_w B ba b g nn cc pa ca f N k0 bs t a c l w hA ht.1 ht.2 hr hn h).mono ?_
      rintro e W ⟨rfl, hb⟩
      exact .inl ⟨by rw [e1]; decide, by rw [e1], hb⟩
    | true =>
      have e0 : treeE t l (N - k0) = if N - k0 < nodN t l.length then 14 else 0 := if_pos ⟨ht.1, ht.2, hr⟩
      by_cases hs : N - k0 < nodN t l.length
      · rw [if_pos hs] at e0
        refine (build_Tree_none B ba b g nn cc pa ca f N k0 bs t a c l w hA ht.1 ht.2 (entsB_ok hr) hn hkN (by omega) h).mono ?_
        rintro e W ⟨rfl, hb⟩
        exact .inl ⟨by rw [e0]; decide, by rw [e0], hb⟩
      · rw [if_neg hs] at e0
        refine (build_Tree B ba b g nn cc pa ca f N k0 bs t a c l w hC hA ht.1 ht.2 (entsB_ok hr) hn hf1 hkN (by omega) hin hBw).mono ?_
        exact fun e W h => .inr ⟨e0, h⟩
  · have e1 : treeE t l (N - k0) = 1 := if_neg fun h => ht ⟨h.1, h.2.1⟩
    refine (build_Tree_o B ba b g nn cc pa ca f N k0 bs t a c l w hA ht).mono ?_
    rintro e W ⟨rfl, hb⟩
    exact .inl ⟨by rw [e1]; decide, by rw [e1], hb⟩
end Go.Proofs.YtcjpomibhbakdaaGreatDoor
namespace Go.Proofs.YtcjpomibhbakdaaGreatDoor
open Go.RowKit Go.Extern.Stop Go.Stop Go.Extern
set_option linter.unusedVariables false
attribute [local irreducible] wpList wpAnyH Code.wp Oper.wp Go

set_option maxRecDepth 100000 in
set_option maxHeartbeats 1000000 in
theorem ref07_Width1 (w : World) :
    Calls Tryz.prog 98 #[.int .i64 1, .bool true] w (Ret (.int .i64 4) w) := by
 refine zin 19 Tryz.func98 ?_
 refine xbs 7 6 [.int .i64 0, .int .i64 4, .int .i64 8, .int .i64 24, .int .i64 16, .int .i64 4] 3 fun b1 W1 n1 => ?_
 refine xb 32 1 n1.blk ?_
 exact xe 4 (.int .i64 4) ⟨rfl, n1.below⟩
set_option maxRecDepth 100000 in
set_option maxHeartbeats 1000000 in
theorem ref07_Max1 (w : World) :
    Calls Tryz.prog 74 #[.int .i64 1, .bool true] w (Ret (.int .i64 18) w) := by
 refine zin 16 Tryz.func74 ?_
 refine xr 10 (args := #[.int .i64 1, .bool true]) (ref07_Width1 _) fun W1 hb1 => ?_
 exact xe 18 (.int .i64 18) ⟨rfl, hb1⟩
set_option maxRecDepth 100000 in
set_option maxHeartbeats 1000000 in
theorem ref07_Width2 (w : World) :
    Calls Tryz.prog 98 #[.int .i64 2, .bool true] w (Ret (.int .i64 8) w) := by
 refine zin 19 Tryz.func98 ?_
 refine xbs 7 6 [.int .i64 0, .int .i64 4, .int .i64 8, .int .i64 24, .int .i64 16, .int .i64 4] 3 fun b1 W1 n1 => ?_
 refine xb 32 2 n1.blk ?_
 exact xe 4 (.int .i64 8) ⟨rfl, n1.below⟩
set_option maxRecDepth 100000 in
set_option maxHeartbeats 1000000 in
theorem ref07_Max2 (w : World) :
    Calls Tryz.prog 74 #[.int .i64 2, .bool true] w (Ret (.int .i64 12) w) := by
 refine zin 16 Tryz.func74 ?_
 refine xr 10 (args := #[.int .i64 2, .bool true]) (ref07_Width2 _) fun W1 hb1 => ?_
 exact xe 25 (.int .i64 12) ⟨rfl, hb1⟩
set_option maxRecDepth 100000 in
set_option maxHeartbeats 1000000 in
theorem ref07_Width3 (w : World) :
    Calls Tryz.prog 98 #[.int .i64 3, .bool true] w (Ret (.int .i64 24) w) := by
 refine zin 19 Tryz.func98 ?_
 refine xbs 7 6 [.int .i64 0, .int .i64 4, .int .i64 8, .int .i64 24, .int .i64 16, .int .i64 4] 3 fun b1 W1 n1 => ?_
 refine xb 32 3 n1.blk ?_
 exact xe 4 (.int .i64 24) ⟨rfl, n1.below⟩
set_option maxRecDepth 100000 in
set_option maxHeartbeats 1000000 in
theorem ref07_Max3 (w : World) :
    Calls Tryz.prog 74 #[.int .i64 3, .bool true] w (Ret (.int .i64 6) w) := by
 refine zin 16 Tryz.func74 ?_
 refine xr 10 (args := #[.int .i64 3, .bool true]) (ref07_Width3 _) fun W1 hb1 => ?_
 exact xe 39 (.int .i64 6) ⟨rfl, hb1⟩
set_option maxRecDepth 100000 in
set_option maxHeartbeats 1000000 in
theorem ref07_Width4 (w : World) :
    Calls Tryz.prog 98 #[.int .i64 4, .bool true] w (Ret (.int .i64 16) w) := by
 refine zin 19 Tryz.func98 ?_
 refine xbs 7 6 [.int .i64 0, .int .i64 4, .int .i64 8, .int .i64 24, .int .i64 16, .int .i64 4] 3 fun b1 W1 n1 => ?_
 refine xb 32 4 n1.blk ?_
 exact xe 4 (.int .i64 16) ⟨rfl, n1.below⟩
set_option maxRecDepth 100000 in
set_option maxHeartbeats 1000000 in
theorem ref07_Max4 (w : World) :
    Calls Tryz.prog 74 #[.int .i64 4, .bool true] w (Ret (.int .i64 9) w) := by
 refine zin 16 Tryz.func74 ?_
 refine xr 10 (args := #[.int .i64 4, .bool true]) (ref07_Width4 _) fun W1 hb1 => ?_
 exact xe 32 (.int .i64 9) ⟨rfl, hb1⟩
set_option maxRecDepth 100000 in
set_option maxHeartbeats 1000000 in
theorem ref07_Width5 (w : World) :
    Calls Tryz.prog 98 #[.int .i64 5, .bool true] w (Ret (.int .i64 4) w) := by
 refine zin 19 Tryz.func98 ?_
 refine xbs 7 6 [.int .i64 0, .int .i64 4, .int .i64 8, .int .i64 24, .int .i64 16, .int .i64 4] 3 fun b1 W1 n1 => ?_
 refine xb 32 5 n1.blk ?_
 exact xe 4 (.int .i64 4) ⟨rfl, n1.below⟩
set_option maxRecDepth 100000 in
set_option maxHeartbeats 1000000 in
theorem ref07_Max5 (w : World) :
    Calls Tryz.prog 74 #[.int .i64 5, .bool true] w (Ret (.int .i64 18) w) := by
 refine zin 16 Tryz.func74 ?_
 refine xr 10 (args := #[.int .i64 5, .bool true]) (ref07_Width5 _) fun W1 hb1 => ?_
 exact xe 18 (.int .i64 18) ⟨rfl, hb1⟩
set_option maxRecDepth 100000 in
set_option maxHeartbeats 1000000 in
theorem ref07_Width_i (t : Int) (w : World) (h1 : 1 ≤ t) (h2 : t ≤ 5) :
    Calls Tryz.prog 98 #[.int .i64 t, .bool false] w (Ret (.int .i64 4) w) := by
 refine zin 19 Tryz.func98 ?_
 refine xbs 7 6 [.int .i64 0, .int .i64 4, .int .i64 8, .int .i64 24, .int .i64 16, .int .i64 4] 3 fun b1 W1 n1 => ?_
 refine xgk 9 [8, 9] (show (decide (t < (1 : Int)) : Bool) = false from decide_eq_false (by omega)) ?_
 refine xk 5 (show (decide (t > (5 : Int)) : Bool) = false from decide_eq_false (by omega)) ?_
 exact xe 17 (.int .i64 4) ⟨rfl, n1.below⟩
set_option maxRecDepth 100000 in
set_option maxHeartbeats 1000000 in
theorem ref07_Max_i (t : Int) (w : World) (h1 : 1 ≤ t) (h2 : t ≤ 5) :
    Calls Tryz.prog 74 #[.int .i64 t, .bool false] w (Ret (.int .i64 18) w) := by
 refine zin 16 Tryz.func74 ?_
 refine xr 10 (args := #[.int .i64 t, .bool false]) (ref07_Width_i t _ h1 h2) fun W1 hb1 => ?_
 exact xe 18 (.int .i64 18) ⟨rfl, hb1⟩
set_option maxRecDepth 100000 in
set_option maxHeartbeats 1000000 in
theorem ref07_Width_o (t : Int) (leaf : Bool) (w : World) (h : ¬ (1 ≤ t ∧ t ≤ 5)) :
    Calls Tryz.prog 98 #[.int .i64 t, .bool leaf] w (Ret (.int .i64 0) w) := by
 refine zin 19 Tryz.func98 ?_
 refine xbs 7 6 [.int .i64 0, .int .i64 4, .int .i64 8, .int .i64 24, .int .i64 16, .int .i64 4] 3 fun b1 W1 n1 => ?_
 refine xg 9 [8, 9] (decide (t < (1 : Int))) (fun hc2 => ?_) (fun hc2 => ?_)
 · have hc2 := of_decide_eq_true hc2
   exact xe 13 (.int .i64 0) ⟨rfl, n1.below⟩
 have hc2 := of_decide_eq_false hc2
 refine xk 5 (show (decide (t > (5 : Int)) : Bool) = true from decide_eq_true (by omega)) ?_
 exact xe 7 (.int .i64 0) ⟨rfl, n1.below⟩
set_option maxRecDepth 100000 in
set_option maxHeartbeats 1000000 in
theorem ref07_Max_o (t : Int) (leaf : Bool) (w : World) (h : ¬ (1 ≤ t ∧ t ≤ 5)) :
    Calls Tryz.prog 74 #[.int .i64 t, .bool leaf] w (Ret (.int .i64 0) w) := by
 refine zin 16 Tryz.func74 ?_
 refine xr 10 (args := #[.int .i64 t, .bool leaf]) (ref07_Width_o t leaf _ h) fun W1 hb1 => ?_
 exact xe 40 (.int .i64 0) ⟨rfl, hb1⟩
theorem ref07_Width (t : Int) (leaf : Bool) (v : Nat) (hv : widN t leaf = v) (h1 : 1 ≤ t) (h2 : t ≤ 5) (w : World) : Calls Tryz.prog 98 #[.int .i64 t, .bool leaf] w (Ret (.int .i64 (v : Int)) w) := by
  subst hv
  cases leaf
  · exact ref07_Width_i t w h1 h2
  obtain rfl | rfl | rfl | rfl | rfl : t = 1 ∨ t = 2 ∨ t = 3 ∨ t = 4 ∨ t = 5 := by omega
  · exact ref07_Width1 w
  · exact ref07_Width2 w
  · exact ref07_Width3 w
  · exact ref07_Width4 w
  · exact ref07_Width5 w
theorem ref07_Max (t : Int) (leaf : Bool) (m : Nat) (hm : maxN t leaf = m) (h1 : 1 ≤ t) (h2 : t ≤ 5) (w : World) : Calls Tryz.prog 74 #[.int .i64 t, .bool leaf] w (Ret (.int .i64 (m : Int)) w) := by
  subst hm
  cases leaf
  · exact ref07_Max_i t w h1 h2
  obtain rfl | rfl | rfl | rfl | rfl : t = 1 ∨ t = 2 ∨ t = 3 ∨ t = 4 ∨ t = 5 := by omega
  · exact ref07_Max1 w
  · exact ref07_Max2 w
  · exact ref07_Max3 w
  · exact ref07_Max4 w
  · exact ref07_Max5 w
set_option maxRecDepth 100000 in
set_option maxHeartbeats 4000000 in
theorem ref07_Right (t : Int) (leaf : Bool) (n m v : Nat) (K : List Int) (Vs : List (List UInt8)) (ak av : Option Addr) (ck cv : Nat) (w : World) (N : NodeOk t leaf n m v K Vs) (hKs : Sl w (.slice ak n ck) n (K.map (Value.int .i64))) (hVs : Sl w (.slice av n cv) n (Vs.map sv)) :
    Calls Tryz.prog 99 #[.agg #[.int .i64 t, .bool leaf, .slice ak n ck, .slice av n cv]] w (Ret (.bool true) w) := by
 have ht1 := N.ht1
 have ht2 := N.ht2
 have hnm := N.hn
 have hwb := widN_bd t leaf
 rw [N.hv] at hwb
 have hmb := maxN_pos t leaf
 rw [N.hm] at hmb
 have hfit := fitN t leaf
 rw [N.hm, N.hv] at hfit
 have hcap := Sl.cap hKs
 refine zin 91 Tryz.func99 ?_
 refine xa 2 [.int .i64 t, .bool leaf, .slice ak n ck, .slice av n cv] 132 fun b1 W1 n1 => ?_
 refine xd 5 .z ?_
 have k1 := n1.blk.below (below_drew W1)
 refine xb (.e [0] 1) 0 k1 ?_
 refine xb (.e [2] 3) 1 k1 ?_
 refine xr (.o [] 4) (args := #[.int .i64 t, .bool leaf]) (ref07_Width t leaf v N.hv ht1 ht2 _) fun W2 hb2 => ?_
 refine xgk (.b [5, 6]) [9, 10] (show (((↑v : Int) == (0 : Int)) : Bool) = false from by simp; omega) ?_
 have k1'1 := k1.below hb2
 refine xb (.e [7] 8) 2 k1'1 ?_
 refine xb (.e [9, 10] 11) 0 k1'1 ?_
 refine xb (.e [12] 13) 1 k1'1 ?_
 refine xr (.o [] 14) (args := #[.int .i64 t, .bool leaf]) (ref07_Max t leaf m N.hm ht1 ht2 _) fun W4 hb4 => ?_
 refine xgk (.b [15, 16, 17]) [19, 20, 21] (show (decide ((↑n : Int) > (↑m : Int)) : Bool) = false from decide_eq_false (by omega)) ?_
 have k1'2 := k1'1.below hb4
 refine xb (.e [18] 19) 3 k1'2 ?_
 refine xb (.e [20, 21] 22) 2 k1'2 ?_
 refine xk (.r [23, 24, 25] 2) (show (((↑n : Int) != (↑n : Int)) : Bool) = false from by simp) ?_
 have hB := Bl.next (Bl.next (Bl.next n1.below (below_drew W1)) hb2) hb4
 refine zl 9 91 (fun zm zkv V => ∃ (i : Nat), zkv = [(1, .pointer (some ⟨b1, 0, none⟩)), (3, .int .i64 (↑i : Int))] ∧ zm = n - ((↑i : Int)).toNat ∧ Below w.heap.size w V ∧ Blk V b1 ([.int .i64 t, .bool leaf, .slice ak n ck, .slice av n cv]) 132 ∧ i ≤ n) ⟨0, rfl, rfl, hB, k1'2, Nat.zero_le _⟩ ?_
 rintro _ _ W6 ⟨i, rfl, rfl, hB_6, k6_b1, hi⟩ J6 hJ6 r6
 refine xb 5 2 k6_b1 ?_
 refine xid 4 ((↑i : Int) < (↑n : Int)) (fun hc7 => ?_) (fun hc7 => ?_)
 · refine xd 5 .z ?_
   have k6_b1'1 := k6_b1.below (below_drew W6)
   refine xb (.e [0] 1) 2 k6_b1'1 ?_
   refine xx (.e [2] 3) _ n i 1 (IntsN.elem hKs N.hK (k := i) (by omega)).1 ?_
   have hB'1 := Bl.next hB_6 (below_drew W6)
   refine xl (.e [] 4) ((IntsN.elem (hKs.below hB'1) N.hK (k := i) (by omega)).2) ?_
   refine xgk (.b [5, 6]) [42, 43] (show (decide ((K.getD i 0) < (0 : Int)) : Bool) = false from decide_eq_false (by have := N.hk0 i (by omega); omega)) ?_
   refine xb (.e [7] 8) 2 k6_b1'1 ?_
   refine xx (.e [9] 10) _ n i 1 (IntsN.elem hKs N.hK (k := i) (by omega)).1 ?_
   refine xl (.e [] 11) ((IntsN.elem (hKs.below hB'1) N.hK (k := i) (by omega)).2) ?_
   refine xgk (.b [12, 13, 14]) [49, 50, 51] (show (decide ((K.getD i 0) > (281474976710655 : Int)) : Bool) = false from decide_eq_false (by have := N.hk0 i (by omega); omega)) ?_
   refine xb (.e [15] 16) 3 k6_b1'1 ?_
   refine xx (.e [17] 18) _ n i 1 (Strs.elem hVs N.hV (k := i) (by omega)).1 ?_
   refine xl (.e [] 19) ((Strs.elem (hVs.below hB'1) N.hV (k := i) (by omega)).2) ?_
   refine xb (.e [20, 21] 22) 0 k6_b1'1 ?_
   refine xb (.e [23] 24) 1 k6_b1'1 ?_
   refine xr (.o [] 25) (args := #[.int .i64 t, .bool leaf]) (ref07_Width t leaf v N.hv ht1 ht2 _) fun W10 hb10 => ?_
   refine xgk (.b [26, 27, 28]) [63, 64, 65] (show (((↑(Vs.getD i []).length : Int) != (↑v : Int)) : Bool) = false from by rw [N.hw i (by omega)]; simp) ?_
   refine xg (.b [29, 30, 31]) [67, 68] (decide ((↑i : Int) > (0 : Int))) (fun hc12 => ?_) (fun hc12 => ?_)
   · have hc12 := of_decide_eq_true hc12
     have k6_b1'2 := k6_b1'1.below hb10
     refine xb (.e [32] 33) 2 k6_b1'2 ?_
     refine xx (.e [34] 35) _ n i 1 (IntsN.elem hKs N.hK (k := i) (by omega)).1 ?_
     have hB'2 := Bl.next hB'1 hb10
     refine xl (.e [] 36) ((IntsN.elem (hKs.below hB'2) N.hK (k := i) (by omega)).2) ?_
     refine xb (.e [37] 38) 2 k6_b1'2 ?_
     refine xwm (.e [39] 40) ((↑i : Int) - 1) (↑(i - 1) : Int) ?_
     refine xx (.e [] 41) _ n (i - 1) 1 (IntsN.elem hKs N.hK (k := (i - 1)) (by omega)).1 ?_
     refine xl (.e [] 42) ((IntsN.elem (hKs.below hB'2) N.hK (k := (i - 1)) (by omega)).2) ?_
     refine xk (.r [43, 44, 45] 2) (show (decide ((K.getD i 0) ≤ (K.getD (i - 1) 0)) : Bool) = false from decide_eq_false (by have h9 := N.hk1 (i - 1) (by omega); rw [show i - 1 + 1 = i by omega] at h9; omega)) ?_
     refine xwm 5 ((↑i : Int) + 1) (↑(i + 1) : Int) ?_
     exact ze 2 (hJ6 _ _ _ ⟨i + 1, rfl, rfl, hB'2, k6_b1'2, by omega⟩ (by omega))
   have hc12 := of_decide_eq_false hc12
   refine xwm (.r [32, 33, 34, 35, 36, 37, 38, 39, 40, 41, 42, 43, 44, 45] 8) ((↑i : Int) + 1) (↑(i + 1) : Int) ?_
   have hB'3 := Bl.next hB'1 hb10
   have k6_b1'3 := k6_b1'1.below hb10
   exact ze 2 (hJ6 _ _ _ ⟨i + 1, rfl, rfl, hB'3, k6_b1'3, by omega⟩ (by omega))
 refine xb 8 1 k6_b1 ?_
 refine xg 1 [84, 85] leaf (fun hc13 => ?_) (fun hc13 => ?_)
 · exact xe 9 (.bool true) ⟨rfl, hB_6⟩
 refine xb 1 2 k6_b1 ?_
 exact xe 7 (.bool (decide ((↑n : Int) > (0 : Int)))) ⟨by rw [show decide ((↑n : Int) > (0 : Int)) = true from decide_eq_true (by have := N.hl (by assumption); omega)], hB_6⟩
/-- the keys of a node, i places of them, when n keys are there -/
def keyPad (K : List Int) (n : Nat) (i : Nat) : List UInt8 := (List.range i).flatMap fun j => if j < n then leB (K.getD j 0) 8 else List.replicate 8 0
theorem keyPad_succ (K : List Int) (n i : Nat) : keyPad K n (i + 1) = keyPad K n i ++ (if i < n then leB (K.getD i 0) 8 else List.replicate 8 0) := by
  unfold keyPad; rw [List.range_succ, List.flatMap_append]; simp
theorem keyPad_len (K : List Int) (n i : Nat) : (keyPad K n i).length = i * 8 := by
  induction i with
  | zero => rfl
  | succ i ih => rw [keyPad_succ, List.length_append, ih]; split <;> simp [leB_len] <;> omega
/-- the values of a node, i of them -/
def valPad (Vs : List (List UInt8)) (i : Nat) : List UInt8 := (List.range i).flatMap fun j => Vs.getD j []
theorem valPad_succ (Vs : List (List UInt8)) (i : Nat) : valPad Vs (i + 1) = valPad Vs i ++ Vs.getD i [] := by
  unfold valPad; rw [List.range_succ, List.flatMap_append]; simp
theorem valPad_len {Vs : List (List UInt8)} {v : Nat} : ∀ {i : Nat}, (∀ j, j < i → (Vs.getD j []).length = v) → (valPad Vs i).length = i * v
  | 0, _ => by simp [valPad]
  | i + 1, h => by rw [valPad_succ, List.length_append, valPad_len fun j hj => h j (by omega), h i (by omega), Nat.add_mul, Nat.one_mul]
theorem putB_mid {P z Q x : List UInt8} {k : Nat} (hk : P.length = k) (hz : z.length = x.length) : putB (P ++ z ++ Q) k x = P ++ x ++ Q := by
  unfold putB
  subst hk
  rw [List.append_assoc P z Q, List.take_left' rfl, ← hz]
  have e : P ++ (z ++ Q) = (P ++ z) ++ Q := (List.append_assoc _ _ _).symm
  rw [e, List.drop_left' (by simp)]
theorem keyPad_zero (K : List Int) (i : Nat) : ∀ d, keyPad K i (i + d) = keyPad K i i ++ List.replicate (d * 8) 0
  | 0 => by simp
  | d + 1 => by
    rw [← Nat.add_assoc, keyPad_succ, keyPad_zero K i d, if_neg (by omega), List.append_assoc, List.replicate_append_replicate, Nat.add_mul, Nat.one_mul]
theorem keyPad_own (K : List Int) (n : Nat) : ∀ i, i ≤ n → keyPad K n i = keyPad K i i
  | 0, _ => rfl
  | i + 1, h => by
    rw [keyPad_succ, keyPad_succ, if_pos (by omega), if_pos (by omega), keyPad_own K n i (by omega), keyPad_own K (i + 1) i (by omega)]
theorem rep_add (a b : Nat) : List.replicate (a + b) (0 : UInt8) = List.replicate a 0 ++ List.replicate b 0 := List.replicate_append_replicate.symm
/-- a node's bytes, part by part -/
theorem nodeP_form {m v : Nat} {H : List UInt8} {K : List Int} {Vs : List (List UInt8)} (hH : H.length = 12) (hf : 12 + m * 8 + m * v ≤ 244) : ∀ {i : Nat}, i ≤ m → (∀ j, j < i → (Vs.getD j []).length = v) →
    nodeP m v H K Vs i = H ++ keyPad K i m ++ valPad Vs i ++ List.replicate (232 - m * 8 - i * v) 0
  | 0, _, _ => by
    have e1 := keyPad_zero K 0 m
    rw [Nat.zero_add] at e1
    rw [nodeP, e1]
    have h1 : (232 - m * 8 - 0 * v) = 232 - m * 8 := by omega
    rw [h1, show (244 : Nat) = 12 + (m * 8 + (232 - m * 8)) by omega, rep_add, rep_add]
    have := putB_mid (P := []) (z := List.replicate 12 (0 : UInt8)) (Q := List.replicate (m * 8) 0 ++ List.replicate (232 - m * 8) 0) (x := H) (k := 0) rfl (by simp [hH])
    rw [List.nil_append, List.nil_append] at this
    rw [this]
    simp [keyPad, valPad]
  | i + 1, hi, hV => by
    have ih := nodeP_form (K := K) hH hf (i := i) (by omega) (fun j hj => hV j (by omega))
    have hvi := hV i (by omega)
    have h2 : (i + 1) * v ≤ m * v := Nat.mul_le_mul_right v hi
    rw [Nat.add_mul, Nat.one_mul] at h2
    obtain ⟨d, hd⟩ : ∃ d, m = i + (d + 1) := ⟨m - i - 1, by omega⟩
    have ek : keyPad K i m = keyPad K i i ++ List.replicate 8 0 ++ List.replicate (d * 8) 0 := by
      rw [hd, keyPad_zero, show (d + 1) * 8 = 8 + d * 8 by omega, rep_add, List.append_assoc]
    have ek2 : keyPad K (i + 1) m = keyPad K i i ++ leB (K.getD i 0) 8 ++ List.replicate (d * 8) 0 := by
      rw [show m = (i + 1) + d by omega, keyPad_zero, keyPad_succ, if_pos (by omega), keyPad_own K (i + 1) i (by omega)]
    have er : List.replicate (232 - m * 8 - i * v) (0 : UInt8) = List.replicate v 0 ++ List.replicate (232 - m * 8 - (i * v + v)) 0 := by
      rw [← rep_add]; congr 1; omega
    have hvp : (valPad Vs i).length = i * v := valPad_len fun j hj => hV j (by omega)
    rw [nodeP, ih, ek, er]
    have s1 := putB_mid (P := H ++ keyPad K i i) (z := List.replicate 8 (0 : UInt8)) (Q := List.replicate (d * 8) 0 ++ (valPad Vs i ++ (List.replicate v 0 ++ List.replicate (232 - m * 8 - (i * v + v)) 0))) (x := leB (K.getD i 0) 8) (k := 12 + i * 8) (by rw [List.length_append, hH, keyPad_len]) (by simp [leB_len])
    have a1 : H ++ (keyPad K i i ++ List.replicate 8 0 ++ List.replicate (d * 8) 0) ++ valPad Vs i ++ (List.replicate v 0 ++ List.replicate (232 - m * 8 - (i * v + v)) 0) = H ++ keyPad K i i ++ List.replicate 8 0 ++ (List.replicate (d * 8) 0 ++ (valPad Vs i ++ (List.replicate v 0 ++ List.replicate (232 - m * 8 - (i * v + v)) 0))) := by simp only [List.append_assoc]
    rw [a1, s1]
    have s2 := putB_mid (P := H ++ keyPad K (i + 1) m ++ valPad Vs i) (z := List.replicate v (0 : UInt8)) (Q := List.replicate (232 - m * 8 - (i * v + v)) 0) (x := Vs.getD i []) (k := 12 + m * 8 + i * v) (by rw [List.length_append, List.length_append, hH, keyPad_len, hvp]) (by rw [List.length_replicate, hvi])
    have a2 : H ++ keyPad K i i ++ leB (K.getD i 0) 8 ++ (List.replicate (d * 8) 0 ++ (valPad Vs i ++ (List.replicate v 0 ++ List.replicate (232 - m * 8 - (i * v + v)) 0))) = H ++ keyPad K (i + 1) m ++ valPad Vs i ++ List.replicate v 0 ++ List.replicate (232 - m * 8 - (i * v + v)) 0 := by rw [ek2]; simp only [List.append_assoc]
    rw [a2, s2, valPad_succ, Nat.add_mul, Nat.one_mul]
    simp only [List.append_assoc]
theorem leB_1 (n : Int) : leB n 1 = [byteAt n 0] := rfl
theorem leB_2 (n : Int) : leB n 2 = [byteAt n 0, byteAt n 1] := rfl
theorem byte1_zero {n : Int} (h : n < 256) : byteAt n 1 = 0 := by
  unfold byteAt
  rw [show n.toNat / 256 ^ 1 = 0 from Nat.div_eq_of_lt (by omega)]; rfl
theorem headB_cells {t : Int} {leaf : Bool} {n m v : Nat} (h1 : 0 ≤ t) (hn : n ≤ 18) (hm : m ≤ 18) (hv : v ≤ 24) : (headB t leaf n m v).map bv =
    [.int .u8 (flagN leaf), .int .u8 (byteAt t 0).toNat, .int .u8 (byteAt (n : Int) 0).toNat, .int .u8 0, .int .u8 (byteAt (v : Int) 0).toNat, .int .u8 0, .int .u8 (byteAt (m : Int) 0).toNat, .int .u8 0, .int .u8 0, .int .u8 0, .int .u8 0, .int .u8 0] := by
  unfold headB
  rw [leB_1, leB_1, leB_2, leB_2, leB_2, byte1_zero (n := (n : Int)) (by omega), byte1_zero (n := (v : Int)) (by omega), byte1_zero (n := (m : Int)) (by omega)]
  cases leaf <;> rfl
set_option maxRecDepth 100000 in
set_option maxHeartbeats 8000000 in
theorem ref07_Put (t : Int) (leaf : Bool) (n m v : Nat) (K : List Int) (Vs : List (List UInt8)) (ak av : Option Addr) (ck cv : Nat) (w : World) (N : NodeOk t leaf n m v K Vs) (hKs : Sl w (.slice ak n ck) n (K.map (Value.int .i64))) (hVs : Sl w (.slice av n cv) n (Vs.map sv)) :
    Calls Tryz.prog 75 #[.agg #[.int .i64 t, .bool leaf, .slice ak n ck, .slice av n cv]] w (RetS (fun w' r => ∃ p c, r = .tuple #[.slice p 244 c, .int .i64 0] ∧ w'.ownsRow w.heap.size 5 1 (.slice p 244 c) 244 ((nodeP m v (headB t leaf n m v) K Vs n).map bv)) w) := by
 have ht1 := N.ht1
 have ht2 := N.ht2
 have hnm := N.hn
 have hwb := widN_bd t leaf
 rw [N.hv] at hwb
 have hmb := maxN_pos t leaf
 rw [N.hm] at hmb
 have hfit := fitN t leaf
 rw [N.hm, N.hv] at hfit
 have hcap := Sl.cap hKs
 refine zin 79 Tryz.func75 ?_
 refine xa 2 [.int .i64 t, .bool leaf, .slice ak n ck, .slice av n cv] 132 fun b1 W1 n1 => ?_
 refine xlv 7 n1.blk.rp ?_
 refine xr 0 (args := #[.agg #[.int .i64 t, .bool leaf, .slice ak n ck, .slice av n cv]]) (ref07_Right t leaf n m v K Vs ak av ck cv _ N (hKs.below n1.below) (hVs.below n1.below)) fun W2 hb2 => ?_
 have k1'1 := n1.blk.below hb2
 refine xb 9 0 k1'1 ?_
 refine xb 1 1 k1'1 ?_
 refine xr 0 (args := #[.int .i64 t, .bool leaf]) (ref07_Width t leaf v N.hv ht1 ht2 _) fun W3 hb3 => ?_
 have k1'2 := k1'1.below hb3
 refine xb 6 0 k1'2 ?_
 refine xb 1 1 k1'2 ?_
 refine xr 0 (args := #[.int .i64 t, .bool leaf]) (ref07_Max t leaf m N.hm ht1 ht2 _) fun W4 hb4 => ?_
 have k1'3 := k1'2.below hb4
 refine xb 6 0 k1'3 ?_
 refine xq 0 (congrArg (Value.int .u8) (show (IntKind.u8.wrap t : Int) = (↑(byteAt t 0).toNat : Int) from byte_0 (by omega))) ?_
 refine xb 1 2 k1'3 ?_
 refine xq 1 (congrArg (Value.int .u8) (show (IntKind.u8.wrap (↑n : Int) : Int) = (↑(byteAt (↑n : Int) 0).toNat : Int) from byte_0 (by omega))) ?_
 refine xq 1 (congrArg (Value.int .u8) (show (IntKind.u8.wrap (↑v : Int) : Int) = (↑(byteAt (↑v : Int) 0).toNat : Int) from byte_0 (by omega))) ?_
 refine xq 1 (congrArg (Value.int .u8) (show (IntKind.u8.wrap (↑m : Int) : Int) = (↑(byteAt (↑m : Int) 0).toNat : Int) from byte_0 (by omega))) ?_
 refine xbs 0 12 [.int .u8 0, .int .u8 (↑(byteAt t 0).toNat : Int), .int .u8 (↑(byteAt (↑n : Int) 0).toNat : Int), .int .u8 0, .int .u8 (↑(byteAt (↑v : Int) 0).toNat : Int), .int .u8 0, .int .u8 (↑(byteAt (↑m : Int) 0).toNat : Int), .int .u8 0, .int .u8 0, .int .u8 0, .int .u8 0, .int .u8 0] 5 fun b5 W5 n5 => ?_
 have k1'4 := k1'3.below n5.below
 refine xb 7 1 k1'4 ?_
 refine xi 2 leaf (fun hc6 => ?_) (fun hc6 => ?_)
 · refine xs 3 n5.blk [.int .u8 1, .int .u8 (↑(byteAt t 0).toNat : Int), .int .u8 (↑(byteAt (↑n : Int) 0).toNat : Int), .int .u8 0, .int .u8 (↑(byteAt (↑v : Int) 0).toNat : Int), .int .u8 0, .int .u8 (↑(byteAt (↑m : Int) 0).toNat : Int), .int .u8 0, .int .u8 0, .int .u8 0, .int .u8 0, .int .u8 0] fun W7 u7 k7 => ?_
   have g5 := n5.ge (Bl.next (Bl.next (Bl.next n1.below hb2) hb3) hb4)
   have hlf : leaf = true := by assumption
   have hC0 := headB_cells (t := t) (leaf := leaf) (n := n) (m := m) (v := v) (by omega) (by omega) (by omega) (by omega)
   have ho0 : World.ownsRow W7 w.heap.size 5 1 (.slice (some ⟨b5, 0, none⟩) 12 12) 12 (((headB t leaf n m v) ++ keyPad K n 0).map bv) := by
     rw [show keyPad K n 0 = [] from rfl, List.append_nil, hC0, show flagN leaf = 1 by rw [hlf]; rfl]
     exact own_of_blk (size := 1) (n := 12) k7 g5 rfl (by decide)
   have hB'1 := u7.below (Bl.next (Bl.next (Bl.next (Bl.next n1.below hb2) hb3) hb4) n5.below) g5
   have k1'5 := u7.blkT k1'4 n5.blk (by decide)
   refine zl 9 79 (fun zm zkv V => ∃ (i q : Nat) (p : Option Addr) (c : Nat), zkv = [(1, .pointer (some ⟨b1, 0, none⟩)), (2, .slice none 0 0), (3, .int .i64 0), (5, .int .i64 (↑m : Int)), (6, .slice p q c), (7, .int .i64 (↑i : Int))] ∧ zm = m - ((↑i : Int)).toNat ∧ Below w.heap.size w V ∧ Blk V b1 ([.int .i64 t, .bool leaf, .slice ak n ck, .slice av n cv]) 132 ∧ V.ownsRow w.heap.size 5 1 (.slice p q c) q (((headB t leaf n m v) ++ keyPad K n i).map bv) ∧ i ≤ m ∧ q = 12 + i * 8) ⟨0, 12, (some ⟨b5, 0, none⟩), 12, rfl, rfl, hB'1, k1'5, ho0, Nat.zero_le _, rfl⟩ ?_
   rintro _ _ W8 ⟨i, q, p, c, rfl, rfl, hB_8, k8_b1, ho, hi, hq⟩ J8 hJ8 r8
   refine xid 8 ((↑i : Int) < (↑m : Int)) (fun hc9 => ?_) (fun hc9 => ?_)
   · refine xb 8 2 k8_b1 ?_
     refine xid 4 ((↑i : Int) < (↑n : Int)) (fun hc10 => ?_) (fun hc10 => ?_)
     · refine xb 3 2 k8_b1 ?_
       refine xx 1 _ n i 1 (IntsN.elem hKs N.hK (k := i) (by omega)).1 ?_
       refine xl 0 ((IntsN.elem (hKs.below hB_8) N.hK (k := i) (by omega)).2) ?_
       refine xc 0 (args := #[.int .i64 (K.getD i 0), .int .i64 8]) (ref_BytesN (K.getD i 0) 8 8 _ (N.hk0 i (by omega)).1 (by have := (N.hk0 i (by omega)).2; omega) rfl (by decide)) ?_
       rintro _ W11 ⟨_, rfl, hb11, pk, ck, rfl, hk8⟩
       have ho'1 := own_below ho hb11
       have hk8'1 := own_mono hk8 hB_8.size
       have hB'2 := Bl.next hB_8 hb11
       refine xbi 0 fun _ _ _ _ zJ zQ zo zx zy zK => op_app (m := 8) (news := (leB (K.getD i 0) 8).map bv) (.int .u8 0) 1 1 (q + 8) (((headB t leaf n m v) ++ keyPad K n (i + 1)).map bv) zo Tryz.underlying28 (by kernel_rfl) rfl (by decide) zx ho'1 zy (own_sl hk8'1) (by simp [leB_len]) (bv_one _) (by unfold maxLen; omega) (by omega) hB'2.size (by rfl) (by rw [keyPad_succ, if_pos (by omega)]; simp) fun p12 c12 W12 o12 hg12 hb12 => ?_
       refine zK _ _ ?_
       refine xwm 6 ((↑i : Int) + 1) (↑(i + 1) : Int) ?_
       have hB'3 := hB'2.trans hb12
       have k8_b1'1 := (k8_b1.below hb11).grown hg12 ho'1 (by decide)
       exact ze 2 (hJ8 _ _ _ ⟨i + 1, _, _, _, rfl, rfl, hB'3, k8_b1'1, o12, by omega, by omega⟩ (by omega))
     refine xbi 2 (t2 := 3) fun _ _ _ _ zJ zQ zo zx zy zK => op_appZo (kq := .i64) 8 (q + 8) (((headB t leaf n m v) ++ keyPad K n (i + 1)).map bv) zo Tryz.underlying28 Tryz.underlying3 (by kernel_rfl) zx ho zy (by omega) (by omega) hB_8.size (by rfl) (by rw [keyPad_succ, if_neg (by omega)]; simp [bv]) fun p13 c13 W13 o13 hg13 hb13 => ?_
     refine zK _ _ ?_
     refine xwm 6 ((↑i : Int) + 1) (↑(i + 1) : Int) ?_
     have hB'4 := hB_8.trans hb13
     have k8_b1'2 := k8_b1.grown hg13 ho (by decide)
     exact ze 2 (hJ8 _ _ _ ⟨i + 1, _, _, _, rfl, rfl, hB'4, k8_b1'2, o13, by omega, by omega⟩ (by omega))
   have him : i = m := by omega
   have ho1 : World.ownsRow W8 w.heap.size 5 1 (.slice p q c) q (((headB t leaf n m v) ++ keyPad K n m ++ valPad Vs 0).map bv) := by
     have e9 : keyPad K n m = keyPad K n i := by rw [him]
     rw [e9, show valPad Vs 0 = [] from rfl, List.append_nil]; exact ho
   refine zl 12 79 (fun zm zkv V => ∃ (j q : Nat) (p : Option Addr) (c : Nat), zkv = [(1, .pointer (some ⟨b1, 0, none⟩)), (2, .slice none 0 0), (3, .int .i64 0), (6, .slice p q c), (8, .int .i64 (↑j : Int))] ∧ zm = n - ((↑j : Int)).toNat ∧ Below w.heap.size w V ∧ Blk V b1 ([.int .i64 t, .bool leaf, .slice ak n ck, .slice av n cv]) 132 ∧ V.ownsRow w.heap.size 5 1 (.slice p q c) q (((headB t leaf n m v) ++ keyPad K n m ++ valPad Vs j).map bv) ∧ j ≤ n ∧ q = 12 + m * 8 + j * v) ⟨0, q, p, c, rfl, rfl, hB_8, k8_b1, ho1, Nat.zero_le _, by omega⟩ ?_
   rintro _ _ W14 ⟨j, q, p, c, rfl, rfl, hB_14, k14_b1, ho_14, hj, hq_14⟩ J14 hJ14 r14
   have hvb : j < n → j * v + v ≤ m * v := fun h => by have h9 : (j + 1) * v ≤ m * v := Nat.mul_le_mul_right v (by omega); rw [Nat.add_mul, Nat.one_mul] at h9; exact h9
   refine xb 5 3 k14_b1 ?_
   refine xid 4 ((↑j : Int) < (↑n : Int)) (fun hc15 => ?_) (fun hc15 => ?_)
   · refine xb 7 3 k14_b1 ?_
     refine xx 1 _ n j 1 (Strs.elem hVs N.hV (k := j) (by omega)).1 ?_
     refine xl 0 ((Strs.elem (hVs.below hB_14) N.hV (k := j) (by omega)).2) ?_
     refine xbi 0 (t2 := 9) fun _ _ _ _ zJ zQ zo zx zy zK => op_appS (Vs.getD j []) (q + v) (((headB t leaf n m v) ++ keyPad K n m ++ valPad Vs (j + 1)).map bv) zo Tryz.underlying28 Tryz.underlying9 (by kernel_rfl) zx ho_14 zy (by rw [N.hw j (by omega)]; omega) hB_14.size (by rw [N.hw j (by omega)]) (by rw [valPad_succ]; simp) fun p16 c16 W16 o16 hg16 hb16 => ?_
     refine zK _ _ ?_
     refine xwm 6 ((↑j : Int) + 1) (↑(j + 1) : Int) ?_
     have hB'5 := hB_14.trans hb16
     have k14_b1'1 := k14_b1.grown hg16 ho_14 (by decide)
     exact ze 2 (hJ14 _ _ _ ⟨j + 1, _, _, _, rfl, rfl, hB'5, k14_b1'1, o16, by omega, by rw [Nat.add_mul, Nat.one_mul]; omega⟩ (by omega))
   have hjn : j = n := by omega
   have ho2 : World.ownsRow W14 w.heap.size 5 1 (.slice p q c) q (((headB t leaf n m v) ++ keyPad K n m ++ valPad Vs n ++ List.replicate 0 0).map bv) := by
     have e9 : valPad Vs n = valPad Vs j := by rw [hjn]
     rw [List.replicate_zero, List.append_nil, e9]; exact ho_14
   refine zl 7 79 (fun zm zkv V => ∃ (z q : Nat) (p : Option Addr) (c : Nat), zkv = [(2, .slice none 0 0), (3, .int .i64 0), (6, .slice p q c)] ∧ zm = 244 - q ∧ Below w.heap.size w V ∧ Blk V b1 ([.int .i64 t, .bool leaf, .slice ak n ck, .slice av n cv]) 132 ∧ V.ownsRow w.heap.size 5 1 (.slice p q c) q (((headB t leaf n m v) ++ keyPad K n m ++ valPad Vs n ++ List.replicate z 0).map bv) ∧ q = 12 + m * 8 + n * v + z ∧ q ≤ 244) ⟨0, q, p, c, rfl, rfl, hB_14, k14_b1, ho2, by rw [← hjn]; omega, by have h9 : n * v ≤ m * v := Nat.mul_le_mul_right v (by omega); have h8 : j * v = n * v := congrArg (fun x => x * v) hjn; omega⟩ ?_
   rintro _ _ W17 ⟨z, q, p, c, rfl, rfl, hB_17, k17_b1, ho, hz, hq2⟩ J17 hJ17 r17
   refine xid 8 ((↑q : Int) < (244 : Int)) (fun hc18 => ?_) (fun hc18 => ?_)
   · refine xbs 5 1 [.int .u8 0] 5 fun b19 W19 n19 => ?_
     have r19_ho := own_ne ho n19
     have ho'2 := own_below ho n19.below
     have hB'6 := Bl.next hB_17 n19.below
     refine xbi 0 fun _ _ _ _ zJ zQ zo zx zy zK => op_app (m := 1) (news := [.int .u8 0]) (.int .u8 0) 1 1 (q + 1) (((headB t leaf n m v) ++ keyPad K n m ++ valPad Vs n ++ List.replicate (z + 1) 0).map bv) zo Tryz.underlying28 (by kernel_rfl) rfl (by decide) zx ho'2 zy (n19.blk.sl 1 1 (by decide) (by decide)) rfl (by simp [Value.oneCell']) (by unfold maxLen; omega) (by omega) hB'6.size (by rfl) (by rw [List.replicate_succ']; simp [bv]) fun p20 c20 W20 o20 hg20 hb20 => ?_
     refine zK _ _ ?_
     have hB'7 := hB'6.trans hb20
     have k17_b1'1 := (k17_b1.below n19.below).grown hg20 ho'2 (by decide)
     exact ze 3 (hJ17 _ _ _ ⟨z + 1, _, _, _, rfl, rfl, hB'7, k17_b1'1, o20, by omega, by omega⟩ (by omega))
   refine xe 13 (.tuple #[.slice p q c, .int .i64 0]) ?_
   obtain rfl : q = 244 := by omega
   rw [nodeP_form (headB_len _ _ _ _ _) hfit hnm (fun j hj => N.hw j hj)]
   exact ⟨_, rfl, hB_17, _, _, rfl, by rw [show 232 - m * 8 - n * v = z by omega]; exact ho⟩
 have hlf : leaf = false := by assumption
 have g5 := n5.ge (Bl.next (Bl.next (Bl.next n1.below hb2) hb3) hb4)
 have hC0 := headB_cells (t := t) (leaf := leaf) (n := n) (m := m) (v := v) (by omega) (by omega) (by omega) (by omega)
 have ho0 : World.ownsRow W5 w.heap.size 5 1 (.slice (some ⟨b5, 0, none⟩) 12 12) 12 (((headB t leaf n m v) ++ keyPad K n 0).map bv) := by
   rw [show keyPad K n 0 = [] from rfl, List.append_nil, hC0, show flagN leaf = 0 by rw [hlf]; rfl]
   exact own_of_blk (size := 1) (n := 12) n5.blk g5 rfl (by decide)
 have hB'8 := Bl.next (Bl.next (Bl.next (Bl.next n1.below hb2) hb3) hb4) n5.below
 refine zl 9 79 (fun zm zkv V => ∃ (i q : Nat) (p : Option Addr) (c : Nat), zkv = [(1, .pointer (some ⟨b1, 0, none⟩)), (2, .slice none 0 0), (3, .int .i64 0), (5, .int .i64 (↑m : Int)), (6, .slice p q c), (7, .int .i64 (↑i : Int))] ∧ zm = m - ((↑i : Int)).toNat ∧ Below w.heap.size w V ∧ Blk V b1 ([.int .i64 t, .bool leaf, .slice ak n ck, .slice av n cv]) 132 ∧ V.ownsRow w.heap.size 5 1 (.slice p q c) q (((headB t leaf n m v) ++ keyPad K n i).map bv) ∧ i ≤ m ∧ q = 12 + i * 8) ⟨0, 12, (some ⟨b5, 0, none⟩), 12, rfl, rfl, hB'8, k1'4, ho0, Nat.zero_le _, rfl⟩ ?_
 rintro _ _ W21 ⟨i, q, p, c, rfl, rfl, hB_21, k21_b1, ho, hi, hq⟩ J21 hJ21 r21
 refine xid 8 ((↑i : Int) < (↑m : Int)) (fun hc22 => ?_) (fun hc22 => ?_)
 · refine xb 8 2 k21_b1 ?_
   refine xid 4 ((↑i : Int) < (↑n : Int)) (fun hc23 => ?_) (fun hc23 => ?_)
   · refine xb 3 2 k21_b1 ?_
     refine xx 1 _ n i 1 (IntsN.elem hKs N.hK (k := i) (by omega)).1 ?_
     refine xl 0 ((IntsN.elem (hKs.below hB_21) N.hK (k := i) (by omega)).2) ?_
     refine xc 0 (args := #[.int .i64 (K.getD i 0), .int .i64 8]) (ref_BytesN (K.getD i 0) 8 8 _ (N.hk0 i (by omega)).1 (by have := (N.hk0 i (by omega)).2; omega) rfl (by decide)) ?_
     rintro _ W24 ⟨_, rfl, hb24, pk, ck, rfl, hk8⟩
     have ho'3 := own_below ho hb24
     have hk8'2 := own_mono hk8 hB_21.size
     have hB'9 := Bl.next hB_21 hb24
     refine xbi 0 fun _ _ _ _ zJ zQ zo zx zy zK => op_app (m := 8) (news := (leB (K.getD i 0) 8).map bv) (.int .u8 0) 1 1 (q + 8) (((headB t leaf n m v) ++ keyPad K n (i + 1)).map bv) zo Tryz.underlying28 (by kernel_rfl) rfl (by decide) zx ho'3 zy (own_sl hk8'2) (by simp [leB_len]) (bv_one _) (by unfold maxLen; omega) (by omega) hB'9.size (by rfl) (by rw [keyPad_succ, if_pos (by omega)]; simp) fun p25 c25 W25 o25 hg25 hb25 => ?_
     refine zK _ _ ?_
     refine xwm 6 ((↑i : Int) + 1) (↑(i + 1) : Int) ?_
     have hB'10 := hB'9.trans hb25
     have k21_b1'1 := (k21_b1.below hb24).grown hg25 ho'3 (by decide)
     exact ze 2 (hJ21 _ _ _ ⟨i + 1, _, _, _, rfl, rfl, hB'10, k21_b1'1, o25, by omega, by omega⟩ (by omega))
   refine xbi 2 (t2 := 3) fun _ _ _ _ zJ zQ zo zx zy zK => op_appZo (kq := .i64) 8 (q + 8) (((headB t leaf n m v) ++ keyPad K n (i + 1)).map bv) zo Tryz.underlying28 Tryz.underlying3 (by kernel_rfl) zx ho zy (by omega) (by omega) hB_21.size (by rfl) (by rw [keyPad_succ, if_neg (by omega)]; simp [bv]) fun p26 c26 W26 o26 hg26 hb26 => ?_
   refine zK _ _ ?_
   refine xwm 6 ((↑i : Int) + 1) (↑(i + 1) : Int) ?_
   have hB'11 := hB_21.trans hb26
   have k21_b1'2 := k21_b1.grown hg26 ho (by decide)
   exact ze 2 (hJ21 _ _ _ ⟨i + 1, _, _, _, rfl, rfl, hB'11, k21_b1'2, o26, by omega, by omega⟩ (by omega))
 have him : i = m := by omega
 have ho1 : World.ownsRow W21 w.heap.size 5 1 (.slice p q c) q (((headB t leaf n m v) ++ keyPad K n m ++ valPad Vs 0).map bv) := by
   have e9 : keyPad K n m = keyPad K n i := by rw [him]
   rw [e9, show valPad Vs 0 = [] from rfl, List.append_nil]; exact ho
 refine zl 12 79 (fun zm zkv V => ∃ (j q : Nat) (p : Option Addr) (c : Nat), zkv = [(1, .pointer (some ⟨b1, 0, none⟩)), (2, .slice none 0 0), (3, .int .i64 0), (6, .slice p q c), (8, .int .i64 (↑j : Int))] ∧ zm = n - ((↑j : Int)).toNat ∧ Below w.heap.size w V ∧ Blk V b1 ([.int .i64 t, .bool leaf, .slice ak n ck, .slice av n cv]) 132 ∧ V.ownsRow w.heap.size 5 1 (.slice p q c) q (((headB t leaf n m v) ++ keyPad K n m ++ valPad Vs j).map bv) ∧ j ≤ n ∧ q = 12 + m * 8 + j * v) ⟨0, q, p, c, rfl, rfl, hB_21, k21_b1, ho1, Nat.zero_le _, by omega⟩ ?_
 rintro _ _ W27 ⟨j, q, p, c, rfl, rfl, hB_27, k27_b1, ho_27, hj, hq_27⟩ J27 hJ27 r27
 have hvb : j < n → j * v + v ≤ m * v := fun h => by have h9 : (j + 1) * v ≤ m * v := Nat.mul_le_mul_right v (by omega); rw [Nat.add_mul, Nat.one_mul] at h9; exact h9
 refine xb 5 3 k27_b1 ?_
 refine xid 4 ((↑j : Int) < (↑n : Int)) (fun hc28 => ?_) (fun hc28 => ?_)
 · refine xb 7 3 k27_b1 ?_
   refine xx 1 _ n j 1 (Strs.elem hVs N.hV (k := j) (by omega)).1 ?_
   refine xl 0 ((Strs.elem (hVs.below hB_27) N.hV (k := j) (by omega)).2) ?_
   refine xbi 0 (t2 := 9) fun _ _ _ _ zJ zQ zo zx zy zK => op_appS (Vs.getD j []) (q + v) (((headB t leaf n m v) ++ keyPad K n m ++ valPad Vs (j + 1)).map bv) zo Tryz.underlying28 Tryz.underlying9 (by kernel_rfl) zx ho_27 zy (by rw [N.hw j (by omega)]; omega) hB_27.size (by rw [N.hw j (by omega)]) (by rw [valPad_succ]; simp) fun p29 c29 W29 o29 hg29 hb29 => ?_
   refine zK _ _ ?_
   refine xwm 6 ((↑j : Int) + 1) (↑(j + 1) : Int) ?_
   have hB'12 := hB_27.trans hb29
   have k27_b1'1 := k27_b1.grown hg29 ho_27 (by decide)
   exact ze 2 (hJ27 _ _ _ ⟨j + 1, _, _, _, rfl, rfl, hB'12, k27_b1'1, o29, by omega, by rw [Nat.add_mul, Nat.one_mul]; omega⟩ (by omega))
 have hjn : j = n := by omega
 have ho2 : World.ownsRow W27 w.heap.size 5 1 (.slice p q c) q (((headB t leaf n m v) ++ keyPad K n m ++ valPad Vs n ++ List.replicate 0 0).map bv) := by
   have e9 : valPad Vs n = valPad Vs j := by rw [hjn]
   rw [List.replicate_zero, List.append_nil, e9]; exact ho_27
 refine zl 7 79 (fun zm zkv V => ∃ (z q : Nat) (p : Option Addr) (c : Nat), zkv = [(2, .slice none 0 0), (3, .int .i64 0), (6, .slice p q c)] ∧ zm = 244 - q ∧ Below w.heap.size w V ∧ Blk V b1 ([.int .i64 t, .bool leaf, .slice ak n ck, .slice av n cv]) 132 ∧ V.ownsRow w.heap.size 5 1 (.slice p q c) q (((headB t leaf n m v) ++ keyPad K n m ++ valPad Vs n ++ List.replicate z 0).map bv) ∧ q = 12 + m * 8 + n * v + z ∧ q ≤ 244) ⟨0, q, p, c, rfl, rfl, hB_27, k27_b1, ho2, by rw [← hjn]; omega, by have h9 : n * v ≤ m * v := Nat.mul_le_mul_right v (by omega); have h8 : j * v = n * v := congrArg (fun x => x * v) hjn; omega⟩ ?_
 rintro _ _ W30 ⟨z, q, p, c, rfl, rfl, hB_30, k30_b1, ho, hz, hq2⟩ J30 hJ30 r30
 refine xid 8 ((↑q : Int) < (244 : Int)) (fun hc31 => ?_) (fun hc31 => ?_)
 · refine xbs 5 1 [.int .u8 0] 5 fun b32 W32 n32 => ?_
   have r32_ho := own_ne ho n32
   have ho'4 := own_below ho n32.below
   have hB'13 := Bl.next hB_30 n32.below
   refine xbi 0 fun _ _ _ _ zJ zQ zo zx zy zK => op_app (m := 1) (news := [.int .u8 0]) (.int .u8 0) 1 1 (q + 1) (((headB t leaf n m v) ++ keyPad K n m ++ valPad Vs n ++ List.replicate (z + 1) 0).map bv) zo Tryz.underlying28 (by kernel_rfl) rfl (by decide) zx ho'4 zy (n32.blk.sl 1 1 (by decide) (by decide)) rfl (by simp [Value.oneCell']) (by unfold maxLen; omega) (by omega) hB'13.size (by rfl) (by rw [List.replicate_succ']; simp [bv]) fun p33 c33 W33 o33 hg33 hb33 => ?_
   refine zK _ _ ?_
   have hB'14 := hB'13.trans hb33
   have k30_b1'1 := (k30_b1.below n32.below).grown hg33 ho'4 (by decide)
   exact ze 3 (hJ30 _ _ _ ⟨z + 1, _, _, _, rfl, rfl, hB'14, k30_b1'1, o33, by omega, by omega⟩ (by omega))
 refine xe 13 (.tuple #[.slice p q c, .int .i64 0]) ?_
 obtain rfl : q = 244 := by omega
 rw [nodeP_form (headB_len _ _ _ _ _) hfit hnm (fun j hj => N.hw j hj)]
 exact ⟨_, rfl, hB_30, _, _, rfl, by rw [show 232 - m * 8 - n * v = z by omega]; exact ho⟩
end Go.Proofs.YtcjpomibhbakdaaGreatDoor
namespace Go.Proofs.YtcjpomibhbakdaaGreatDoor
open Go.RowKit Go.Extern.Stop Go.Stop Go.Extern
set_option linter.unusedVariables false
attribute [local irreducible] wpList wpAnyH Code.wp Oper.wp Go

theorem ovN_small {n m : Nat} (hm : 1 ≤ m) (h : n ≤ m) : ovN n m = 1 := by
  unfold ovN
  have : (n + m - 1) / m ≤ 1 := by
    rw [Nat.div_le_iff_le_mul_add_pred (by omega)]; omega
  omega
theorem ovN_step {n m : Nat} (hm : 1 ≤ m) (h : m < n) : ovN n m = ovN (n - m) m + 1 := by
  unfold ovN
  have e : n + m - 1 = (n - m + m - 1) + m := by omega
  rw [e, Nat.add_div_right _ (by omega)]
  have : 1 ≤ (n - m + m - 1) / m := by
    rw [Nat.le_div_iff_mul_le (by omega)]; omega
  omega
theorem ovN_32768 {n : Nat} {t : Int} (hn : n ≤ 32768) (h1 : 1 ≤ t) (h2 : t ≤ 5) : ovN n (maxN t true) ≤ 32768 := by
  have h6 : 6 ≤ maxN t true := by unfold maxN; repeat' split
                                  all_goals first | decide | simp_all
  unfold ovN
  have : (n + maxN t true - 1) / maxN t true ≤ 32768 := by
    rw [Nat.div_le_iff_le_mul_add_pred (by omega)]
    have := Nat.mul_le_mul_right 32768 h6
    omega
  omega
set_option maxRecDepth 100000 in
set_option maxHeartbeats 1000000 in
theorem ref15_Sizes (n m : Nat) (w : World) (hn : n ≤ 32768) (hm : 1 ≤ m) (hm2 : m ≤ 32768) :
    Calls Tryz.prog 97 #[.int .i64 (↑n : Int), .int .i64 (↑m : Int)] w (RetS (fun w' r => ∃ p c, r = .slice p (ovN n m) c) w) := by
 refine zin 30 Tryz.func97 ?_
 refine xgk 11 [7, 8] (show (decide ((↑n : Int) < (0 : Int)) : Bool) = false from decide_eq_false (by omega)) ?_
 refine xgk 4 [10, 11, 12] (show (decide ((↑n : Int) > (32768 : Int)) : Bool) = false from decide_eq_false (by omega)) ?_
 refine xk 5 (show (decide ((↑m : Int) < (1 : Int)) : Bool) = false from decide_eq_false (by omega)) ?_
 have hB := Below.refl w.heap.size w
 refine zl 9 30 (fun zm zkv V => ∃ (j k : Nat) (p : Option Addr) (c : Nat) (xs : List Value), zkv = [(0, .int .i64 (↑k : Int)), (1, .int .i64 (↑m : Int)), (4, .slice none 0 0), (5, .slice p j c)] ∧ zm = ((↑k : Int)).toNat + 1 ∧ Below w.heap.size w V ∧ V.ownsRow w.heap.size 3 1 (.slice p j c) j xs ∧ j + ovN k m = ovN n m ∧ k ≤ n ∧ j + k ≤ n) ⟨0, n, none, 0, [], rfl, rfl, hB, World.ownsRow_nil _ _ _ _, Nat.zero_add _, Nat.le_refl _, by omega⟩ ?_
 rintro _ _ W3 ⟨j, k, p, c, xs, rfl, rfl, hB_3, ho, hj, hk, hjn⟩ J3 hJ3 r3
 refine xid 8 ((↑k : Int) > (↑m : Int)) (fun hc4 => ?_) (fun hc4 => ?_)
 · refine xbs 7 1 [.int .i64 (↑m : Int)] 3 fun b5 W5 n5 => ?_
   have r5_ho := own_ne ho n5
   have ho'1 := own_below ho n5.below
   have hB'1 := Bl.next hB_3 n5.below
   refine xbi 0 fun _ _ _ _ zJ zQ zo zx zy zK => op_app (m := 1) (news := [.int .i64 (↑m : Int)]) (.int .i64 0) 1 8 (j + 1) (xs ++ [.int .i64 (↑m : Int)]) zo Tryz.underlying22 (by kernel_rfl) rfl (by decide) zx ho'1 zy (n5.blk.sl 1 1 (by decide) (by decide)) rfl (by simp [Value.oneCell']) (by unfold maxLen; omega) (by omega) hB'1.size (by rfl) (by rfl) fun p6 c6 W6 o6 hg6 hb6 => ?_
   refine zK _ _ ?_
   refine xwm 6 ((↑k : Int) - (↑m : Int)) (↑(k - m) : Int) ?_
   have hB'2 := hB'1.trans hb6
   exact ze 3 (hJ3 _ _ _ ⟨j + 1, (k - m), _, _, _, rfl, rfl, hB'2, o6, by have := ovN_step hm (n := k) (by omega); omega, by omega, by omega⟩ (by omega))
 refine xbs 9 1 [.int .i64 (↑k : Int)] 3 fun b7 W7 n7 => ?_
 have r7_ho := own_ne ho n7
 have ho'2 := own_below ho n7.below
 have hB'3 := Bl.next hB_3 n7.below
 refine xbi 0 fun _ _ _ _ zJ zQ zo zx zy zK => op_app (m := 1) (news := [.int .i64 (↑k : Int)]) (.int .i64 0) 1 8 (j + 1) (xs ++ [.int .i64 (↑k : Int)]) zo Tryz.underlying22 (by kernel_rfl) rfl (by decide) zx ho'2 zy (n7.blk.sl 1 1 (by decide) (by decide)) rfl (by simp [Value.oneCell']) (by unfold maxLen; omega) (by omega) hB'3.size (by rfl) (by rfl) fun p8 c8 W8 o8 hg8 hb8 => ?_
 refine zK _ _ ?_
 have hB'4 := hB'3.trans hb8
 refine xe 4 (.slice p8 (j + 1) c8) ?_
 have e := ovN_small hm (n := k) (by omega)
 exact ⟨_, rfl, hB'4, _, _, by rw [show ovN n m = j + 1 by omega]⟩
set_option maxRecDepth 100000 in
set_option maxHeartbeats 4000000 in
theorem ref15_Levels (t : Int) (n : Nat) (w : World) (h1 : 1 ≤ t) (h2 : t ≤ 5) (hn : n ≤ 32768) :
    Calls Tryz.prog 68 #[.int .i64 t, .int .i64 (↑n : Int)] w (RetS (fun w' r => ∃ p c, r = .slice p (levL t n).length c ∧ w'.ownsRow w.heap.size 3 1 (.slice p (levL t n).length c) (levL t n).length ((levL t n).map nv)) w) := by
 have hm1 := (maxN_pos t true).1
 have hm2 := (maxN_pos t true).2
 have hov := ovN_le n (maxN t true) hm1
 have hop := ovN_pos n (maxN t true)
 refine zin 37 Tryz.func68 ?_
 refine xr 9 (args := #[.int .i64 t, .bool true]) (ref07_Max t true _ rfl h1 h2 _) fun W1 hb1 => ?_
 refine xgk 2 [9, 10] (show (((↑(maxN t true) : Int) == (0 : Int)) : Bool) = false from by simp; omega) ?_
 refine xgk 4 [12, 13, 14] (show (decide ((↑n : Int) < (0 : Int)) : Bool) = false from decide_eq_false (by omega)) ?_
 refine xk 5 (show (decide ((↑n : Int) > (32768 : Int)) : Bool) = false from decide_eq_false (by omega)) ?_
 refine xr 6 (args := #[.int .i64 t, .bool true]) (ref07_Max t true _ rfl h1 h2 _) fun W4 hb4 => ?_
 refine xc 0 (args := #[.int .i64 (↑n : Int), .int .i64 (↑(maxN t true) : Int)]) (ref15_Sizes n (maxN t true) _ hn hm1 (by omega)) ?_
 rintro _ W5 ⟨_, rfl, hb5, p1, c1, rfl⟩
 refine xbs 7 1 [.int .i64 (↑(ovN n (maxN t true)) : Int)] 3 fun b6 W6 n6 => ?_
 have g6 := n6.ge (Bl.next (Bl.next hb1 hb4) hb5)
 have hB := Bl.next (Bl.next (Bl.next hb1 hb4) hb5) n6.below
 refine zl 5 37 (fun zm zkv V => ∃ (j x : Nat) (xs : List Nat) (p : Option Addr) (c : Nat), zkv = [(0, .int .i64 t), (4, .slice none 0 0), (5, .int .i64 (↑x : Int)), (6, .slice p (j + 1) c)] ∧ zm = 40000 - (j + 1) ∧ Below w.heap.size w V ∧ V.ownsRow w.heap.size 3 1 (.slice p (j + 1) c) (j + 1) ((xs ++ [x]).map nv) ∧ xs.length = j ∧ 1 ≤ x ∧ x ≤ 32768 ∧ xs ++ levs x = levL t n ∧ j + x ≤ 40000) ⟨0, (ovN n (maxN t true)), [], (some ⟨b6, 0, none⟩), 1, rfl, rfl, hB, own_of_blk (size := 1) (n := 1) n6.blk g6 rfl (by unfold maxLen; decide), rfl, hop, ovN_32768 hn h1 h2, rfl, by omega⟩ ?_
 rintro _ _ W7 ⟨j, x, xs, p, c, rfl, rfl, hB_7, ho, hxl, hx1, hx2, hxs, hj⟩ J7 hJ7 r7
 refine xid 7 ((↑x : Int) > (1 : Int)) (fun hc8 => ?_) (fun hc8 => ?_)
 · refine xr 7 (args := #[.int .i64 t, .bool false]) (ref07_Max t false 18 rfl h1 h2 _) fun W9 hb9 => ?_
   refine xc 0 (args := #[.int .i64 (↑x : Int), .int .i64 18]) (ref15_Sizes x 18 _ hx2 (by decide) (by decide)) ?_
   rintro _ W10 ⟨_, rfl, hb10, p2, c2, rfl⟩
   refine xbs 7 1 [.int .i64 (↑(ovN x 18) : Int)] 3 fun b11 W11 n11 => ?_
   have ho'1 := own_below (own_below ho hb9) hb10
   have r11_ho := own_ne ho'1 n11
   have ho'2 := own_below ho'1 n11.below
   have hB'1 := Bl.next (Bl.next (Bl.next hB_7 hb9) hb10) n11.below
   refine xbi 0 fun _ _ _ _ zJ zQ zo zx zy zK => op_app (m := 1) (news := [.int .i64 (↑(ovN x 18) : Int)]) (.int .i64 0) 1 8 (j + 1 + 1) (((xs ++ [x]) ++ [ovN x 18]).map nv) zo Tryz.underlying22 (by kernel_rfl) rfl (by decide) zx ho'2 zy (n11.blk.sl 1 1 (by decide) (by decide)) rfl (by simp [Value.oneCell']) (by unfold maxLen; omega) (by omega) hB'1.size (by rfl) (by simp [nv]) fun p12 c12 W12 o12 hg12 hb12 => ?_
   refine zK _ _ ?_
   have h18 := ov18 (x := x) (by omega)
   have hB'2 := hB'1.trans hb12
   exact ze 3 (hJ7 _ _ _ ⟨j + 1, (ovN x 18), xs ++ [x], _, _, rfl, rfl, hB'2, o12, by simp [hxl], ovN_pos _ _, by omega, by rw [← hxs, levs_more (x := x) (by omega)]; simp, by omega⟩ (by omega))
 refine xe 12 (.slice p (j + 1) c) ?_
 have e : levL t n = xs ++ [x] := by rw [← hxs, levs_one (x := x) (by omega)]
 have el : (levL t n).length = j + 1 := by rw [e]; simp [hxl]
 exact ⟨_, rfl, hB_7, p, c, by rw [el], by rw [el, e]; exact ho⟩
set_option maxRecDepth 100000 in
set_option maxHeartbeats 4000000 in
theorem ref15_Nodes (t : Int) (n : Nat) (w : World) (h1 : 1 ≤ t) (h2 : t ≤ 5) (hn : n ≤ 32768) :
    Calls Tryz.prog 34 #[.int .i64 t, .int .i64 (↑n : Int)] w (Ret (.int .i64 (nodN t n : Int)) w) := by
 refine zin 24 Tryz.func34 ?_
 refine xc 9 (args := #[.int .i64 t, .int .i64 (↑n : Int)]) (ref15_Levels t n _ h1 h2 hn) ?_
 rintro _ W1 ⟨_, rfl, hb1, p, c, rfl, ho⟩
 have hs1 := Nat.le_refl w.heap.size
 have ho'1 := own_mono ho hs1
 refine zl 15 24 (fun zm zkv V => ∃ (k : Nat), zkv = [(4, .int .i64 0), (5, .slice p ((levL t n).length) c), (6, .int .i64 (↑((levL t n).take k).sum : Int)), (7, .int .i64 (↑k : Int))] ∧ zm = (levL t n).length - ((↑k : Int)).toNat ∧ Below w.heap.size w V ∧ V.ownsRow w.heap.size 3 1 (.slice p (levL t n).length c) (levL t n).length ((levL t n).map nv) ∧ k ≤ (levL t n).length) ⟨0, rfl, rfl, hb1, ho'1, Nat.zero_le _⟩ ?_
 rintro _ _ W2 ⟨k, rfl, rfl, hB_2, ho, hk⟩ J2 hJ2 r2
 have hl1 := levL_len t n
 have hs1 := nodN_le t n
 unfold nodN at hs1
 have hs2 := take_le (L := levL t n) (k + 1)
 have hs3 : k < (levL t n).length → ((levL t n).take (k + 1)).sum = ((levL t n).take k).sum + (levL t n).getD k 0 := take_sum
 refine xid 9 ((↑k : Int) < (↑((levL t n).length) : Int)) (fun hc3 => ?_) (fun hc3 => ?_)
 · refine xx 8 _ ((levL t n).length) k 1 (nv_elem (own_sl ho) rfl (k := k) (by omega)).1 ?_
   refine xl 0 ((nv_elem (own_sl ho) rfl (k := k) (by omega)).2) ?_
   refine xwm 0 ((↑((levL t n).take k).sum : Int) + (↑((levL t n).getD k 0) : Int)) (↑(((levL t n).take k).sum + ((levL t n).getD k 0)) : Int) ?_
   refine xwm 6 ((↑k : Int) + 1) (↑(k + 1) : Int) ?_
   refine xv1 2 6 (show (.int .i64 (↑(((levL t n).take k).sum + ((levL t n).getD k 0)) : Int) : Value) = .int .i64 (↑((levL t n).take (k + 1)).sum : Int) from by rw [take_sum (by omega)]) ?_
   exact ze 0 (hJ2 _ _ _ ⟨k + 1, rfl, rfl, hB_2, ho, by omega⟩ (by omega))
 refine xe 12 (.int .i64 (↑((levL t n).take k).sum : Int)) ?_
 have e : k = (levL t n).length := by omega
 subst e
 rw [List.take_length]
 exact ⟨rfl, hB_2⟩
end Go.Proofs.YtcjpomibhbakdaaGreatDoor
