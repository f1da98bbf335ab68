/- Further steps of a walk: append of a string to a row of the call's own, a store into a place of such a row, and where an appended row lies. value.ReadRoot, whatever the string. What a scan computes, in plain Lean: the walker's state, a visit, and how the state lies in memory. (*walker).child, given what a visit one deeper does. The lists of a scan only grow. (*walker).visit, given what a visit one deeper does. The plain law of a scan: what visitF finds, in plain Lean. walk.Scan. A node's bytes, part by part: a plain law. What was sealed opens: a plain law on lists of bytes. What was put as a node is read as that node: a plain law on lists of bytes. A scan of an inner node that is its own child: a plain law. The law WalkLoops: its image, and the scan of it. image.Of and block.Write at an image in a row of its own. The lives of law 14. errors.Is of an error that lies in memory (Faults over an Errno) at an Errno, and fault.Is. The statement WalkLoops, walked. How a slice of bytes that came in reads: as a list of bytes. -/
import Derived.Lib.AppendStr
import Derived.Laws.IdiomStrings
import Derived.Test.YtolblnjohaooaaaGreatDoorMg3
namespace Go.Proofs.YtolblnjohaooaaaGreatDoor
open Go.RowKit Go.Extern.Stop Go.Stop Go.Extern
set_option linter.unusedVariables false
section
variable {P : Program} {a : Act} {w : World} {K : Act → World → Prop} {Q : Exit → Act → World → Prop}
theorem strCells_bv (l : List UInt8) : Lib.strCells ⟨l.toArray⟩ = l.map bv := by
  unfold Lib.strCells bv
  simp
theorem op_appS {o : Oper} {s x : Operand} {t u e : TypeId} {base : Nat} {v : Value} {n : Nat} {xs : List Value} (l : List UInt8) (n' : Nat) (xs' : List Value) (ho : o.op = .call { callee := .builtin .append, args := #[s, x], argTypes := #[t, u] })
    (ht : P.underlying t = some (.slice e)) (hu : P.underlying u = some .string) (hi : (P.info? e).map (fun i => (i.zero, i.size, i.bytes)) = some (some (.int .u8 0), 1, 1)) (hs : a.eval s = v) (hown : w.ownsRow base e 1 v n xs) (hx : a.eval x = .string ⟨l.toArray⟩)
    (hb : n + l.length ≤ 100000000) (hbase : base ≤ w.heap.size) (hn : n + l.length = n') (hxs : xs ++ l.map bv = xs')
    (h : ∀ b c W, W.ownsRow base e 1 (.slice b n' c) n' xs' → w.grownBy W v.ownBlock → Below base w W → K (a.put o.dst (.slice b n' c)) W) : o.wp P a w K Q := by
  cases hq : P.info? e with
  | none => simp [hq] at hi
  | some i =>
    simp only [hq, Option.map_some, Option.some.injEq, Prod.mk.injEq] at hi
    have hsz : (⟨l.toArray⟩ : ByteArray).size = l.length := by simp [ByteArray.size]
    obtain ⟨v', W, hr, h2, h3, _⟩ := Lib.run_append_own_string (P := P) w base t u o.type e i ht hu hq hi.1 hi.2.1 hi.2.2 v n xs hown ⟨l.toArray⟩ (by rw [hsz]; unfold maxLen; omega) (by rw [hsz]; omega) hbase
    rw [hsz, strCells_bv] at h2
    subst hn hxs
    obtain ⟨b, c, rfl⟩ := (own_sl h2).slice
    unfold Oper.wp execOp
    simp only [ho, resolve, invoke, builtin, Sem.run_bind, Sem.run_pure, Result.andThen_ok, List.map_toArray, List.map_cons, List.map_nil, hs, hx, hr]
    exact h b c W h2 h3 (grown_below h3 hown (Nat.le_refl _) hbase)
theorem elemAddr_own (g k : Nat) : elemAddr (some ⟨g, 0, none⟩) (k * 1) = ⟨g, k, none⟩ := by
  simp [elemAddr, Addr.add]; exact fun h => h.symm
theorem op_storeRow {o : Oper} {t e : TypeId} {x y : Operand} {g n c k base : Nat} {xs : List Value} {v : Value} (ho : o.op = .store t x y) (hx : a.eval x = .pointer (some (elemAddr (some ⟨g, 0, none⟩) (k * 1)))) (hy : a.eval y = v)
    (hi : (P.info? t).map (·.size) = some 1) (h1 : v.oneCell' = true) (hown : w.ownsRow base e 1 (.slice (some ⟨g, 0, none⟩) n c) n xs) (hk : k < n)
    (h : ∀ W, Upd w g W → W.ownsRow base e 1 (.slice (some ⟨g, 0, none⟩) n c) n (xs.set k v) → K (a.put o.dst undef) W) : o.wp P a w K Q := by
  obtain ⟨hl, h2⟩ := hown
  rcases h2 with ⟨h2, _⟩ | ⟨g', cap, cur, hv, hg, hh, hc, hm, hsz, htk⟩
  · cases h2
  · simp only [Value.slice.injEq, Option.some.injEq, Addr.mk.injEq] at hv
    obtain ⟨⟨rfl, _⟩, _, rfl⟩ := hv
    have hb : Blk w g cur.toList e := by unfold Blk; simpa using hh
    rw [elemAddr_own] at hx
    refine op_store ho hx hy hi h1 hb (by simp; omega) fun W hu hW => h W hu ⟨by simpa using hl, .inr ⟨g, c, (cur.toList.set k v).toArray, rfl, hg, hW, hc, hm, by simpa using hsz, ?_⟩⟩
    rw [← htk]
    simp [List.take_set]
end
section
variable {P : Program} {ops : Array Oper} {Q : Exit → Act → World → Prop} {a a' : Act} {w : World} {S : World → Prop} {md : Region.Mode} {L L' : Array Bool} {fuel : Nat}
theorem h_three {o o2 o3 : Oper} (i j m fuel : Nat) {f0 : Nat} (hf : f0 = fuel + 1) (hr : Region.ready md ops L = [i, j, m]) (ho : ops.toList[i]? = some o) (ho2 : ops.toList[j]? = some o2) (ho3 : ops.toList[m]? = some o3) (hw : Region.wanted o (yielded ops a.tmps) = true) (hw2 : Region.wanted o2 (yielded ops a.tmps) = true) (hw3 : Region.wanted o3 (yielded ops a.tmps) = true)
    (h : o.wp P a w (fun a' w' => S w' ∧ wpAnyH P md ops Q S fuel (L.setIfInBounds i true) a' w') Q) (h2 : o2.wp P a w (fun a' w' => S w' ∧ wpAnyH P md ops Q S fuel (L.setIfInBounds j true) a' w') Q) (h3 : o3.wp P a w (fun a' w' => S w' ∧ wpAnyH P md ops Q S fuel (L.setIfInBounds m true) a' w') Q) : wpAnyH P md ops Q S f0 L a w := by
  subst hf
  refine wpAnyH_all hr (by simp) fun k hk => ?_
  have ho' : ops[i]? = some o := by rw [← ho]; simp
  have ho2' : ops[j]? = some o2 := by rw [← ho2]; simp
  have ho3' : ops[m]? = some o3 := by rw [← ho3]; simp
  rcases List.mem_cons.1 hk with rfl | hk
  · unfold wpOp; simp only [ho', hw, if_true]; exact .inl h
  · rcases List.mem_cons.1 hk with rfl | hk
    · unfold wpOp; simp only [ho2', hw2, if_true]; exact .inl h2
    · obtain rfl : k = m := by simpa using hk
      unfold wpOp; simp only [ho3', hw3, if_true]; exact .inl h3
end
theorem res_tc {P : Program} {fn : Func} {tmps : Array Value} {w : World} {k j : Nat} {t : TypeId} {b off : Nat} {cs : List Value} {d : TypeDesc} {u : Value} (hfn : fn.results = #[.tmp j, .cell k t]) (e : tmps.getD k undef = .pointer (some ⟨b, off, none⟩)) (e2 : tmps.getD j undef = u) (hc : w.rangeAt b off cs)
    (hu : P.underlying t = some d) (hd : d.isRow = true) (hi : (P.info? t).map (·.size) = some cs.length) : (results fn tmps).run P w = .ok (.tuple #[u, .agg cs.toArray]) w := by
  have h := run_loadVar_mid w b off t cs d hc hu hd hi
  have e' : tmps[k]?.getD undef = .pointer (some ⟨b, off, none⟩) := by simpa using e
  have e2' : tmps[j]?.getD undef = u := by simpa using e2
  simp [results, hfn, e', e2', asAddr, h]
theorem own_ge {w : World} {base e size g n c : Nat} {xs : List Value} (h : w.ownsRow base e size (.slice (some ⟨g, 0, none⟩) n c) n xs) : base ≤ g := (h.lt g rfl).1
theorem own_blk {w : World} {base e size g n c : Nat} {xs : List Value} (h : w.ownsRow base e size (.slice (some ⟨g, 0, none⟩) n c) n xs) : ∃ cs, Blk w g cs e := by
  rcases h.2 with ⟨h2, _⟩ | ⟨g', cap, cur, hv, hg, hh, _⟩
  · cases h2
  · simp only [Value.slice.injEq, Option.some.injEq, Addr.mk.injEq] at hv
    obtain ⟨⟨rfl, _⟩, _⟩ := hv
    exact ⟨cur.toList, by unfold Blk; simpa using hh⟩
theorem own_blk_ne {w : World} {base e size g n c b : Nat} {t : TypeId} {xs cs : List Value} (k : Blk w b cs t) (h : w.ownsRow base e size (.slice (some ⟨g, 0, none⟩) n c) n xs) (hne : t ≠ e) : b ≠ g := by
  rintro rfl
  obtain ⟨cs', k'⟩ := own_blk h
  have h1 : w.heap[b]? = some (.cells cs.toArray t (0, 0)) := k
  rw [show w.heap[b]? = some (.cells cs'.toArray e (0, 0)) from k'] at h1
  simp only [Option.some.injEq, Obj.cells.injEq] at h1
  exact hne h1.2.1.symm
theorem Only.of_updRow {T : List TypeId} {w W : World} {base e size g n c : Nat} {xs : List Value} (u : Upd w g W) (h : w.ownsRow base e size (.slice (some ⟨g, 0, none⟩) n c) n xs) (hT : T.contains e = true) : Only T w W := by
  obtain ⟨cs, k⟩ := own_blk h
  exact Only.of_upd u k hT
theorem Upd.ownRow {w W : World} {base base2 e e2 size size2 g n c n2 : Nat} {v : Value} {xs ys : List Value} (u : Upd w g W) (h : w.ownsRow base2 e2 size2 v n2 ys) (o : w.ownsRow base e size (.slice (some ⟨g, 0, none⟩) n c) n xs) (hne : e2 ≠ e) : W.ownsRow base2 e2 size2 v n2 ys := by
  obtain ⟨cs, k⟩ := own_blk o
  exact u.own2 h k hne
end Go.Proofs.YtolblnjohaooaaaGreatDoor
namespace Go.Proofs.YtolblnjohaooaaaGreatDoor
open Go.RowKit Go.Extern.Stop Go.Stop Go.Extern
set_option linter.unusedVariables false
attribute [local irreducible] wpList wpAnyH Code.wp Oper.wp Go

theorem op_strBytes {P : Program} {a : Act} {w : World} {K : Act → World → Prop} {Q : Exit → Act → World → Prop} {o : Oper} {src dst e : TypeId} {x : Operand} (l : List UInt8) (ho : o.op = .convert src dst x) (hx : a.eval x = .string ⟨l.toArray⟩)
    (hs : P.underlying src = some .string) (hd : P.underlying dst = some (.slice e)) (he : P.underlying e = some (.int .u8)) (hl : l.length ≤ 1000000)
    (k : ∀ b c W, Below w.heap.size w W → Bys W (.slice (some ⟨b, 0, none⟩) l.length c) l → K (a.put o.dst (.slice (some ⟨b, 0, none⟩) l.length c)) W) : o.wp P a w K Q := by
  have hr := run_bytes_of_string (P := P) w src dst e ⟨l.toArray⟩ hs hd he
  have hsz : (⟨l.toArray⟩ : ByteArray).size = l.length := by simp [ByteArray.size]
  rw [hsz] at hr
  obtain ⟨W1, hW1⟩ : ∃ W1, W1 = w.drew.alloc (.cells (bytesRow ⟨l.toArray⟩ (grownCap w l.length 0 e)) e ((bytesRow ⟨l.toArray⟩ (grownCap w l.length 0 e)).size, (bytesRow ⟨l.toArray⟩ (grownCap w l.length 0 e)).size + 1)) := ⟨_, rfl⟩
  rw [← hW1] at hr
  have h2 : (execOp a.eval o).run P w = .ok (.value (.slice (some ⟨w.heap.size, 0, none⟩) l.length (grownCap w l.length 0 e))) W1 := by
    simp only [execOp, ho, hx, Sem.run_bind, hr]; rfl
  refine op_val h2 (k _ _ _ (by rw [hW1]; exact (below_drew w).trans (show Below w.drew.heap.size w.drew _ from Bl.box w.drew _)) (.inr ⟨w.heap.size, 0, _, rfl, grownCap_ge w l.length 0 e, grownCap_le_maxLen w l.length 0 e (by unfold maxLen; omega), fun j y hj => ?_⟩))
  have hjl : j < l.length := by have := (List.getElem?_eq_some_iff.1 hj).1; simpa using this
  have hb := bytesRow_at ⟨l.toArray⟩ (grownCap w l.length 0 e) j (by simpa using hjl)
  have hy : y = .int .u8 ((l.toArray[j]'(by simpa using hjl)).toNat : Int) := by
    rw [List.getElem?_map, List.getElem?_eq_getElem hjl] at hj
    simp only [Option.map_some, Option.some.injEq] at hj
    rw [← hj]; rfl
  have hh : W1.heap[w.heap.size]? = some (.cells (bytesRow ⟨l.toArray⟩ (grownCap w l.length 0 e)) e ((bytesRow ⟨l.toArray⟩ (grownCap w l.length 0 e)).size, (bytesRow ⟨l.toArray⟩ (grownCap w l.length 0 e)).size + 1)) := by rw [hW1]; exact heap_alloc_new w.drew _
  rw [hy]
  simp [World.cell?, hh, hb]
/-- a root's number, by the four bytes of a value -/
def rootE (s : List UInt8) : Int := if s.length = 4 then (if 1 ≤ rawN s 0 4 ∧ rawN s 0 4 ≤ 14399 then 0 else 2) else 7
def rootN (s : List UInt8) : Nat := if rootE s = 0 then rawN s 0 4 else 0
theorem loop_len (bs : ByteArray) (i : Nat) (r : List UInt8) (h : i ≤ bs.size) : (ByteArray.toList.loop bs i r).length = r.length + (bs.size - i) := by
  rw [ByteArray.toList.loop]
  split
  · rename_i h2
    rw [loop_len bs (i + 1) _ (by omega)]
    simp; omega
  · simp; omega
termination_by bs.size - i
theorem toList_len (bs : ByteArray) : bs.toList.length = bs.size := by
  unfold ByteArray.toList; rw [loop_len _ _ _ (Nat.zero_le _)]; simp
theorem four_ne (n : Int) : ((⟨(leB n 4).toArray⟩ : ByteArray).toList == (⟨#[]⟩ : ByteArray).toList) = false := by
  cases hq : ((⟨(leB n 4).toArray⟩ : ByteArray).toList == (⟨#[]⟩ : ByteArray).toList) with
  | false => rfl
  | true =>
    have e := congrArg List.length (eq_of_beq hq)
    rw [toList_len, toList_len] at e
    simp [ByteArray.size, leB_len] at e
set_option maxRecDepth 100000 in
set_option maxHeartbeats 1000000 in
theorem value_rootR (w : World) :
    Calls Tryz.prog 94 #[] w (RetS (fun w' r => ∃ b, r = .slice (some ⟨b, 0, none⟩) 1 1 ∧ w.heap.size ≤ b ∧ Blk w' b [.int .i64 4, .int .i64 1, .int .i64 14399] 202) w) := by
 refine zin 3 Tryz.func94 ?_
 refine xbs 8 1 [.int .i64 4, .int .i64 1, .int .i64 14399] 202 fun b1 W1 n1 => ?_
 have g1 := n1.ge (Below.refl w.heap.size _)
 exact xe 4 (.slice (some ⟨b1, 0, none⟩) 1 1) ⟨_, rfl, n1.below, _, rfl, g1, n1.blk⟩
set_option maxRecDepth 100000 in
set_option maxHeartbeats 1000000 in
theorem value_putR (gl : Nat) (an : Option Addr) (cn : Nat) (n : Int) (w : World) (hl : Blk w gl [.int .i64 4, .int .i64 1, .int .i64 14399] 202) (hn : Sl w (.slice an 1 cn) 1 [.int .i64 n]) (h1 : 1 ≤ n) (h2 : n ≤ 14399) :
    Calls Tryz.prog 108 #[.slice (some ⟨gl, 0, none⟩) 1 1, .slice an 1 cn] w (Ret (.string ⟨(leB n 4).toArray⟩) w) := by
 have hlo := h1
 have hhi := h2
 clear h2
 refine zin 51 Tryz.func108 ?_
 refine xu 19 2 ?_
 refine xlv 15 hl.rp ?_
 refine xa 0 [.int .i64 0, .int .i64 0, .int .i64 0] 202 fun b1 W1 n1 => ?_
 have d1_gl := n1.ne hl
 refine xsv 1 n1.blk [.int .i64 4, .int .i64 1, .int .i64 14399] fun W2 u2 k2 => ?_
 have g1 := n1.ge (Below.refl w.heap.size _)
 refine xd 4 .z ?_
 refine xx (.e [0, 1] 2) _ 1 0 1 (Ints.elem (l := [n]) hn (k := 0) (by simp)).1 ?_
 have hB := Bl.next (u2.below n1.below g1) (below_drew W2)
 refine xl (.e [] 3) ((Ints.elem (l := [n]) (hn.below hB) (k := 0) (by simp)).2) ?_
 have k2'1 := k2.below (below_drew W2)
 refine xb (.e [4] 5) 1 k2'1 ?_
 refine xgk (.b [6, 7]) [23, 24] (show (decide (n < (1 : Int)) : Bool) = false from decide_eq_false (by omega)) ?_
 refine xx (.e [8, 9] 10) _ 1 0 1 (Ints.elem (l := [n]) hn (k := 0) (by simp)).1 ?_
 refine xl (.e [] 11) ((Ints.elem (l := [n]) (hn.below hB) (k := 0) (by simp)).2) ?_
 refine xb (.e [12] 13) 2 k2'1 ?_
 refine xk (.r [14, 15] 2) (show (decide (n > (14399 : Int)) : Bool) = false from decide_eq_false (by omega)) ?_
 refine xd 3 .z ?_
 have k2'2 := k2'1.below (below_drew W2.drew)
 refine xb (.e [0] 1) 0 k2'2 ?_
 refine xx (.e [2, 3] 4) _ 1 0 1 (Ints.elem (l := [n]) hn (k := 0) (by simp)).1 ?_
 have hB'1 := Bl.next hB (below_drew W2.drew)
 refine xl (.e [] 5) ((Ints.elem (l := [n]) (hn.below hB'1) (k := 0) (by simp)).2) ?_
 refine xbs (.o [6] 7) 1 [.int .i64 4, .int .i64 n] 92 fun b4 W4 n4 => ?_
 have g4 := n4.ge hB'1
 refine yc (.o [] 8) (args := #[.slice (some ⟨b4, 0, none⟩) 1 1]) .z (Pack_4 b4 n (by omega) (by omega) _ n4.blk) ?_
 rintro _ W5 ⟨_, rfl, hb5, p2, c2, rfl, h2⟩
 have hs5 := (Bl.next hB'1 n4.below).size
 refine ⟨hb5, ?_⟩
 have o6 := World.ownsRow_nil W5 w.heap.size 5 1
 have h2'1 := own_mono h2 hs5
 have hB'2 := Bl.next (Bl.next hB'1 n4.below) hb5
 refine xbi (.r [9, 10, 11, 12, 13] 5) fun _ _ _ _ zJ zQ zo zx zy zK => op_app (m := 4) (news := (leB n 4).map bv) (.int .u8 0) 1 1 (4) ((leB n 4).map bv) zo Tryz.underlying22 (by kernel_rfl) rfl (by decide) zx o6 zy (own_sl h2'1) (by simp [leB_len]) (bv_one _) (by unfold maxLen; omega) (by omega) hB'2.size (by rfl) (by simp) fun p7 c7 W7 o7 hg7 hb7 => ?_
 refine zK _ _ ?_
 refine xcv0 24 (fun _ _ _ zo zx => run_bstr zo zx (bys_of (own_sl o7) (leB_len _ _)) (leB_len _ _) Tryz.underlying22 Tryz.underlying5 Tryz.underlying9) ?_
 have hB'3 := hB'2.trans hb7
 exact xe 4 (.string ⟨(leB n 4).toArray⟩) ⟨rfl, hB'3⟩
set_option maxRecDepth 100000 in
set_option maxHeartbeats 1000000 in
theorem value_putX (gl : Nat) (an : Option Addr) (cn : Nat) (n : Int) (w : World) (hl : Blk w gl [.int .i64 4, .int .i64 1, .int .i64 14399] 202) (hn : Sl w (.slice an 1 cn) 1 [.int .i64 n]) (h : ¬ (1 ≤ n ∧ n ≤ 14399)) :
    Calls Tryz.prog 108 #[.slice (some ⟨gl, 0, none⟩) 1 1, .slice an 1 cn] w (Ret (.string ⟨#[]⟩) w) := by
 refine zin 51 Tryz.func108 ?_
 refine xu 19 2 ?_
 refine xlv 15 hl.rp ?_
 refine xa 0 [.int .i64 0, .int .i64 0, .int .i64 0] 202 fun b1 W1 n1 => ?_
 have d1_gl := n1.ne hl
 refine xsv 1 n1.blk [.int .i64 4, .int .i64 1, .int .i64 14399] fun W2 u2 k2 => ?_
 have g1 := n1.ge (Below.refl w.heap.size _)
 refine xd 4 .z ?_
 refine xx (.e [0, 1] 2) _ 1 0 1 (Ints.elem (l := [n]) hn (k := 0) (by simp)).1 ?_
 have hB := Bl.next (u2.below n1.below g1) (below_drew W2)
 refine xl (.e [] 3) ((Ints.elem (l := [n]) (hn.below hB) (k := 0) (by simp)).2) ?_
 have k2'1 := k2.below (below_drew W2)
 refine xb (.e [4] 5) 1 k2'1 ?_
 refine xg (.b [6, 7]) [23, 24] (decide (n < (1 : Int))) (fun hc3 => ?_) (fun hc3 => ?_)
 · have hc3 := of_decide_eq_true hc3
   exact xe (.r [8, 9, 10, 11, 12, 13, 14, 15] 15) (.string ⟨#[]⟩) ⟨rfl, hB⟩
 have hc3 := of_decide_eq_false hc3
 refine xx (.e [8, 9] 10) _ 1 0 1 (Ints.elem (l := [n]) hn (k := 0) (by simp)).1 ?_
 refine xl (.e [] 11) ((Ints.elem (l := [n]) (hn.below hB) (k := 0) (by simp)).2) ?_
 refine xb (.e [12] 13) 2 k2'1 ?_
 refine xk (.r [14, 15] 2) (show (decide (n > (14399 : Int)) : Bool) = true from decide_eq_true (by omega)) ?_
 exact xe 12 (.string ⟨#[]⟩) ⟨rfl, hB⟩
set_option maxRecDepth 100000 in
set_option maxHeartbeats 1000000 in
theorem value_read_len (gl : Nat) (s : List UInt8) (w : World) (hl : Blk w gl [.int .i64 4, .int .i64 1, .int .i64 14399] 202) (hs : s.length ≤ 1000) (h4 : s.length ≠ 4) :
    Calls Tryz.prog 93 #[.slice (some ⟨gl, 0, none⟩) 1 1, .string ⟨s.toArray⟩] w (RetS (fun w' r => ∃ p c, r = .tuple #[.slice p 1 c, .int .i64 7] ∧ w'.ownsRow w.heap.size 3 1 (.slice p 1 c) 1 [.int .i64 0]) w) := by
 refine zin 54 Tryz.func93 ?_
 refine xu 25 2 ?_
 refine xlv 14 hl.rp ?_
 refine xa 0 [.int .i64 0, .int .i64 0, .int .i64 0] 202 fun b1 W1 n1 => ?_
 have d1_gl := n1.ne hl
 refine xsv 0 n1.blk [.int .i64 4, .int .i64 1, .int .i64 14399] fun W2 u2 k2 => ?_
 have g1 := n1.ge (Below.refl w.heap.size _)
 refine xb 6 0 k2 ?_
 refine xbs 0 1 [.int .i64 4] 3 fun b3 W3 n3 => ?_
 have o4 := World.ownsRow_nil W3 w.heap.size 3 1
 have hB := Bl.next (u2.below n1.below g1) n3.below
 refine xbi 0 fun _ _ _ _ zJ zQ zo zx zy zK => op_app (m := 1) (news := [.int .i64 4]) (.int .i64 0) 1 8 (1) ([Value.int .i64 4]) zo Tryz.underlying26 (by kernel_rfl) rfl (by decide) zx o4 zy (n3.blk.sl 1 1 (by decide) (by decide)) rfl (by simp [Value.oneCell']) (by unfold maxLen; omega) (by omega) hB.size (by rfl) (by rfl) fun p5 c5 W5 o5 hg5 hb5 => ?_
 refine zK _ _ ?_
 have k2'1 := (k2.below n3.below).grown hg5 o4 (by decide)
 refine xb 6 0 k2'1 ?_
 refine xk 31 (show (((↑s.length : Int) != (4 : Int)) : Bool) = true from bne_iff_ne.2 (by omega)) ?_
 refine xmk 4 fun _ _ _ _ zJ zQ zo zx zy zK => op_make 1 (.int .i64 0) 1 8 [Value.int .i64 0] zo zx zy Tryz.underlying26 (by kernel_rfl) rfl (by omega) (by omega) (rfl) fun b6 W6 n6 => ?_
 have hB'1 := hB.trans hb5
 have g6 := n6.ge hB'1
 have r6_o5 := own_ne o5 n6
 refine zK _ _ ?_
 have hB'2 := Bl.next hB'1 n6.below
 have o6 := own_of_blk (size := 1) (n := 1) n6.blk g6 (rfl) (by unfold maxLen; omega)
 exact xe 6 (.tuple #[.slice (some ⟨b6, 0, none⟩) 1 1, .int .i64 7]) ⟨_, rfl, hB'2, _, _, rfl, o6⟩
set_option maxRecDepth 100000 in
set_option maxHeartbeats 1000000 in
theorem value_read_ok (gl : Nat) (s : List UInt8) (w : World) (hl : Blk w gl [.int .i64 4, .int .i64 1, .int .i64 14399] 202) (hs : s.length ≤ 1000) (h4 : s.length = 4) (h1 : 1 ≤ rawN s 0 4) (h2 : rawN s 0 4 ≤ 14399) :
    Calls Tryz.prog 93 #[.slice (some ⟨gl, 0, none⟩) 1 1, .string ⟨s.toArray⟩] w (RetS (fun w' r => ∃ p c, r = .tuple #[.slice p 1 c, .int .i64 0] ∧ w'.ownsRow w.heap.size 3 1 (.slice p 1 c) 1 [.int .i64 (↑(rawN s 0 4) : Int)]) w) := by
 refine zin 54 Tryz.func93 ?_
 refine xu 25 2 ?_
 refine xlv 14 hl.rp ?_
 refine xa 0 [.int .i64 0, .int .i64 0, .int .i64 0] 202 fun b1 W1 n1 => ?_
 have d1_gl := n1.ne hl
 refine xsv 0 n1.blk [.int .i64 4, .int .i64 1, .int .i64 14399] fun W2 u2 k2 => ?_
 have g1 := n1.ge (Below.refl w.heap.size _)
 refine xb 6 0 k2 ?_
 refine xbs 0 1 [.int .i64 4] 3 fun b3 W3 n3 => ?_
 have o4 := World.ownsRow_nil W3 w.heap.size 3 1
 have hB := Bl.next (u2.below n1.below g1) n3.below
 refine xbi 0 fun _ _ _ _ zJ zQ zo zx zy zK => op_app (m := 1) (news := [.int .i64 4]) (.int .i64 0) 1 8 (1) ([Value.int .i64 4]) zo Tryz.underlying26 (by kernel_rfl) rfl (by decide) zx o4 zy (n3.blk.sl 1 1 (by decide) (by decide)) rfl (by simp [Value.oneCell']) (by unfold maxLen; omega) (by omega) hB.size (by rfl) (by rfl) fun p5 c5 W5 o5 hg5 hb5 => ?_
 refine zK _ _ ?_
 have k2'1 := (k2.below n3.below).grown hg5 o4 (by decide)
 refine xb 6 0 k2'1 ?_
 refine xk 31 (show (((↑s.length : Int) != (4 : Int)) : Bool) = false from by rw [h4]; rfl) ?_
 refine xcf 5 fun _ _ _ zJ zQ zo zx zK => op_strBytes s zo zx Tryz.underlying9 Tryz.underlying22 Tryz.underlying5 (by omega) ?_
 intro bz cz W6 hb6 hbz
 refine zK _ _ ?_
 have o5'1 := own_below o5 hb6
 refine xc 1 (args := #[.slice (some ⟨bz, 0, none⟩) s.length cz, .slice p5 1 c5]) (Unpack_okN (some ⟨bz, 0, none⟩) s.length cz s p5 c5 1 [4] [rawN s 0 4] _ rfl rfl rfl (by decide) (by simp; omega) (by omega) (by decide) hbz (own_sl o5'1) (fun i hi => by obtain rfl : i = 0 := (by simpa using hi); have := rawN_lt4 s 0 4 (by decide); simp [unpL]; omega)) ?_
 rintro _ W7 ⟨_, rfl, hb7, p5, c5, rfl, h5⟩
 have hs7 := (Bl.next (hB.trans hb5) hb6).size
 have hl'1 := ((((u2.blk (hl.below n1.below) (Ne.symm (Ne.symm d1_gl))).below n3.below).grown hg5 o4 (by decide)).below hb6).below hb7
 have h5'1 := own_mono h5 hs7
 refine xr 15 (args := #[.slice (some ⟨gl, 0, none⟩) 1 1, .slice p5 1 c5]) (value_putR gl p5 c5 (↑(rawN s 0 4) : Int) _ hl'1 (own_sl h5'1) (by omega) (by omega)) fun W8 hb8 => ?_
 refine xk 4 (show (((⟨(leB (↑(rawN s 0 4) : Int) 4).toArray⟩ : ByteArray).toList == (⟨#[]⟩ : ByteArray).toList) : Bool) = false from four_ne _) ?_
 have hB'1 := Bl.next (Bl.next (Bl.next (hB.trans hb5) hb6) hb7) hb8
 have h5'2 := own_below h5'1 hb8
 exact xe 10 (.tuple #[.slice p5 1 c5, .int .i64 0]) ⟨_, rfl, hB'1, _, _, rfl, h5'2⟩
set_option maxRecDepth 100000 in
set_option maxHeartbeats 1000000 in
theorem value_read_bad (gl : Nat) (s : List UInt8) (w : World) (hl : Blk w gl [.int .i64 4, .int .i64 1, .int .i64 14399] 202) (hs : s.length ≤ 1000) (h4 : s.length = 4) (h1 : ¬ (1 ≤ (rawN s 0 4 : Int) ∧ (rawN s 0 4 : Int) ≤ 14399)) :
    Calls Tryz.prog 93 #[.slice (some ⟨gl, 0, none⟩) 1 1, .string ⟨s.toArray⟩] w (RetS (fun w' r => ∃ p c, r = .tuple #[.slice p 1 c, .int .i64 2] ∧ w'.ownsRow w.heap.size 3 1 (.slice p 1 c) 1 [.int .i64 0]) w) := by
 refine zin 54 Tryz.func93 ?_
 refine xu 25 2 ?_
 refine xlv 14 hl.rp ?_
 refine xa 0 [.int .i64 0, .int .i64 0, .int .i64 0] 202 fun b1 W1 n1 => ?_
 have d1_gl := n1.ne hl
 refine xsv 0 n1.blk [.int .i64 4, .int .i64 1, .int .i64 14399] fun W2 u2 k2 => ?_
 have g1 := n1.ge (Below.refl w.heap.size _)
 refine xb 6 0 k2 ?_
 refine xbs 0 1 [.int .i64 4] 3 fun b3 W3 n3 => ?_
 have o4 := World.ownsRow_nil W3 w.heap.size 3 1
 have hB := Bl.next (u2.below n1.below g1) n3.below
 refine xbi 0 fun _ _ _ _ zJ zQ zo zx zy zK => op_app (m := 1) (news := [.int .i64 4]) (.int .i64 0) 1 8 (1) ([Value.int .i64 4]) zo Tryz.underlying26 (by kernel_rfl) rfl (by decide) zx o4 zy (n3.blk.sl 1 1 (by decide) (by decide)) rfl (by simp [Value.oneCell']) (by unfold maxLen; omega) (by omega) hB.size (by rfl) (by rfl) fun p5 c5 W5 o5 hg5 hb5 => ?_
 refine zK _ _ ?_
 have k2'1 := (k2.below n3.below).grown hg5 o4 (by decide)
 refine xb 6 0 k2'1 ?_
 refine xk 31 (show (((↑s.length : Int) != (4 : Int)) : Bool) = false from by rw [h4]; rfl) ?_
 refine xcf 5 fun _ _ _ zJ zQ zo zx zK => op_strBytes s zo zx Tryz.underlying9 Tryz.underlying22 Tryz.underlying5 (by omega) ?_
 intro bz cz W6 hb6 hbz
 refine zK _ _ ?_
 have o5'1 := own_below o5 hb6
 refine xc 1 (args := #[.slice (some ⟨bz, 0, none⟩) s.length cz, .slice p5 1 c5]) (Unpack_okN (some ⟨bz, 0, none⟩) s.length cz s p5 c5 1 [4] [rawN s 0 4] _ rfl rfl rfl (by decide) (by simp; omega) (by omega) (by decide) hbz (own_sl o5'1) (fun i hi => by obtain rfl : i = 0 := (by simpa using hi); have := rawN_lt4 s 0 4 (by decide); simp [unpL]; omega)) ?_
 rintro _ W7 ⟨_, rfl, hb7, p5, c5, rfl, h5⟩
 have hs7 := (Bl.next (hB.trans hb5) hb6).size
 have hl'1 := ((((u2.blk (hl.below n1.below) (Ne.symm (Ne.symm d1_gl))).below n3.below).grown hg5 o4 (by decide)).below hb6).below hb7
 have h5'1 := own_mono h5 hs7
 refine xr 15 (args := #[.slice (some ⟨gl, 0, none⟩) 1 1, .slice p5 1 c5]) (value_putX gl p5 c5 (↑(rawN s 0 4) : Int) _ hl'1 (own_sl h5'1) (by omega)) fun W8 hb8 => ?_
 refine xmk 9 fun _ _ _ _ zJ zQ zo zx zy zK => op_make 1 (.int .i64 0) 1 8 [Value.int .i64 0] zo zx zy Tryz.underlying26 (by kernel_rfl) rfl (by omega) (by omega) (rfl) fun b9 W9 n9 => ?_
 have hB'1 := Bl.next (Bl.next (Bl.next (hB.trans hb5) hb6) hb7) hb8
 have g9 := n9.ge hB'1
 have o5'2 := own_below (own_below o5'1 hb7) hb8
 have r9_o5 := own_ne o5'2 n9
 have h5'2 := own_below h5'1 hb8
 have r9_h5 := own_ne h5'2 n9
 refine zK _ _ ?_
 have hB'2 := Bl.next hB'1 n9.below
 have o9 := own_of_blk (size := 1) (n := 1) n9.blk g9 (rfl) (by unfold maxLen; omega)
 exact xe 6 (.tuple #[.slice (some ⟨b9, 0, none⟩) 1 1, .int .i64 2]) ⟨_, rfl, hB'2, _, _, rfl, o9⟩
theorem value_readR (gl : Nat) (s : List UInt8) (w : World) (hl : Blk w gl [.int .i64 4, .int .i64 1, .int .i64 14399] 202) (hs : s.length ≤ 1000) : Calls Tryz.prog 93 #[.slice (some ⟨gl, 0, none⟩) 1 1, .string ⟨s.toArray⟩] w (RetS (fun w' r => ∃ p c, r = .tuple #[.slice p 1 c, .int .i64 (rootE s)] ∧ w'.ownsRow w.heap.size 3 1 (.slice p 1 c) 1 [.int .i64 (rootN s : Int)]) w) := by
  by_cases h4 : s.length = 4
  · by_cases h1 : 1 ≤ rawN s 0 4 ∧ rawN s 0 4 ≤ 14399
    · have he : rootE s = 0 := by unfold rootE; rw [if_pos h4, if_pos h1]
      rw [he, rootN, if_pos he]
      exact value_read_ok gl s w hl hs h4 h1.1 h1.2
    · have he : rootE s = 2 := by unfold rootE; rw [if_pos h4, if_neg h1]
      rw [he, rootN, if_neg (by rw [he]; decide)]
      exact value_read_bad gl s w hl hs h4 (by omega)
  · have he : rootE s = 7 := by unfold rootE; rw [if_neg h4]
    rw [he, rootN, if_neg (by rw [he]; decide)]
    exact value_read_len gl s w hl hs h4
set_option maxRecDepth 100000 in
set_option maxHeartbeats 1000000 in
theorem value_ReadRoot (s : List UInt8) (w : World) (hs : s.length ≤ 1000) :
    Calls Tryz.prog 71 #[.string ⟨s.toArray⟩] w (Ret (.tuple #[.int .i64 (rootN s : Int), .int .i64 (rootE s)]) w) := by
 refine zin 16 Tryz.func71 ?_
 refine xc 8 (args := #[]) (value_rootR _) ?_
 rintro _ W1 ⟨_, rfl, hb1, gl, rfl, gg, kl⟩
 refine xc 1 (args := #[.slice (some ⟨gl, 0, none⟩) 1 1, .string ⟨s.toArray⟩]) (value_readR gl s _ kl hs) ?_
 rintro _ W2 ⟨_, rfl, hb2, p5, c5, rfl, h5⟩
 have h5'1 := own_mono h5 hb1.size
 refine xx 10 _ 1 0 1 (Ints.elem (l := [(rootN s : Int)]) (own_sl h5'1) (k := 0) (by simp)).1 ?_
 refine xl 0 ((Ints.elem (l := [(rootN s : Int)]) (own_sl h5'1) (k := 0) (by simp)).2) ?_
 have hB := Bl.next hb1 hb2
 exact xe 6 (.tuple #[.int .i64 (↑(rootN s) : Int), .int .i64 (rootE s)]) ⟨rfl, hB⟩
end Go.Proofs.YtolblnjohaooaaaGreatDoor
namespace Go.Proofs.YtolblnjohaooaaaGreatDoor
open Go.RowKit Go.Extern.Stop Go.Stop Go.Extern
set_option linter.unusedVariables false
/-- what a walker has found so far; a fault: the blocks of its way, and its number -/
structure WS where
  es : List Ent
  bs : List Int
  deep : Int
  looked : Nat
  fs : List (List Int × Int)
  dry : Bool
def noteW (way bs : List Int) (c : Int) (s : WS) : WS := { s with fs := s.fs ++ [(way ++ bs, c)] }
/-- the child of the inner node no, its value val, its span p; V: the visit one deeper -/
def childW (V : List Int → Int → Int → Int → WS → WS) (way : List Int) (no : Int) (val : List UInt8) (p : Int × Int) (s : WS) : WS :=
  if rootE val = 0 then V (way ++ [no]) (rootN val : Int) p.1 p.2 s else noteW way [no] (rootE val) s
def nodK (l : List UInt8) (no : Int) : List Int := keysI (inB l no) (nodC (inB l no))
def nodV (l : List UInt8) (no : Int) : List (List UInt8) := valsL (inB l no) (nodC (inB l no))
/-- child number i, unless the fuel is used up -/
def roundW (V : List Int → Int → Int → Int → WS → WS) (l : List UInt8) (way : List Int) (no hi : Int) (s : WS) (i : Nat) : WS :=
  if s.dry = true then s else childW V way no ((nodV l no).getD i []) (partAt hi (nodK l no) i) s
def loopW (V : List Int → Int → Int → Int → WS → WS) (l : List UInt8) (way : List Int) (no hi : Int) (k : Nat) (s : WS) : WS := (List.range k).foldl (roundW V l way no hi) s
/-- a visit at most d deep -/
def visitF (l : List UInt8) (tree fuel : Int) : Nat → List Int → Int → Int → Int → WS → WS
  | 0, _, _, _, _, s => s
  | d + 1, way, no, lo, hi, s =>
    if fuel ≤ s.looked then { noteW way [no] 12 s with dry := true }
    else if lookE l way no tree lo hi s.deep ≠ 0 then noteW way [no] (lookE l way no tree lo hi s.deep) { s with looked := s.looked + 1 }
    else if nodL (inB l no) = true then { s with looked := s.looked + 1, bs := s.bs ++ [no], deep := ((way.length + 1 : Nat) : Int), es := s.es ++ leafL (nodK l no) (nodV l no) no (nodC (inB l no)) }
    else loopW (visitF l tree fuel d) l way no hi (nodC (inB l no)) { s with looked := s.looked + 1, bs := s.bs ++ [no] }
theorem loopW_succ (V : List Int → Int → Int → Int → WS → WS) (l : List UInt8) (way : List Int) (no hi : Int) (k : Nat) (s : WS) : loopW V l way no hi (k + 1) s = roundW V l way no hi (loopW V l way no hi k s) k := by
  simp [loopW, List.range_succ]
theorem roundW_dry (V : List Int → Int → Int → Int → WS → WS) (l : List UInt8) (way : List Int) (no hi : Int) (s : WS) (i : Nat) (h : s.dry = true) : roundW V l way no hi s i = s := by simp [roundW, h]
/-- once the fuel is used up nothing comes -/
theorem loopW_dry (V : List Int → Int → Int → Int → WS → WS) (l : List UInt8) (way : List Int) (no hi : Int) (s : WS) {k n : Nat} (hk : k ≤ n) (h : (loopW V l way no hi k s).dry = true) : loopW V l way no hi n s = loopW V l way no hi k s := by
  induction n with
  | zero => obtain rfl : k = 0 := by omega
            rfl
  | succ n ih =>
    rcases Nat.lt_or_ge n k with q | q
    · obtain rfl : k = n + 1 := by omega
      rfl
    · rw [loopW_succ, ih q, roundW_dry _ _ _ _ _ _ _ h]
/-- the faults lie in memory -/
def FltsW (w : World) : List (List Int × Int) → List Value → Prop
  | [], [] => True
  | f :: r, v :: q => ErrV w (f.1.map some) (some f.2) v ∧ FltsW w r q
  | _, _ => False
theorem FltsW.kept {w W : World} (hb : ∀ blk cs, Blk w blk cs 99 → Blk W blk cs 99) : ∀ {fs : List (List Int × Int)} {vs : List Value}, FltsW w fs vs → FltsW W fs vs
  | [], [], h => h
  | _ :: _, _ :: _, h => ⟨h.1.kept hb, FltsW.kept hb h.2⟩
  | [], _ :: _, h => h.elim
  | _ :: _, [], h => h.elim
theorem FltsW.only {T : List TypeId} {w W : World} {fs : List (List Int × Int)} {vs : List Value} (h : FltsW w fs vs) (k : Only T w W) (hT : T.contains 99 = false) : FltsW W fs vs := h.kept fun _ _ q => q.only k hT
theorem FltsW.below {w W : World} {fs : List (List Int × Int)} {vs : List Value} (h : FltsW w fs vs) (hb : Below w.heap.size w W) : FltsW W fs vs := h.kept fun _ _ q => q.below hb
theorem FltsW.snoc {w : World} {f : List Int × Int} {v : Value} (hv : ErrV w (f.1.map some) (some f.2) v) : ∀ {fs : List (List Int × Int)} {vs : List Value}, FltsW w fs vs → FltsW w (fs ++ [f]) (vs ++ [v])
  | [], [], _ => ⟨hv, trivial⟩
  | _ :: _, _ :: _, h => ⟨h.1, FltsW.snoc hv h.2⟩
  | [], _ :: _, h => h.elim
  | _ :: _, [], h => h.elim
/-- a walker's state in memory -/
structure WalkR (B bw Bi b : Nat) (pi : Option Addr) (ni ci : Nat) (l : List UInt8) (tree fuel : Int) (way : List Int) (s : WS) (pe pb pf pw : Option Addr) (ce cb cf cw : Nat) (fv : List Value) (w : World) : Prop where
  blk : Blk w bw [.slice pe s.es.length ce, .slice pb s.bs.length cb, .int .i64 s.deep, .int .i64 (s.looked : Int), .slice pf s.fs.length cf, .pointer (some ⟨b, 0, none⟩), .int .i64 tree, .int .i64 fuel, .slice pw way.length cw, .bool s.dry] 64
  ents : w.ownsRow B 80 3 (.slice pe s.es.length ce) s.es.length (s.es.flatMap entC)
  blks : w.ownsRow B 3 1 (.slice pb s.bs.length cb) s.bs.length (s.bs.map (Value.int .i64))
  flts : w.ownsRow B 47 1 (.slice pf s.fs.length cf) s.fs.length fv
  fltv : FltsW w s.fs fv
  ways : w.ownsRow B 3 1 (.slice pw way.length cw) way.length (way.map (Value.int .i64))
  apart : Apart (.slice pb s.bs.length cb) (.slice pw way.length cw)
  img : ImgR Bi b pi ni ci l w
/-- what a visit does: the state s becomes the state t -/
def VisitP (B bw Bi b : Nat) (pi : Option Addr) (ni ci : Nat) (l : List UInt8) (tree fuel : Int) (way : List Int) (t : WS) (w : World) (e : Ending) (w' : World) : Prop :=
  ∃ u pe pb pf pw ce cb cf cw fv, e = .returned u ∧ Below B w w' ∧ Only [64, 80, 3, 47] w w' ∧ WalkR B bw Bi b pi ni ci l tree fuel way t pe pb pf pw ce cb cf cw fv w'
end Go.Proofs.YtolblnjohaooaaaGreatDoor
namespace Go.Proofs.YtolblnjohaooaaaGreatDoor
open Go.RowKit Go.Extern.Stop Go.Stop Go.Extern
set_option linter.unusedVariables false
attribute [local irreducible] wpList wpAnyH Code.wp Oper.wp Go

theorem own_some {w : World} {base e n c : Nat} {p : Option Addr} {xs : List Value} (k : w.ownsRow base e 1 (.slice p n c) n xs) (hn : 0 < n) : p.isSome = true ∧ n ≤ c := by
  rcases k.2 with ⟨h, _⟩ | ⟨g, cap, cur, hv, _, _, hc, _⟩
  · simp only [Value.slice.injEq] at h; omega
  · simp only [Value.slice.injEq] at hv
    obtain ⟨rfl, _, rfl⟩ := hv
    exact ⟨rfl, hc⟩
theorem way_cut {w : World} {base e c : Nat} {p : Option Addr} {way : List Int} {no : Int} (k : w.ownsRow base e 1 (.slice p (way ++ [no]).length c) (way ++ [no]).length ((way ++ [no]).map (Value.int .i64))) : w.ownsRow base e 1 (.slice p way.length c) way.length (way.map (Value.int .i64)) := by
  have h := own_cut (m := way.length) k (by simp) (own_some k (by simp)).1
  rwa [List.map_append, List.take_left' (by simp)] at h
theorem only_we {w w' : World} (h : Only [64, 47] w w') : Only [64, 80, 3, 47] w w' := h.mono fun t ht => by
  simp only [List.contains_cons, List.contains_nil, Bool.or_eq_false_iff] at ht ⊢
  exact ⟨ht.1, ht.2.2.2⟩
/-- what is asked of a visit d deep at most -/
def VisitC (B bw Bi b : Nat) (pi : Option Addr) (ni ci : Nat) (l : List UInt8) (tree fuel : Int) (d : Nat) : Prop :=
  ∀ (way : List Int) (no lo hi : Int) (s : WS) (pe pb pf pw : Option Addr) (ce cb cf cw : Nat) (fv : List Value) (w : World), way.length + d = 17 → B ≤ w.heap.size → s.dry = false → WalkR B bw Bi b pi ni ci l tree fuel way s pe pb pf pw ce cb cf cw fv w →
    (visitF l tree fuel d way no lo hi s).es.length ≤ 1000000 → (visitF l tree fuel d way no lo hi s).bs.length ≤ 1000000 → (visitF l tree fuel d way no lo hi s).fs.length ≤ 1000000 →
    Calls Tryz.prog 22 #[.pointer (some ⟨bw, 0, none⟩), .int .i64 no, .agg #[.int .i64 lo, .int .i64 hi]] w (VisitP B bw Bi b pi ni ci l tree fuel way (visitF l tree fuel d way no lo hi s) w)
set_option maxRecDepth 100000 in
set_option maxHeartbeats 4000000 in
theorem walker_child (B bw Bi b : Nat) (pi : Option Addr) (ni ci : Nat) (l : List UInt8) (tree fuel : Int) (d : Nat) (hV : VisitC B bw Bi b pi ni ci l tree fuel d) (way : List Int) (no lo hi : Int) (val : List UInt8) (s : WS) (pe pb pf pw : Option Addr) (ce cb cf cw : Nat) (fv : List Value) (w : World) (hBb : B ≤ bw) (hBw : B ≤ w.heap.size) (hwd : way.length + 1 + d = 17) (hdry : s.dry = false) (hvl : val.length ≤ 1000) (hR : WalkR B bw Bi b pi ni ci l tree fuel (way ++ [no]) s pe pb pf pw ce cb cf cw fv w) (he : (childW (visitF l tree fuel d) way no val (lo, hi) s).es.length ≤ 1000000) (hb_ : (childW (visitF l tree fuel d) way no val (lo, hi) s).bs.length ≤ 1000000) (hf : (childW (visitF l tree fuel d) way no val (lo, hi) s).fs.length ≤ 1000000) :
    Calls Tryz.prog 46 #[.pointer (some ⟨bw, 0, none⟩), .int .i64 no, .string ⟨val.toArray⟩, .agg #[.int .i64 lo, .int .i64 hi]] w (VisitP B bw Bi b pi ni ci l tree fuel (way ++ [no]) (childW (visitF l tree fuel d) way no val (lo, hi) s) w) := by
 obtain ⟨kW, hEn, hBl, hFl, hFv, hWy, hAp, hI⟩ := hR
 have hwc := (own_some hWy (by simp)).2
 have hwl : (way ++ [no]).length = way.length + 1 := by simp
 refine zin 44 Tryz.func46 ?_
 refine xa 2 [.int .i64 lo, .int .i64 hi] 67 fun b1 W1 n1 => ?_
 refine xr 5 (args := #[.string ⟨val.toArray⟩]) (value_ReadRoot val _ hvl) fun W2 hb2 => ?_
 refine xie 14 (rootE val) (0 : Int) (fun hc3 => ?_) (fun hc3 => ?_)
 · have k1 := n1.blk.below hb2
   refine xlv 4 k1.rp ?_
   have hch : childW (visitF l tree fuel d) way no val (lo, hi) s = visitF l tree fuel d (way ++ [no]) (rootN val : Int) lo hi s := by unfold childW; rw [if_pos (by assumption)]
   have hB := Bl.nextB (Bl.nextB (Below.refl B w) hBw n1.below) hBw hb2
   have kW'1 := (kW.below n1.below).below hb2
   have hEn'1 := own_below (own_below hEn n1.below) hb2
   have hBl'1 := own_below (own_below hBl n1.below) hb2
   have hFl'1 := own_below (own_below hFl n1.below) hb2
   have hFv'1 := (hFv.below n1.below).below hb2
   have hWy'1 := own_below (own_below hWy n1.below) hb2
   have hI'1 := (hI.below n1.below).below hb2
   refine xc 0 (args := #[.pointer (some ⟨bw, 0, none⟩), .int .i64 (↑(rootN val) : Int), .agg #[.int .i64 lo, .int .i64 hi]]) (hV (way ++ [no]) (rootN val : Int) lo hi s pe pb pf pw ce cb cf cw fv _ (by simp; omega) (Nat.le_trans hBw hB.size) hdry ⟨kW'1, hEn'1, hBl'1, hFl'1, hFv'1, hWy'1, hAp, hI'1⟩ (by have q := he; rw [hch] at q; exact q) (by have q := hb_; rw [hch] at q; exact q) (by have q := hf; rw [hch] at q; exact q)) ?_
   rintro _ W4 ⟨u4, pe2, pb2, pf2, pw2, ce2, cb2, cf2, cw2, fv2, rfl, hb4, hO4, hR2⟩
   have hB'1 := hB.trans hb4
   have hO := ((show Only [64, 80, 3, 47] w _ from (Only.of_below n1.below)).trans (Only.of_below hb2)).trans hO4
   refine xe 4 (.tuple #[]) ?_
   rw [hch]
   exact ⟨_, _, _, _, _, _, _, _, _, _, rfl, hB'1, hO, hR2⟩
 have kW'2 := (kW.below n1.below).below hb2
 refine xb 7 8 kW'2 ?_
 refine xwm 9 ((↑((way ++ [no]).length) : Int) - 1) (↑(((way ++ [no]).length) - 1) : Int) ?_
 refine xsH 0 (fun _ _ _ _ zo zx zy V => run_sliceH (k := (((way ++ [no]).length) - 1)) (b := pw) (n := (way ++ [no]).length) (c := cw) (i := (↑(((way ++ [no]).length) - 1) : Int)) (ki := .i64) zo zx zy rfl (by omega) Tryz.underlying26 (by kernel_rfl) V) ?_
 refine xs 2 kW'2 [.slice pe s.es.length ce, .slice pb s.bs.length cb, .int .i64 s.deep, .int .i64 (s.looked : Int), .slice pf s.fs.length cf, .pointer (some ⟨b, 0, none⟩), .int .i64 tree, .int .i64 fuel, .slice pw (((way ++ [no]).length) - 1) cw, .bool s.dry] fun W5 u5 k5 => ?_
 refine xc 8 (args := #[.int .i64 no, .iface 43 (.int .i64 (rootE val))]) (fault_At no (some (rootE val)) [] _ _ rfl) ?_
 rintro _ W6 ⟨r6, rfl, hb6, hv6⟩
 rw [atL_some] at hv6
 obtain ⟨t6, x6, rfl⟩ := hv6.iface
 have k5'1 := k5.below hb6
 have hch : childW (visitF l tree fuel d) way no val (lo, hi) s = noteW way [no] (rootE val) s := by unfold childW; rw [if_neg (by assumption)]
 rw [show (way ++ [no]).length - 1 = way.length by omega] at k5'1
 have hB := Bl.nextB (u5.below (Bl.nextB (Bl.nextB (Below.refl B w) hBw n1.below) hBw hb2) hBb) hBw hb6
 have hFl'2 := own_below (u5.own2 (own_below (own_below hFl n1.below) hb2) kW'2 (by decide)) hb6
 have hWy'2 := own_below (u5.own2 (own_below (own_below hWy n1.below) hb2) kW'2 (by decide)) hb6
 refine xc 0 (args := #[.pointer (some ⟨bw, 0, none⟩), .iface t6 (x6)]) (walker_note B bw _ _ _ _ _ _ _ _ pf _ cf fv pw cw way [no] (rootE val) _ _ _ hBb (Nat.le_trans hBw hB.size) k5'1 hFl'2 (way_cut hWy'2) hv6 (by omega) (by have := hf; rw [hch] at this; simp [noteW] at this; omega)) ?_
 rintro _ W7 ⟨u7, pf2, cf2, t2, x2, rfl, hb7, hO7, kN, hFl2, hv2⟩
 refine xs 7 kN [.slice pe s.es.length ce, .slice pb s.bs.length cb, .int .i64 s.deep, .int .i64 (s.looked : Int), .slice pf2 (s.fs.length + 1) cf2, .pointer (some ⟨b, 0, none⟩), .int .i64 tree, .int .i64 fuel, .slice pw ((way ++ [no]).length) cw, .bool s.dry] fun W8 u8 k8 => ?_
 have hB'2 := u8.below (hB.trans hb7) hBb
 have hO := (((((show Only [64, 80, 3, 47] w _ from (Only.of_below n1.below)).trans (Only.of_below hb2)).trans (Only.of_upd u5 kW'2 (by decide))).trans (Only.of_below hb6)).trans (only_we hO7)).trans (Only.of_upd u8 kN (by decide))
 have hEn'2 := u8.own2 (own_only (own_below (u5.own2 (own_below (own_below hEn n1.below) hb2) kW'2 (by decide)) hb6) hO7 (by decide)) kN (by decide)
 have hBl'2 := u8.own2 (own_only (own_below (u5.own2 (own_below (own_below hBl n1.below) hb2) kW'2 (by decide)) hb6) hO7 (by decide)) kN (by decide)
 have hFl2'1 := u8.own2 hFl2 kN (by decide)
 have hv2'1 := hv2.upd u8 kN (by decide)
 have hFv'2 := (((((hFv.below n1.below).below hb2).only (Only.of_upd (T := [64]) u5 kW'2 (by decide)) (by decide)).below hb6).only hO7 (by decide)).only (Only.of_upd (T := [64]) u8 kN (by decide)) (by decide)
 have hWy'3 := u8.own2 (own_only hWy'2 hO7 (by decide)) kN (by decide)
 have hI'2 := (((((hI.below n1.below).below hb2).only (Only.of_upd (T := [64]) u5 kW'2 (by decide)) (by decide)).below hb6).only hO7 (by decide)).only (Only.of_upd (T := [64]) u8 kN (by decide)) (by decide)
 refine xe 1 (.tuple #[]) ?_
 rw [hch]
 exact ⟨_, pe, pb, pf2, pw, ce, cb, cf2, cw, _, rfl, hB'2, hO, by simpa [noteW] using k8, hEn'2, hBl'2, by simpa [noteW] using hFl2'1, FltsW.snoc hv2'1 hFv'2, hWy'3, hAp, hI'2⟩
end Go.Proofs.YtolblnjohaooaaaGreatDoor
namespace Go.Proofs.YtolblnjohaooaaaGreatDoor
open Go.RowKit Go.Extern.Stop Go.Stop Go.Extern
set_option linter.unusedVariables false
def Grow (s t : WS) : Prop := s.es.length ≤ t.es.length ∧ s.bs.length ≤ t.bs.length ∧ s.fs.length ≤ t.fs.length
theorem Grow.refl (s : WS) : Grow s s := ⟨Nat.le_refl _, Nat.le_refl _, Nat.le_refl _⟩
theorem Grow.trans {s t u : WS} (h : Grow s t) (k : Grow t u) : Grow s u := ⟨Nat.le_trans h.1 k.1, Nat.le_trans h.2.1 k.2.1, Nat.le_trans h.2.2 k.2.2⟩
theorem noteW_grow (way bs : List Int) (c : Int) (s : WS) : Grow s (noteW way bs c s) := ⟨Nat.le_refl _, Nat.le_refl _, by simp [noteW]⟩
theorem childW_grow {V : List Int → Int → Int → Int → WS → WS} (hV : ∀ way no lo hi s, Grow s (V way no lo hi s)) (way : List Int) (no : Int) (val : List UInt8) (p : Int × Int) (s : WS) : Grow s (childW V way no val p s) := by
  unfold childW
  split
  · exact hV _ _ _ _ _
  · exact noteW_grow _ _ _ _
theorem roundW_grow {V : List Int → Int → Int → Int → WS → WS} (hV : ∀ way no lo hi s, Grow s (V way no lo hi s)) (l : List UInt8) (way : List Int) (no hi : Int) (s : WS) (i : Nat) : Grow s (roundW V l way no hi s i) := by
  unfold roundW
  split
  · exact Grow.refl _
  · exact childW_grow hV _ _ _ _ _
theorem loopW_grow {V : List Int → Int → Int → Int → WS → WS} (hV : ∀ way no lo hi s, Grow s (V way no lo hi s)) (l : List UInt8) (way : List Int) (no hi : Int) (s : WS) {k n : Nat} (hk : k ≤ n) : Grow (loopW V l way no hi k s) (loopW V l way no hi n s) := by
  induction n with
  | zero => obtain rfl : k = 0 := by omega
            exact Grow.refl _
  | succ n ih =>
    rcases Nat.lt_or_ge n k with q | q
    · obtain rfl : k = n + 1 := by omega
      exact Grow.refl _
    · rw [loopW_succ]
      exact (ih q).trans (roundW_grow hV _ _ _ _ _ _)
theorem loopW_zero (V : List Int → Int → Int → Int → WS → WS) (l : List UInt8) (way : List Int) (no hi : Int) (s : WS) : loopW V l way no hi 0 s = s := rfl
theorem visitF_grow (l : List UInt8) (tree fuel : Int) : ∀ (d : Nat) (way : List Int) (no lo hi : Int) (s : WS), Grow s (visitF l tree fuel d way no lo hi s)
  | 0, _, _, _, _, s => Grow.refl s
  | d + 1, way, no, lo, hi, s => by
    unfold visitF
    split
    · exact ⟨Nat.le_refl _, Nat.le_refl _, by simp [noteW]⟩
    · split
      · exact ⟨Nat.le_refl _, Nat.le_refl _, by simp [noteW]⟩
      · split
        · exact ⟨by simp, by simp, Nat.le_refl _⟩
        · refine Grow.trans ⟨?_, ?_, ?_⟩ (loopW_grow (visitF_grow l tree fuel d) l way no hi _ (Nat.zero_le _))
          · exact Nat.le_refl _
          · simp [loopW_zero]
          · exact Nat.le_refl _
/-- looked never falls -/
theorem visitF_looked (l : List UInt8) (tree fuel : Int) : ∀ (d : Nat) (way : List Int) (no lo hi : Int) (s : WS), s.looked ≤ (visitF l tree fuel d way no lo hi s).looked
  | 0, _, _, _, _, s => Nat.le_refl _
  | d + 1, way, no, lo, hi, s => by
    have hl : ∀ (k : Nat) (t : WS), t.looked ≤ (loopW (visitF l tree fuel d) l way no hi k t).looked := by
      intro k t
      induction k with
      | zero => exact Nat.le_refl _
      | succ k ih =>
        rw [loopW_succ]
        refine Nat.le_trans ih ?_
        unfold roundW
        split
        · exact Nat.le_refl _
        · unfold childW
          split
          · exact visitF_looked l tree fuel d _ _ _ _ _
          · exact Nat.le_refl _
    unfold visitF
    split
    · exact Nat.le_refl _
    · split
      · exact Nat.le_succ _
      · split
        · exact Nat.le_succ _
        · exact Nat.le_trans (Nat.le_succ _) (hl (nodC (inB l no)) { s with looked := s.looked + 1, bs := s.bs ++ [no] })
section
variable {B bw Bi b : Nat} {pi : Option Addr} {ni ci : Nat} {l : List UInt8} {tree fuel : Int} {way : List Int} {s : WS} {pe pb pf pw : Option Addr} {ce cb cf cw : Nat} {fv : List Value} {w W : World}
theorem WalkR.below (h : WalkR B bw Bi b pi ni ci l tree fuel way s pe pb pf pw ce cb cf cw fv w) (hb : Below w.heap.size w W) : WalkR B bw Bi b pi ni ci l tree fuel way s pe pb pf pw ce cb cf cw fv W :=
  ⟨h.blk.below hb, own_below h.ents hb, own_below h.blks hb, own_below h.flts hb, h.fltv.below hb, own_below h.ways hb, h.apart, h.img.below hb⟩
theorem WalkR.only {T : List TypeId} (h : WalkR B bw Bi b pi ni ci l tree fuel way s pe pb pf pw ce cb cf cw fv w) (hO : Only T w W)
    (hT : T.contains 64 = false ∧ T.contains 80 = false ∧ T.contains 3 = false ∧ T.contains 47 = false ∧ T.contains 99 = false ∧ T.contains 71 = false ∧ T.contains 5 = false) : WalkR B bw Bi b pi ni ci l tree fuel way s pe pb pf pw ce cb cf cw fv W :=
  ⟨h.blk.only hO hT.1, own_only h.ents hO hT.2.1, own_only h.blks hO hT.2.2.1, own_only h.flts hO hT.2.2.2.1, h.fltv.only hO hT.2.2.2.2.1, own_only h.ways hO hT.2.2.1, h.apart, h.img.only hO ⟨hT.2.2.2.2.2.1, hT.2.2.2.2.2.2⟩⟩
end
end Go.Proofs.YtolblnjohaooaaaGreatDoor
namespace Go.Proofs.YtolblnjohaooaaaGreatDoor
open Go.RowKit Go.Extern.Stop Go.Stop Go.Extern
set_option linter.unusedVariables false
attribute [local irreducible] wpList wpAnyH Code.wp Oper.wp Go

theorem LookP.or {B bw : Nat} {cs : List Value} {l : List UInt8} {way : List Int} {no tree lo hi deep : Int} {w : World} {e : Ending} {w' : World} (h : LookP B bw cs l way no tree lo hi deep w e w') :
    (lookE l way no tree lo hi deep ≠ 0 ∧ ∃ a4 b4 k4 n4 c4 v4 m4 d4 ty x, e = .returned (.tuple #[.agg #[.int .i64 a4, .bool b4, .slice k4 n4 c4, .slice v4 m4 d4], .iface ty x]) ∧ Below B w w' ∧ Only [64] w w' ∧ Blk w' bw cs 64 ∧ ErrV w' [some no] (some (lookE l way no tree lo hi deep)) (.iface ty x)) ∨
    (lookE l way no tree lo hi deep = 0 ∧ ∃ kp kc vp vc, e = .returned (.tuple #[.agg #[.int .i64 (nodT (inB l no)), .bool (nodL (inB l no)), .slice kp (nodC (inB l no)) kc, .slice vp (nodC (inB l no)) vc], .nilIface]) ∧ Below B w w' ∧ Only [64] w w' ∧ Blk w' bw cs 64 ∧
      w'.ownsRow w.heap.size 3 1 (.slice kp (nodC (inB l no)) kc) (nodC (inB l no)) ((nodK l no).map (Value.int .i64)) ∧ w'.ownsRow w.heap.size 9 1 (.slice vp (nodC (inB l no)) vc) (nodC (inB l no)) ((nodV l no).map sv)) := by
  obtain ⟨h1, h2, h3, ⟨h4, a4, b4, k4, n4, c4, v4, m4, d4, ty, x, h5, h6⟩ | ⟨h4, _, kp, kc, vp, vc, h5, h6, h7⟩⟩ := h
  · exact .inl ⟨h4, a4, b4, k4, n4, c4, v4, m4, d4, ty, x, h5, h1, h2, h3, h6⟩
  · exact .inr ⟨h4, kp, kc, vp, vc, h5, h1, h2, h3, h6, h7⟩
theorem widG_24 (t : Int) (b : Bool) : widG t b ≤ 24 := by
  unfold widG widN
  repeat' split
  all_goals omega
theorem valsL_short (l : List UInt8) (n i : Nat) : ((valsL l n).getD i []).length ≤ 1000 := by
  by_cases h : i < n
  · rw [valsL_get l h]
    unfold valN
    rw [List.length_take]
    have := widG_24 (nodT l) (nodL l)
    unfold nodW
    omega
  · simp [List.getD, List.getElem?_eq_none (show (valsL l n).length ≤ i by rw [valsL_len]; omega)]
theorem ownBlock_len (p : Option Addr) (n c n2 c2 : Nat) : (Value.slice p n c).ownBlock = (Value.slice p n2 c2).ownBlock := by
  cases p <;> rfl
theorem Apart.len {p q : Option Addr} {n c m d : Nat} (h : Apart (.slice p n c) (.slice q m d)) (n2 c2 m2 d2 : Nat) : Apart (.slice p n2 c2) (.slice q m2 d2) := fun j h1 h2 =>
  h j ((ownBlock_len _ _ _ _ _).trans h1) ((ownBlock_len _ _ _ _ _).trans h2)
def prC (p : Int × Int) : List Value := [.int .i64 p.1, .int .i64 p.2]
theorem prC_len (p : Int × Int) : (prC p).length = 2 := rfl
theorem flat2_prC (l : List (Int × Int)) : flat2 l = l.flatMap prC := by
  induction l with
  | nil => rfl
  | cons x l ih => simp only [flat2, List.flatMap_cons, prC]; rfl
theorem look_fits {l : List UInt8} {way : List Int} {no tree lo hi deep : Int} (h : lookE l way no tree lo hi deep = 0) : fitsI lo hi (nodK l no) = 0 ∧ way.length < 16 := by
  unfold lookE at h
  by_cases h1 : hasI way no = true
  · rw [if_pos h1] at h; cases h
  rw [if_neg h1] at h
  by_cases h2 : 16 ≤ way.length
  · rw [if_pos h2] at h; cases h
  rw [if_neg h2] at h
  by_cases h3 : nodeErr l no tree ≠ 0
  · rw [if_pos h3] at h; exact absurd h h3
  rw [if_neg h3] at h
  by_cases h4 : fitsI lo hi (keysI (inB l no) (nodC (inB l no))) ≠ 0
  · rw [if_pos h4] at h; cases h
  exact ⟨Decidable.not_not.1 h4, by omega⟩
theorem splitL_get (hi : Int) (l : List Int) {i : Nat} (h : i < l.length) : (splitL hi l).getD i (0, 0) = partAt hi l i := by simp [splitL, h]
theorem sts_sp {w : World} {p : Option Addr} {n c : Nat} {L : List (Int × Int)} (h : Sl w (.slice p n c) n (flat2 L)) (hL : L.length = n) : Sts prC w (.slice p L.length c) L := by
  subst hL; rw [flat2_prC] at h; exact h
theorem splitL_len (hi : Int) (l : List Int) : (splitL hi l).length = l.length := by simp [splitL]
theorem only_le {w w' : World} (h : Only [64, 80] w w') : Only [64, 80, 3, 47] w w' := h.mono fun t ht => by
  simp only [List.contains_cons, List.contains_nil, Bool.or_eq_false_iff] at ht ⊢
  exact ⟨ht.1, ht.2.1, trivial⟩
theorem only_w {w w' : World} (h : Only [64] w w') : Only [64, 80, 3, 47] w w' := h.mono fun t ht => by
  simp only [List.contains_cons, List.contains_nil, Bool.or_eq_false_iff] at ht ⊢
  exact ⟨ht.1, trivial⟩
set_option maxRecDepth 100000 in
set_option maxHeartbeats 4000000 in
theorem walker_visit (B bw Bi b : Nat) (pi : Option Addr) (ni ci : Nat) (l : List UInt8) (tree fuel : Int) (d : Nat) (hV : d ≠ 0 → VisitC B bw Bi b pi ni ci l tree fuel d) (way : List Int) (no lo hi : Int) (s : WS) (pe pb pf pw : Option Addr) (ce cb cf cw : Nat) (fv : List Value) (w : World) (hBb : B ≤ bw) (hBw : B ≤ w.heap.size) (hwd : way.length + (d + 1) = 17) (hdry : s.dry = false) (hfu : fuel ≤ 1000000) (hR : WalkR B bw Bi b pi ni ci l tree fuel way s pe pb pf pw ce cb cf cw fv w) (he : (visitF l tree fuel (d + 1) way no lo hi s).es.length ≤ 1000000) (hb_ : (visitF l tree fuel (d + 1) way no lo hi s).bs.length ≤ 1000000) (hf : (visitF l tree fuel (d + 1) way no lo hi s).fs.length ≤ 1000000) :
    Calls Tryz.prog 22 #[.pointer (some ⟨bw, 0, none⟩), .int .i64 no, .agg #[.int .i64 lo, .int .i64 hi]] w (VisitP B bw Bi b pi ni ci l tree fuel way (visitF l tree fuel (d + 1) way no lo hi s) w) := by
 obtain ⟨kW, hEn, hBl, hFl, hFv, hWy, hAp, hI⟩ := hR
 have hBl0 := hBl
 have hWy0 := hWy
 have hgr := visitF_grow l tree fuel (d + 1) way no lo hi s
 have hbs := Nat.le_trans hgr.2.1 hb_
 refine zin 106 Tryz.func22 ?_
 refine xa 2 [.int .i64 lo, .int .i64 hi] 67 fun b1 W1 n1 => ?_
 refine xd 4 .z ?_
 have kW'1 := (kW.below n1.below).below (below_drew W1)
 refine xb (.e [0, 1, 2, 3] 4) 3 kW'1 ?_
 refine xb (.e [5, 6, 7] 8) 7 kW'1 ?_
 refine xid (.r [9] 2) ((↑s.looked : Int) ≥ fuel) (fun hc2 => ?_) (fun hc2 => ?_)
 · refine xc 5 (args := #[.int .i64 no, .iface 43 (.int .i64 12)]) (fault_At no (some 12) [] _ _ rfl) ?_
   rintro _ W3 ⟨r3, rfl, hb3, hv3⟩
   rw [atL_some] at hv3
   obtain ⟨t3, x3, rfl⟩ := hv3.iface
   have hch : (visitF l tree fuel (d + 1) way no lo hi s) = { noteW way [no] 12 s with dry := true } := by unfold visitF; rw [if_pos (by omega)]
   have hB := Bl.nextB (Bl.nextB (Bl.nextB (Below.refl B w) hBw n1.below) hBw (below_drew W1)) hBw hb3
   have kW'2 := kW'1.below hb3
   have hFl'1 := own_below (own_below (own_below hFl n1.below) (below_drew W1)) hb3
   have hWy'1 := own_below (own_below (own_below hWy n1.below) (below_drew W1)) hb3
   refine xc 0 (args := #[.pointer (some ⟨bw, 0, none⟩), .iface t3 (x3)]) (walker_note B bw _ _ _ _ _ _ _ _ pf _ cf fv pw cw way [no] 12 _ _ _ hBb (Nat.le_trans hBw hB.size) kW'2 hFl'1 hWy'1 hv3 (by omega) (by have := hf; rw [hch] at this; simp [noteW] at this; omega)) ?_
   rintro _ W4 ⟨u4, pf2, cf2, t2, x2, rfl, hb4, hO4, kN, hFl2, hv2⟩
   refine xs 7 kN [.slice pe s.es.length ce, .slice pb s.bs.length cb, .int .i64 s.deep, .int .i64 (↑s.looked : Int), .slice pf2 (s.fs.length + 1) cf2, .pointer (some ⟨b, 0, none⟩), .int .i64 tree, .int .i64 fuel, .slice pw way.length cw, .bool true] fun W5 u5 k5 => ?_
   have hB'1 := u5.below (hB.trans hb4) hBb
   have hO := ((((show Only [64, 80, 3, 47] w _ from (Only.of_below n1.below)).trans (Only.of_below (below_drew W1))).trans (Only.of_below hb3)).trans (only_we hO4)).trans (Only.of_upd u5 kN (by decide))
   have hEn'1 := u5.own2 (own_only (own_below (own_below (own_below hEn n1.below) (below_drew W1)) hb3) hO4 (by decide)) kN (by decide)
   have hBl'1 := u5.own2 (own_only (own_below (own_below (own_below hBl n1.below) (below_drew W1)) hb3) hO4 (by decide)) kN (by decide)
   have hFl2'1 := u5.own2 hFl2 kN (by decide)
   have hv2'1 := hv2.upd u5 kN (by decide)
   have hFv'1 := ((((hFv.below n1.below).below (below_drew W1)).below hb3).only hO4 (by decide)).only (Only.of_upd (T := [64]) u5 kN (by decide)) (by decide)
   have hWy'2 := u5.own2 (own_only hWy'1 hO4 (by decide)) kN (by decide)
   have hI'1 := ((((hI.below n1.below).below (below_drew W1)).below hb3).only hO4 (by decide)).only (Only.of_upd (T := [64]) u5 kN (by decide)) (by decide)
   refine xe 4 (.tuple #[]) ?_
   rw [hch]
   exact ⟨_, pe, pb, pf2, pw, ce, cb, cf2, cw, _, rfl, hB'1, hO, by simpa [noteW] using k5, hEn'1, hBl'1, by simpa [noteW] using hFl2'1, FltsW.snoc hv2'1 hFv'1, hWy'2, hAp, hI'1⟩
 have k1 := n1.blk.below (below_drew W1)
 refine xlv 6 k1.rp ?_
 have hB := Bl.nextB (Bl.nextB (Below.refl B w) hBw n1.below) hBw (below_drew W1)
 have hWy'3 := own_below (own_below hWy n1.below) (below_drew W1)
 have hI'2 := (hI.below n1.below).below (below_drew W1)
 refine xc 0 (args := #[.pointer (some ⟨bw, 0, none⟩), .int .i64 no, .agg #[.int .i64 lo, .int .i64 hi]]) ((walker_look B Bi b bw pi ni ci l _ _ _ _ _ pw cw way no tree lo hi s.deep (s.looked : Int) _ hBb (Nat.le_trans hBw hB.size) kW'1 hWy'3 hI'2 (by omega) (by omega) (by omega)).mono (fun _ _ h => LookP.or h)) ?_
 rintro e W6 hq6
 rcases hq6 with ⟨hz, a4, b4, k4, n4, c4, v4, m4, d4, ty, x, rfl, hb6, hO6, kL6, hv6⟩ | ⟨hz, kp, kc, vp, vc, rfl, hb6, hO6, kL6, hk, hv_⟩
 · refine xa 3 [.int .i64 0, .bool false, .slice none 0 0, .slice none 0 0] 42 fun b7 W7 n7 => ?_
   have hB'2 := hB.trans hb6
   have g7 := n7.ge0 hB'2
   refine xsv 0 n7.blk [.int .i64 a4, .bool b4, .slice k4 n4 c4, .slice v4 m4 d4] fun W8 u8 k8 => ?_
   have hch : (visitF l tree fuel (d + 1) way no lo hi s) = noteW way [no] (lookE l way no tree lo hi s.deep) { s with looked := s.looked + 1 } := by unfold visitF; rw [if_neg (by omega), if_pos hz]
   have hB'3 := u8.below (Bl.nextB hB'2 hBw n7.below) (Nat.le_trans hBw g7)
   have kL6'1 := u8.blkT (kL6.below n7.below) n7.blk (by decide)
   have hFl'2 := u8.own2 (own_below (own_only (own_below (own_below hFl n1.below) (below_drew W1)) hO6 (by decide)) n7.below) n7.blk (by decide)
   have hWy'4 := u8.own2 (own_below (own_only hWy'3 hO6 (by decide)) n7.below) n7.blk (by decide)
   have hv6'1 := (hv6.below n7.below).upd u8 n7.blk (by decide)
   refine xc 15 (args := #[.pointer (some ⟨bw, 0, none⟩), .iface ty (x)]) (walker_note B bw _ _ _ _ _ _ _ _ pf _ cf fv pw cw way [no] (lookE l way no tree lo hi s.deep) _ _ _ hBb (Nat.le_trans hBw hB'3.size) kL6'1 hFl'2 hWy'4 hv6'1 (by omega) (by have := hf; rw [hch] at this; simp [noteW] at this; omega)) ?_
   rintro _ W9 ⟨u9, pf2, cf2, t2, x2, rfl, hb9, hO9, kN, hFl2, hv2⟩
   have hB'4 := hB'3.trans hb9
   have hO := (Only.upd_new ((((show Only [64, 80, 3, 47] w _ from (Only.of_below n1.below)).trans (Only.of_below (below_drew W1))).trans (only_w hO6)).trans (Only.of_below n7.below)) u8 g7).trans (only_we hO9)
   have hEn'2 := own_only (u8.own2 (own_below (own_only (own_below (own_below hEn n1.below) (below_drew W1)) hO6 (by decide)) n7.below) n7.blk (by decide)) hO9 (by decide)
   have hBl'2 := own_only (u8.own2 (own_below (own_only (own_below (own_below hBl n1.below) (below_drew W1)) hO6 (by decide)) n7.below) n7.blk (by decide)) hO9 (by decide)
   have hFv'2 := (((((hFv.below n1.below).below (below_drew W1)).only hO6 (by decide)).below n7.below).only (Only.of_upd (T := [42]) u8 n7.blk (by decide)) (by decide)).only hO9 (by decide)
   have hWy'5 := own_only hWy'4 hO9 (by decide)
   have hI'3 := (((hI'2.only hO6 (by decide)).below n7.below).only (Only.of_upd (T := [42]) u8 n7.blk (by decide)) (by decide)).only hO9 (by decide)
   refine xe 4 (.tuple #[]) ?_
   rw [hch]
   exact ⟨_, pe, pb, pf2, pw, ce, cb, cf2, cw, _, rfl, hB'4, hO, by simpa [noteW] using kN, hEn'2, hBl'2, by simpa [noteW] using hFl2, FltsW.snoc hv2 hFv'2, hWy'5, hAp, hI'3⟩
 have hs6 := (Bl.nextB (Bl.nextB (Below.refl B w) hBw n1.below) hBw (below_drew W1)).size
 have hk'1 := own_mono hk hs6
 have hApk := Apart.of_lt hBl0 hk'1 (Nat.le_refl _)
 have hApw := Apart.of_lt hWy0 hk'1 (Nat.le_refl _)
 refine xa 3 [.int .i64 0, .bool false, .slice none 0 0, .slice none 0 0] 42 fun b10 W10 n10 => ?_
 have hB'5 := hB.trans hb6
 have g10 := n10.ge0 hB'5
 refine xsv 0 n10.blk [.int .i64 (nodT (inB l no)), .bool (nodL (inB l no)), .slice kp (nodC (inB l no)) kc, .slice vp (nodC (inB l no)) vc] fun W11 u11 k11 => ?_
 have kL6'2 := u11.blkT (kL6.below n10.below) n10.blk (by decide)
 refine xb 20 1 kL6'2 ?_
 refine xbs 1 1 [.int .i64 no] 3 fun b12 W12 n12 => ?_
 have hB'6 := u11.below (Bl.nextB hB'5 hBw n10.below) (Nat.le_trans hBw g10)
 have g12 := n12.ge0 hB'6
 have hBl'3 := u11.own2 (own_below (own_only (own_below (own_below hBl n1.below) (below_drew W1)) hO6 (by decide)) n10.below) n10.blk (by decide)
 have r12_hBl := own_ne hBl'3 n12
 have hWy'6 := u11.own2 (own_below (own_only hWy'3 hO6 (by decide)) n10.below) n10.blk (by decide)
 have r12_hWy := own_ne hWy'6 n12
 have hk'2 := u11.own2 (own_below hk'1 n10.below) n10.blk (by decide)
 have r12_hk := own_ne hk'2 n12
 have hBl'4 := own_below hBl'3 n12.below
 have hB'7 := Bl.nextB hB'6 hBw n12.below
 refine xbi 0 fun _ _ _ _ zJ zQ zo zx zy zK => op_app_at (b := b12) (c := 1) (m := 1) (news := [.int .i64 no]) (.int .i64 0) 1 8 ((s.bs ++ [no]).length) (((s.bs ++ [no]).map (Value.int .i64))) zo Tryz.underlying26 (by kernel_rfl) rfl (by decide) zx hBl'4 zy n12.blk rfl (by simp [Value.oneCell']) (by unfold maxLen; omega) (by omega) (Nat.le_trans hBw hB'7.size) (by simp) (by simp) fun px13 cx13 W13 o13 hg13 hb13 ha13 => ?_
 have hWy'7 := own_below hWy'6 n12.below
 have q13_hWy := hAp.row hWy'7 hg13
 replace hAp := (hAp.grow hWy'7 ha13)
 have hk'3 := own_below hk'2 n12.below
 have q13_hk := hApk.row hk'3 hg13
 replace hApk := (hApk.grow hk'3 ha13)
 have hWyq13 := q13_hWy
 have hkq13 := q13_hk
 refine zK _ _ ?_
 have kL6'3 := (kL6'2.below n12.below).grown hg13 hBl'4 (by decide)
 refine xs 3 kL6'3 [.slice pe s.es.length ce, .slice px13 ((s.bs ++ [no]).length) cx13, .int .i64 s.deep, .int .i64 ((s.looked : Int) + 1), .slice pf s.fs.length cf, .pointer (some ⟨b, 0, none⟩), .int .i64 tree, .int .i64 fuel, .slice pw way.length cw, .bool s.dry] fun W14 u14 k14 => ?_
 have k11'1 := u14.blkT ((k11.below n12.below).grown hg13 hBl'4 (by decide)) kL6'3 (by decide)
 refine xb 6 1 k11'1 ?_
 refine xi 2 (nodL (inB l no)) (fun hc15 => ?_) (fun hc15 => ?_)
 · refine xlv 4 k11'1.rp ?_
   have hch : (visitF l tree fuel (d + 1) way no lo hi s) = { s with looked := s.looked + 1, bs := s.bs ++ [no], deep := ((way.length + 1 : Nat) : Int), es := s.es ++ leafL (nodK l no) (nodV l no) no (nodC (inB l no)) } := by unfold visitF; rw [if_neg (by omega), if_neg (by omega), if_pos (by assumption)]
   have hB'8 := u14.below (hB'7.trans hb13) hBb
   have hEn'3 := u14.own2 (own_grown (own_below (u11.own2 (own_below (own_only (own_below (own_below hEn n1.below) (below_drew W1)) hO6 (by decide)) n10.below) n10.blk (by decide)) n12.below) hg13 hBl'4 (by decide)) kL6'3 (by decide)
   have hk'4 := u14.own2 hkq13 kL6'3 (by decide)
   have hv_'1 := u14.own2 (own_grown (own_below (u11.own2 (own_below (own_mono hv_ hs6) n10.below) n10.blk (by decide)) n12.below) hg13 hBl'4 (by decide)) kL6'3 (by decide)
   refine xc 0 (args := #[.pointer (some ⟨bw, 0, none⟩), .int .i64 no, .agg #[.int .i64 (nodT (inB l no)), .bool (nodL (inB l no)), .slice kp (nodC (inB l no)) kc, .slice vp (nodC (inB l no)) vc]]) (walker_leaf B bw _ _ _ _ _ _ _ _ pe ce s.es pw cw way no _ _ kp vp _ kc vc (nodK l no) (nodV l no) _ hBb (Nat.le_trans hBw hB'8.size) k14 hEn'3 (fun W _ q => own_sl (own_only hk'4 q (by decide))) (fun W _ q => own_sl (own_only hv_'1 q (by decide))) (by simp [nodK, keysI]) (by simp [nodV, valsL]) (by omega) (by have := he; rw [hch] at this; simp [leafL_len] at this; omega)) ?_
   rintro _ W16 ⟨u16, pe2, ce2, rfl, hb16, hO16, kE, hE2⟩
   have hB'9 := hB'8.trans hb16
   have hO := ((((Only.upd_new ((((show Only [64, 80, 3, 47] w _ from (Only.of_below n1.below)).trans (Only.of_below (below_drew W1))).trans (only_w hO6)).trans (Only.of_below n10.below)) u11 g10).trans (Only.of_below n12.below)).trans (Only.of_grown hg13 hBl'4 (by decide))).trans (Only.of_upd u14 kL6'3 (by decide))).trans (only_le hO16)
   have o13'1 := own_only (u14.own2 o13 kL6'3 (by decide)) hO16 (by decide)
   have hFl'3 := own_only (u14.own2 (own_grown (own_below (u11.own2 (own_below (own_only (own_below (own_below hFl n1.below) (below_drew W1)) hO6 (by decide)) n10.below) n10.blk (by decide)) n12.below) hg13 hBl'4 (by decide)) kL6'3 (by decide)) hO16 (by decide)
   have hFv'3 := ((((((((hFv.below n1.below).below (below_drew W1)).only hO6 (by decide)).below n10.below).only (Only.of_upd (T := [42]) u11 n10.blk (by decide)) (by decide)).below n12.below).only (Only.of_grown (T := [3]) hg13 hBl'4 (by decide)) (by decide)).only (Only.of_upd (T := [64]) u14 kL6'3 (by decide)) (by decide)).only hO16 (by decide)
   have hWy'8 := own_only (u14.own2 hWyq13 kL6'3 (by decide)) hO16 (by decide)
   have hI'4 := ((((((hI'2.only hO6 (by decide)).below n10.below).only (Only.of_upd (T := [42]) u11 n10.blk (by decide)) (by decide)).below n12.below).only (Only.of_grown (T := [3]) hg13 hBl'4 (by decide)) (by decide)).only (Only.of_upd (T := [64]) u14 kL6'3 (by decide)) (by decide)).only hO16 (by decide)
   refine xe 4 (.tuple #[]) ?_
   rw [hch]
   exact ⟨_, pe2, _, pf, pw, ce2, _, cf, cw, fv, rfl, hB'9, hO, by simpa [leafL_len] using kE, by simpa [leafL_len] using hE2, by simpa using o13'1, hFl'3, hFv'3, hWy'8, by simpa using hAp, hI'4⟩
 refine xb 8 8 k14 ?_
 refine xbs 1 1 [.int .i64 no] 3 fun b17 W17 n17 => ?_
 have hB'10 := u14.below (hB'7.trans hb13) hBb
 have g17 := n17.ge0 hB'10
 have hWy'9 := u14.own2 hWyq13 kL6'3 (by decide)
 have r17_hWy := own_ne hWy'9 n17
 have hk'5 := u14.own2 hkq13 kL6'3 (by decide)
 have r17_hk := own_ne hk'5 n17
 have o13'2 := u14.own2 o13 kL6'3 (by decide)
 have r17_o13 := own_ne o13'2 n17
 have hWy'10 := own_below hWy'9 n17.below
 have hB'11 := Bl.nextB hB'10 hBw n17.below
 refine xbi 0 fun _ _ _ _ zJ zQ zo zx zy zK => op_app_at (b := b17) (c := 1) (m := 1) (news := [.int .i64 no]) (.int .i64 0) 1 8 ((way ++ [no]).length) (((way ++ [no]).map (Value.int .i64))) zo Tryz.underlying26 (by kernel_rfl) rfl (by decide) zx hWy'10 zy n17.blk rfl (by simp [Value.oneCell']) (by unfold maxLen; omega) (by omega) (Nat.le_trans hBw hB'11.size) (by simp) (by simp) fun px18 cx18 W18 o18 hg18 hb18 ha18 => ?_
 have o13'3 := own_below o13'2 n17.below
 have q18_o13 := hAp.symm.row o13'3 hg18
 replace hAp := (hAp.symm.grow o13'3 ha18).symm
 have hk'6 := own_below hk'5 n17.below
 have q18_hk := hApw.row hk'6 hg18
 replace hApw := (hApw.grow hk'6 ha18)
 have o13q18 := q18_o13
 have hkq18 := q18_hk
 refine zK _ _ ?_
 have k14'1 := (k14.below n17.below).grown hg18 hWy'10 (by decide)
 refine xs 2 k14'1 [.slice pe s.es.length ce, .slice px13 ((s.bs ++ [no]).length) cx13, .int .i64 s.deep, .int .i64 ((s.looked : Int) + 1), .slice pf s.fs.length cf, .pointer (some ⟨b, 0, none⟩), .int .i64 tree, .int .i64 fuel, .slice px18 ((way ++ [no]).length) cx18, .bool s.dry] fun W19 u19 k19 => ?_
 have k1'1 := u19.blkT (((u14.blkT (((u11.blkT ((k1.only hO6 (by decide)).below n10.below) n10.blk (by decide)).below n12.below).grown hg13 hBl'4 (by decide)) kL6'3 (by decide)).below n17.below).grown hg18 hWy'10 (by decide)) k14'1 (by decide)
 refine xlv 5 k1'1.rp ?_
 have k11'2 := u19.blkT ((k11'1.below n17.below).grown hg18 hWy'10 (by decide)) k14'1 (by decide)
 refine xb 1 2 k11'2 ?_
 have hB'12 := u19.below (hB'11.trans hb18) hBb
 have hsp0 := hB'12.size
 obtain ⟨hfit, hw16⟩ := look_fits hz
 have hkl : (nodK l no).length = nodC (inB l no) := by simp [nodK, keysI]
 have hnc : nodC (inB l no) < 65536 := rawN_lt _ 2 2
 have hk'7 := u19.own2 hkq18 k14'1 (by decide)
 refine xc 0 (args := #[.agg #[.int .i64 lo, .int .i64 hi], .slice kp (nodC (inB l no)) kc]) (span_split2 lo hi _ (nodK l no) _ (by rw [hkl]; omega) (intsN_of (own_sl hk'7) hkl)) ?_
 rintro _ W20 ⟨r20, rfl, hb20, _, hg20⟩
 obtain ⟨gs, rfl, hgs, kS⟩ := hg20 hfit
 rw [hkl]
 have hSp := own_of_blk (size := 2) (n := nodC (inB l no)) kS (Nat.le_trans hsp0 hgs) (by rw [flat2_length, splitL_len, hkl]) (by unfold maxLen; omega)
 have hch : (visitF l tree fuel (d + 1) way no lo hi s) = (loopW (visitF l tree fuel d) l way no hi (nodC (inB l no)) { s with looked := s.looked + 1, bs := s.bs ++ [no] }) := by unfold visitF; rw [if_neg (by omega), if_neg (by omega), if_neg (by simp; assumption)]
 have hspl : (splitL hi (nodK l no)).length = (nodC (inB l no)) := by rw [splitL_len, hkl]
 have hvl : (nodV l no).length = (nodC (inB l no)) := by simp [nodV, valsL]
 have k19'1 := k19.below hb20
 have hEn'4 := own_below (u19.own2 (own_grown (own_below (u14.own2 (own_grown (own_below (u11.own2 (own_below (own_only (own_below (own_below hEn n1.below) (below_drew W1)) hO6 (by decide)) n10.below) n10.blk (by decide)) n12.below) hg13 hBl'4 (by decide)) kL6'3 (by decide)) n17.below) hg18 hWy'10 (by decide)) k14'1 (by decide)) hb20
 have o13'4 := own_below (u19.own2 o13q18 k14'1 (by decide)) hb20
 have hFl'4 := own_below (u19.own2 (own_grown (own_below (u14.own2 (own_grown (own_below (u11.own2 (own_below (own_only (own_below (own_below hFl n1.below) (below_drew W1)) hO6 (by decide)) n10.below) n10.blk (by decide)) n12.below) hg13 hBl'4 (by decide)) kL6'3 (by decide)) n17.below) hg18 hWy'10 (by decide)) k14'1 (by decide)) hb20
 have hFv'4 := (((((((((((hFv.below n1.below).below (below_drew W1)).only hO6 (by decide)).below n10.below).only (Only.of_upd (T := [42]) u11 n10.blk (by decide)) (by decide)).below n12.below).only (Only.of_grown (T := [3]) hg13 hBl'4 (by decide)) (by decide)).only (Only.of_upd (T := [64]) u14 kL6'3 (by decide)) (by decide)).below n17.below).only (Only.of_grown (T := [3]) hg18 hWy'10 (by decide)) (by decide)).only (Only.of_upd (T := [64]) u19 k14'1 (by decide)) (by decide)).below hb20
 have o18'1 := own_below (u19.own2 o18 k14'1 (by decide)) hb20
 have hI'5 := (((((((((hI'2.only hO6 (by decide)).below n10.below).only (Only.of_upd (T := [42]) u11 n10.blk (by decide)) (by decide)).below n12.below).only (Only.of_grown (T := [3]) hg13 hBl'4 (by decide)) (by decide)).only (Only.of_upd (T := [64]) u14 kL6'3 (by decide)) (by decide)).below n17.below).only (Only.of_grown (T := [3]) hg18 hWy'10 (by decide)) (by decide)).only (Only.of_upd (T := [64]) u19 k14'1 (by decide)) (by decide)).below hb20
 have hR : WalkR B bw Bi b pi ni ci l tree fuel (way ++ [no]) (loopW (visitF l tree fuel d) l way no hi 0 { s with looked := s.looked + 1, bs := s.bs ++ [no] }) pe _ pf _ ce _ cf _ fv W20 := ⟨k19'1, hEn'4, o13'4, hFl'4, hFv'4, o18'1, hAp, hI'5⟩
 have hv_'2 := own_below (u19.own2 (own_grown (own_below (u14.own2 (own_grown (own_below (u11.own2 (own_below (own_mono hv_ hs6) n10.below) n10.blk (by decide)) n12.below) hg13 hBl'4 (by decide)) kL6'3 (by decide)) n17.below) hg18 hWy'10 (by decide)) k14'1 (by decide)) hb20
 have hB'13 := Bl.nextB hB'12 hBw hb20
 have hO := (((((((Only.upd_new ((((show Only [64, 80, 3, 47] w _ from (Only.of_below n1.below)).trans (Only.of_below (below_drew W1))).trans (only_w hO6)).trans (Only.of_below n10.below)) u11 g10).trans (Only.of_below n12.below)).trans (Only.of_grown hg13 hBl'4 (by decide))).trans (Only.of_upd u14 kL6'3 (by decide))).trans (Only.of_below n17.below)).trans (Only.of_grown hg18 hWy'10 (by decide))).trans (Only.of_upd u19 k14'1 (by decide))).trans (Only.of_below hb20)
 have k1'2 := k1'1.below hb20
 have k11'3 := k11'2.below hb20
 refine zl 5 106 (fun zm zkv V => ∃ (i : Nat) (pe5 pb5 pf5 pw5 : Option Addr) (ce5 cb5 cf5 cw5 : Nat) (fv5 : List Value), zkv = [(0, .pointer (some ⟨bw, 0, none⟩)), (1, .int .i64 no), (6, .pointer (some ⟨b10, 0, none⟩)), (71, .slice (some ⟨gs, 0, none⟩) (nodC (inB l no)) (nodC (inB l no))), (72, .int .i64 (↑(nodC (inB l no)) : Int)), (73, .int .i64 (↑i : Int))] ∧ zm = (nodC (inB l no)) - ((↑i : Int)).toNat ∧ Below B w V ∧ Only [64, 80, 3, 47] w V ∧ Blk V b1 ([.int .i64 lo, .int .i64 hi]) 67 ∧ Blk V b10 ([.int .i64 (nodT (inB l no)), .bool (nodL (inB l no)), .slice kp (nodC (inB l no)) kc, .slice vp (nodC (inB l no)) vc]) 42 ∧ WalkR B bw Bi b pi ni ci l tree fuel (way ++ [no]) (loopW (visitF l tree fuel d) l way no hi i { s with looked := s.looked + 1, bs := s.bs ++ [no] }) pe5 pb5 pf5 pw5 ce5 cb5 cf5 cw5 fv5 V ∧ V.ownsRow w.heap.size 9 1 (.slice vp (nodC (inB l no)) vc) (nodC (inB l no)) ((nodV l no).map sv) ∧ V.ownsRow w.heap.size 67 2 (.slice (some ⟨gs, 0, none⟩) (nodC (inB l no)) (nodC (inB l no))) (nodC (inB l no)) (flat2 (splitL hi (nodK l no))) ∧ i ≤ (nodC (inB l no)) ∧ (loopW (visitF l tree fuel d) l way no hi i { s with looked := s.looked + 1, bs := s.bs ++ [no] }).dry = false) ⟨0, _, _, _, _, _, _, _, _, _, rfl, rfl, hB'13, hO, k1'2, k11'3, hR, hv_'2, hSp, Nat.zero_le _, hdry⟩ ?_
 rintro _ _ W21 ⟨i, pe5, pb5, pf5, pw5, ce5, cb5, cf5, cw5, fv5, rfl, rfl, hB_21, hO_21, k21_b1, k21_b10, hR, hv_, hSp, hi_, hdr⟩ J21 hJ21 r21
 have kW3 := hR.blk
 refine xid 6 ((↑i : Int) < (↑(nodC (inB l no)) : Int)) (fun hc22 => ?_) (fun hc22 => ?_)
 · refine xx 7 _ (nodC (inB l no)) i 2 (Sts.cell (sts_sp (own_sl hSp) hspl) prC_len (0, 0) (k := i) (i := 0) (show i < (splitL hi (nodK l no)).length by omega) rfl).1 ?_
   refine xlv 0 (Sts.rp (k := i) (sts_sp (own_sl hSp) hspl) prC_len (0, 0) (by omega) (by decide)) ?_
   refine xa 0 [.int .i64 0, .int .i64 0] 67 fun b23 W23 n23 => ?_
   have d23_b1 := n23.ne k21_b1
   have g23 := n23.ge0 hB_21
   have r23_hSp := own_ne hSp n23
   refine xsv 1 n23.blk [.int .i64 (((splitL hi (nodK l no)).getD i (0, 0)).1), .int .i64 (((splitL hi (nodK l no)).getD i (0, 0)).2)] fun W24 u24 k24 => ?_
   refine xd 3 (.t B [64, 80, 3, 47]) ?_
   have k21_b10'1 := (u24.blkT (k21_b10.below n23.below) n23.blk (by decide)).below (below_drew W24)
   refine xbt (.e [0, 1, 2] 3) 3 B [64, 80, 3, 47] k21_b10'1 ?_
   have hv_'3 := own_below (u24.own2 (own_below hv_ n23.below) n23.blk (by decide)) (below_drew W24)
   refine xx (.e [4] 5) _ (nodC (inB l no)) i 1 (Strs.elem (own_sl hv_'3) hvl (k := i) (by omega)).1 ?_
   refine xlt (.e [] 6) (.t B [64, 80, 3, 47]) (fun V hV => (Strs.elem (own_sl (own_only hv_'3 hV.2 (by decide))) hvl (k := i) (by omega)).2) ?_
   have k24'1 := k24.below (below_drew W24)
   refine xlvt (.e [] 7) (.t B [64, 80, 3, 47]) (fun V hV => (k24'1.only hV.2 (by decide)).rp) ?_
   have hxi := splitL_get hi (nodK l no) (i := i) (by omega)
   have hch2 : childW (visitF l tree fuel d) way no ((nodV l no).getD i []) (((splitL hi (nodK l no)).getD i (0, 0)).1, ((splitL hi (nodK l no)).getD i (0, 0)).2) (loopW (visitF l tree fuel d) l way no hi i { s with looked := s.looked + 1, bs := s.bs ++ [no] }) = (loopW (visitF l tree fuel d) l way no hi (i + 1) { s with looked := s.looked + 1, bs := s.bs ++ [no] }) := by rw [loopW_succ]; unfold roundW; rw [if_neg (by rw [hdr]; decide), hxi]
   have hgi := loopW_grow (visitF_grow l tree fuel d) l way no hi { s with looked := s.looked + 1, bs := s.bs ++ [no] } (show i + 1 ≤ (nodC (inB l no)) by omega)
   rw [hch] at he hb_ hf
   have hB'14 := Bl.nextB (u24.below (Bl.nextB hB_21 hBw n23.below) (Nat.le_trans hBw g23)) hBw (below_drew W24)
   have hR'1 := ((hR.below n23.below).only (Only.of_upd (T := [67]) u24 n23.blk (by decide)) (by decide)).below (below_drew W24)
   refine yc (.o [] 8) (args := #[.pointer (some ⟨bw, 0, none⟩), .int .i64 no, .string ⟨((nodV l no).getD i []).toArray⟩, .agg #[.int .i64 (((splitL hi (nodK l no)).getD i (0, 0)).1), .int .i64 (((splitL hi (nodK l no)).getD i (0, 0)).2)]]) (.t B [64, 80, 3, 47]) (walker_child B bw Bi b pi ni ci l tree fuel d (hV (by omega)) way no _ _ ((nodV l no).getD i []) _ pe5 pb5 pf5 pw5 ce5 cb5 cf5 cw5 fv5 _ hBb (Nat.le_trans hBw hB'14.size) (by omega) hdr (valsL_short _ _ _) hR'1 (by rw [hch2]; exact Nat.le_trans hgi.1 he) (by rw [hch2]; exact Nat.le_trans hgi.2.1 hb_) (by rw [hch2]; exact Nat.le_trans hgi.2.2 hf)) ?_
   rintro _ W25 ⟨u25, pe3, pb3, pf3, pw3, ce3, cb3, cf3, cw3, fv3, rfl, hb25, hO25, hR3⟩
   have kW3'1 := (u24.blkT (kW3.below n23.below) n23.blk (by decide)).below (below_drew W24)
   refine ⟨(sft_only hb25 hO25), ?_⟩
   rw [hch2] at hR3
   have kW3 := hR3.blk
   refine xb 7 9 kW3 ?_
   refine xi 2 ((loopW (visitF l tree fuel d) l way no hi (i + 1) { s with looked := s.looked + 1, bs := s.bs ++ [no] }).dry) (fun hc26 => ?_) (fun hc26 => ?_)
   · obtain ⟨_, hEn, hBl, hFl, hFv, hWy, hAp, hI⟩ := hR3
     have hwc := (own_some hWy (by simp)).2
     have hwl : (way ++ [no]).length = way.length + 1 := by simp
     have hend : (loopW (visitF l tree fuel d) l way no hi (nodC (inB l no)) { s with looked := s.looked + 1, bs := s.bs ++ [no] }) = (loopW (visitF l tree fuel d) l way no hi (i + 1) { s with looked := s.looked + 1, bs := s.bs ++ [no] }) := loopW_dry _ _ _ _ _ _ (by omega) hc26
     refine xd 6 (.t B [64]) ?_
     refine xm2 (.b [0, 1, 2, 3, 5, 6, 7]) 4 8 ?_ ?_
     · have kW3'2 := kW3.below (below_drew W25)
       refine xb 0 8 kW3'2 ?_
       refine xb (.o [] 8) 8 kW3'2 ?_
       refine xwm (.e [9] 10) ((↑((way ++ [no]).length) : Int) - 1) (↑(((way ++ [no]).length) - 1) : Int) ?_
       refine xsH (.e [] 11) (fun _ _ _ _ zo zx zy V => run_sliceH (k := (((way ++ [no]).length) - 1)) (b := pw3) (n := (way ++ [no]).length) (c := cw3) (i := (↑(((way ++ [no]).length) - 1) : Int)) (ki := .i64) zo zx zy rfl (by omega) Tryz.underlying26 (by kernel_rfl) V) ?_
       refine ys (.o [12, 13] 14) kW3'2 [.slice pe3 ((loopW (visitF l tree fuel d) l way no hi (i + 1) { s with looked := s.looked + 1, bs := s.bs ++ [no] }).es.length) ce3, .slice pb3 ((loopW (visitF l tree fuel d) l way no hi (i + 1) { s with looked := s.looked + 1, bs := s.bs ++ [no] }).bs.length) cb3, .int .i64 (loopW (visitF l tree fuel d) l way no hi (i + 1) { s with looked := s.looked + 1, bs := s.bs ++ [no] }).deep, .int .i64 ((loopW (visitF l tree fuel d) l way no hi (i + 1) { s with looked := s.looked + 1, bs := s.bs ++ [no] }).looked : Int), .slice pf3 ((loopW (visitF l tree fuel d) l way no hi (i + 1) { s with looked := s.looked + 1, bs := s.bs ++ [no] }).fs.length) cf3, .pointer (some ⟨b, 0, none⟩), .int .i64 tree, .int .i64 fuel, .slice pw3 (((way ++ [no]).length) - 1) cw3, .bool ((loopW (visitF l tree fuel d) l way no hi (i + 1) { s with looked := s.looked + 1, bs := s.bs ++ [no] }).dry)] (.t B [64]) fun W27 u27 k27 => ⟨(sft_upd u27 kW3'2 hBb (by decide)), ?_⟩
       have k21_b1'1 := (((u24.blk (k21_b1.below n23.below) (Ne.symm (Ne.symm d23_b1))).below (below_drew W24)).only hO25 (by decide)).below (below_drew W25)
       have k21_b10'2 := (k21_b10'1.only hO25 (by decide)).below (below_drew W25)
       have hB'15 := u27.below (Bl.nextB (hB'14.trans hb25) hBw (below_drew W25)) hBb
       have hO'1 := ((((Only.upd_new (hO_21.trans (Only.of_below n23.below)) u24 g23).trans (Only.of_below (below_drew W24))).trans hO25).trans (Only.of_below (below_drew W25))).trans (Only.of_upd u27 kW3'2 (by decide))
       have hEn'5 := u27.own2 (own_below hEn (below_drew W25)) kW3'2 (by decide)
       have hBl'5 := u27.own2 (own_below hBl (below_drew W25)) kW3'2 (by decide)
       have hFl'5 := u27.own2 (own_below hFl (below_drew W25)) kW3'2 (by decide)
       have hFv'5 := (hFv.below (below_drew W25)).only (Only.of_upd (T := [64]) u27 kW3'2 (by decide)) (by decide)
       have hWy'11 := u27.own2 (own_below hWy (below_drew W25)) kW3'2 (by decide)
       have hI'6 := (hI.below (below_drew W25)).only (Only.of_upd (T := [64]) u27 kW3'2 (by decide)) (by decide)
       refine xe 1 (.tuple #[]) ?_
       rw [hch, hend]
       rw [show (way ++ [no]).length - 1 = way.length by simp] at k27
       exact ⟨_, pe3, pb3, pf3, pw3, ce3, cb3, cf3, cw3, fv3, rfl, hB'15, hO'1, k27, hEn'5, hBl'5, hFl'5, hFv'5, way_cut hWy'11, hAp.len _ _ _ _, hI'6⟩
     have kW3'3 := kW3.below (below_drew W25)
     refine xb 0 8 kW3'3 ?_
     refine xwm (.e [9] 10) ((↑((way ++ [no]).length) : Int) - 1) (↑(((way ++ [no]).length) - 1) : Int) ?_
     refine xb (.o [] 4) 8 kW3'3 ?_
     refine xsH (.e [] 11) (fun _ _ _ _ zo zx zy V => run_sliceH (k := (((way ++ [no]).length) - 1)) (b := pw3) (n := (way ++ [no]).length) (c := cw3) (i := (↑(((way ++ [no]).length) - 1) : Int)) (ki := .i64) zo zx zy rfl (by omega) Tryz.underlying26 (by kernel_rfl) V) ?_
     refine ys (.o [12, 13] 14) kW3'3 [.slice pe3 ((loopW (visitF l tree fuel d) l way no hi (i + 1) { s with looked := s.looked + 1, bs := s.bs ++ [no] }).es.length) ce3, .slice pb3 ((loopW (visitF l tree fuel d) l way no hi (i + 1) { s with looked := s.looked + 1, bs := s.bs ++ [no] }).bs.length) cb3, .int .i64 (loopW (visitF l tree fuel d) l way no hi (i + 1) { s with looked := s.looked + 1, bs := s.bs ++ [no] }).deep, .int .i64 ((loopW (visitF l tree fuel d) l way no hi (i + 1) { s with looked := s.looked + 1, bs := s.bs ++ [no] }).looked : Int), .slice pf3 ((loopW (visitF l tree fuel d) l way no hi (i + 1) { s with looked := s.looked + 1, bs := s.bs ++ [no] }).fs.length) cf3, .pointer (some ⟨b, 0, none⟩), .int .i64 tree, .int .i64 fuel, .slice pw3 (((way ++ [no]).length) - 1) cw3, .bool ((loopW (visitF l tree fuel d) l way no hi (i + 1) { s with looked := s.looked + 1, bs := s.bs ++ [no] }).dry)] (.t B [64]) fun W28 u28 k28 => ⟨(sft_upd u28 kW3'3 hBb (by decide)), ?_⟩
     have k21_b1'2 := (((u24.blk (k21_b1.below n23.below) (Ne.symm (Ne.symm d23_b1))).below (below_drew W24)).only hO25 (by decide)).below (below_drew W25)
     have k21_b10'3 := (k21_b10'1.only hO25 (by decide)).below (below_drew W25)
     have hB'16 := u28.below (Bl.nextB (hB'14.trans hb25) hBw (below_drew W25)) hBb
     have hO'2 := ((((Only.upd_new (hO_21.trans (Only.of_below n23.below)) u24 g23).trans (Only.of_below (below_drew W24))).trans hO25).trans (Only.of_below (below_drew W25))).trans (Only.of_upd u28 kW3'3 (by decide))
     have hEn'6 := u28.own2 (own_below hEn (below_drew W25)) kW3'3 (by decide)
     have hBl'6 := u28.own2 (own_below hBl (below_drew W25)) kW3'3 (by decide)
     have hFl'6 := u28.own2 (own_below hFl (below_drew W25)) kW3'3 (by decide)
     have hFv'6 := (hFv.below (below_drew W25)).only (Only.of_upd (T := [64]) u28 kW3'3 (by decide)) (by decide)
     have hWy'12 := u28.own2 (own_below hWy (below_drew W25)) kW3'3 (by decide)
     have hI'7 := (hI.below (below_drew W25)).only (Only.of_upd (T := [64]) u28 kW3'3 (by decide)) (by decide)
     refine xe 1 (.tuple #[]) ?_
     rw [hch, hend]
     rw [show (way ++ [no]).length - 1 = way.length by simp] at k28
     exact ⟨_, pe3, pb3, pf3, pw3, ce3, cb3, cf3, cw3, fv3, rfl, hB'16, hO'2, k28, hEn'6, hBl'6, hFl'6, hFv'6, way_cut hWy'12, hAp.len _ _ _ _, hI'7⟩
   refine xwm 4 ((↑i : Int) + 1) (↑(i + 1) : Int) ?_
   have hB'17 := hB'14.trans hb25
   have hO'3 := ((Only.upd_new (hO_21.trans (Only.of_below n23.below)) u24 g23).trans (Only.of_below (below_drew W24))).trans hO25
   have k21_b1'3 := ((u24.blk (k21_b1.below n23.below) (Ne.symm (Ne.symm d23_b1))).below (below_drew W24)).only hO25 (by decide)
   have k21_b10'4 := k21_b10'1.only hO25 (by decide)
   have hv_'4 := own_only hv_'3 hO25 (by decide)
   have hSp'1 := own_only (own_below (u24.own3 (own_below hSp n23.below) r23_hSp) (below_drew W24)) hO25 (by decide)
   exact ze 2 (hJ21 _ _ _ ⟨i + 1, _, _, _, _, _, _, _, _, _, rfl, rfl, hB'17, hO'3, k21_b1'3, k21_b10'4, hR3, hv_'4, hSp'1, by omega, by assumption⟩ (by omega))
 obtain ⟨_, hEn, hBl, hFl, hFv, hWy, hAp, hI⟩ := hR
 have hwc := (own_some hWy (by simp)).2
 have hwl : (way ++ [no]).length = way.length + 1 := by simp
 have hend : (loopW (visitF l tree fuel d) l way no hi (nodC (inB l no)) { s with looked := s.looked + 1, bs := s.bs ++ [no] }) = (loopW (visitF l tree fuel d) l way no hi i { s with looked := s.looked + 1, bs := s.bs ++ [no] }) := by rw [show i = (nodC (inB l no)) by omega]
 refine xd 5 (.t B [64]) ?_
 refine xm2 (.b [0, 1, 2, 3, 5, 6, 7]) 4 8 ?_ ?_
 · have kW3'4 := kW3.below (below_drew W21)
   refine xb 0 8 kW3'4 ?_
   refine xb (.o [] 8) 8 kW3'4 ?_
   refine xwm (.e [9] 10) ((↑((way ++ [no]).length) : Int) - 1) (↑(((way ++ [no]).length) - 1) : Int) ?_
   refine xsH (.e [] 11) (fun _ _ _ _ zo zx zy V => run_sliceH (k := (((way ++ [no]).length) - 1)) (b := pw5) (n := (way ++ [no]).length) (c := cw5) (i := (↑(((way ++ [no]).length) - 1) : Int)) (ki := .i64) zo zx zy rfl (by omega) Tryz.underlying26 (by kernel_rfl) V) ?_
   refine ys (.o [12, 13] 14) kW3'4 [.slice pe5 ((loopW (visitF l tree fuel d) l way no hi i { s with looked := s.looked + 1, bs := s.bs ++ [no] }).es.length) ce5, .slice pb5 ((loopW (visitF l tree fuel d) l way no hi i { s with looked := s.looked + 1, bs := s.bs ++ [no] }).bs.length) cb5, .int .i64 (loopW (visitF l tree fuel d) l way no hi i { s with looked := s.looked + 1, bs := s.bs ++ [no] }).deep, .int .i64 ((loopW (visitF l tree fuel d) l way no hi i { s with looked := s.looked + 1, bs := s.bs ++ [no] }).looked : Int), .slice pf5 ((loopW (visitF l tree fuel d) l way no hi i { s with looked := s.looked + 1, bs := s.bs ++ [no] }).fs.length) cf5, .pointer (some ⟨b, 0, none⟩), .int .i64 tree, .int .i64 fuel, .slice pw5 (((way ++ [no]).length) - 1) cw5, .bool ((loopW (visitF l tree fuel d) l way no hi i { s with looked := s.looked + 1, bs := s.bs ++ [no] }).dry)] (.t B [64]) fun W29 u29 k29 => ⟨(sft_upd u29 kW3'4 hBb (by decide)), ?_⟩
   have k21_b1'4 := k21_b1.below (below_drew W21)
   have k21_b10'5 := k21_b10.below (below_drew W21)
   have hB'18 := u29.below (Bl.nextB hB_21 hBw (below_drew W21)) hBb
   have hO'4 := (hO_21.trans (Only.of_below (below_drew W21))).trans (Only.of_upd u29 kW3'4 (by decide))
   have hEn'7 := u29.own2 (own_below hEn (below_drew W21)) kW3'4 (by decide)
   have hBl'7 := u29.own2 (own_below hBl (below_drew W21)) kW3'4 (by decide)
   have hFl'7 := u29.own2 (own_below hFl (below_drew W21)) kW3'4 (by decide)
   have hFv'7 := (hFv.below (below_drew W21)).only (Only.of_upd (T := [64]) u29 kW3'4 (by decide)) (by decide)
   have hWy'13 := u29.own2 (own_below hWy (below_drew W21)) kW3'4 (by decide)
   have hI'8 := (hI.below (below_drew W21)).only (Only.of_upd (T := [64]) u29 kW3'4 (by decide)) (by decide)
   refine xe 1 (.tuple #[]) ?_
   rw [hch, hend]
   rw [show (way ++ [no]).length - 1 = way.length by simp] at k29
   exact ⟨_, pe5, pb5, pf5, pw5, ce5, cb5, cf5, cw5, fv5, rfl, hB'18, hO'4, k29, hEn'7, hBl'7, hFl'7, hFv'7, way_cut hWy'13, hAp.len _ _ _ _, hI'8⟩
 have kW3'5 := kW3.below (below_drew W21)
 refine xb 0 8 kW3'5 ?_
 refine xwm (.e [9] 10) ((↑((way ++ [no]).length) : Int) - 1) (↑(((way ++ [no]).length) - 1) : Int) ?_
 refine xb (.o [] 4) 8 kW3'5 ?_
 refine xsH (.e [] 11) (fun _ _ _ _ zo zx zy V => run_sliceH (k := (((way ++ [no]).length) - 1)) (b := pw5) (n := (way ++ [no]).length) (c := cw5) (i := (↑(((way ++ [no]).length) - 1) : Int)) (ki := .i64) zo zx zy rfl (by omega) Tryz.underlying26 (by kernel_rfl) V) ?_
 refine ys (.o [12, 13] 14) kW3'5 [.slice pe5 ((loopW (visitF l tree fuel d) l way no hi i { s with looked := s.looked + 1, bs := s.bs ++ [no] }).es.length) ce5, .slice pb5 ((loopW (visitF l tree fuel d) l way no hi i { s with looked := s.looked + 1, bs := s.bs ++ [no] }).bs.length) cb5, .int .i64 (loopW (visitF l tree fuel d) l way no hi i { s with looked := s.looked + 1, bs := s.bs ++ [no] }).deep, .int .i64 ((loopW (visitF l tree fuel d) l way no hi i { s with looked := s.looked + 1, bs := s.bs ++ [no] }).looked : Int), .slice pf5 ((loopW (visitF l tree fuel d) l way no hi i { s with looked := s.looked + 1, bs := s.bs ++ [no] }).fs.length) cf5, .pointer (some ⟨b, 0, none⟩), .int .i64 tree, .int .i64 fuel, .slice pw5 (((way ++ [no]).length) - 1) cw5, .bool ((loopW (visitF l tree fuel d) l way no hi i { s with looked := s.looked + 1, bs := s.bs ++ [no] }).dry)] (.t B [64]) fun W30 u30 k30 => ⟨(sft_upd u30 kW3'5 hBb (by decide)), ?_⟩
 have k21_b1'5 := k21_b1.below (below_drew W21)
 have k21_b10'6 := k21_b10.below (below_drew W21)
 have hB'19 := u30.below (Bl.nextB hB_21 hBw (below_drew W21)) hBb
 have hO'5 := (hO_21.trans (Only.of_below (below_drew W21))).trans (Only.of_upd u30 kW3'5 (by decide))
 have hEn'8 := u30.own2 (own_below hEn (below_drew W21)) kW3'5 (by decide)
 have hBl'8 := u30.own2 (own_below hBl (below_drew W21)) kW3'5 (by decide)
 have hFl'8 := u30.own2 (own_below hFl (below_drew W21)) kW3'5 (by decide)
 have hFv'8 := (hFv.below (below_drew W21)).only (Only.of_upd (T := [64]) u30 kW3'5 (by decide)) (by decide)
 have hWy'14 := u30.own2 (own_below hWy (below_drew W21)) kW3'5 (by decide)
 have hI'9 := (hI.below (below_drew W21)).only (Only.of_upd (T := [64]) u30 kW3'5 (by decide)) (by decide)
 refine xe 1 (.tuple #[]) ?_
 rw [hch, hend]
 rw [show (way ++ [no]).length - 1 = way.length by simp] at k30
 exact ⟨_, pe5, pb5, pf5, pw5, ce5, cb5, cf5, cw5, fv5, rfl, hB'19, hO'5, k30, hEn'8, hBl'8, hFl'8, hFv'8, way_cut hWy'14, hAp.len _ _ _ _, hI'9⟩
end Go.Proofs.YtolblnjohaooaaaGreatDoor
namespace Go.Proofs.YtolblnjohaooaaaGreatDoor
open Go.RowKit Go.Extern.Stop Go.Stop Go.Extern
set_option linter.unusedVariables false
theorem loopW_ind {V : List Int → Int → Int → Int → WS → WS} {l : List UInt8} {way : List Int} {no hi : Int} {s : WS} (P : Nat → WS → Prop) (h0 : P 0 s) :
    ∀ n, (∀ i t, i < n → t.dry = false → P i t → P (i + 1) (childW V way no ((nodV l no).getD i []) (partAt hi (nodK l no) i) t)) → (∀ i t, i < n → t.dry = true → P i t → P (i + 1) t) → P n (loopW V l way no hi n s)
  | 0, _, _ => h0
  | n + 1, hs, hd => by
    have ih := loopW_ind P h0 n (fun i t hi => hs i t (by omega)) (fun i t hi => hd i t (by omega))
    rw [loopW_succ]
    unfold roundW
    split
    · rename_i h; exact hd n _ (by omega) h ih
    · rename_i h; exact hs n _ (by omega) (by simpa using h) ih
theorem rootE_no (v : List UInt8) : rootE v = 0 ∨ rootE v = 2 ∨ rootE v = 7 := by
  unfold rootE; split
  · split <;> simp
  · simp
theorem keysErr_no (l : List UInt8) : ∀ n, keysErr l n = 0 ∨ keysErr l n = 2 ∨ keysErr l n = 8
  | 0 => .inl rfl
  | n + 1 => by
    rw [keysErr]
    split
    · exact keysErr_no l n
    · unfold keyE; split
      · simp
      · split <;> simp
theorem nodeErr_no (l : List UInt8) (no tree : Int) : nodeErr l no tree ≠ 12 := by
  unfold nodeErr
  split
  · unfold nodeTE
    split
    · split <;> decide
    · unfold nodeE
      split
      · split
        · rcases keysErr_no (inB l no) (nodC (inB l no)) with h | h | h <;> rw [h] <;> decide
        · decide
      · decide
  · unfold inE
    split
    · unfold openE
      repeat' split
      all_goals decide
    · decide
theorem lookE_no (l : List UInt8) (way : List Int) (no tree lo hi deep : Int) : lookE l way no tree lo hi deep ≠ 12 := by
  unfold lookE
  split
  · decide
  · split
    · decide
    · split
      · exact nodeErr_no _ _ _
      · split
        · decide
        · split <;> decide
theorem maxG_18 (t : Int) (b : Bool) : maxG t b ≤ 18 := by
  unfold maxG maxN
  repeat' split
  all_goals omega
theorem nodeE_shape {l : List UInt8} (h : nodeE l = 0) : shapeB l = true := by
  unfold nodeE at h
  split at h
  · assumption
  · cases h
theorem nodeTE_zero {l : List UInt8} {tree : Int} (h : nodeTE l tree = 0) : nodeE l = 0 := by
  unfold nodeTE at h
  split at h
  · assumption
  · assumption
theorem nodeErr_TE {l : List UInt8} {no tree : Int} (h : nodeErr l no tree = 0) : inE l 2 no = 0 ∧ nodeTE (inB l no) tree = 0 := by
  unfold nodeErr at h
  split at h
  · exact ⟨by assumption, h⟩
  · rename_i q; exact absurd h q
theorem look_node {l : List UInt8} {way : List Int} {no tree lo hi deep : Int} (h : lookE l way no tree lo hi deep = 0) : nodeErr l no tree = 0 ∧ fitsI lo hi (nodK l no) = 0 ∧ nodC (inB l no) ≤ 18 := by
  unfold lookE at h
  split at h
  · cases h
  · split at h
    · cases h
    · split at h
      · rename_i q; exact absurd h q
      · rename_i q
        split at h
        · cases h
        · rename_i q2
          have q1 : nodeErr l no tree = 0 := Decidable.not_not.1 q
          exact ⟨q1, Decidable.not_not.1 q2, Nat.le_trans (node_shapeP (nodeE_shape (nodeTE_zero (nodeErr_TE q1).2))) (maxG_18 _ _)⟩
theorem fits_sort {lo hi : Int} {L : List Int} (h : fitsI lo hi L = 0) : rightB lo hi = true ∧ SortP L ∧ ∀ k ∈ L, lo ≤ k ∧ k < hi := by
  unfold fitsI at h
  split at h
  · split at h
    · split at h
      · exact ⟨by assumption, by assumption, by assumption⟩
      · cases h
    · cases h
  · cases h
/-- an entry stands in its block: at the first place of its key -/
def InBlk (l : List UInt8) (tree : Int) (x : Ent) : Prop :=
  nodeErr l x.2.2 tree = 0 ∧ nodL (inB l x.2.2) = true ∧ ∃ k, k < nodC (inB l x.2.2) ∧ (nodK l x.2.2).getD k 0 = x.1 ∧ (nodV l x.2.2).getD k [] = x.2.1 ∧ ∀ j, j < k → (nodK l x.2.2).getD j 0 ≠ x.1
/-- keys that rise, all within a span -/
def Rise (lo hi : Int) (es : List Ent) : Prop := es.Pairwise (fun x y => x.1 < y.1) ∧ ∀ x ∈ es, lo ≤ x.1 ∧ x.1 < hi
theorem Rise.nil (lo hi : Int) : Rise lo hi [] := ⟨.nil, fun _ h => by cases h⟩
theorem Rise.app {lo mi hi : Int} {a b : List Ent} (h : Rise lo mi a) (k : Rise mi hi b) (h1 : lo ≤ mi) (h2 : mi ≤ hi) : Rise lo hi (a ++ b) := by
  refine ⟨List.pairwise_append.2 ⟨h.1, k.1, fun x hx y hy => ?_⟩, fun x hx => ?_⟩
  · have := (h.2 x hx).2; have := (k.2 y hy).1; omega
  · rcases List.mem_append.1 hx with q | q
    · have := h.2 x q; omega
    · have := k.2 x q; omega
/-- what came between the states s and t of a visit of no below way, of the span lo hi -/
structure Went (l : List UInt8) (tree fuel : Int) (hd : Option Int) (lo hi : Int) (s t : WS) (es : List Ent) (fs : List (List Int × Int)) : Prop where
  esE : t.es = s.es ++ es
  fsE : t.fs = s.fs ++ fs
  rise : Rise lo hi es
  inb : ∀ x ∈ es, InBlk l tree x
  flt : ∀ f ∈ fs, f.1.head? = hd ∧ f.1 ≠ [] ∧ f.2 ≠ 0
  dry : t.dry = true ↔ s.dry = true ∨ ∃ f ∈ fs, f.2 = 12
  fuelE : t.dry = true → s.dry = true ∨ fuel ≤ t.looked
  look : s.looked ≤ fuel.toNat → t.looked ≤ fuel.toNat
  more : s.looked ≤ t.looked
  blks : t.bs.length + s.looked ≤ s.bs.length + t.looked
theorem Went.refl (l : List UInt8) (tree fuel : Int) (hd : Option Int) (lo hi : Int) (s : WS) : Went l tree fuel hd lo hi s s [] [] :=
  ⟨by simp, by simp, Rise.nil _ _, by simp, by simp, by simp, fun h => .inl h, fun h => h, Nat.le_refl _, Nat.le_refl _⟩
theorem Went.trans {l : List UInt8} {tree fuel : Int} {hd : Option Int} {lo mi hi : Int} {s t u : WS} {es es2 : List Ent} {fs fs2 : List (List Int × Int)} (h : Went l tree fuel hd lo mi s t es fs) (k : Went l tree fuel hd mi hi t u es2 fs2) (h1 : lo ≤ mi) (h2 : mi ≤ hi) :
    Went l tree fuel hd lo hi s u (es ++ es2) (fs ++ fs2) where
  esE := by rw [k.esE, h.esE, List.append_assoc]
  fsE := by rw [k.fsE, h.fsE, List.append_assoc]
  rise := h.rise.app k.rise h1 h2
  inb x hx := by
    rcases List.mem_append.1 hx with q | q
    · exact h.inb x q
    · exact k.inb x q
  flt f hf := by
    rcases List.mem_append.1 hf with q | q
    · exact h.flt f q
    · exact k.flt f q
  dry := by
    rw [k.dry, h.dry]
    constructor
    · rintro ((q | ⟨f, q1, q2⟩) | ⟨f, q1, q2⟩)
      · exact .inl q
      · exact .inr ⟨f, List.mem_append_left _ q1, q2⟩
      · exact .inr ⟨f, List.mem_append_right _ q1, q2⟩
    · rintro (q | ⟨f, q1, q2⟩)
      · exact .inl (.inl q)
      · rcases List.mem_append.1 q1 with q | q
        · exact .inl (.inr ⟨f, q, q2⟩)
        · exact .inr ⟨f, q, q2⟩
  fuelE h0 := by
    rcases k.fuelE h0 with q | q
    · rcases h.fuelE q with q | q
      · exact .inl q
      · exact .inr (by have := k.more; omega)
    · exact .inr q
  look h0 := k.look (h.look h0)
  more := Nat.le_trans h.more k.more
  blks := by have := h.blks; have := k.blks; omega
theorem Went.wide {l : List UInt8} {tree fuel : Int} {hd : Option Int} {lo hi lo2 hi2 : Int} {s t : WS} {es : List Ent} {fs : List (List Int × Int)} (h : Went l tree fuel hd lo hi s t es fs) (h1 : lo2 ≤ lo) (h2 : hi ≤ hi2) : Went l tree fuel hd lo2 hi2 s t es fs :=
  { h with rise := ⟨h.rise.1, fun x hx => by have := h.rise.2 x hx; omega⟩ }
theorem Went.note (l : List UInt8) (tree fuel : Int) {hd : Option Int} (lo hi : Int) (way : List Int) (no c : Int) (s : WS) (hc : c ≠ 0) (hc2 : c ≠ 12) (hh : (way ++ [no]).head? = hd) : Went l tree fuel hd lo hi s (noteW way [no] c s) [] [(way ++ [no], c)] :=
  ⟨by simp [noteW], by simp [noteW], Rise.nil _ _, by simp, (fun f hf => by rw [List.mem_singleton.1 hf]; exact ⟨hh, by simp, hc⟩), by simp [noteW, hc2], fun h => .inl (by simpa [noteW] using h), fun h => by simpa [noteW] using h, Nat.le_refl _, Nat.le_refl _⟩
theorem partAt_le {lo hi : Int} {L : List Int} (hf : fitsI lo hi L = 0) {i : Nat} (h : i < L.length) : lo ≤ (partAt hi L i).1 ∧ (partAt hi L i).1 ≤ (partAt hi L i).2 ∧ (partAt hi L i).2 ≤ hi ∧ (i + 1 < L.length → (partAt hi L i).2 = (partAt hi L (i + 1)).1) := by
  obtain ⟨h1, h2, h3⟩ := fits_sort hf
  have h4 := h3 L[i] (List.getElem_mem _)
  unfold partAt
  simp only [List.getElem?_eq_getElem h, Option.getD_some]
  by_cases hn : i + 1 < L.length
  · have h5 := h3 L[i + 1] (List.getElem_mem _)
    have h6 := SortP.lt h2 (i + 1) i (by omega) hn
    simp only [List.getElem?_eq_getElem h, List.getElem?_eq_getElem hn, Option.getD_some] at h6 ⊢
    exact ⟨h4.1, by omega, by omega, fun _ => trivial⟩
  · rw [List.getElem?_eq_none (by omega)]
    simp only [Option.getD_none]
    exact ⟨h4.1, by omega, Int.le_refl _, fun h => absurd h hn⟩
theorem leaf_rise {lo hi : Int} {l : List UInt8} {no : Int} (hf : fitsI lo hi (nodK l no) = 0) (Vs : List (List UInt8)) : Rise lo hi (leafL (nodK l no) Vs no (nodC (inB l no))) := by
  obtain ⟨h1, h2, h3⟩ := fits_sort hf
  have hl : (nodK l no).length = nodC (inB l no) := by simp [nodK, keysI]
  refine ⟨?_, ?_⟩
  · unfold leafL
    rw [List.pairwise_map]
    refine List.Pairwise.imp_of_mem (R := fun a b => a < b) ?_ List.pairwise_lt_range
    intro a b ha hb hab
    have := SortP.lt h2 b a hab (by rw [hl]; simpa using hb)
    simpa [List.getD] using this
  · intro x hx
    unfold leafL at hx
    obtain ⟨j, hj, rfl⟩ := List.mem_map.1 hx
    have hj : j < (nodK l no).length := by rw [hl]; simpa using hj
    have := h3 (nodK l no)[j] (List.getElem_mem _)
    simpa [List.getD, hj] using this
theorem leaf_inb {lo hi : Int} {l : List UInt8} {no tree : Int} (hn : nodeErr l no tree = 0) (hl : nodL (inB l no) = true) (hf : fitsI lo hi (nodK l no) = 0) : ∀ x ∈ leafL (nodK l no) (nodV l no) no (nodC (inB l no)), InBlk l tree x := by
  intro x hx
  obtain ⟨h1, h2, h3⟩ := fits_sort hf
  have hk : (nodK l no).length = nodC (inB l no) := by simp [nodK, keysI]
  unfold leafL at hx
  obtain ⟨j, hj, rfl⟩ := List.mem_map.1 hx
  have hj : j < nodC (inB l no) := by simpa using hj
  refine ⟨hn, hl, j, hj, rfl, rfl, fun i hi => ?_⟩
  have := SortP.lt h2 j i hi (by rw [hk]; exact hj)
  simp only [List.getD] 
  omega
theorem visitF_went (l : List UInt8) (tree fuel : Int) : ∀ (d : Nat) (way : List Int) (no lo hi : Int) (s : WS), s.dry = false → ∃ es fs, Went l tree fuel (way ++ [no]).head? lo hi s (visitF l tree fuel d way no lo hi s) es fs
  | 0, way, no, lo, hi, s, _ => ⟨[], [], Went.refl _ _ _ _ _ _ _⟩
  | d + 1, way, no, lo, hi, s, hs => by
    unfold visitF
    split
    · rename_i hf
      exact ⟨[], [(way ++ [no], 12)], by simp [noteW], by simp [noteW], Rise.nil _ _, by simp, by simp, by simp, fun _ => .inr hf, fun h => h, Nat.le_refl _, Nat.le_refl _⟩
    · rename_i hf
      have hlk : s.looked + 1 ≤ fuel.toNat := by omega
      split
      · rename_i he
        have := Went.note l tree fuel lo hi way no _ { s with looked := s.looked + 1 } he (lookE_no _ _ _ _ _ _ _) rfl
        exact ⟨_, _, this.esE, this.fsE, this.rise, this.inb, this.flt, this.dry, fun h => by simp [noteW, hs] at h, fun _ => hlk, by simp [noteW], by simp [noteW]⟩
      · rename_i he
        have he : lookE l way no tree lo hi s.deep = 0 := Decidable.not_not.1 he
        obtain ⟨hn, hft, hc⟩ := look_node he
        split
        · rename_i hl
          exact ⟨_, [], rfl, by simp, leaf_rise hft _, leaf_inb hn hl hft, by simp, by simp [hs], fun h => by simp [hs] at h, fun _ => hlk, by simp, by simp; omega⟩
        · have hk : (nodK l no).length = nodC (inB l no) := by simp [nodK, keysI]
          have hfs := fits_sort hft
          have hrt : lo ≤ hi := by have := hfs.1; unfold rightB at this; simp at this; omega
          have hloop := loopW_ind (V := visitF l tree fuel d) (l := l) (way := way) (no := no) (hi := hi) (s := { s with looked := s.looked + 1, bs := s.bs ++ [no] })
            (fun i t => ∃ es fs, Went l tree fuel (way ++ [no]).head? lo (if i = 0 then lo else (partAt hi (nodK l no) (i - 1)).2) { s with looked := s.looked + 1, bs := s.bs ++ [no] } t es fs)
            ⟨[], [], Went.refl _ _ _ _ _ _ _⟩ (nodC (inB l no)) ?_ ?_
          · obtain ⟨es, fs, q⟩ := hloop
            refine ⟨es, fs, q.esE, q.fsE, ?_, q.inb, q.flt, q.dry, fun h => ?_, fun _ => q.look hlk, by have := q.more; simp only at this; omega, by have := q.blks; simp at this; omega⟩
            · refine ⟨q.rise.1, fun x hx => ?_⟩
              have := q.rise.2 x hx
              split at this
              · omega
              · rename_i h0
                have := (partAt_le hft (i := nodC (inB l no) - 1) (by rw [hk]; omega)).2.2.1
                omega
            · rcases q.fuelE h with q2 | q2
              · exact .inl q2
              · exact .inr q2
          · rintro i t hi0 htd ⟨es, fs, q⟩
            have hp := partAt_le hft (i := i) (by rw [hk]; exact hi0)
            have hmid : lo ≤ (if i = 0 then lo else (partAt hi (nodK l no) (i - 1)).2) ∧ (if i = 0 then lo else (partAt hi (nodK l no) (i - 1)).2) ≤ (partAt hi (nodK l no) i).1 := by
              split
              · exact ⟨Int.le_refl _, hp.1⟩
              · rename_i h0
                have hp2 := partAt_le hft (i := i - 1) (by rw [hk]; omega)
                have := hp2.2.2.2 (by rw [hk]; omega)
                rw [show i - 1 + 1 = i by omega] at this
                omega
            have q' := q.wide (Int.le_refl lo) hmid.2
            rw [if_neg (by omega), Nat.add_sub_cancel]
            unfold childW
            split
            · obtain ⟨es2, fs2, r⟩ := visitF_went l tree fuel d (way ++ [no]) (rootN ((nodV l no).getD i []) : Int) (partAt hi (nodK l no) i).1 (partAt hi (nodK l no) i).2 t htd
              have hh : ((way ++ [no]) ++ [(rootN ((nodV l no).getD i []) : Int)]).head? = (way ++ [no]).head? := by cases way <;> rfl
              rw [hh] at r
              exact ⟨_, _, q'.trans r (by omega) hp.2.1⟩
            · rename_i hre
              have r := Went.note l tree fuel (partAt hi (nodK l no) i).1 (partAt hi (nodK l no) i).2 way no (rootE ((nodV l no).getD i [])) t hre (by rcases rootE_no ((nodV l no).getD i []) with h | h | h <;> rw [h] <;> decide) rfl
              exact ⟨_, _, q'.trans r (by omega) hp.2.1⟩
          · rintro i t hi0 htd ⟨es, fs, q⟩
            have hp := partAt_le hft (i := i) (by rw [hk]; exact hi0)
            rw [if_neg (by omega), Nat.add_sub_cancel]
            refine ⟨es, fs, q.wide (Int.le_refl _) ?_⟩
            split
            · omega
            · rename_i h0
              have hp2 := partAt_le hft (i := i - 1) (by rw [hk]; omega)
              have := hp2.2.2.2 (by rw [hk]; omega)
              rw [show i - 1 + 1 = i by omega] at this
              omega
/-- how much is found, by the nodes looked at -/
theorem visitF_count (l : List UInt8) (tree fuel : Int) : ∀ (d : Nat) (way : List Int) (no lo hi : Int) (s : WS), s.dry = false →
    (visitF l tree fuel d way no lo hi s).fs.length + (visitF l tree fuel d way no lo hi s).es.length + 18 * s.looked ≤ s.fs.length + s.es.length + 18 * (visitF l tree fuel d way no lo hi s).looked + (if (visitF l tree fuel d way no lo hi s).dry = true then 1 else 0)
  | 0, way, no, lo, hi, s, hs => by simp [visitF, hs]
  | d + 1, way, no, lo, hi, s, hs => by
    unfold visitF
    split
    · simp [noteW]; omega
    · split
      · simp [noteW, hs]; omega
      · rename_i he
        have he : lookE l way no tree lo hi s.deep = 0 := Decidable.not_not.1 he
        obtain ⟨hn, hft, hc⟩ := look_node he
        split
        · simp [leafL_len, hs]; omega
        · have hloop := loopW_ind (V := visitF l tree fuel d) (l := l) (way := way) (no := no) (hi := hi) (s := { s with looked := s.looked + 1, bs := s.bs ++ [no] })
            (fun i t => t.fs.length + t.es.length + 18 * (s.looked + 1) ≤ s.fs.length + s.es.length + i + 18 * t.looked + (if t.dry = true then 1 else 0)) (by simp [hs]) (nodC (inB l no)) ?_ ?_
          · omega
          · intro i t hi0 htd q
            rw [htd] at q
            unfold childW
            split
            · have := visitF_count l tree fuel d (way ++ [no]) (rootN ((nodV l no).getD i []) : Int) (partAt hi (nodK l no) i).1 (partAt hi (nodK l no) i).2 t htd
              simp at q
              omega
            · simp [noteW, htd] at q ⊢; omega
          · intro i t hi0 htd q; omega
/-- once the fuel is used up it stays so -/
theorem visitF_dry (l : List UInt8) (tree fuel : Int) (V : List Int → Int → Int → Int → WS → WS) (way : List Int) (no hi : Int) (s : WS) {k n : Nat} (hk : k ≤ n) (h : (loopW V l way no hi n s).dry = false) : (loopW V l way no hi k s).dry = false := by
  cases q : (loopW V l way no hi k s).dry with
  | false => rfl
  | true => rw [loopW_dry V l way no hi s hk q] at h; rw [← h, q]
/-- with more fuel a scan that had enough is the same -/
theorem visitF_more (l : List UInt8) (tree fuel fuel2 : Int) (hff : fuel ≤ fuel2) : ∀ (d : Nat) (way : List Int) (no lo hi : Int) (s : WS), (visitF l tree fuel d way no lo hi s).dry = false → visitF l tree fuel2 d way no lo hi s = visitF l tree fuel d way no lo hi s
  | 0, _, _, _, _, _, _ => rfl
  | d + 1, way, no, lo, hi, s, h => by
    unfold visitF at h ⊢
    by_cases hf : fuel ≤ s.looked
    · rw [if_pos hf] at h; cases h
    · rw [if_neg hf] at h
      rw [if_neg (show ¬ fuel2 ≤ s.looked by omega), if_neg hf]
      by_cases he : lookE l way no tree lo hi s.deep ≠ 0
      · rw [if_pos he, if_pos he]
      · rw [if_neg he] at h
        rw [if_neg he, if_neg he]
        by_cases hl : nodL (inB l no) = true
        · rw [if_pos hl, if_pos hl]
        · rw [if_neg hl] at h
          rw [if_neg hl, if_neg hl]
          have key : ∀ k, k ≤ nodC (inB l no) → loopW (visitF l tree fuel2 d) l way no hi k { s with looked := s.looked + 1, bs := s.bs ++ [no] } = loopW (visitF l tree fuel d) l way no hi k { s with looked := s.looked + 1, bs := s.bs ++ [no] } := by
            intro k
            induction k with
            | zero => intro _; rfl
            | succ k ih =>
              intro hk
              have h1 := visitF_dry l tree fuel _ way no hi _ hk h
              have h0 := visitF_dry l tree fuel _ way no hi _ (show k ≤ nodC (inB l no) by omega) h
              rw [loopW_succ, loopW_succ, ih (by omega)]
              rw [loopW_succ] at h1
              unfold roundW at h1 ⊢
              rw [if_neg (by rw [h0]; decide)] at h1
              rw [if_neg (by rw [h0]; decide), if_neg (by rw [h0]; decide)]
              unfold childW at h1 ⊢
              split
              · rename_i hr
                rw [if_pos hr] at h1
                exact visitF_more l tree fuel fuel2 hff d _ _ _ _ _ h1
              · rfl
          exact key _ (Nat.le_refl _)
end Go.Proofs.YtolblnjohaooaaaGreatDoor
namespace Go.Proofs.YtolblnjohaooaaaGreatDoor
open Go.RowKit Go.Extern.Stop Go.Stop Go.Extern
set_option linter.unusedVariables false
attribute [local irreducible] wpList wpAnyH Code.wp Oper.wp Go

theorem visit_all {B bw Bi b : Nat} {pi : Option Addr} {ni ci : Nat} {l : List UInt8} {tree fuel : Int} (hBb : B ≤ bw) (hfu : fuel ≤ 1000000) : ∀ d, VisitC B bw Bi b pi ni ci l tree fuel (d + 1)
  | 0 => fun way no lo hi s pe pb pf pw ce cb cf cw fv w h1 h2 h3 h4 h5 h6 h7 => walker_visit B bw Bi b pi ni ci l tree fuel 0 (fun h => absurd rfl h) way no lo hi s pe pb pf pw ce cb cf cw fv w hBb h2 h1 h3 hfu h4 h5 h6 h7
  | d + 1 => fun way no lo hi s pe pb pf pw ce cb cf cw fv w h1 h2 h3 h4 h5 h6 h7 => walker_visit B bw Bi b pi ni ci l tree fuel (d + 1) (fun _ => visit_all hBb hfu d) way no lo hi s pe pb pf pw ce cb cf cw fv w hBb h2 h1 h3 hfu h4 h5 h6 h7
def ws0 : WS := ⟨[], [], 0, 0, [], false⟩
/-- what a scan finds -/
def scanW (l : List UInt8) (root tree fuel : Int) : WS := visitF l tree fuel 17 [] root 0 281474976710656 ws0
theorem scanW_went (l : List UInt8) (root tree fuel : Int) : ∃ es fs, Went l tree fuel (some root) 0 281474976710656 ws0 (scanW l root tree fuel) es fs := visitF_went l tree fuel 17 [] root 0 281474976710656 ws0 rfl
theorem scanW_looked (l : List UInt8) (root tree fuel : Int) : (scanW l root tree fuel).looked ≤ fuel.toNat := by
  obtain ⟨_, _, h⟩ := scanW_went l root tree fuel
  exact h.look (Nat.zero_le _)
theorem scanW_few (l : List UInt8) (root tree fuel : Int) (hf : fuel ≤ 1000) : (scanW l root tree fuel).es.length ≤ 1000000 ∧ (scanW l root tree fuel).bs.length ≤ 1000000 ∧ (scanW l root tree fuel).fs.length ≤ 1000000 := by
  have h1 := visitF_count l tree fuel 17 [] root 0 281474976710656 ws0 rfl
  have h2 := scanW_looked l root tree fuel
  obtain ⟨_, _, h3⟩ := scanW_went l root tree fuel
  have h4 := h3.blks
  simp only [ws0, List.length_nil] at h4
  change (scanW l root tree fuel).fs.length + (scanW l root tree fuel).es.length + 18 * 0 ≤ 0 + 0 + 18 * (scanW l root tree fuel).looked + (if (scanW l root tree fuel).dry = true then 1 else 0) at h1
  have h5 : (if (scanW l root tree fuel).dry = true then 1 else 0) ≤ 1 := by split <;> omega
  have h6 : fuel.toNat ≤ 1000 := by omega
  generalize (if (scanW l root tree fuel).dry = true then 1 else 0) = q at h1 h5
  omega
/-- a scan's finding in memory: the five cells of a Walked -/
def walkC (t : WS) (pe pb pf : Option Addr) (ce cb cf : Nat) : List Value := [.slice pe t.es.length ce, .slice pb t.bs.length cb, .int .i64 t.deep, .int .i64 (t.looked : Int), .slice pf t.fs.length cf]
structure WalkV (B : Nat) (t : WS) (pe pb pf : Option Addr) (ce cb cf : Nat) (fv : List Value) (w : World) : Prop where
  ents : w.ownsRow B 80 3 (.slice pe t.es.length ce) t.es.length (t.es.flatMap entC)
  blks : w.ownsRow B 3 1 (.slice pb t.bs.length cb) t.bs.length (t.bs.map (Value.int .i64))
  flts : w.ownsRow B 47 1 (.slice pf t.fs.length cf) t.fs.length fv
  fltv : FltsW w t.fs fv
def ScanP (l : List UInt8) (root tree fuel : Int) (w : World) (e : Ending) (w' : World) : Prop :=
  ∃ pe pb pf ce cb cf fv, e = .returned (.agg (walkC (scanW l root tree fuel) pe pb pf ce cb cf).toArray) ∧ Below w.heap.size w w' ∧ WalkV w.heap.size (scanW l root tree fuel) pe pb pf ce cb cf fv w'
set_option maxRecDepth 100000 in
set_option maxHeartbeats 4000000 in
theorem walk_Scan (Bi b : Nat) (pi : Option Addr) (ni ci : Nat) (l : List UInt8) (root tree fuel : Int) (w : World) (hfu : fuel ≤ 1000) (hI : ImgR Bi b pi ni ci l w) :
    Calls Tryz.prog 8 #[.pointer (some ⟨b, 0, none⟩), .int .i64 root, .int .i64 tree, .int .i64 fuel] w (ScanP l root tree fuel w) := by
 refine zin 23 Tryz.func8 ?_
 refine xa 2 [.slice none 0 0, .slice none 0 0, .int .i64 0, .int .i64 0, .slice none 0 0] 29 fun b1 W1 n1 => ?_
 refine xa 8 [.slice none 0 0, .slice none 0 0, .int .i64 0, .int .i64 0, .slice none 0 0, .pointer (some ⟨b, 0, none⟩), .int .i64 tree, .int .i64 fuel, .slice none 0 0, .bool false] 64 fun b2 W2 n2 => ?_
 refine xr 7 (args := #[]) (span_all _) fun W3 hb3 => ?_
 have hfew := scanW_few l root tree fuel hfu
 have g2 := n2.ge n1.below
 have hB := Bl.next (Bl.next n1.below n2.below) hb3
 have k2 := n2.blk.below hb3
 have hI'1 := ((hI.below n1.below).below n2.below).below hb3
 refine xc 0 (args := #[.pointer (some ⟨b2, 0, none⟩), .int .i64 root, .agg #[.int .i64 0, .int .i64 281474976710656]]) (visit_all (B := w.heap.size) (bw := b2) (Bi := Bi) (b := b) (pi := pi) (ni := ni) (ci := ci) (l := l) (tree := tree) (fuel := fuel) g2 (by omega) 16 [] root 0 281474976710656 ws0 none none none none 0 0 0 0 [] _ rfl hB.size rfl ⟨k2, World.ownsRow_nil _ _ _ _, World.ownsRow_nil _ _ _ _, World.ownsRow_nil _ _ _ _, trivial, World.ownsRow_nil _ _ _ _, Apart.nil _, hI'1⟩ hfew.1 hfew.2.1 hfew.2.2) ?_
 rintro _ W4 ⟨u4, pe, pb, pf, pw, ce, cb, cf, cw, fv, rfl, hb4, hO4, hR⟩
 change WalkR _ _ _ _ _ _ _ _ _ _ _ (scanW l root tree fuel) _ _ _ _ _ _ _ _ _ _ at hR
 obtain ⟨kW, hEn, hBl, hFl, hFv, hWy, hAp, hI⟩ := hR
 refine xlv 7 (kW.rpp 0 5) ?_
 have k1 := ((n1.blk.below n2.below).below hb3).only hO4 (by decide)
 refine xsv 0 k1 [.slice pe ((scanW l root tree fuel).es.length) ce, .slice pb ((scanW l root tree fuel).bs.length) cb, .int .i64 (scanW l root tree fuel).deep, .int .i64 ((scanW l root tree fuel).looked : Int), .slice pf ((scanW l root tree fuel).fs.length) cf] fun W5 u5 k5 => ?_
 have g1 := n1.ge (Below.refl w.heap.size _)
 have hB'1 := u5.below (hB.trans hb4) g1
 have hEn'1 := u5.own2 hEn k1 (by decide)
 have hBl'1 := u5.own2 hBl k1 (by decide)
 have hFl'1 := u5.own2 hFl k1 (by decide)
 have hFv'1 := hFv.only (Only.of_upd (T := [29]) u5 k1 (by decide)) (by decide)
 exact xec 3 k5 (.agg #[.slice pe ((scanW l root tree fuel).es.length) ce, .slice pb ((scanW l root tree fuel).bs.length) cb, .int .i64 (scanW l root tree fuel).deep, .int .i64 ((scanW l root tree fuel).looked : Int), .slice pf ((scanW l root tree fuel).fs.length) cf]) ⟨_, _, _, _, _, _, _, rfl, hB'1, ⟨hEn'1, hBl'1, hFl'1, hFv'1⟩⟩
end Go.Proofs.YtolblnjohaooaaaGreatDoor
namespace Go.Proofs.YtolblnjohaooaaaGreatDoor
open Go.RowKit Go.Extern.Stop Go.Stop Go.Extern
set_option linter.unusedVariables false
attribute [local irreducible] wpList wpAnyH Code.wp Oper.wp Go

/-- the keys of a node, i places of them, when n keys are there -/
def keyPad (K : List Int) (n : Nat) (i : Nat) : List UInt8 := (List.range i).flatMap fun j => if j < n then leB (K.getD j 0) 8 else List.replicate 8 0
theorem keyPad_succ (K : List Int) (n i : Nat) : keyPad K n (i + 1) = keyPad K n i ++ (if i < n then leB (K.getD i 0) 8 else List.replicate 8 0) := by
  unfold keyPad; rw [List.range_succ, List.flatMap_append]; simp
theorem keyPad_len (K : List Int) (n i : Nat) : (keyPad K n i).length = i * 8 := by
  induction i with
  | zero => rfl
  | succ i ih => rw [keyPad_succ, List.length_append, ih]; split <;> simp [leB_len] <;> omega
/-- the values of a node, i of them -/
def valPad (Vs : List (List UInt8)) (i : Nat) : List UInt8 := (List.range i).flatMap fun j => Vs.getD j []
theorem valPad_succ (Vs : List (List UInt8)) (i : Nat) : valPad Vs (i + 1) = valPad Vs i ++ Vs.getD i [] := by
  unfold valPad; rw [List.range_succ, List.flatMap_append]; simp
theorem valPad_len {Vs : List (List UInt8)} {v : Nat} : ∀ {i : Nat}, (∀ j, j < i → (Vs.getD j []).length = v) → (valPad Vs i).length = i * v
  | 0, _ => by simp [valPad]
  | i + 1, h => by rw [valPad_succ, List.length_append, valPad_len fun j hj => h j (by omega), h i (by omega), Nat.add_mul, Nat.one_mul]
theorem putB_mid {P z Q x : List UInt8} {k : Nat} (hk : P.length = k) (hz : z.length = x.length) : putB (P ++ z ++ Q) k x = P ++ x ++ Q := by
  unfold putB
  subst hk
  rw [List.append_assoc P z Q, List.take_left' rfl, ← hz]
  have e : P ++ (z ++ Q) = (P ++ z) ++ Q := (List.append_assoc _ _ _).symm
  rw [e, List.drop_left' (by simp)]
theorem keyPad_zero (K : List Int) (i : Nat) : ∀ d, keyPad K i (i + d) = keyPad K i i ++ List.replicate (d * 8) 0
  | 0 => by simp
  | d + 1 => by
    rw [← Nat.add_assoc, keyPad_succ, keyPad_zero K i d, if_neg (by omega), List.append_assoc, List.replicate_append_replicate, Nat.add_mul, Nat.one_mul]
theorem keyPad_own (K : List Int) (n : Nat) : ∀ i, i ≤ n → keyPad K n i = keyPad K i i
  | 0, _ => rfl
  | i + 1, h => by
    rw [keyPad_succ, keyPad_succ, if_pos (by omega), if_pos (by omega), keyPad_own K n i (by omega), keyPad_own K (i + 1) i (by omega)]
theorem rep_add (a b : Nat) : List.replicate (a + b) (0 : UInt8) = List.replicate a 0 ++ List.replicate b 0 := List.replicate_append_replicate.symm
/-- a node's bytes, part by part -/
theorem nodeP_form {m v : Nat} {H : List UInt8} {K : List Int} {Vs : List (List UInt8)} (hH : H.length = 12) (hf : 12 + m * 8 + m * v ≤ 244) : ∀ {i : Nat}, i ≤ m → (∀ j, j < i → (Vs.getD j []).length = v) →
    nodeP m v H K Vs i = H ++ keyPad K i m ++ valPad Vs i ++ List.replicate (232 - m * 8 - i * v) 0
  | 0, _, _ => by
    have e1 := keyPad_zero K 0 m
    rw [Nat.zero_add] at e1
    rw [nodeP, e1]
    have h1 : (232 - m * 8 - 0 * v) = 232 - m * 8 := by omega
    rw [h1, show (244 : Nat) = 12 + (m * 8 + (232 - m * 8)) by omega, rep_add, rep_add]
    have := putB_mid (P := []) (z := List.replicate 12 (0 : UInt8)) (Q := List.replicate (m * 8) 0 ++ List.replicate (232 - m * 8) 0) (x := H) (k := 0) rfl (by simp [hH])
    rw [List.nil_append, List.nil_append] at this
    rw [this]
    simp [keyPad, valPad]
  | i + 1, hi, hV => by
    have ih := nodeP_form (K := K) hH hf (i := i) (by omega) (fun j hj => hV j (by omega))
    have hvi := hV i (by omega)
    have h2 : (i + 1) * v ≤ m * v := Nat.mul_le_mul_right v hi
    rw [Nat.add_mul, Nat.one_mul] at h2
    obtain ⟨d, hd⟩ : ∃ d, m = i + (d + 1) := ⟨m - i - 1, by omega⟩
    have ek : keyPad K i m = keyPad K i i ++ List.replicate 8 0 ++ List.replicate (d * 8) 0 := by
      rw [hd, keyPad_zero, show (d + 1) * 8 = 8 + d * 8 by omega, rep_add, List.append_assoc]
    have ek2 : keyPad K (i + 1) m = keyPad K i i ++ leB (K.getD i 0) 8 ++ List.replicate (d * 8) 0 := by
      rw [show m = (i + 1) + d by omega, keyPad_zero, keyPad_succ, if_pos (by omega), keyPad_own K (i + 1) i (by omega)]
    have er : List.replicate (232 - m * 8 - i * v) (0 : UInt8) = List.replicate v 0 ++ List.replicate (232 - m * 8 - (i * v + v)) 0 := by
      rw [← rep_add]; congr 1; omega
    have hvp : (valPad Vs i).length = i * v := valPad_len fun j hj => hV j (by omega)
    rw [nodeP, ih, ek, er]
    have s1 := putB_mid (P := H ++ keyPad K i i) (z := List.replicate 8 (0 : UInt8)) (Q := List.replicate (d * 8) 0 ++ (valPad Vs i ++ (List.replicate v 0 ++ List.replicate (232 - m * 8 - (i * v + v)) 0))) (x := leB (K.getD i 0) 8) (k := 12 + i * 8) (by rw [List.length_append, hH, keyPad_len]) (by simp [leB_len])
    have a1 : H ++ (keyPad K i i ++ List.replicate 8 0 ++ List.replicate (d * 8) 0) ++ valPad Vs i ++ (List.replicate v 0 ++ List.replicate (232 - m * 8 - (i * v + v)) 0) = H ++ keyPad K i i ++ List.replicate 8 0 ++ (List.replicate (d * 8) 0 ++ (valPad Vs i ++ (List.replicate v 0 ++ List.replicate (232 - m * 8 - (i * v + v)) 0))) := by simp only [List.append_assoc]
    rw [a1, s1]
    have s2 := putB_mid (P := H ++ keyPad K (i + 1) m ++ valPad Vs i) (z := List.replicate v (0 : UInt8)) (Q := List.replicate (232 - m * 8 - (i * v + v)) 0) (x := Vs.getD i []) (k := 12 + m * 8 + i * v) (by rw [List.length_append, List.length_append, hH, keyPad_len, hvp]) (by rw [List.length_replicate, hvi])
    have a2 : H ++ keyPad K i i ++ leB (K.getD i 0) 8 ++ (List.replicate (d * 8) 0 ++ (valPad Vs i ++ (List.replicate v 0 ++ List.replicate (232 - m * 8 - (i * v + v)) 0))) = H ++ keyPad K (i + 1) m ++ valPad Vs i ++ List.replicate v 0 ++ List.replicate (232 - m * 8 - (i * v + v)) 0 := by rw [ek2]; simp only [List.append_assoc]
    rw [a2, s2, valPad_succ, Nat.add_mul, Nat.one_mul]
    simp only [List.append_assoc]
end Go.Proofs.YtolblnjohaooaaaGreatDoor
namespace Go.Proofs.YtolblnjohaooaaaGreatDoor
open Go.RowKit Go.Extern.Stop Go.Stop Go.Extern
set_option linter.unusedVariables false
attribute [local irreducible] wpList wpAnyH Code.wp Oper.wp Go

theorem ext_getD {l l' : List UInt8} (h : l.length = l'.length) (h2 : ∀ j, j < l.length → l.getD j 0 = l'.getD j 0) : l = l' := by
  apply List.ext_getElem h
  intro j h3 h4
  have := h2 j h3
  simpa [List.getD, h3, h4] using this
theorem putB_get {l : List UInt8} {k : Nat} {x : List UInt8} (h : k + x.length ≤ l.length) (j : Nat) : (putB l k x).getD j 0 = if k ≤ j ∧ j < k + x.length then x.getD (j - k) 0 else l.getD j 0 := by
  unfold putB
  simp only [List.getD]
  rw [List.append_assoc, List.getElem?_append, List.getElem?_append]
  have e : (l.take k).length = k := by simp; omega
  rw [e]
  by_cases h1 : j < k
  · rw [if_pos h1, if_neg (by omega), List.getElem?_take, if_pos h1]
  · rw [if_neg h1]
    by_cases h2 : j - k < x.length
    · rw [if_pos h2, if_pos (by omega)]
    · rw [if_neg h2, if_neg (by omega), List.getElem?_drop, show k + x.length + (j - k - x.length) = j by omega]
theorem rawN_congr {l l' : List UInt8} : ∀ (w k : Nat), (∀ j, k ≤ j → j < k + w → l.getD j 0 = l'.getD j 0) → rawN l k w = rawN l' k w
  | 0, k, h => rfl
  | w + 1, k, h => by rw [rawN, rawN, h k (by omega) (by omega), rawN_congr w (k + 1) fun j h1 h2 => h j (by omega) (by omega)]
theorem rawN_bytes {l : List UInt8} : ∀ (w k m : Nat), (∀ i, i < w → l.getD (k + i) 0 = UInt8.ofNat (m / 256 ^ i)) → rawN l k w = m % 256 ^ w
  | 0, k, m, h => by simp [rawN, Nat.mod_one]
  | w + 1, k, m, h => by
    have h0 := h 0 (by omega)
    simp only [Nat.add_zero, Nat.pow_zero, Nat.div_one] at h0
    have h1 := rawN_bytes (l := l) w (k + 1) (m / 256) fun i hi => by
      have := h (i + 1) (by omega)
      rw [Nat.pow_succ, Nat.mul_comm, ← Nat.div_div_eq_div_mul] at this
      rw [show k + 1 + i = k + (i + 1) by omega]; exact this
    rw [rawN, h0, h1, Nat.pow_succ, Nat.mul_comm (256 ^ w) 256, Nat.mod_mul]
    congr 1
theorem rawN_put {l : List UInt8} {k w : Nat} {n : Int} (h : k + w ≤ l.length) (h0 : 0 ≤ n) (hb : n.toNat < 256 ^ w) : (rawN (putB l k (leB n w)) k w : Int) = n := by
  rw [rawN_bytes w k n.toNat, Nat.mod_eq_of_lt hb]
  · omega
  · intro i hi
    rw [putB_get (by rw [leB_len]; exact h), if_pos (by rw [leB_len]; omega), show k + i - k = i by omega]
    simp [leB, byteAt, List.getD, List.getElem?_range hi]
theorem rawN_put_other {l x : List UInt8} {k j w : Nat} (h : k + x.length ≤ l.length) (hd : j + w ≤ k ∨ k + x.length ≤ j) : rawN (putB l k x) j w = rawN l j w :=
  rawN_congr w j fun i h1 h2 => by rw [putB_get h, if_neg (by omega)]
theorem rawN_zero {l : List UInt8} {k w : Nat} (h : ∀ j, k ≤ j → j < k + w → l.getD j 0 = 0) : rawN l k w = 0 := by
  have := rawN_bytes (l := l) w k 0 fun i hi => by rw [h (k + i) (by omega) (by omega)]; simp
  simpa using this
theorem sumB_put {l x : List UInt8} {kind : Int} (h : 252 ≤ l.length) : sumB (putB l 252 x) kind = sumB l kind := by
  unfold sumB putB
  rw [List.append_assoc, List.take_append_of_le_length (by simp; omega), List.take_take]; rfl
theorem zeros_get (n j : Nat) : (List.replicate n (0 : UInt8)).getD j 0 = 0 := by
  simp [List.getD, List.getElem?_replicate]; split <;> rfl
/-- what lies within a sealed block -/
def inSeal (li : List UInt8) : List UInt8 := li ++ List.replicate (244 - li.length) 0
theorem open_seal {kind no : Int} {li : List UInt8} (h1 : 1 ≤ kind) (h2 : kind ≤ 4) (h3 : 0 ≤ no) (h4 : no < 14400) (hl : li.length ≤ 244) : openE kind no (sealB kind no li) = 0 := by
  have l1 := seal1_len hl
  have l2 := seal2_len (no := no) hl
  have l3 := seal3_len (kind := kind) (no := no) hl
  have l4 := sealB_len (kind := kind) (no := no) hl
  have a0 : askB kind no (sealB kind no li) 0 = false := by simp only [askB]; rw [show knownB kind no = true from decide_eq_true (by omega)]; rfl
  have a1 : askB kind no (sealB kind no li) 1 = false := by simp only [askB, l4]; rfl
  have a2 : askB kind no (sealB kind no li) 2 = false := by
    have hs : sumB (sealB kind no li) kind = sumB (seal3 kind no li) kind := by unfold sealB; exact sumB_put (by omega)
    have hr : (rawN (sealB kind no li) 252 4 : Int) = (sumB (seal3 kind no li) kind : Int) := by
      unfold sealB
      exact rawN_put (by omega) (by omega) (by have := sumB_lt (seal3 kind no li) kind; simpa using this)
    simp only [askB, hr, hs]; simp
  have a3 : askB kind no (sealB kind no li) 3 = false := by
    have hr : (rawN (sealB kind no li) 0 4 : Int) = no := by
      unfold sealB
      rw [rawN_put_other (by rw [leB_len]; omega) (.inl (by omega))]
      unfold seal3
      rw [rawN_put_other (by rw [leB_len]; omega) (.inl (by omega))]
      unfold seal2
      exact rawN_put (by omega) (by omega) (by omega)
    simp only [askB, hr]; simp
  have a4 : askB kind no (sealB kind no li) 4 = false := by
    have hr : (rawN (sealB kind no li) 4 2 : Int) = kind := by
      unfold sealB
      rw [rawN_put_other (by rw [leB_len]; omega) (.inl (by omega))]
      unfold seal3
      exact rawN_put (by omega) (by omega) (by omega)
    simp only [askB, hr]; simp
  have a5 : askB kind no (sealB kind no li) 5 = false := by
    have hr : rawN (sealB kind no li) 6 2 = 0 := by
      unfold sealB
      rw [rawN_put_other (by rw [leB_len]; omega) (.inl (by omega))]
      unfold seal3
      rw [rawN_put_other (by rw [leB_len]; omega) (.inr (by rw [leB_len]; omega))]
      unfold seal2
      rw [rawN_put_other (by rw [leB_len]; omega) (.inr (by rw [leB_len]; omega))]
      unfold seal1
      rw [rawN_put_other (by rw [List.length_replicate]; omega) (.inl (by omega))]
      exact rawN_zero fun j _ _ => zeros_get 256 j
    simp only [askB, hr]; rfl
  simp [openE, a0, a1, a2, a3, a4, a5]
theorem in_seal {kind no : Int} {li : List UInt8} (hl : li.length ≤ 244) : ((sealB kind no li).drop 8).take 244 = inSeal li := by
  have l1 := seal1_len hl
  have l2 := seal2_len (no := no) hl
  have l3 := seal3_len (kind := kind) (no := no) hl
  have l4 := sealB_len (kind := kind) (no := no) hl
  apply ext_getD
  · simp [inSeal, l4]; omega
  · intro j hj
    have hj2 : j < 244 := by simp [l4] at hj; omega
    have e : (((sealB kind no li).drop 8).take 244).getD j 0 = (sealB kind no li).getD (8 + j) 0 := by
      simp only [List.getD]; rw [List.getElem?_take, if_pos hj2, List.getElem?_drop]
    rw [e]
    unfold sealB
    rw [putB_get (by rw [leB_len]; omega), if_neg (by rw [leB_len]; omega)]
    unfold seal3
    rw [putB_get (by rw [leB_len]; omega), if_neg (by rw [leB_len]; omega)]
    unfold seal2
    rw [putB_get (by rw [leB_len]; omega), if_neg (by rw [leB_len]; omega)]
    unfold seal1
    rw [putB_get (by rw [List.length_replicate]; omega), zeros_get]
    unfold inSeal
    simp only [List.getD]
    rw [List.getElem?_append]
    by_cases h : j < li.length
    · rw [if_pos ⟨by omega, by omega⟩, if_pos h, show 8 + j - 8 = j by omega]
    · rw [if_neg (by omega), if_neg h]
      have := zeros_get (244 - li.length) (j - li.length)
      simp only [List.getD] at this
      exact this.symm
/-- a block that was written stands in the image -/
theorem blkB_put {l x : List UInt8} {k : Nat} (hx : x.length = 256) (hk : k < l.length / 256) : blkB (putB l (k * 256) x) k = x := by
  have hkl : k * 256 + 256 ≤ l.length := by omega
  have hp := putB_len (l := l) (k := k * 256) (x := x) (by omega)
  apply ext_getD
  · rw [blkB_len (by rw [hp]; exact hk), hx]
  · intro j hj
    rw [blkB_len (by rw [hp]; exact hk)] at hj
    have e : (blkB (putB l (k * 256) x) k).getD j 0 = (putB l (k * 256) x).getD (k * 256 + j) 0 := by
      simp only [blkB, List.getD]; rw [List.getElem?_take, if_pos hj, List.getElem?_drop]
    rw [e, putB_get (by omega), if_pos (by omega), show k * 256 + j - k * 256 = j by omega]
theorem blkB_put_other {l x : List UInt8} {k i : Nat} (hx : x.length = 256) (hk : k < l.length / 256) (hne : i ≠ k) (hi : i < l.length / 256) : blkB (putB l (k * 256) x) i = blkB l i := by
  have hkl : k * 256 + 256 ≤ l.length := by omega
  have hp := putB_len (l := l) (k := k * 256) (x := x) (by omega)
  apply ext_getD
  · rw [blkB_len (by rw [hp]; exact hi), blkB_len hi]
  · intro j hj
    rw [blkB_len (by rw [hp]; exact hi)] at hj
    have e : ∀ l : List UInt8, (blkB l i).getD j 0 = l.getD (i * 256 + j) 0 := fun l => by
      simp only [blkB, List.getD]; rw [List.getElem?_take, if_pos hj, List.getElem?_drop]
    rw [e, e, putB_get (by omega), if_neg (by omega)]
end Go.Proofs.YtolblnjohaooaaaGreatDoor
namespace Go.Proofs.YtolblnjohaooaaaGreatDoor
open Go.RowKit Go.Extern.Stop Go.Stop Go.Extern
set_option linter.unusedVariables false
attribute [local irreducible] wpList wpAnyH Code.wp Oper.wp Go

theorem getD_app {P Q : List UInt8} {k i : Nat} (hk : P.length = k) : (P ++ Q).getD (k + i) 0 = Q.getD i 0 := by
  subst hk
  simp [List.getD, List.getElem?_append_right]
theorem getD_hd {P Q : List UInt8} {i : Nat} (hi : i < P.length) : (P ++ Q).getD i 0 = P.getD i 0 := by
  simp [List.getD, List.getElem?_append_left hi]
theorem rawN_mid {P Q : List UInt8} {k w : Nat} {x : Int} (hk : P.length = k) (h0 : 0 ≤ x) (hb : x.toNat < 256 ^ w) : (rawN (P ++ (leB x w ++ Q)) k w : Int) = x := by
  rw [rawN_bytes w k x.toNat, Nat.mod_eq_of_lt hb]
  · omega
  · intro i hi
    rw [getD_app hk, getD_hd (by rw [leB_len]; exact hi)]
    simp [leB, byteAt, List.getD, List.getElem?_range hi]
theorem drop_app {P Q : List UInt8} {k : Nat} (hk : P.length = k) : (P ++ Q).drop k = Q := List.drop_left' hk
theorem zeroB_rep (n m : Nat) : zeroB ((List.replicate n (0 : UInt8)).take m) = true := by
  unfold zeroB; rw [List.all_eq_true]
  intro x hx
  have := List.mem_of_mem_take hx
  rw [(List.mem_replicate.1 this).2]; rfl
theorem keyPad_more (K : List Int) (n j : Nat) : ∀ d, ∃ X, keyPad K n (j + d) = keyPad K n j ++ X
  | 0 => ⟨[], by simp⟩
  | d + 1 => by
    obtain ⟨X, hX⟩ := keyPad_more K n j d
    exact ⟨_, by rw [← Nat.add_assoc, keyPad_succ, hX, List.append_assoc]⟩
theorem valPad_more (Vs : List (List UInt8)) (j : Nat) : ∀ d, ∃ X, valPad Vs (j + d) = valPad Vs j ++ X
  | 0 => ⟨[], by simp⟩
  | d + 1 => by
    obtain ⟨X, hX⟩ := valPad_more Vs j d
    exact ⟨_, by rw [← Nat.add_assoc, valPad_succ, hX, List.append_assoc]⟩
theorem keysErr_zero {l : List UInt8} : ∀ {n : Nat}, (∀ i, i < n → keyE l i = 0) → keysErr l n = 0
  | 0, _ => rfl
  | n + 1, h => keysErr_next (keysErr_zero fun i hi => h i (by omega)) (h n (by omega))
theorem getD_ext {l l' : List Int} (h : l.length = l'.length) (h2 : ∀ j, j < l.length → l.getD j 0 = l'.getD j 0) : l = l' := by
  apply List.ext_getElem h
  intro j h3 h4
  have := h2 j h3
  simpa [List.getD, h3, h4] using this
theorem getD_extV {l l' : List (List UInt8)} (h : l.length = l'.length) (h2 : ∀ j, j < l.length → l.getD j [] = l'.getD j []) : l = l' := by
  apply List.ext_getElem h
  intro j h3 h4
  have := h2 j h3
  simpa [List.getD, h3, h4] using this
/-- a node's bytes are read as that node -/
structure NodBack (b : List UInt8) (t : Int) (leaf : Bool) (n m v : Nat) (K : List Int) (Vs : List (List UInt8)) : Prop where
  len : b.length = 244
  e : nodeE b = 0
  t : nodT b = t
  l : nodL b = leaf
  c : nodC b = n
  k : keysI b n = K
  v : valsL b n = Vs
theorem nod_back {t : Int} {leaf : Bool} {n m v : Nat} {K : List Int} {Vs : List (List UInt8)} (N : NodeOk t leaf n m v K Vs) : NodBack (nodeP m v (headB t leaf n m v) K Vs n) t leaf n m v K Vs := by
  have hmb := maxN_pos t leaf
  rw [N.hm] at hmb
  have hwb := widN_bd t leaf
  rw [N.hv] at hwb
  have hfit := fitN t leaf
  rw [N.hm, N.hv] at hfit
  have ht1 := N.ht1
  have ht2 := N.ht2
  have hnm := N.hn
  have hform := nodeP_form (H := headB t leaf n m v) (K := K) (Vs := Vs) (headB_len _ _ _ _ _) hfit hnm (fun j hj => N.hw j hj)
  have hlen := nodeP_len (H := headB t leaf n m v) (K := K) (Vs := Vs) (headB_len _ _ _ _ _) hfit hnm (fun j hj => N.hw j hj)
  generalize nodeP m v (headB t leaf n m v) K Vs n = b at hform hlen
  obtain ⟨R, hR⟩ : ∃ R, b = headB t leaf n m v ++ R := ⟨_, by rw [hform, List.append_assoc, List.append_assoc]⟩
  have hfl := flagN_bd leaf
  have r0 : (rawN b 0 1 : Int) = flagN leaf := by
    rw [hR, headB]; simp only [List.append_assoc]
    exact rawN_mid (P := []) (k := 0) (w := 1) (x := flagN leaf) rfl hfl.1 (Nat.lt_of_le_of_lt (show (flagN leaf).toNat ≤ 255 by omega) (by decide))
  have r1 : (rawN b 1 1 : Int) = t := by
    rw [hR, headB]; simp only [List.append_assoc]
    exact rawN_mid (P := leB (flagN leaf) 1) (by rw [leB_len]) (by omega) (by omega)
  have r2 : (rawN b 2 2 : Int) = (n : Int) := by
    rw [hR, headB]; simp only [List.append_assoc]
    rw [← List.append_assoc]
    exact rawN_mid (P := leB (flagN leaf) 1 ++ leB t 1) (by simp [leB_len]) (by omega) (by omega)
  have r4 : (rawN b 4 2 : Int) = (v : Int) := by
    rw [hR, headB]; simp only [List.append_assoc]
    rw [← List.append_assoc, ← List.append_assoc]
    exact rawN_mid (P := leB (flagN leaf) 1 ++ leB t 1 ++ leB (n : Int) 2) (by simp [leB_len]) (by omega) (by omega)
  have r6 : (rawN b 6 2 : Int) = (m : Int) := by
    rw [hR, headB]; simp only [List.append_assoc]
    rw [← List.append_assoc, ← List.append_assoc, ← List.append_assoc]
    exact rawN_mid (P := leB (flagN leaf) 1 ++ leB t 1 ++ leB (n : Int) 2 ++ leB (v : Int) 2) (by simp [leB_len]) (by omega) (by omega)
  have r8 : (rawN b 8 4 : Int) = 0 := by
    rw [hR, headB]; simp only [List.append_assoc]
    rw [← List.append_assoc, ← List.append_assoc, ← List.append_assoc, ← List.append_assoc]
    exact rawN_mid (P := leB (flagN leaf) 1 ++ leB t 1 ++ leB (n : Int) 2 ++ leB (v : Int) 2 ++ leB (m : Int) 2) (by simp [leB_len]) (by omega) (by decide)
  have eT : nodT b = t := r1
  have eL : nodL b = leaf := by
    unfold nodL; rw [r0]; cases leaf <;> rfl
  have eC : nodC b = n := by unfold nodC; omega
  have eW : nodW b = v := by unfold nodW; rw [eT, eL, widG, if_pos ⟨ht1, ht2⟩]; exact N.hv
  have eM : nodM b = m := by unfold nodM; rw [eT, eL, maxG, if_pos ⟨ht1, ht2⟩]; exact N.hm
  have hkey : ∀ i, i < n → (keyN b i : Int) = K.getD i 0 := by
    intro i hi
    obtain ⟨X, hX⟩ := keyPad_more K n (i + 1) (m - (i + 1))
    rw [show i + 1 + (m - (i + 1)) = m by omega, keyPad_succ, if_pos hi] at hX
    unfold keyN
    rw [hform, hX]
    have hk := N.hk0 i hi
    have := rawN_mid (P := headB t leaf n m v ++ keyPad K n i) (Q := X ++ (valPad Vs n ++ List.replicate (232 - m * 8 - n * v) 0)) (k := 12 + i * 8) (w := 8) (x := K.getD i 0) (by rw [List.length_append, headB_len, keyPad_len]) hk.1 (Nat.lt_of_le_of_lt (show (K.getD i 0).toNat ≤ 281474976710655 by omega) (by decide))
    simp only [List.append_assoc] at this ⊢
    exact this
  have hval : ∀ i, i < n → valN b i = Vs.getD i [] := by
    intro i hi
    obtain ⟨X, hX⟩ := valPad_more Vs (i + 1) (n - (i + 1))
    rw [show i + 1 + (n - (i + 1)) = n by omega, valPad_succ] at hX
    have hvl : (valPad Vs i).length = i * v := valPad_len fun j hj => N.hw j (by omega)
    unfold valN
    rw [eM, eW, hform, hX]
    have := drop_app (P := headB t leaf n m v ++ keyPad K n m ++ valPad Vs i) (Q := Vs.getD i [] ++ (X ++ List.replicate (232 - m * 8 - n * v) 0)) (k := 12 + m * 8 + i * v) (by rw [List.length_append, List.length_append, headB_len, keyPad_len, hvl])
    simp only [List.append_assoc] at this ⊢
    rw [this]
    exact List.take_left' (N.hw i hi)
  have hmv : n * v ≤ m * v := Nat.mul_le_mul_right v hnm
  refine ⟨hlen, ?_, eT, eL, eC, ?_, ?_⟩
  · have hs : shapeB b = true := by
      unfold shapeB
      rw [eW, eM]
      refine decide_eq_true ⟨?_, by omega, by omega, by omega, by omega, by omega, ?_⟩
      · cases leaf <;> simp only [flagN] at r0 <;> simp at r0 <;> omega
      · cases leaf with
        | true => left; simp only [flagN] at r0; simp at r0; omega
        | false => right; have := N.hl rfl; omega
    have hz : nodeZ b = true := by
      unfold nodeZ node2 node1 node0
      rw [eC, eM, eW, Bool.and_eq_true]
      constructor
      · have hk := keyPad_zero K n (m - n)
        rw [show n + (m - n) = m by omega] at hk
        have := drop_app (P := headB t leaf n m v ++ keyPad K n n) (Q := List.replicate ((m - n) * 8) 0 ++ (valPad Vs n ++ List.replicate (232 - m * 8 - n * v) 0)) (k := 12 + n * 8) (by rw [List.length_append, headB_len, keyPad_len])
        rw [hform, hk]
        simp only [List.append_assoc] at this ⊢
        rw [this, List.take_append_of_le_length (by rw [List.length_replicate]; omega)]
        exact zeroB_rep _ _
      · have hvl : (valPad Vs n).length = n * v := valPad_len fun j hj => N.hw j hj
        have := drop_app (P := headB t leaf n m v ++ keyPad K n m ++ valPad Vs n) (Q := List.replicate (232 - m * 8 - n * v) 0) (k := 12 + m * 8 + n * v) (by rw [List.length_append, List.length_append, headB_len, keyPad_len, hvl])
        rw [hform, this]
        exact zeroB_rep _ _
    unfold nodeE
    rw [if_pos hs, if_pos hz, eC]
    refine keysErr_zero fun i hi => ?_
    have h1 := hkey i hi
    have h2 := N.hk0 i hi
    unfold keyE
    rw [if_neg (by omega), if_neg ?_]
    rintro ⟨h3, h4⟩
    have h5 := hkey (i - 1) (by omega)
    have h6 := N.hk1 (i - 1) (by omega)
    rw [show i - 1 + 1 = i by omega] at h6
    omega
  · exact getD_ext (by rw [keysI_len, N.hK]) fun j hj => by rw [keysI_len] at hj; rw [keysI_get b hj]; exact hkey j hj
  · exact getD_extV (by rw [valsL_len, N.hV]) fun j hj => by rw [valsL_len] at hj; rw [valsL_get b hj]; exact hval j hj
/-- and so in the block where it was written -/
theorem blk_back {t : Int} {leaf : Bool} {n m v : Nat} {K : List Int} {Vs : List (List UInt8)} (N : NodeOk t leaf n m v K Vs) {l : List UInt8} {j len : Nat} (hl : l.length = len) (hj : j < len / 256) (h4 : j < 14400) (hb : blkB l j = sealB 2 (j : Int) (nodeP m v (headB t leaf n m v) K Vs n)) (tree : Int) (ht : tree = 0 ∨ t = tree) :
    nodeErr l (j : Int) tree = 0 ∧ inB l (j : Int) = nodeP m v (headB t leaf n m v) K Vs n := by
  have B := nod_back N
  have hin : inB l (j : Int) = nodeP m v (headB t leaf n m v) K Vs n := by
    rw [inB_in (no := (j : Int)) (j := j) rfl, hb, in_seal (by rw [B.len]; decide)]
    unfold inSeal; rw [B.len]; simp
  refine ⟨?_, hin⟩
  unfold nodeErr
  rw [inE_in (no := (j : Int)) (j := j) hl rfl hj, hb, if_pos (open_seal (by decide) (by decide) (by omega) (by omega) (by rw [B.len]; decide)), hin]
  unfold nodeTE
  rw [if_pos B.e, if_pos (by rw [B.t]; exact ht)]
theorem root_leB {q : Nat} (h1 : 1 ≤ q) (h2 : q ≤ 14399) : rootE (leB (q : Int) 4) = 0 ∧ (rootN (leB (q : Int) 4) : Int) = (q : Int) := by
  have hr : (rawN (leB (q : Int) 4) 0 4 : Int) = (q : Int) := by
    have := rawN_mid (P := []) (Q := []) (k := 0) (w := 4) (x := (q : Int)) rfl (by omega) (Nat.lt_of_le_of_lt (show (q : Int).toNat ≤ 14399 by omega) (by decide))
    simpa using this
  have he : rootE (leB (q : Int) 4) = 0 := by
    unfold rootE; rw [if_pos (leB_len _ _), if_pos (by omega)]
  exact ⟨he, by unfold rootN; rw [if_pos he]; exact hr⟩
end Go.Proofs.YtolblnjohaooaaaGreatDoor
namespace Go.Proofs.YtolblnjohaooaaaGreatDoor
open Go.RowKit Go.Extern.Stop Go.Stop Go.Extern
set_option linter.unusedVariables false
attribute [local irreducible] wpList wpAnyH Code.wp Oper.wp Go

def loopF (no : Int) (k : Nat) : WS := ⟨[], [no], 0, 1 + k, List.replicate k ([no, no], 11), false⟩
theorem loop_law {l : List UInt8} {no tree : Int} {n : Nat} {hi : Int} (hc : nodC (inB l no) = n) (hn : n ≤ 18) (hv : ∀ i, i < n → rootE ((nodV l no).getD i []) = 0 ∧ (rootN ((nodV l no).getD i []) : Int) = no) : ∀ k, k ≤ n → loopW (visitF l tree 100 16) l [] no hi k { ws0 with looked := 1, bs := [no] } = loopF no k
  | 0, _ => rfl
  | k + 1, hk => by
    rw [loopW_succ, loop_law hc hn hv k (by omega)]
    obtain ⟨h1, h2⟩ := hv k (by omega)
    have hl : lookE l [no] no tree (partAt hi (nodK l no) k).1 (partAt hi (nodK l no) k).2 0 = 11 := by
      unfold lookE; rw [if_pos (by simp [hasI])]
    unfold roundW
    rw [if_neg (by simp [loopF])]
    unfold childW
    rw [if_pos h1, h2]
    unfold visitF
    rw [if_neg (by simp only [loopF]; omega)]
    show (if lookE l [no] no tree (partAt hi (nodK l no) k).1 (partAt hi (nodK l no) k).2 0 ≠ 0 then _ else _) = _
    rw [hl, if_pos (by decide)]
    simp only [loopF, noteW, WS.mk.injEq, true_and, and_true]
    refine ⟨by omega, ?_⟩
    rw [List.replicate_succ', show ([] : List Int) ++ [no] = [no] from rfl, hl]; rfl
/-- the scan: as many faults as children -/
theorem loop_scan {l : List UInt8} {no tree : Int} {n : Nat} (he : nodeErr l no tree = 0) (hleaf : nodL (inB l no) = false) (hc : nodC (inB l no) = n) (hn : n ≤ 18) (hs : SortP (nodK l no)) (hk : ∀ x ∈ nodK l no, 0 ≤ x ∧ x < 281474976710656)
    (hv : ∀ i, i < n → rootE ((nodV l no).getD i []) = 0 ∧ (rootN ((nodV l no).getD i []) : Int) = no) : scanW l no tree 100 = loopF no n := by
  have hf : fitsI 0 281474976710656 (nodK l no) = 0 := by
    unfold fitsI
    rw [if_pos (by decide), if_pos hs, if_pos hk]
  have hl : lookE l [] no tree 0 281474976710656 0 = 0 := by
    unfold lookE
    rw [if_neg (by simp [hasI]), if_neg (by simp), if_neg (by rw [he]; simp)]
    rw [if_neg (by unfold nodK at hf; rw [hf]; simp), hleaf, if_neg (by simp)]
  unfold scanW visitF
  rw [if_neg (by decide)]
  show (if lookE l [] no tree 0 281474976710656 0 ≠ 0 then _ else _) = _
  rw [hl, if_neg (by simp), if_neg (by rw [hleaf]; simp), hc]
  exact loop_law hc hn hv n (Nat.le_refl _)
end Go.Proofs.YtolblnjohaooaaaGreatDoor
namespace Go.Proofs.YtolblnjohaooaaaGreatDoor
open Go.RowKit Go.Extern.Stop Go.Stop Go.Extern
set_option linter.unusedVariables false
attribute [local irreducible] wpList wpAnyH Code.wp Oper.wp Go

def and63 (x : Int) : Nat := (BitVec.ofInt 64 x &&& BitVec.ofInt 64 (63 : Int)).toNat
theorem and63_le (x : Int) : and63 x ≤ 63 := by unfold and63; rw [BitVec.toNat_and]; exact Nat.and_le_right
theorem and63_wrap (x : Int) : IntKind.i64.wrap (↑(BitVec.ofInt 64 x &&& BitVec.ofInt 64 (63 : Int)).toNat : Int) = (↑(and63 x) : Int) := by
  have := and63_le x
  unfold and63 at this ⊢
  exact i64_nat (by omega)
theorem and7 (x : Int) : ∃ n : Nat, IntKind.i64.wrap (↑(BitVec.ofInt 64 x &&& BitVec.ofInt 64 (7 : Int)).toNat : Int) = (n : Int) ∧ n ≤ 7 := by
  have h : (BitVec.ofInt 64 x &&& BitVec.ofInt 64 (7 : Int)).toNat ≤ 7 := by rw [BitVec.toNat_and]; exact Nat.and_le_right
  exact ⟨_, i64_nat (by omega), h⟩
/-- the law's keys -/
def lkL (keys : List Int) (i : Nat) : List Int := (List.range i).map fun j => ((100 * j + and63 (keys.getD j 0) : Nat) : Int)
theorem lkL_len (keys : List Int) (i : Nat) : (lkL keys i).length = i := by simp [lkL]
theorem lkL_succ (keys : List Int) (i : Nat) : lkL keys (i + 1) = lkL keys i ++ [((100 * i + and63 (keys.getD i 0) : Nat) : Int)] := by simp [lkL, List.range_succ]
theorem lkL_get (keys : List Int) {i j : Nat} (h : j < i) : (lkL keys i).getD j 0 = ((100 * j + and63 (keys.getD j 0) : Nat) : Int) := by simp [lkL, List.getD, List.getElem?_range h]
def lvL (q i : Nat) : List (List UInt8) := List.replicate i (leB (q : Int) 4)
theorem lvL_succ (q i : Nat) : lvL q (i + 1) = lvL q i ++ [leB (q : Int) 4] := List.replicate_succ'
theorem lvL_get {q i j : Nat} (h : j < i) : (lvL q i).getD j [] = leB (q : Int) 4 := by simp [lvL, List.getD, h]
theorem byteN_zero {n : Int} {i : Nat} (h : n < 256) : byteAt n (i + 1) = 0 := by
  unfold byteAt
  rw [Nat.pow_succ, show n.toNat / (256 ^ i * 256) = 0 from Nat.div_eq_of_lt (Nat.lt_of_lt_of_le (show n.toNat < 256 by omega) (Nat.le_mul_of_pos_left 256 (Nat.pow_pos (by decide))))]; rfl
theorem leB4_small {q : Nat} (h : q < 256) : (leB (q : Int) 4).map bv = [.int .u8 (byteAt (q : Int) 0).toNat, .int .u8 0, .int .u8 0, .int .u8 0] := by
  have e : leB (q : Int) 4 = [byteAt (q : Int) 0, byteAt (q : Int) 1, byteAt (q : Int) 2, byteAt (q : Int) 3] := rfl
  rw [e, byteN_zero (i := 0) (by omega), byteN_zero (i := 1) (by omega), byteN_zero (i := 2) (by omega)]; rfl
theorem lok {t : Int} {q n : Nat} {keys : List Int} (h1 : 1 ≤ t) (h2 : t ≤ 5) (hn : n ≤ 18) (h0 : 0 < n) : NodeOk t false n 18 4 (lkL keys n) (lvL q n) := by
  refine ⟨h1, h2, rfl, rfl, lkL_len _ _, by simp [lvL], hn, fun _ => h0, fun i hi => ?_, fun j hj => ?_, fun i hi => ?_⟩
  · rw [lkL_get _ hi]; have := and63_le (keys.getD i 0); constructor <;> (push_cast; omega)
  · rw [lkL_get _ (by omega), lkL_get _ hj]; have := and63_le (keys.getD j 0); push_cast; omega
  · rw [lvL_get hi, leB_len]
/-- the law's image -/
def lim (t : Int) (q n : Nat) (keys : List Int) : List UInt8 := putB (List.replicate 2304 0) (q * 256) (sealB 2 (q : Int) (nodeP 18 4 (headB t false n 18 4) (lkL keys n) (lvL q n) n))
theorem lim_scan {t : Int} {q n : Nat} {keys : List Int} (h1 : 1 ≤ t) (h2 : t ≤ 5) (hn : n ≤ 18) (h0 : 0 < n) (hq1 : 1 ≤ q) (hq2 : q ≤ 8) : scanW (lim t q n keys) (q : Int) t 100 = loopF (q : Int) n := by
  have N := lok (keys := keys) (q := q) h1 h2 hn h0
  have B := nod_back N
  have hsl : (sealB 2 (q : Int) (nodeP 18 4 (headB t false n 18 4) (lkL keys n) (lvL q n) n)).length = 256 := sealB_len (by rw [B.len]; decide)
  have hlen : (lim t q n keys).length = 2304 := by unfold lim; rw [putB_len (by rw [hsl, List.length_replicate]; omega), List.length_replicate]
  have hb : blkB (lim t q n keys) q = sealB 2 (q : Int) (nodeP 18 4 (headB t false n 18 4) (lkL keys n) (lvL q n) n) := blkB_put hsl (by rw [List.length_replicate]; omega)
  obtain ⟨he, hin⟩ := blk_back N hlen (by omega) (by omega) hb t (.inr rfl)
  have hc : nodC (inB (lim t q n keys) (q : Int)) = n := by rw [hin]; exact B.c
  have hK : nodK (lim t q n keys) (q : Int) = lkL keys n := by unfold nodK; rw [hc, hin]; exact B.k
  have hV : nodV (lim t q n keys) (q : Int) = lvL q n := by unfold nodV; rw [hc, hin]; exact B.v
  refine loop_scan he (by rw [hin]; exact B.l) hc hn ?_ ?_ ?_
  · rw [hK]
    intro k hk hk1
    rw [lkL_len] at hk
    have := N.hk1 (k - 1) (by omega)
    rw [show k - 1 + 1 = k by omega] at this
    simpa [List.getD] using this
  · rw [hK]
    intro x hx
    obtain ⟨i, hi, rfl⟩ := List.mem_iff_getElem.1 hx
    have := N.hk0 i (by rw [lkL_len] at hi; exact hi)
    simp only [List.getD, List.getElem?_eq_getElem hi, Option.getD_some] at this
    omega
  · intro i hi
    rw [hV, lvL_get hi]
    exact root_leB hq1 (by omega)
end Go.Proofs.YtolblnjohaooaaaGreatDoor
namespace Go.Proofs.YtolblnjohaooaaaGreatDoor
open Go.RowKit Go.Extern.Stop Go.Stop Go.Extern
set_option linter.unusedVariables false
attribute [local irreducible] wpList wpAnyH Code.wp Oper.wp Go

theorem ImgR.mono {B B' b : Nat} {p : Option Addr} {n c : Nat} {l : List UInt8} {w : World} (h : ImgR B b p n c l w) (hB : B' ≤ B) : ImgR B' b p n c l w := ⟨h.blk, own_mono h.row hB, h.hn⟩
theorem image_OfR (a : Option Addr) (c n m : Nat) (l : List UInt8) (w : World) (hn : l.length = n) (hm : min (n / 256) 14400 * 256 = m) (h : Bys w (.slice a n c) l) (hl : n ≤ 100000000) (hc : n ≤ c) :
    Calls Tryz.prog 9 #[.slice a n c] w (RetS (fun w' r => ∃ b p c2, r = .pointer (some ⟨b, 0, none⟩) ∧ w.heap.size ≤ b ∧ ImgR w.heap.size b p m c2 (l.take m) w') w) := by
  subst hn hm
  refine (image_Of a c l w h hl hc).mono ?_
  rintro e W ⟨_, rfl, hb, b, p, c2, rfl, h1, h2, h3⟩
  exact ⟨_, rfl, hb, b, p, c2, rfl, h1, h2, h3, by omega⟩
def WroteR (B b : Nat) (p : Option Addr) (n c : Nat) (l : List UInt8) (w : World) (e : Ending) (w' : World) : Prop :=
  e = .returned .nilIface ∧ Below B w w' ∧ Only [5] w w' ∧ ImgR B b p n c l w'
theorem block_WriteR (B b : Nat) (p : Option Addr) (n c k : Nat) (ki : Int) (l : List UInt8) (kind : Int) (a : Option Addr) (ca m : Nat) (li : List UInt8) (w : World) (hki : ki = (k : Int)) (hm : li.length = m) (hI : ImgR B b p n c l w) (hk : k < n / 256) (h1 : 1 ≤ kind) (h2 : kind ≤ 4) (hin : Bys w (.slice a m ca) li) (hl : m ≤ 244) (hBw : B ≤ w.heap.size) :
    Calls Tryz.prog 13 #[.pointer (some ⟨b, 0, none⟩), .int .i64 ki, .int .i64 kind, .slice a m ca] w (WroteR B b p n c (putB l (k * 256) (sealB kind k li)) w) := by
  subst hki hm
  obtain ⟨g, rfl, hc⟩ := hI.base (by omega)
  refine (block_Write B b g n c k l kind a ca li w hI.blk hI.row hI.hn hc hk h1 h2 hin hl hBw).mono ?_
  rintro e W ⟨rfl, hb, hO, _, ho⟩
  exact ⟨rfl, hb, hO, hI.blk.only hO (by decide), ho, hI.hn⟩
end Go.Proofs.YtolblnjohaooaaaGreatDoor
namespace Go.Proofs.YtolblnjohaooaaaGreatDoor
open Go.RowKit Go.Extern.Stop Go.Stop Go.Extern
set_option linter.unusedVariables false
attribute [local irreducible] wpList wpAnyH Code.wp Oper.wp Go

def li14 : List UInt8 := nodeP 12 8 (headB 2 true 0 12 8) [] [] 0
def im14 : List UInt8 := putB (List.replicate 512 0) (1 * 256) (sealB 2 1 li14)
theorem li14_len : li14.length = 244 := by decide +kernel
theorem li14_ok : nodeTE li14 2 = 0 := by decide +kernel
theorem im14_blk : blkB im14 1 = sealB 2 1 li14 := blkB_put (sealB_len (by rw [li14_len]; decide)) (by rw [List.length_replicate]; decide)
theorem im14_len : im14.length = 512 := by unfold im14; rw [putB_len (by rw [sealB_len (by rw [li14_len]; decide), List.length_replicate]; decide), List.length_replicate]
theorem im14_in : inB im14 1 = li14 := by
  rw [inB_in (no := 1) (j := 1) rfl, im14_blk, in_seal (by rw [li14_len]; decide)]
  unfold inSeal; rw [li14_len]; exact List.append_nil _
theorem im14_ok : nodeErr im14 1 2 = 0 := by
  unfold nodeErr
  rw [inE_in (no := 1) (j := 1) im14_len rfl (by decide), im14_blk, if_pos (open_seal (by decide) (by decide) (by decide) (by decide) (by rw [li14_len]; decide)), im14_in, li14_ok]
theorem im14_c : nodC (inB im14 1) = 0 := by rw [im14_in]; decide +kernel
theorem im14_l : nodL (inB im14 1) = true := by rw [im14_in]; decide +kernel
theorem im14_look : lookE im14 [] 1 2 0 281474976710656 0 = 0 := by
  unfold lookE
  rw [if_neg (by decide), if_neg (by decide), if_neg (by rw [im14_ok]; decide), im14_c, if_neg (by decide), if_neg (by simp)]
theorem scan14 : scanW im14 1 2 9 = ⟨[], [1], 1, 1, [], false⟩ := by
  unfold scanW visitF
  rw [if_neg (by decide), if_neg (by rw [show ws0.deep = 0 from rfl, im14_look]; decide), if_pos im14_l, im14_c]
  rfl
theorem walk_Scan14 (B b : Nat) (p : Option Addr) (n c : Nat) (w : World) (hI : ImgR B b p n c im14 w) :
    Calls Tryz.prog 8 #[.pointer (some ⟨b, 0, none⟩), .int .i64 1, .int .i64 2, .int .i64 9] w (RetS (fun _ r => ∃ pe pb pf ce cb cf, r = .agg #[.slice pe 0 ce, .slice pb 1 cb, .int .i64 1, .int .i64 1, .slice pf 0 cf]) w) := by
  refine (walk_Scan B b p n c im14 1 2 9 w (by decide) hI).mono ?_
  rintro e W ⟨pe, pb, pf, ce, cb, cf, fv, rfl, hb, _⟩
  rw [scan14]
  exact ⟨_, rfl, hb, pe, pb, pf, ce, cb, cf, rfl⟩
theorem ok14 : NodeOk 2 true 0 12 8 [] [] := ⟨by decide, by decide, rfl, rfl, rfl, rfl, by decide, fun h => (nomatch h), fun i h => absurd h (Nat.not_lt_zero i), fun j h => absurd h (Nat.not_lt_zero (j + 1)), fun i h => absurd h (Nat.not_lt_zero i)⟩
set_option maxRecDepth 100000 in
set_option maxHeartbeats 4000000 in
theorem lives14 (w : World) :
    Calls Tryz.prog 6 #[] w (Ret (.bool true) w) := by
 refine zin 42 Tryz.func6 ?_
 refine xmk 7 fun _ _ _ _ zJ zQ zo zx zy zK => op_make 512 (.int .u8 0) 1 1 ((List.replicate 512 (0 : UInt8)).map bv) zo zx zy Tryz.underlying22 (by kernel_rfl) rfl (by omega) (by omega) (zerosB 512) fun b1 W1 n1 => ?_
 refine zK _ _ ?_
 have hs8 : w.heap.size ≤ (W1).heap.size := n1.below.size
 have o1 := own_of_blk (size := 1) (n := 512) n1.blk (n1.ge (Below.refl w.heap.size _)) (by rw [List.length_map, List.length_replicate]) (by unfold maxLen; omega)
 refine xc 0 (args := #[.slice (some ⟨b1, 0, none⟩) 512 512]) (image_OfR (some ⟨b1, 0, none⟩) 512 512 512 (List.replicate 512 (0 : UInt8)) _ List.length_replicate (by decide) (bys_of (own_sl o1) List.length_replicate) (by decide) (by decide)) ?_
 rintro _ W2 ⟨_, rfl, hb2, bi, pi, ci, rfl, _, hI⟩
 replace hI := hI.mono hs8
 rw [List.take_of_length_le (by simp)] at hI
 refine xc 6 (args := #[.agg #[.int .i64 2, .bool true, .slice none 0 0, .slice none 0 0]]) (node_Put 2 true 0 12 8 [] [] none none 0 0 _ ok14 (.inl ⟨none, 0, rfl, rfl, rfl⟩) (.inl ⟨none, 0, rfl, rfl, rfl⟩)) ?_
 rintro _ W3 ⟨_, rfl, hb3, pz, cz, rfl, oz⟩
 have hs3 := (Bl.next n1.below hb2).size
 have oz'1 := own_mono oz hs3
 change World.ownsRow _ _ _ _ _ _ (li14.map bv) at oz'1
 have hI'1 := hI.below hb3
 have hB'1 := Bl.next (Bl.next n1.below hb2) hb3
 refine xc 15 (args := #[.pointer (some ⟨bi, 0, none⟩), .int .i64 1, .int .i64 2, .slice pz 244 cz]) (block_WriteR w.heap.size bi pi 512 ci 1 1 (List.replicate 512 (0 : UInt8)) 2 pz cz 244 li14 _ rfl li14_len hI'1 (by decide) (by decide) (by decide) (bys_of (own_sl oz'1) li14_len) (by decide) hB'1.size) ?_
 rintro _ W4 ⟨rfl, hb4, hO4, hI⟩
 rw [show putB (List.replicate 512 (0 : UInt8)) (1 * 256) (sealB 2 (1 : Nat) li14) = im14 from rfl] at hI
 refine xc 10 (args := #[.pointer (some ⟨bi, 0, none⟩), .int .i64 1, .int .i64 2, .int .i64 9]) (walk_Scan14 w.heap.size bi pi 512 ci _ hI) ?_
 rintro _ W5 ⟨_, rfl, hb5, pe, pb, pf, ce, cb, cf, rfl⟩
 refine xa 0 [.slice none 0 0, .slice none 0 0, .int .i64 0, .int .i64 0, .slice none 0 0] 29 fun b6 W6 n6 => ?_
 have hB'2 := Bl.next (hB'1.trans hb4) hb5
 have g6 := n6.ge hB'2
 refine xsv 0 n6.blk [.slice pe 0 ce, .slice pb 1 cb, .int .i64 1, .int .i64 1, .slice pf 0 cf] fun W7 u7 k7 => ?_
 refine xb 5 0 k7 ?_
 refine xb 4 2 k7 ?_
 refine xb 4 3 k7 ?_
 refine xb 4 1 k7 ?_
 have hB'3 := u7.below (Bl.next hB'2 n6.below) g6
 exact xe 7 (.bool true) ⟨rfl, hB'3⟩
end Go.Proofs.YtolblnjohaooaaaGreatDoor
namespace Go.Proofs.YtolblnjohaooaaaGreatDoor
open Go.RowKit Go.Extern.Stop Go.Stop Go.Extern
set_option linter.unusedVariables false
/-- whether an error is of number d -/
def isE (l : List (Option Int)) (t : Option Int) (d : Int) : Bool := if noErr l t then d == 0 else t == some d
theorem iface_ne {P : Program} (w : World) {ti ta tb : TypeId} {ms : Array (String × TypeId)} (x y : Value) (hi : P.underlying ti = some (.interface ms)) (hne : ta ≠ tb) : (binOp .eql ti (.iface ta x) (.iface tb y)).run P w = .ok (.bool false) w := by
  simp only [binOp]
  have h : ∀ d : Nat, (Op.equalIn (d + 2) ti (.iface ta x) (.iface tb y)).run P w = .ok false w := fun d => by simp [Op.equalIn, run_underlying hi, hne]
  simp [Op.equal, Op.maxDepth, h 9998]
theorem Tryz.eqFN (a : Value) (b : Int) (w : World) : (binOp .eql 47 (.iface 96 a) (.iface 43 (.int .i64 b))).run Tryz.prog w = .ok (.bool false) w :=
  iface_ne w a _ Tryz.underlying47 (by decide)
set_option maxRecDepth 100000 in
set_option maxHeartbeats 2000000 in
theorem errors_isC (l : List (Option Int)) (t : Option Int) (v : Value) (d : Int) (w : World) (hv : ErrV w l t v) (hn : noErr l t = false) (hs : ∀ b ∈ l, b.isSome = true) : Calls Tryz.prog 82 #[v, .iface 43 (.int .i64 d), .bool true] w (Ret (.bool (t == some d)) w) := by
  have y1 := Tryz.eqN
  have y2 := Tryz.noIsN
  have y3 := Tryz.noUnwrapN
  have y4 := Tryz.noUnwrapsN
  have y5 := Tryz.eqFN
  have y6 := Tryz.noIsF
  have y7 := Tryz.hasUnwrapF
  have y8 := Tryz.methUnwrapF
  have y9 := Tryz.nilUnwrapF
  go_enter Tryz.func82, Tryz.ntmps82
  go_wp2_with fail
  go_loopg [0] l.length (fun k x wr => ∃ l', l'.length = k ∧ ErrV wr l' t x ∧ noErr l' t = false ∧ (∀ b ∈ l', b.isSome = true) ∧ Below w.heap.size w wr)
  case atStart => exact ⟨l, rfl, hv, hn, hs, Below.refl _ _⟩
  case round =>
    obtain ⟨l', hk, hx, hne, hss, hbr⟩ := hrel
    match l', hx with
    | [], hx =>
      cases t with
      | none => simp [noErr] at hne
      | some c =>
        obtain rfl : u0 = _ := hx
        by_cases h : c = d
        · have h' : (c == d) = true := by simpa using h
          have h2 : (some c == some d) = true := by simpa using h
          have HH := Lib.hid h; clear h
          have HK := Lib.hid hk; clear hk
          go_wp2_with fail
          go_ret
          exact ⟨by rw [h2]; rfl, hbr⟩
        · have h' : (c == d) = false := by simpa using h
          have h2 : (some c == some d) = false := by simpa using h
          have HH := Lib.hid h; clear h
          have HK := Lib.hid hk; clear hk
          go_wp2_with fail
          go_ret
          exact ⟨by rw [h2]; rfl, hbr⟩
    | some b :: r, hx =>
      obtain ⟨blk, v', rfl, hkb, h3⟩ := hx
      have h1 := hkb.cell (i := 1) rfl
      have HK := Lib.hid hk; clear hk
      go_wp2_with fail
      refine (fault_unwrapM _ _ _ h1).mono ?_
      rintro e w' ⟨rfl, rfl⟩
      rcases h3.nil_or with ⟨hz, rfl⟩ | ⟨hz, ty, x, rfl⟩
      · obtain ⟨rfl, rfl⟩ := noErr_true hz
        go_wp2_with fail
        go_ret
        exact ⟨rfl, hbr⟩
      · go_wp2_with fail
        go_roundg (r.length)
        case measure => rw [← HK.out]; simp
        case rel => exact ⟨r, rfl, h3, hz, fun b hb => hss b (List.mem_cons_of_mem _ hb), hbr⟩
    | none :: r, hx => exact absurd (hss none List.mem_cons_self) (by decide)
set_option maxRecDepth 100000 in
set_option maxHeartbeats 2000000 in
theorem errors_IsC (l : List (Option Int)) (t : Option Int) (ty : TypeId) (x : Value) (d : Int) (w : World) (hv : ErrV w l t (.iface ty x)) (hn : noErr l t = false) (hs : ∀ b ∈ l, b.isSome = true) : Calls Tryz.prog 61 #[.iface ty x, .iface 43 (.int .i64 d)] w (Ret (.bool (t == some d)) w) := by
  have h66 := @run_callFunc_extern Tryz.prog 81 _ ReflectliteType.typeOf Tryz.func81 (by kernel_rfl) (by kernel_rfl) (by kernel_rfl) (by kernel_rfl)
  have y1 := Tryz.typeOfN
  have y2 := Tryz.methComparable
  have y3 := Tryz.comparableN
  go_enter Tryz.func61, Tryz.ntmps61
  go_wp2_with fail
  refine (errors_isC l t _ d _ hv hn hs).mono ?_
  rintro e w' ⟨rfl, hb⟩
  go_wp2_with fail
  go_ret
  exact ⟨rfl, hb⟩
end Go.Proofs.YtolblnjohaooaaaGreatDoor
namespace Go.Proofs.YtolblnjohaooaaaGreatDoor
open Go.RowKit Go.Extern.Stop Go.Stop Go.Extern
set_option linter.unusedVariables false
attribute [local irreducible] wpList wpAnyH Code.wp Oper.wp Go

set_option maxRecDepth 100000 in
set_option maxHeartbeats 1000000 in
theorem node_Right_e (t : Int) (ak av : Option Addr) (ck cv : Nat) (w : World) (ht1 : 1 ≤ t) (ht2 : t ≤ 5) :
    Calls Tryz.prog 30 #[.agg #[.int .i64 t, .bool false, .slice ak 0 ck, .slice av 0 cv]] w (Ret (.bool false) w) := by
 refine zin 70 Tryz.func30 ?_
 refine xa 2 [.int .i64 t, .bool false, .slice ak 0 ck, .slice av 0 cv] 42 fun b1 W1 n1 => ?_
 refine xb 6 0 n1.blk ?_
 refine xb 1 1 n1.blk ?_
 refine xr 0 (args := #[.int .i64 t, .bool false]) (node_WidthN t false 4 rfl ht1 ht2 _) fun W2 hb2 => ?_
 refine xd 5 .z ?_
 have k1'1 := (n1.blk.below hb2).below (below_drew W2)
 refine xb (.e [0, 1, 2, 3] 4) 2 k1'1 ?_
 refine xb (.e [5, 6] 7) 0 k1'1 ?_
 refine xb (.e [8] 9) 1 k1'1 ?_
 refine xr (.o [] 10) (args := #[.int .i64 t, .bool false]) (node_MaxN t false 18 rfl ht1 ht2 _) fun W3 hb3 => ?_
 have k1'2 := k1'1.below hb3
 refine xb (.e [11, 12, 13, 14] 15) 3 k1'2 ?_
 refine xb (.e [16, 17] 18) 2 k1'2 ?_
 refine xb (.e [19, 20, 21, 22, 23] 24) 1 k1'2 ?_
 refine xb (.e [25, 26, 27] 28) 2 k1'2 ?_
 have hB := Bl.next (Bl.next (Bl.next n1.below hb2) (below_drew W2)) hb3
 exact xe (.r [29, 30, 31, 32] 10) (.bool false) ⟨rfl, hB⟩
set_option maxRecDepth 100000 in
set_option maxHeartbeats 1000000 in
theorem node_Put_e (t : Int) (ak av : Option Addr) (ck cv : Nat) (w : World) (ht1 : 1 ≤ t) (ht2 : t ≤ 5) :
    Calls Tryz.prog 12 #[.agg #[.int .i64 t, .bool false, .slice ak 0 ck, .slice av 0 cv]] w (Ret (.tuple #[.slice none 0 0, .int .i64 1]) w) := by
 refine zin 90 Tryz.func12 ?_
 refine xa 2 [.int .i64 t, .bool false, .slice ak 0 ck, .slice av 0 cv] 42 fun b1 W1 n1 => ?_
 refine xlv 7 n1.blk.rp ?_
 refine xr 0 (args := #[.agg #[.int .i64 t, .bool false, .slice ak 0 ck, .slice av 0 cv]]) (node_Right_e t ak av ck cv _ ht1 ht2) fun W2 hb2 => ?_
 have hB := Bl.next n1.below hb2
 exact xe 12 (.tuple #[.slice none 0 0, .int .i64 1]) ⟨rfl, hB⟩
def PutLP (t : Int) (q i : Nat) (keys : List Int) (w : World) (e : Ending) (w' : World) : Prop :=
  (i = 0 ∧ e = .returned (.tuple #[.slice none 0 0, .int .i64 1]) ∧ Below w.heap.size w w') ∨
  (0 < i ∧ ∃ p c, e = .returned (.tuple #[.slice p 244 c, .int .i64 0]) ∧ Below w.heap.size w w' ∧ w'.ownsRow w.heap.size 5 1 (.slice p 244 c) 244 ((nodeP 18 4 (headB t false i 18 4) (lkL keys i) (lvL q i) i).map bv))
theorem node_PutL (t : Int) (q i : Nat) (keys : List Int) (ak av : Option Addr) (ck cv : Nat) (w : World) (h1 : 1 ≤ t) (h2 : t ≤ 5) (hi : i ≤ 18) (hK : Sl w (.slice ak i ck) i ((lkL keys i).map (Value.int .i64))) (hV : Sl w (.slice av i cv) i ((lvL q i).map sv)) :
    Calls Tryz.prog 12 #[.agg #[.int .i64 t, .bool false, .slice ak i ck, .slice av i cv]] w (PutLP t q i keys w) := by
  rcases Nat.eq_zero_or_pos i with h0 | h0
  · subst h0
    refine (node_Put_e t ak av ck cv w h1 h2).mono ?_
    rintro e W ⟨rfl, hb⟩
    exact .inl ⟨rfl, rfl, hb⟩
  · refine (node_Put t false i 18 4 (lkL keys i) (lvL q i) ak av ck cv w (lok h1 h2 hi h0) hK hV).mono ?_
    rintro e W ⟨_, rfl, hb, p, c, rfl, ho⟩
    exact .inr ⟨h0, p, c, rfl, hb, ho⟩
def ScanLP (q i : Nat) (w : World) (e : Ending) (w' : World) : Prop := ∃ pe pb pf ce cb cf fv, e = .returned (.agg #[.slice pe 0 ce, .slice pb 1 cb, .int .i64 0, .int .i64 ((1 + i : Nat) : Int), .slice pf i cf]) ∧ Below w.heap.size w w' ∧ w'.ownsRow w.heap.size 47 1 (.slice pf i cf) i fv ∧ FltsW w' (List.replicate i ([(q : Int), (q : Int)], 11)) fv
theorem walk_ScanL (Bi b : Nat) (pi : Option Addr) (ni ci : Nat) (t : Int) (q i : Nat) (keys : List Int) (w : World) (h1 : 1 ≤ t) (h2 : t ≤ 5) (hi : i ≤ 18) (h0 : 0 < i) (hq1 : 1 ≤ q) (hq2 : q ≤ 8) (hI : ImgR Bi b pi ni ci (lim t q i keys) w) :
    Calls Tryz.prog 8 #[.pointer (some ⟨b, 0, none⟩), .int .i64 (q : Int), .int .i64 t, .int .i64 100] w (ScanLP q i w) := by
  refine (walk_Scan Bi b pi ni ci (lim t q i keys) (q : Int) t 100 w (by decide) hI).mono ?_
  rintro e W ⟨pe, pb, pf, ce, cb, cf, fv, rfl, hb, hW⟩
  rw [lim_scan h1 h2 hi h0 hq1 hq2] at hW ⊢
  obtain ⟨_, _, hf, hv⟩ := hW
  simp only [loopF, List.length_replicate] at hf hv
  refine ⟨pe, pb, pf, ce, cb, cf, fv, ?_, hb, hf, hv⟩
  simp [walkC, loopF]
theorem FltsW.rep {w : World} {q : Int} : ∀ {n : Nat} {vs : List Value}, FltsW w (List.replicate n ([q, q], 11)) vs → ∀ {j : Nat}, j < n → ∃ ty x, vs[j]? = some (.iface ty x) ∧ ErrV w ([q, q].map some) (some 11) (.iface ty x)
  | n + 1, v :: vs, h, 0, _ => by
    obtain ⟨ty, x, rfl⟩ := h.1.iface
    exact ⟨ty, x, rfl, h.1⟩
  | n + 1, v :: vs, h, j + 1, hj => by
    obtain ⟨ty, x, h1, h2⟩ := FltsW.rep (n := n) h.2 (j := j) (by omega)
    exact ⟨ty, x, by simpa using h1, h2⟩
  | n + 1, [], h, _, _ => h.elim
  | 0, _, _, _, hj => absurd hj (by omega)
theorem fault_Blocks2 (q c : Int) (v : Value) (w : World) (hv : ErrV w ([q, q].map some) (some c) v) :
    Calls Tryz.prog 14 #[v] w (RetS (fun w' r => ∃ p cp, r = .slice p 2 cp ∧ w'.ownsRow w.heap.size 3 1 (.slice p 2 cp) 2 ([q, q].map (Value.int .i64))) w) := by
  refine (fault_Blocks (some c) ([q, q].map some) v w (by simp) hv).mono ?_
  rintro e W ⟨r, rfl, hb, ho⟩
  obtain ⟨p, cp, rfl⟩ := (own_sl ho).slice
  exact ⟨_, rfl, hb, p, cp, rfl, ho⟩
theorem Sl.elem1 {w : World} {b : Option Addr} {n c : Nat} {xs : List Value} (h : Sl w (.slice b n c) n xs) {j : Nat} {x : Value} (hj : xs[j]? = some x) : b.isSome = true ∧ w.cell? (elemAddr b (j * 1)) = some x := by rw [Nat.mul_one]; exact Sl.elem h hj
theorem fault_Code11 (q : Int) (v : Value) (w : World) (hg : ErrT w) (hv : ErrV w ([q, q].map some) (some 11) v) : Calls Tryz.prog 15 #[v] w (Ret (.int .i64 11) w) := fault_Code (some 11) ([q, q].map some) v w hg hv
set_option maxRecDepth 100000 in
set_option maxHeartbeats 8000000 in
theorem walkLoops_law (no t0 : Int) (aK : Option Addr) (cK : Nat) (keys : List Int) (w : World) (hg : ErrT w) (h : Sl w (.slice aK keys.length cK) keys.length (keys.map (Value.int .i64))) :
    Calls Tryz.prog 4 #[.int .i64 no, .slice aK keys.length cK, .int .i64 t0] w (Ret (.bool true) w) := by
 obtain ⟨q7, hq7, hq8⟩ := and7 no
 obtain ⟨q, hq⟩ : ∃ q : Nat, 1 + q7 = q := ⟨_, rfl⟩
 obtain ⟨r1, hr1⟩ : ∃ r, Int.tmod t0 5 = r := ⟨_, rfl⟩
 obtain ⟨r2, hr2⟩ : ∃ r, Int.tmod (r1 + 5) 5 = r := ⟨_, rfl⟩
 have b1 := tmod_bd t0 (m := 5) (by decide)
 rw [show ((5 : Nat) : Int) = 5 from rfl, hr1] at b1
 have b2 := tmod_bd (r1 + 5) (m := 5) (by decide)
 have b3 := tmod_nn (x := r1 + 5) (by omega) 5
 rw [show ((5 : Nat) : Int) = 5 from rfl, hr2] at b2 b3
 obtain ⟨t, ht⟩ : ∃ t, 1 + r2 = t := ⟨_, rfl⟩
 have ht1 : 1 ≤ t := by omega
 have ht2 : t ≤ 5 := by omega
 refine zin 149 Tryz.func4 ?_
 refine xq 8 (congrArg (Value.int .i64) (show (IntKind.i64.wrap (↑(BitVec.ofInt 64 no &&& BitVec.ofInt 64 (7 : Int)).toNat : Int) : Int) = (↑q7 : Int) from hq7)) ?_
 refine xwm 0 (1 + (↑q7 : Int)) (↑(1 + q7) : Int) ?_
 refine xq 1 (congrArg (Value.int .i64) (show (Int.tmod t0 5 : Int) = r1 from hr1)) ?_
 refine xw 0 (r1 + 5) ?_
 refine xq 0 (congrArg (Value.int .i64) (show (Int.tmod (r1 + 5) 5 : Int) = r2 from hr2)) ?_
 refine xq 0 (congrArg (Value.int .i64) (show IntKind.i64.wrap (1 + r2) = t from (show IntKind.i64.wrap (1 + r2) = (1 + r2) from by first | exact IntWalk.i64_in _ (by omega) | (simp only [IntKind.wrap]; omega)).trans (ht))) ?_
 refine xa 8 [.int .i64 0, .bool false, .slice none 0 0, .slice none 0 0] 42 fun b1 W1 n1 => ?_
 refine xsv 0 n1.blk [.int .i64 t, .bool false, .slice none 0 0, .slice none 0 0] fun W2 u2 k2 => ?_
 have g1 := n1.ge (Below.refl w.heap.size _)
 refine xv1 9 0 (show (.int .i64 (↑(1 + q7) : Int) : Value) = .int .i64 (↑q : Int) from by rw [← hq]) ?_
 have hB := u2.below n1.below g1
 refine zl 0 149 (fun zm zkv V => ∃ (i : Nat) (kp : Option Addr) (kc : Nat) (vp : Option Addr) (vc : Nat), zkv = [(0, .int .i64 (↑q : Int)), (1, .slice aK keys.length cK), (2, .int .i64 t), (6, .bool false), (7, .pointer (some ⟨b1, 0, none⟩)), (8, .int .i64 (↑i : Int))] ∧ zm = 18 - ((↑i : Int)).toNat ∧ Below w.heap.size w V ∧ Blk V b1 ([.int .i64 t, .bool false, .slice kp i kc, .slice vp i vc]) 42 ∧ V.ownsRow w.heap.size 3 1 (.slice kp i kc) i ((lkL keys i).map (Value.int .i64)) ∧ V.ownsRow w.heap.size 9 1 (.slice vp i vc) i ((lvL q i).map sv) ∧ i ≤ 18) ⟨0, none, 0, none, 0, rfl, rfl, hB, k2, World.ownsRow_nil _ _ _ _, World.ownsRow_nil _ _ _ _, by decide⟩ ?_
 rintro _ _ W3 ⟨i, kp, kc, vp, vc, rfl, rfl, hB_3, k3_b1, hK, hV, hi⟩ J3 hJ3 r3
 have h63 := and63_le (keys.getD i 0)
 refine xg 8 [28, 29] (decide ((↑i : Int) < (↑keys.length : Int))) (fun hc4 => ?_) (fun hc4 => ?_)
 · have hc4 := of_decide_eq_true hc4
   refine xid 5 ((↑i : Int) < (18 : Int)) (fun hc5 => ?_) (fun hc5 => ?_)
   · refine xd 5 (.t w.heap.size [3, 42]) ?_
     refine xwm (.e [0, 2] 3) (100 * (↑i : Int)) (↑(100 * i) : Int) ?_
     refine xx (.e [4, 5] 6) _ keys.length i 1 (Ints.elem h (k := i) (by omega)).1 ?_
     have hV'1 := own_below hV (below_drew W3)
     have hB'1 := Bl.next hB_3 (below_drew W3)
     refine xlt (.e [] 7) (.t w.heap.size [3, 42]) (fun V hV'1 => (Ints.elem (h.below (sft_keep hB'1 hV'1 (Nat.le_refl _))) (k := i) (by omega)).2) ?_
     refine xq (.e [] 8) (congrArg (Value.int .i64) (show (IntKind.i64.wrap (↑(BitVec.ofInt 64 (keys.getD i 0) &&& BitVec.ofInt 64 (63 : Int)).toNat : Int) : Int) = (↑(and63 (keys.getD i 0)) : Int) from and63_wrap _)) ?_
     refine xwm (.e [] 9) ((↑(100 * i) : Int) + (↑(and63 (keys.getD i 0)) : Int)) (↑((100 * i) + (and63 (keys.getD i 0))) : Int) ?_
     refine xm2 0 1 10 ?_ ?_
     · have k3_b1'1 := k3_b1.below (below_drew W3)
       refine xb 0 2 k3_b1'1 ?_
       refine xbs (.o [] 10) 1 [.int .i64 (↑((100 * i) + (and63 (keys.getD i 0))) : Int)] 3 fun b6 W6 n6 => ?_
       have g6 := n6.ge hB'1
       have hK'1 := own_below hK (below_drew W3)
       have r6_hK := own_ne hK'1 n6
       have hK'2 := own_below hK'1 n6.below
       have hB'2 := Bl.next hB'1 n6.below
       refine ybi (.o [] 11) (.t w.heap.size [3, 42]) fun _ _ _ _ zJ zQ zo zx zy zK => op_app (m := 1) (news := [.int .i64 (↑((100 * i) + (and63 (keys.getD i 0))) : Int)]) (.int .i64 0) 1 8 (i + 1) ((lkL keys (i + 1)).map (Value.int .i64)) zo Tryz.underlying26 (by kernel_rfl) rfl (by decide) zx hK'2 zy (n6.blk.sl 1 1 (by decide) (by decide)) rfl (by simp [Value.oneCell']) (by unfold maxLen; omega) (by omega) hB'2.size (by rfl) (by rw [lkL_succ, List.map_append]; rfl) fun px7 cx7 W7 o7 hg7 hb7 => ?_
       refine zK _ _ (sft_grown hb7 hg7 hK'2 (by decide)) ?_
       have k3_b1'2 := (k3_b1'1.below n6.below).grown hg7 hK'2 (by decide)
       refine ys (.o [12] 13) k3_b1'2 [.int .i64 t, .bool false, .slice px7 (i + 1) cx7, .slice vp i vc] (.t w.heap.size [3, 42]) fun W8 u8 k8 => ⟨(sft_upd u8 k3_b1'2 g1 (by decide)), ?_⟩
       refine xb 4 3 k8 ?_
       refine xq 1 (congrArg (Value.int .u8) (show (IntKind.u8.wrap (↑q : Int) : Int) = (↑(byteAt (↑q : Int) 0).toNat : Int) from byte_0 (by omega))) ?_
       refine xbs 0 4 [.int .u8 (↑(byteAt (↑q : Int) 0).toNat : Int), .int .u8 0, .int .u8 0, .int .u8 0] 5 fun b9 W9 n9 => ?_
       have hB'3 := u8.below (hB'2.trans hb7) g1
       have g9 := n9.ge hB'3
       refine xcv0 0 (fun _ _ _ zo zx => run_bstr zo zx (Blk.bys n9.blk (leB (↑q : Int) 4) 4 4 (leB_len _ _) (by rw [leB4_small (by omega)]; rfl) (by decide) (by decide)) (leB_len _ _) Tryz.underlying22 Tryz.underlying5 Tryz.underlying9) ?_
       refine xbs 0 1 [.string ⟨(leB (↑q : Int) 4).toArray⟩] 9 fun b10 W10 n10 => ?_
       have hB'4 := Bl.next hB'3 n9.below
       have g10 := n10.ge hB'4
       have hV'2 := own_below (u8.own2 (own_grown (own_below hV'1 n6.below) hg7 hK'2 (by decide)) k3_b1'2 (by decide)) n9.below
       have r10_hV := own_ne hV'2 n10
       have hV'3 := own_below hV'2 n10.below
       have hB'5 := Bl.next hB'4 n10.below
       refine xbi 0 fun _ _ _ _ zJ zQ zo zx zy zK => op_app (m := 1) (news := [.string ⟨(leB (↑q : Int) 4).toArray⟩]) (.string ⟨#[]⟩) 1 16 (i + 1) ((lvL q (i + 1)).map sv) zo Tryz.underlying40 (by kernel_rfl) rfl (by decide) zx hV'3 zy (n10.blk.sl 1 1 (by decide) (by decide)) rfl (by simp [Value.oneCell']) (by unfold maxLen; omega) (by omega) hB'5.size (by rfl) (by rw [lvL_succ, List.map_append]; rfl) fun px11 cx11 W11 o11 hg11 hb11 => ?_
       refine zK _ _ ?_
       have k8'1 := ((k8.below n9.below).below n10.below).grown hg11 hV'3 (by decide)
       refine xs 1 k8'1 [.int .i64 t, .bool false, .slice px7 (i + 1) cx7, .slice px11 (i + 1) cx11] fun W12 u12 k12 => ?_
       refine xwm 5 ((↑i : Int) + 1) (↑(i + 1) : Int) ?_
       have hB'6 := u12.below (hB'5.trans hb11) g1
       have o7'1 := u12.own2 (own_grown (own_below (own_below (u8.own2 o7 k3_b1'2 (by decide)) n9.below) n10.below) hg11 hV'3 (by decide)) k8'1 (by decide)
       have o11'1 := u12.own2 o11 k8'1 (by decide)
       exact ze 2 (hJ3 _ _ _ ⟨i + 1, _, _, _, _, rfl, rfl, hB'6, k12, o7'1, o11'1, by omega⟩ (by omega))
     refine xbs 0 1 [.int .i64 (↑((100 * i) + (and63 (keys.getD i 0))) : Int)] 3 fun b13 W13 n13 => ?_
     have g13 := n13.ge hB'1
     have hK'3 := own_below hK (below_drew W3)
     have r13_hK := own_ne hK'3 n13
     have k3_b1'3 := (k3_b1.below (below_drew W3)).below n13.below
     refine xb (.o [] 1) 2 k3_b1'3 ?_
     have hK'4 := own_below hK'3 n13.below
     have hB'7 := Bl.next hB'1 n13.below
     refine ybi (.o [] 11) (.t w.heap.size [3, 42]) fun _ _ _ _ zJ zQ zo zx zy zK => op_app (m := 1) (news := [.int .i64 (↑((100 * i) + (and63 (keys.getD i 0))) : Int)]) (.int .i64 0) 1 8 (i + 1) ((lkL keys (i + 1)).map (Value.int .i64)) zo Tryz.underlying26 (by kernel_rfl) rfl (by decide) zx hK'4 zy (n13.blk.sl 1 1 (by decide) (by decide)) rfl (by simp [Value.oneCell']) (by unfold maxLen; omega) (by omega) hB'7.size (by rfl) (by rw [lkL_succ, List.map_append]; rfl) fun px14 cx14 W14 o14 hg14 hb14 => ?_
     refine zK _ _ (sft_grown hb14 hg14 hK'4 (by decide)) ?_
     have k3_b1'4 := k3_b1'3.grown hg14 hK'4 (by decide)
     refine ys (.o [12] 13) k3_b1'4 [.int .i64 t, .bool false, .slice px14 (i + 1) cx14, .slice vp i vc] (.t w.heap.size [3, 42]) fun W15 u15 k15 => ⟨(sft_upd u15 k3_b1'4 g1 (by decide)), ?_⟩
     refine xb 4 3 k15 ?_
     refine xq 1 (congrArg (Value.int .u8) (show (IntKind.u8.wrap (↑q : Int) : Int) = (↑(byteAt (↑q : Int) 0).toNat : Int) from byte_0 (by omega))) ?_
     refine xbs 0 4 [.int .u8 (↑(byteAt (↑q : Int) 0).toNat : Int), .int .u8 0, .int .u8 0, .int .u8 0] 5 fun b16 W16 n16 => ?_
     have hB'8 := u15.below (hB'7.trans hb14) g1
     have g16 := n16.ge hB'8
     refine xcv0 0 (fun _ _ _ zo zx => run_bstr zo zx (Blk.bys n16.blk (leB (↑q : Int) 4) 4 4 (leB_len _ _) (by rw [leB4_small (by omega)]; rfl) (by decide) (by decide)) (leB_len _ _) Tryz.underlying22 Tryz.underlying5 Tryz.underlying9) ?_
     refine xbs 0 1 [.string ⟨(leB (↑q : Int) 4).toArray⟩] 9 fun b17 W17 n17 => ?_
     have hB'9 := Bl.next hB'8 n16.below
     have g17 := n17.ge hB'9
     have hV'4 := own_below (u15.own2 (own_grown (own_below hV'1 n13.below) hg14 hK'4 (by decide)) k3_b1'4 (by decide)) n16.below
     have r17_hV := own_ne hV'4 n17
     have hV'5 := own_below hV'4 n17.below
     have hB'10 := Bl.next hB'9 n17.below
     refine xbi 0 fun _ _ _ _ zJ zQ zo zx zy zK => op_app (m := 1) (news := [.string ⟨(leB (↑q : Int) 4).toArray⟩]) (.string ⟨#[]⟩) 1 16 (i + 1) ((lvL q (i + 1)).map sv) zo Tryz.underlying40 (by kernel_rfl) rfl (by decide) zx hV'5 zy (n17.blk.sl 1 1 (by decide) (by decide)) rfl (by simp [Value.oneCell']) (by unfold maxLen; omega) (by omega) hB'10.size (by rfl) (by rw [lvL_succ, List.map_append]; rfl) fun px18 cx18 W18 o18 hg18 hb18 => ?_
     refine zK _ _ ?_
     have k15'1 := ((k15.below n16.below).below n17.below).grown hg18 hV'5 (by decide)
     refine xs 1 k15'1 [.int .i64 t, .bool false, .slice px14 (i + 1) cx14, .slice px18 (i + 1) cx18] fun W19 u19 k19 => ?_
     refine xwm 5 ((↑i : Int) + 1) (↑(i + 1) : Int) ?_
     have hB'11 := u19.below (hB'10.trans hb18) g1
     have o14'1 := u19.own2 (own_grown (own_below (own_below (u15.own2 o14 k3_b1'4 (by decide)) n16.below) n17.below) hg18 hV'5 (by decide)) k15'1 (by decide)
     have o18'1 := u19.own2 o18 k15'1 (by decide)
     exact ze 2 (hJ3 _ _ _ ⟨i + 1, _, _, _, _, rfl, rfl, hB'11, k19, o14'1, o18'1, by omega⟩ (by omega))
   refine xlv 7 k3_b1.rp ?_
   refine xc 0 (args := #[.agg #[.int .i64 t, .bool false, .slice kp i kc, .slice vp i vc]]) (node_PutL t q i keys kp vp kc vc _ ht1 ht2 hi (own_sl hK) (own_sl hV)) ?_
   rintro e W20 hq20
   rcases hq20 with ⟨h0, rfl, hb20⟩ | ⟨h0, p6, c6, rfl, hb20, h6⟩
   · have k3_b1'5 := k3_b1.below hb20
     refine xb 18 2 k3_b1'5 ?_
     refine xgk 3 [67, 68] (show (((↑i : Int) == (0 : Int)) : Bool) = true from by rw [h0]; rfl) ?_
     refine xr 0 (args := #[]) (lives14 _) fun W22 hb22 => ?_
     have hB'12 := Bl.next (Bl.next hB_3 hb20) hb22
     exact xe 6 (.bool true) ⟨rfl, hB'12⟩
   refine xmk 19 fun _ _ _ _ zJ zQ zo zx zy zK => op_make 2304 (.int .u8 0) 1 1 ((List.replicate 2304 (0 : UInt8)).map bv) zo zx zy Tryz.underlying22 (by kernel_rfl) rfl (by omega) (by omega) (zerosB 2304) fun b23 W23 n23 => ?_
   have hB'13 := Bl.next hB_3 hb20
   have g23 := n23.ge hB'13
   have h6'1 := own_mono h6 hB_3.size
   have r23_h6 := own_ne h6'1 n23
   refine zK _ _ ?_
   have hB'14 := Bl.next hB'13 n23.below
   have hs8 : w.heap.size ≤ (W23).heap.size := hB'14.size
   have o23 := own_of_blk (size := 1) (n := 2304) n23.blk g23 (by rw [List.length_map, List.length_replicate]) (by unfold maxLen; omega)
   refine xc 0 (args := #[.slice (some ⟨b23, 0, none⟩) 2304 2304]) (image_OfR (some ⟨b23, 0, none⟩) 2304 2304 2304 (List.replicate 2304 (0 : UInt8)) _ List.length_replicate (by decide) (bys_of (own_sl o23) List.length_replicate) (by decide) (by decide)) ?_
   rintro _ W24 ⟨_, rfl, hb24, bi, pi, ci, rfl, _, hI⟩
   replace hI := hI.mono hs8
   rw [List.take_of_length_le (by simp)] at hI
   have h6'2 := own_below (own_below h6'1 n23.below) hb24
   have hB'15 := Bl.next hB'14 hb24
   refine xc 9 (args := #[.pointer (some ⟨bi, 0, none⟩), .int .i64 (↑q : Int), .int .i64 2, .slice p6 244 c6]) (block_WriteR w.heap.size bi pi 2304 ci q (↑q : Int) (List.replicate 2304 (0 : UInt8)) 2 p6 c6 244 (nodeP 18 4 (headB t false i 18 4) (lkL keys i) (lvL q i) i) _ rfl (nod_back (lok ht1 ht2 hi h0)).len hI (by omega) (by decide) (by decide) (bys_of (own_sl h6'2) (nod_back (lok ht1 ht2 hi h0)).len) (by decide) hB'15.size) ?_
   rintro _ W25 ⟨rfl, hb25, hO25, hI⟩
   change ImgR _ _ _ _ _ (lim t q i keys) _ at hI
   have hB'16 := hB'15.trans hb25
   have hs26 : w.heap.size ≤ (W25).heap.size := hB'16.size
   refine xc 11 (args := #[.pointer (some ⟨bi, 0, none⟩), .int .i64 (↑q : Int), .int .i64 t, .int .i64 100]) (walk_ScanL w.heap.size bi pi 2304 ci t q i keys _ ht1 ht2 hi h0 (by omega) (by omega) hI) ?_
   rintro _ W26 ⟨pe, pb, pf, ce, cb, cf, fv, rfl, hb26, hFl, hFv⟩
   replace hFl := own_mono hFl hB'16.size
   refine xa 0 [.slice none 0 0, .slice none 0 0, .int .i64 0, .int .i64 0, .slice none 0 0] 29 fun b27 W27 n27 => ?_
   have hB'17 := Bl.next hB'16 hb26
   have g27 := n27.ge hB'17
   refine xsv 0 n27.blk [.slice pe 0 ce, .slice pb 1 cb, .int .i64 0, .int .i64 (↑(1 + i) : Int), .slice pf i cf] fun W28 u28 k28 => ?_
   refine xb 6 4 k28 ?_
   have k3_b1'6 := u28.blkT ((((((k3_b1.below hb20).below n23.below).below hb24).only hO25 (by decide)).below hb26).below n27.below) n27.blk (by decide)
   refine xb 2 2 k3_b1'6 ?_
   refine xgk 3 [88, 89] (show (((↑i : Int) != (↑i : Int)) : Bool) = false from by simp) ?_
   refine xb 1 3 k28 ?_
   refine xb 1 2 k3_b1'6 ?_
   refine xwm 1 (1 + (↑i : Int)) (↑(1 + i) : Int) ?_
   refine xgk 3 [96, 97, 98] (show (((↑(1 + i) : Int) != (↑(1 + i) : Int)) : Bool) = false from by simp) ?_
   refine xb 1 1 k28 ?_
   refine xb 5 2 k28 ?_
   have hFl'1 := u28.own2 (own_below hFl n27.below) n27.blk (by decide)
   have hFv'1 := (hFv.below n27.below).only (Only.of_upd (T := [29]) u28 n27.blk (by decide)) (by decide)
   have hB'18 := u28.below (Bl.next hB'17 n27.below) g27
   refine zl 14 149 (fun zm zkv V => ∃ (j : Nat), zkv = [(0, .int .i64 (↑q : Int)), (12, .pointer (some ⟨b27, 0, none⟩)), (13, .int .i64 (↑j : Int))] ∧ zm = i - ((↑j : Int)).toNat ∧ Below w.heap.size w V ∧ Blk V b1 ([.int .i64 t, .bool false, .slice kp i kc, .slice vp i vc]) 42 ∧ Blk V b27 ([.slice pe 0 ce, .slice pb 1 cb, .int .i64 0, .int .i64 (↑(1 + i) : Int), .slice pf i cf]) 29 ∧ V.ownsRow w.heap.size 47 1 (.slice pf i cf) i fv ∧ FltsW V (List.replicate i ([(q : Int), (q : Int)], 11)) fv ∧ j ≤ i) ⟨0, rfl, rfl, hB'18, k3_b1'6, k28, hFl'1, hFv'1, Nat.zero_le _⟩ ?_
   rintro _ _ W31 ⟨j, rfl, rfl, hB_31, k31_b1, k31_b27, hFl, hFv, hj⟩ J31 hJ31 r31
   refine xb 5 4 k31_b27 ?_
   refine xid 4 ((↑j : Int) < (↑i : Int)) (fun hc32 => ?_) (fun hc32 => ?_)
   · obtain ⟨ty5, x5, hx5, hE5⟩ := hFv.rep (j := j) (by omega)
     refine xb 7 4 k31_b27 ?_
     refine xx 1 _ i j 1 (Sl.elem1 (own_sl hFl) hx5).1 ?_
     refine xl 0 ((Sl.elem1 (own_sl hFl) hx5).2) ?_
     refine xc 0 (args := #[.iface ty5 (x5)]) (fault_Blocks2 (↑q : Int) 11 _ _ hE5) ?_
     rintro _ W33 ⟨_, rfl, hb33, p9_, c9_, rfl, hq9⟩
     have k31_b27'1 := k31_b27.below hb33
     refine xb 6 4 k31_b27'1 ?_
     have hFl'2 := own_below hFl hb33
     refine xx 1 _ i j 1 (Sl.elem1 (own_sl hFl'2) hx5).1 ?_
     refine xl 0 ((Sl.elem1 (own_sl hFl'2) hx5).2) ?_
     have hB'19 := Bl.next hB_31 hb33
     have hE5'1 := hE5.below hb33
     refine xr 0 (args := #[.iface ty5 (x5)]) (fault_Code11 (↑q : Int) _ _ (hg.below hB'19) hE5'1) fun W34 hb34 => ?_
     have hq9'1 := own_below (own_mono hq9 hB_31.size) hb34
     refine xx 8 _ 2 0 1 (Ints.elem (l := [(q : Int), (q : Int)]) (own_sl hq9'1) (k := 0) (by simp)).1 ?_
     refine xl 0 ((Ints.elem (l := [(q : Int), (q : Int)]) (own_sl hq9'1) (k := 0) (by simp)).2) ?_
     refine xgk 4 [139, 140, 141] (show (((↑q : Int) != (↑q : Int)) : Bool) = false from by simp) ?_
     refine xx 1 _ 2 1 1 (Ints.elem (l := [(q : Int), (q : Int)]) (own_sl hq9'1) (k := 1) (by simp)).1 ?_
     refine xl 0 ((Ints.elem (l := [(q : Int), (q : Int)]) (own_sl hq9'1) (k := 1) (by simp)).2) ?_
     refine xk 5 (show (((↑q : Int) != (↑q : Int)) : Bool) = false from by simp) ?_
     refine xwm 5 ((↑j : Int) + 1) (↑(j + 1) : Int) ?_
     have hB'20 := Bl.next hB'19 hb34
     have k31_b1'1 := (k31_b1.below hb33).below hb34
     have k31_b27'2 := k31_b27'1.below hb34
     have hFl'3 := own_below hFl'2 hb34
     have hFv'2 := (hFv.below hb33).below hb34
     exact ze 2 (hJ31 _ _ _ ⟨j + 1, rfl, rfl, hB'20, k31_b1'1, k31_b27'2, hFl'3, hFv'2, by omega⟩ (by omega))
   refine xr 7 (args := #[]) (lives14 _) fun W36 hb36 => ?_
   have hB'21 := Bl.next hB_31 hb36
   exact xe 4 (.bool true) ⟨rfl, hB'21⟩
 have hc4 := of_decide_eq_false hc4
 refine xlv 13 k3_b1.rp ?_
 refine xc 0 (args := #[.agg #[.int .i64 t, .bool false, .slice kp i kc, .slice vp i vc]]) (node_PutL t q i keys kp vp kc vc _ ht1 ht2 hi (own_sl hK) (own_sl hV)) ?_
 rintro e W37 hq37
 rcases hq37 with ⟨h0, rfl, hb37⟩ | ⟨h0, p6, c6, rfl, hb37, h6⟩
 · have k3_b1'7 := k3_b1.below hb37
   refine xb 18 2 k3_b1'7 ?_
   refine xgk 3 [67, 68] (show (((↑i : Int) == (0 : Int)) : Bool) = true from by rw [h0]; rfl) ?_
   refine xr 0 (args := #[]) (lives14 _) fun W39 hb39 => ?_
   have hB'22 := Bl.next (Bl.next hB_3 hb37) hb39
   exact xe 6 (.bool true) ⟨rfl, hB'22⟩
 refine xmk 19 fun _ _ _ _ zJ zQ zo zx zy zK => op_make 2304 (.int .u8 0) 1 1 ((List.replicate 2304 (0 : UInt8)).map bv) zo zx zy Tryz.underlying22 (by kernel_rfl) rfl (by omega) (by omega) (zerosB 2304) fun b40 W40 n40 => ?_
 have hB'23 := Bl.next hB_3 hb37
 have g40 := n40.ge hB'23
 have h6'3 := own_mono h6 hB_3.size
 have r40_h6 := own_ne h6'3 n40
 refine zK _ _ ?_
 have hB'24 := Bl.next hB'23 n40.below
 have hs8 : w.heap.size ≤ (W40).heap.size := hB'24.size
 have o40 := own_of_blk (size := 1) (n := 2304) n40.blk g40 (by rw [List.length_map, List.length_replicate]) (by unfold maxLen; omega)
 refine xc 0 (args := #[.slice (some ⟨b40, 0, none⟩) 2304 2304]) (image_OfR (some ⟨b40, 0, none⟩) 2304 2304 2304 (List.replicate 2304 (0 : UInt8)) _ List.length_replicate (by decide) (bys_of (own_sl o40) List.length_replicate) (by decide) (by decide)) ?_
 rintro _ W41 ⟨_, rfl, hb41, bi, pi, ci, rfl, _, hI⟩
 replace hI := hI.mono hs8
 rw [List.take_of_length_le (by simp)] at hI
 have h6'4 := own_below (own_below h6'3 n40.below) hb41
 have hB'25 := Bl.next hB'24 hb41
 refine xc 9 (args := #[.pointer (some ⟨bi, 0, none⟩), .int .i64 (↑q : Int), .int .i64 2, .slice p6 244 c6]) (block_WriteR w.heap.size bi pi 2304 ci q (↑q : Int) (List.replicate 2304 (0 : UInt8)) 2 p6 c6 244 (nodeP 18 4 (headB t false i 18 4) (lkL keys i) (lvL q i) i) _ rfl (nod_back (lok ht1 ht2 hi h0)).len hI (by omega) (by decide) (by decide) (bys_of (own_sl h6'4) (nod_back (lok ht1 ht2 hi h0)).len) (by decide) hB'25.size) ?_
 rintro _ W42 ⟨rfl, hb42, hO42, hI⟩
 change ImgR _ _ _ _ _ (lim t q i keys) _ at hI
 have hB'26 := hB'25.trans hb42
 have hs43 : w.heap.size ≤ (W42).heap.size := hB'26.size
 refine xc 11 (args := #[.pointer (some ⟨bi, 0, none⟩), .int .i64 (↑q : Int), .int .i64 t, .int .i64 100]) (walk_ScanL w.heap.size bi pi 2304 ci t q i keys _ ht1 ht2 hi h0 (by omega) (by omega) hI) ?_
 rintro _ W43 ⟨pe, pb, pf, ce, cb, cf, fv, rfl, hb43, hFl, hFv⟩
 replace hFl := own_mono hFl hB'26.size
 refine xa 0 [.slice none 0 0, .slice none 0 0, .int .i64 0, .int .i64 0, .slice none 0 0] 29 fun b44 W44 n44 => ?_
 have hB'27 := Bl.next hB'26 hb43
 have g44 := n44.ge hB'27
 refine xsv 0 n44.blk [.slice pe 0 ce, .slice pb 1 cb, .int .i64 0, .int .i64 (↑(1 + i) : Int), .slice pf i cf] fun W45 u45 k45 => ?_
 refine xb 6 4 k45 ?_
 have k3_b1'8 := u45.blkT ((((((k3_b1.below hb37).below n40.below).below hb41).only hO42 (by decide)).below hb43).below n44.below) n44.blk (by decide)
 refine xb 2 2 k3_b1'8 ?_
 refine xgk 3 [88, 89] (show (((↑i : Int) != (↑i : Int)) : Bool) = false from by simp) ?_
 refine xb 1 3 k45 ?_
 refine xb 1 2 k3_b1'8 ?_
 refine xwm 1 (1 + (↑i : Int)) (↑(1 + i) : Int) ?_
 refine xgk 3 [96, 97, 98] (show (((↑(1 + i) : Int) != (↑(1 + i) : Int)) : Bool) = false from by simp) ?_
 refine xb 1 1 k45 ?_
 refine xb 5 2 k45 ?_
 have hFl'4 := u45.own2 (own_below hFl n44.below) n44.blk (by decide)
 have hFv'3 := (hFv.below n44.below).only (Only.of_upd (T := [29]) u45 n44.blk (by decide)) (by decide)
 have hB'28 := u45.below (Bl.next hB'27 n44.below) g44
 refine zl 14 149 (fun zm zkv V => ∃ (j : Nat), zkv = [(0, .int .i64 (↑q : Int)), (12, .pointer (some ⟨b44, 0, none⟩)), (13, .int .i64 (↑j : Int))] ∧ zm = i - ((↑j : Int)).toNat ∧ Below w.heap.size w V ∧ Blk V b1 ([.int .i64 t, .bool false, .slice kp i kc, .slice vp i vc]) 42 ∧ Blk V b44 ([.slice pe 0 ce, .slice pb 1 cb, .int .i64 0, .int .i64 (↑(1 + i) : Int), .slice pf i cf]) 29 ∧ V.ownsRow w.heap.size 47 1 (.slice pf i cf) i fv ∧ FltsW V (List.replicate i ([(q : Int), (q : Int)], 11)) fv ∧ j ≤ i) ⟨0, rfl, rfl, hB'28, k3_b1'8, k45, hFl'4, hFv'3, Nat.zero_le _⟩ ?_
 rintro _ _ W48 ⟨j, rfl, rfl, hB_48, k48_b1, k48_b44, hFl, hFv, hj⟩ J48 hJ48 r48
 refine xb 5 4 k48_b44 ?_
 refine xid 4 ((↑j : Int) < (↑i : Int)) (fun hc49 => ?_) (fun hc49 => ?_)
 · obtain ⟨ty5, x5, hx5, hE5⟩ := hFv.rep (j := j) (by omega)
   refine xb 7 4 k48_b44 ?_
   refine xx 1 _ i j 1 (Sl.elem1 (own_sl hFl) hx5).1 ?_
   refine xl 0 ((Sl.elem1 (own_sl hFl) hx5).2) ?_
   refine xc 0 (args := #[.iface ty5 (x5)]) (fault_Blocks2 (↑q : Int) 11 _ _ hE5) ?_
   rintro _ W50 ⟨_, rfl, hb50, p9_, c9_, rfl, hq9⟩
   have k48_b44'1 := k48_b44.below hb50
   refine xb 6 4 k48_b44'1 ?_
   have hFl'5 := own_below hFl hb50
   refine xx 1 _ i j 1 (Sl.elem1 (own_sl hFl'5) hx5).1 ?_
   refine xl 0 ((Sl.elem1 (own_sl hFl'5) hx5).2) ?_
   have hB'29 := Bl.next hB_48 hb50
   have hE5'2 := hE5.below hb50
   refine xr 0 (args := #[.iface ty5 (x5)]) (fault_Code11 (↑q : Int) _ _ (hg.below hB'29) hE5'2) fun W51 hb51 => ?_
   have hq9'2 := own_below (own_mono hq9 hB_48.size) hb51
   refine xx 8 _ 2 0 1 (Ints.elem (l := [(q : Int), (q : Int)]) (own_sl hq9'2) (k := 0) (by simp)).1 ?_
   refine xl 0 ((Ints.elem (l := [(q : Int), (q : Int)]) (own_sl hq9'2) (k := 0) (by simp)).2) ?_
   refine xgk 4 [139, 140, 141] (show (((↑q : Int) != (↑q : Int)) : Bool) = false from by simp) ?_
   refine xx 1 _ 2 1 1 (Ints.elem (l := [(q : Int), (q : Int)]) (own_sl hq9'2) (k := 1) (by simp)).1 ?_
   refine xl 0 ((Ints.elem (l := [(q : Int), (q : Int)]) (own_sl hq9'2) (k := 1) (by simp)).2) ?_
   refine xk 5 (show (((↑q : Int) != (↑q : Int)) : Bool) = false from by simp) ?_
   refine xwm 5 ((↑j : Int) + 1) (↑(j + 1) : Int) ?_
   have hB'30 := Bl.next hB'29 hb51
   have k48_b1'1 := (k48_b1.below hb50).below hb51
   have k48_b44'2 := k48_b44'1.below hb51
   have hFl'6 := own_below hFl'5 hb51
   have hFv'4 := (hFv.below hb50).below hb51
   exact ze 2 (hJ48 _ _ _ ⟨j + 1, rfl, rfl, hB'30, k48_b1'1, k48_b44'2, hFl'6, hFv'4, by omega⟩ (by omega))
 refine xr 7 (args := #[]) (lives14 _) fun W53 hb53 => ?_
 have hB'31 := Bl.next hB_48 hb53
 exact xe 4 (.bool true) ⟨rfl, hB'31⟩
end Go.Proofs.YtolblnjohaooaaaGreatDoor
namespace Go.Proofs.YtolblnjohaooaaaGreatDoor
open Go.ChangeShapes Go.WideShapes Go.ChangeAt Go.RowKit Go.Joins
set_option linter.unusedVariables false
theorem bytes_open {H : Type} {enc : TypeId × Value → H} {P : Program} {W : World} {r : Reach} {b0 : Nat} {t e : TypeId} {v : Value} {d : DataW H} {p : List MemPlace} (ht : P.underlying t = some (.slice e)) (he : P.underlying e = some (.int .u8)) (hC : P.cellsOf e = 1)
    (hv : Value.okWide P W r b0 t v) (h : DataW.Trod enc P W 0 (fun _ => true) true t v d p) : ∃ l, Bys W v l := by
  obtain ⟨a, len, cap, rfl⟩ := okWide_slice ht hv
  obtain ⟨fuel, hf⟩ := h
  rcases open_ints ht he hC hf with ⟨hcs, _⟩ | ⟨x, l, c, zs, hcs, _, hl, hm, hz, _, hcell, hwz⟩
  · simp [Value.cells] at hcs
    obtain ⟨rfl, rfl, rfl⟩ := hcs
    exact ⟨[], .inl ⟨_, _, rfl, rfl, rfl⟩⟩
  · simp [Value.cells] at hcs
    obtain ⟨rfl, rfl, rfl⟩ := hcs
    have hz' : zs.length = cap := by simpa using hz
    by_cases h0 : len = 0
    · subst h0
      exact ⟨[], .inl ⟨_, _, rfl, rfl, rfl⟩⟩
    · obtain ⟨b, off, spot⟩ := x
      have hc := hcell 0 (by omega)
      have hspot : spot = none := by simpa [Addr.add] using World.cell?_spot hc
      subst hspot
      have hlen : ((zs.take len).map fun n => UInt8.ofNat n.toNat).length = len := by simp; omega
      refine ⟨(zs.take len).map fun n => UInt8.ofNat n.toNat, .inr ⟨b, off, cap, by rw [hlen], by omega, hm, fun j x hj => ?_⟩⟩
      have hjl : j < len := by have := (List.getElem?_eq_some_iff.1 hj).1; simp at this; omega
      have e1 : zs[j]? = some zs[j] := List.getElem?_eq_getElem (by omega)
      have hw := hwz zs[j] (List.getElem_mem _)
      have hcj := hcell j (by omega)
      have e2 : zs.getD j 0 = zs[j] := by simp [List.getD, e1]
      rw [e2] at hcj
      have hx : x = .int .u8 zs[j] := by
        rw [List.getElem?_map, List.getElem?_map, List.getElem?_take_of_lt hjl, e1] at hj
        simp only [Option.map_some, Option.some.injEq] at hj
        rw [← hj]
        have hb : 0 ≤ zs[j] ∧ zs[j] ≤ 255 := by simpa [Lit.wf, IntKind.min, IntKind.max, IntKind.signed, IntKind.bits] using hw
        have h3 : (zs[j].toNat % 256 : Nat) = zs[j].toNat := Nat.mod_eq_of_lt (by omega)
        simp only [bv, UInt8.toNat_ofNat']
        rw [show (2 ^ 8 : Nat) = 256 from rfl, h3, Int.toNat_of_nonneg hb.1]
      subst hx
      by_cases hj0 : j = 0
      · subst hj0; simpa [Addr.add] using hcj
      · simpa [Addr.add, hj0] using hcj
end Go.Proofs.YtolblnjohaooaaaGreatDoor
