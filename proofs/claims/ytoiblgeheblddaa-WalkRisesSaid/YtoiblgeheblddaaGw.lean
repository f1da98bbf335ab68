/- Rules by which a walk that is printed by a program (wip/tools/gw.py) steps through code, operation by operation: pure operations in one go by the kernel, memory and calls one by one; in a region that draws its order, those that only compute are taken first. No program is named here. -/
import Derived.Test.YtoiblgeheblddaaApp
import Derived.Deep.MidRow
import Derived.Deep.RegionHeld
import Derived.IntWalk
import Derived.LoopN
namespace Go.Proofs.Ytoiblgeheblddaa
open Go.RowKit
set_option linter.unusedVariables false

/-! ### operations that only compute -/
def pureVal (P : Program) {α : Type} : Sem α → Option α
  | .pure a => some a
  | .program k => pureVal P (k P)
  | _ => none
theorem pureVal_run {P : Program} {α : Type} : ∀ {s : Sem α} {a : α}, pureVal P s = some a → ∀ w, s.run P w = .ok a w
  | .pure a, b, h, w => by simp only [pureVal, Option.some.injEq] at h; subst h; rfl
  | .program k, b, h, w => by simp only [pureVal] at h; exact pureVal_run (s := k P) h w
def pureStep (P : Program) (ops : Array Oper) (a : Act) (o : Oper) : Option Act :=
  match Region.wanted o (yielded ops a.tmps) with
  | true => match pureVal P (execOp a.eval o) with
    | some (.value v) => some (a.put o.dst v)
    | _ => none
  | false => some (a.put o.dst undef)
theorem pureStep_yields {P : Program} {ops : Array Oper} {a a' : Act} {o : Oper} (h : pureStep P ops a o = some a') : ∃ v, a' = a.put o.dst v ∧ ∀ S : World → Prop, YieldsIf P ops S o v a := by
  unfold pureStep at h
  split at h
  · rename_i hw
    split at h
    · rename_i v hv
      simp only [Option.some.injEq] at h
      exact ⟨v, h.symm, fun S => .inl ⟨hw, fun w _ => pureVal_run hv w⟩⟩
    · cases h
  · rename_i hw
    simp only [Option.some.injEq] at h
    exact ⟨undef, h.symm, fun S => .inr ⟨hw, rfl⟩⟩
def pureGo (P : Program) (ops : Array Oper) : List Oper → Act → Option Act
  | [], a => some a
  | o :: r, a => match pureStep P ops a o with
    | some a' => pureGo P ops r a'
    | none => none

section
variable {P : Program} {ops : Array Oper} {Q : Exit → Act → World → Prop} {a a' : Act} {w : World} {K : Act → World → Prop}

theorem wpList_of_yields {o : Oper} {rest : List Oper} {v : Value} (hy : YieldsIf P ops (fun _ => True) o v a) (k : wpList P ops Q rest (a.put o.dst v) w) : wpList P ops Q (o :: rest) a w := by
  unfold wpList
  rcases hy with ⟨hw, hv⟩ | ⟨hw, rfl⟩
  · simp only [hw, if_true]; exact .inl (by simp only [Oper.wp, hv w trivial, Oper.upon]; exact k)
  · simp only [hw, Bool.false_eq_true, if_false]; exact k
theorem pureGo_sound : ∀ (l : List Oper) {rest : List Oper} {a a' : Act}, pureGo P ops l a = some a' → wpList P ops Q rest a' w → wpList P ops Q (l ++ rest) a w
  | [], _, _, _, h, k => by simp only [pureGo, Option.some.injEq] at h; subst h; exact k
  | o :: r, rest, a, a', h, k => by
    simp only [pureGo] at h
    split at h
    · rename_i a1 h1
      obtain ⟨v, rfl, hy⟩ := pureStep_yields h1
      exact wpList_of_yields (hy _) (pureGo_sound r h k)
    · cases h
/-- n operations that only compute -/
theorem g_pure {l : List Oper} (n : Nat) (a' : Act) (h : pureGo P ops (l.take n) a = some a') (k : wpList P ops Q (l.drop n) a' w) : wpList P ops Q l a w := by
  have := pureGo_sound (P := P) (ops := ops) (Q := Q) (w := w) (l.take n) h k
  rwa [List.take_append_drop] at this
/-- one operation, whatever it does -/
theorem g_op {o : Oper} {rest : List Oper} (hw : Region.wanted o (yielded ops a.tmps) = true) (h : o.wp P a w (wpList P ops Q rest) Q) : wpList P ops Q (o :: rest) a w := by
  unfold wpList; simp only [hw, if_true]; exact .inl h
theorem g_fr {c : Code} (a' : Act) (h : a = a') (k : c.wp P Q a' w) : c.wp P Q a w := h ▸ k
theorem g_lfr {l : List Oper} (a' : Act) (h : a = a') (k : wpList P ops Q l a' w) : wpList P ops Q l a w := h ▸ k
theorem g_nfr (a' : Act) (h : a = a') (k : Q .normal a' w) : Q .normal a w := h ▸ k

/-! ### one operation -/
theorem op_val {o : Oper} {v : Value} {w' : World} (hv : (execOp a.eval o).run P w = .ok (.value v) w') (k : K (a.put o.dst v) w') : o.wp P a w K Q := by
  simp only [Oper.wp, hv, Oper.upon]; exact k
theorem op_pure {o : Oper} (v : Value) (hv : pureVal P (execOp a.eval o) = some (.value v)) (k : K (a.put o.dst v) w) : o.wp P a w K Q := op_val (pureVal_run hv w) k
def aggB (P : Program) (t : TypeId) : Option Bool := (P.underlying t).map fun d => match d with | .struct _ | .array _ _ => true | _ => false
theorem run_isAgg {t : TypeId} {b : Bool} (h : aggB P t = some b) (w : World) : (isAgg t).run P w = .ok b w := by
  unfold aggB at h
  cases hu : P.underlying t with
  | none => rw [hu] at h; cases h
  | some d =>
    rw [hu] at h
    unfold isAgg
    rw [Sem.run_bind, run_underlying hu w]
    cases d <;> simp_all
theorem run_load1 {t : TypeId} {p : Addr} {v : Value} (hag : aggB P t = some false) (hc : w.cell? p = some v) : (Instr.loadAt t (.pointer (some p))).run P w = .ok v w := by
  simp [Instr.loadAt, Instr.sureAddr, loadVar, Sem.run_bind, run_isAgg hag w, load, Sem.run, hc]
theorem op_load {o : Oper} {t : TypeId} {x : Operand} (p : Addr) (v : Value) (ho : o.op = .load t x) (hx : a.eval x = .pointer (some p)) (hag : aggB P t = some false) (hc : w.cell? p = some v)
    (k : K (a.put o.dst v) w) : o.wp P a w K Q :=
  op_val (by simp only [execOp, ho, hx, Sem.run_bind, run_load1 hag hc]; rfl) k
/-- part of a block, as a struct or an array -/
theorem Blk.part {b : Nat} {cs : List Value} {t : TypeId} (h : Blk w b cs t) (off n : Nat) (hn : off + n ≤ cs.length) : w.rangeAt b off ((cs.drop off).take n) := fun j v hj => h.cell (by
  have hjn : j < n := by have := (List.getElem?_eq_some_iff.1 hj).1; simp at this; omega
  rw [List.getElem?_take_of_lt hjn, List.getElem?_drop] at hj; exact hj)
theorem Blk.whole {w : World} {b : Nat} {cs : List Value} {t : TypeId} (h : Blk w b cs t) : w.rangeAt b 0 cs := fun j v hj => by rw [Nat.zero_add]; exact h.cell hj
theorem op_loadv {o : Oper} {t : TypeId} {x : Operand} {b off : Nat} (cs : List Value) (d : TypeDesc) (ho : o.op = .load t x) (hx : a.eval x = .pointer (some ⟨b, off, none⟩)) (hu : P.underlying t = some d) (hd : d.isRow = true)
    (hi : (P.info? t).map (·.size) = some cs.length) (hc : w.rangeAt b off cs) (k : K (a.put o.dst (.agg cs.toArray)) w) : o.wp P a w K Q := wp_load_mid t x ho b off hx cs d hc hu hd hi k

/-! ### what became of the memory -/
/-- a new block -/
structure New (w : World) (b : Nat) (cs : List Value) (t : TypeId) (W : World) : Prop where
  at_ : b = w.heap.size
  below : Below w.heap.size w W
  blk : Blk W b cs t
  size : W.heap.size = w.heap.size + 1
theorem New.mk' (w : World) (cs : List Value) (t : TypeId) : New w w.heap.size cs t (w.alloc (.cells cs.toArray t)) := ⟨rfl, Bl.box _ _, Blk.new _ _ _, by simp⟩
theorem New.ne {b b' : Nat} {cs cs' : List Value} {t t' : TypeId} {w W : World} (h : New w b cs t W) (k : Blk w b' cs' t') : b' ≠ b := by have := k.lt; have := h.at_; omega
theorem New.ge {b : Nat} {cs : List Value} {t : TypeId} {w W A : World} (h : New w b cs t W) (k : Below A.heap.size A w) : A.heap.size ≤ b := by have := k.size; have := h.at_; omega
theorem New.lt {b : Nat} {cs : List Value} {t : TypeId} {W : World} (h : New w b cs t W) : b < W.heap.size := h.blk.lt
/-- one block was written, nothing else was touched -/
structure Upd (w : World) (b : Nat) (W : World) : Prop where
  os : W.os = w.os
  tape : W.tape = w.tape
  output : W.output = w.output
  size : W.heap.size = w.heap.size
  block : ∀ k, k ≠ b → W.heap[k]? = w.heap[k]?
theorem Upd.setCell (w : World) (b i : Nat) (v : Value) : Upd w b (w.setCell ⟨b, i, none⟩ v) := ⟨rfl, rfl, rfl, by simp [World.setCell], fun k hk => Below.heap_setCell w _ v k hk⟩
theorem Upd.trans {w1 w2 : World} {b : Nat} (h : Upd w b w1) (k : Upd w1 b w2) : Upd w b w2 :=
  ⟨k.os.trans h.os, k.tape.trans h.tape, k.output.trans h.output, k.size.trans h.size, fun i hi => (k.block i hi).trans (h.block i hi)⟩
theorem Upd.below {A W : World} {b B : Nat} (h : Upd w b W) (hB : Below B A w) (hb : B ≤ b) : Below B A W :=
  hB.trans ⟨h.os, h.tape, h.output, Nat.le_of_eq h.size.symm, fun k hk => h.block k (by omega)⟩
theorem Upd.blk {W : World} {b b' : Nat} {cs : List Value} {t : TypeId} (h : Upd w b W) (k : Blk w b' cs t) (hne : b' ≠ b) : Blk W b' cs t := (h.block b' hne).trans k
theorem Upd.own {W : World} {b base : Nat} {e : TypeId} {size : Nat} {v : Value} {n : Nat} {xs : List Value} (h : Upd w b W) (k : w.ownsRow base e size v n xs) (hb : b < base) : W.ownsRow base e size v n xs := by
  obtain ⟨h1, h2⟩ := k
  refine ⟨h1, ?_⟩
  rcases h2 with h2 | ⟨g, cap, cur, hv, hg, hh, r⟩
  · exact Or.inl h2
  · exact Or.inr ⟨g, cap, cur, hv, hg, by rw [h.block g (by omega)]; exact hh, r⟩

theorem op_store {o : Oper} {t : TypeId} {x y : Operand} {b off : Nat} {cs : List Value} {tb : TypeId} {v : Value} (ho : o.op = .store t x y) (hx : a.eval x = .pointer (some ⟨b, off, none⟩)) (hy : a.eval y = v)
    (hi : (P.info? t).map (·.size) = some 1) (h1 : v.oneCell' = true) (hk : Blk w b cs tb) (hoff : off < cs.length)
    (k : ∀ W, Upd w b W → Blk W b (cs.set off v) tb → K (a.put o.dst undef) W) : o.wp P a w K Q := by
  have hc := hk.cell (List.getElem?_eq_getElem hoff)
  have hf := hk.frozen off
  have hrun : (Instr.storeAt t (.pointer (some ⟨b, off, none⟩)) v).run P w = .ok () (w.setCell ⟨b, off, none⟩ v) := by
    cases hq : P.info? t with
    | none => simp [hq] at hi
    | some i =>
      have hs : i.size = 1 := by simpa [hq] using hi
      cases v <;> simp_all [Instr.storeAt, Instr.sureAddr, storeVar, Sem.run_bind, sizeOf, typeInfo, Value.cells, storeCells, store, Sem.run, Value.oneCell', Addr.add]
  have h2 : (execOp a.eval o).run P w = .ok .skip (w.setCell ⟨b, off, none⟩ v) := by
    simp only [execOp, ho, hx, hy, Sem.run_bind, hrun]; rfl
  simp only [Oper.wp, h2, Oper.upon]
  exact k _ (Upd.setCell _ _ _ _) (hk.set off v)
theorem Blk.setCells {b : Nat} {cs : List Value} {t : TypeId} : ∀ (vs : List Value) (o : Nat) {w : World} {cs : List Value}, Blk w b cs t → o + vs.length ≤ cs.length → Blk (w.setCells b o vs) b (cs.take o ++ vs ++ cs.drop (o + vs.length)) t ∧ Upd w b (w.setCells b o vs)
  | [], o, w, cs, h, hl => by
    refine ⟨?_, rfl, rfl, rfl, rfl, fun _ _ => rfl⟩
    simp only [World.setCells]
    simpa using h
  | v :: r, o, w, cs, h, hl => by
    rw [World.setCells]
    have hset := h.set o v
    obtain ⟨h1, h2⟩ := Blk.setCells (cs := cs) r (o + 1) hset (by simp at hl ⊢; omega)
    refine ⟨?_, (Upd.setCell _ _ _ _).trans h2⟩
    have e : (cs.set o v).take (o + 1) ++ r ++ (cs.set o v).drop (o + 1 + r.length) = cs.take o ++ (v :: r) ++ cs.drop (o + (v :: r).length) := by
      have ho : o < cs.length := by simp at hl; omega
      have h1 : (cs.take o).length = o := by simp; omega
      have h2 : cs.set o v = (cs.take o ++ [v]) ++ cs.drop (o + 1) := by rw [List.set_eq_take_append_cons_drop, if_pos ho]; simp
      have h3 : (cs.take o ++ [v]).length = o + 1 := by simp; omega
      rw [h2, List.take_left' h3, ← List.drop_drop, List.drop_left' h3, List.drop_drop]
      simp [Nat.add_comm, Nat.add_left_comm]
    rwa [e] at h1
theorem op_storev {o : Oper} {t : TypeId} {x y : Operand} {b off : Nat} {cs : List Value} {tb : TypeId} (vs : List Value) (ho : o.op = .store t x y) (hx : a.eval x = .pointer (some ⟨b, off, none⟩)) (hy : a.eval y = .agg vs.toArray)
    (hi : (P.info? t).map (·.size) = some vs.length) (h1 : ∀ v ∈ vs, v.oneCell' = true) (hk : Blk w b cs tb) (hoff : off + vs.length ≤ cs.length)
    (k : ∀ W, Upd w b W → Blk W b (cs.take off ++ vs ++ cs.drop (off + vs.length)) tb → K (a.put o.dst undef) W) : o.wp P a w K Q :=
  wp_store_mid t x y ho b off vs.toArray hx hy (fun j hj => ⟨by rw [hk.cell (List.getElem?_eq_getElem (by simp at hj; omega))]; rfl, hk.frozen _⟩) (by simpa using hi) (all_oneCell_toArray h1)
    (k _ (Blk.setCells (cs := cs) vs off hk hoff).2 (Blk.setCells (cs := cs) vs off hk hoff).1)
def zeroOf (P : Program) (t : TypeId) : Option (List Value) := ((P.info? t).bind (·.zero)).map fun v => v.cells.toList
theorem op_alloc {o : Oper} {t : TypeId} (cs : List Value) (ho : o.op = .alloc t) (hz : zeroOf P t = some cs) (k : ∀ b W, New w b cs t W → K (a.put o.dst (.pointer (some ⟨b, 0, none⟩))) W) : o.wp P a w K Q := by
  unfold zeroOf at hz
  cases hi : P.info? t with
  | none => simp [hi] at hz
  | some i =>
    cases hq : i.zero with
    | none => simp [hi, hq] at hz
    | some v =>
      simp only [hi, hq, Option.bind_some, Option.map_some, Option.some.injEq] at hz
      have hv : v.cells = cs.toArray := by rw [← hz]
      exact op_val (w' := w.alloc (.cells cs.toArray t)) (by simp [execOp, ho, Instr.alloc, Sem.run_bind, zeroValue, typeInfo, program, hi, hq, newVar, newRow, newObj, Sem.run, hv]) (k _ _ (New.mk' w cs t))
theorem op_box {o : Oper} {t : TypeId} {x : Operand} (cs : List Value) (ho : o.op = .box t x) (hx : (a.eval x).cells = cs.toArray) (k : ∀ b W, New w b cs t W → K (a.put o.dst (.pointer (some ⟨b, 0, none⟩))) W) : o.wp P a w K Q :=
  op_val (w' := w.alloc (.cells cs.toArray t)) (by simp [execOp, ho, Instr.box, newVar, newRow, newObj, Sem.run, hx]) (k _ _ (New.mk' w cs t))
/-- the cells of 'buildSlice', by the kernel -/
def built (P : Program) (t : TypeId) (len : Nat) (parts : List (Nat × Value)) : Option (TypeId × List Value) :=
  match P.underlying t with
  | some (.slice e) => match P.info? e with
    | some i => match i.zero with
      | some z => if len * i.size > 2 ^ 24 then none else if len * i.size = 0 then none else (Instr.fill (fun j => some (j * i.size, i.size)) ((Array.range (len * i.size)).map (z.cells[· % z.cells.size]!)) parts).map fun c => (e, c.toList)
      | none => none
    | none => none
  | _ => none
theorem op_buildSlice {o : Oper} {t : TypeId} {n : Nat} {parts : Array (Nat × Operand)} (e : TypeId) (cs : List Value) (ho : o.op = .buildSlice t n parts) (hb : built P t n (parts.toList.map fun p => (p.1, a.eval p.2)) = some (e, cs))
    (k : ∀ b W, New w b cs e W → K (a.put o.dst (.slice (some ⟨b, 0, none⟩) n n)) W) : o.wp P a w K Q := by
  unfold built at hb
  split at hb
  · rename_i e' hu
    split at hb
    · rename_i i hi
      split at hb
      · rename_i z hz
        split at hb
        · cases hb
        · split at hb
          · cases hb
          · rename_i h1 h2
            cases hf : Instr.fill (fun j => some (j * i.size, i.size)) ((Array.range (n * i.size)).map (z.cells[· % z.cells.size]!)) (parts.toList.map fun p => (p.1, a.eval p.2)) with
            | none => rw [hf] at hb; cases hb
            | some c =>
              rw [hf] at hb
              simp only [Option.map_some, Option.some.injEq, Prod.mk.injEq] at hb
              obtain ⟨rfl, hc⟩ := hb
              have hc' : c = cs.toArray := by rw [← hc]
              subst hc'
              exact op_val (w' := w.alloc (.cells cs.toArray e')) (by
                simp [execOp, ho, Instr.buildSlice, Sem.run_bind, run_underlying hu, sizeOf, typeInfo, hi, zeroValue, hz, h1, h2]
                have hf' : Instr.fill (fun i_1 => some (i_1 * i.size, i.size)) (Array.map (fun x => z.cells[x % z.cells.size]!) (Array.range (n * i.size))) (List.map (fun x => (x.fst, a.eval x.snd)) parts.toList) = some cs.toArray := hf
                rw [hf']
                simp [newRow, newObj, Sem.run]) (k _ _ (New.mk' w cs e'))
      · cases hb
    · cases hb
  · cases hb
theorem op_buildSlice0 {o : Oper} {t e : TypeId} (ho : o.op = .buildSlice t 0 #[]) (hu : P.underlying t = some (.slice e)) (hi : (P.info? e).isSome = true)
    (k : ∀ b W, New w b [] e W → K (a.put o.dst (.slice (some ⟨b, 0, none⟩) 0 0)) W) : o.wp P a w K Q := by
  obtain ⟨i, hi⟩ := Option.isSome_iff_exists.1 hi
  exact op_val (w' := w.alloc (.cells #[] e)) (by simp [execOp, ho, Instr.buildSlice, run_underlying hu, sizeOf, typeInfo, hi, Instr.fill, newRow, newObj, Sem.run, Array.range_zero']) (k _ _ (New.mk' w [] e))
theorem op_call {o : Oper} {c : Operand} {ops : Array Operand} {ts : Array TypeId} {lb : Array Value} (f : FuncId) (args : Array Value) (ho : o.op = .call { callee := .value c, args := ops, argTypes := ts }) (hc : a.eval c = .func (.func f) #[] lb)
    (hf : ∀ xs w, (callFunc f xs).run P w = .ok (.enter f xs) w) (has : ops.map a.eval ++ lb = args) (h : Calls P f args w fun e w' => ∃ v, e = .returned v ∧ K (a.put o.dst v) w') : o.wp P a w K Q := by
  have h2 : (execOp a.eval o).run P w = .ok (.enter f args) w := by
    simp only [execOp, ho, resolve, hc, Deferred.ofValue, Sem.run_bind, Sem.run_pure, Result.andThen_ok, invoke]
    rw [← has, ← hf]
    simp
  simp only [Oper.wp, h2, Oper.upon]
  exact h.mono fun e w' ⟨v, he, hk⟩ => by subst he; exact hk
end

section
variable {P : Program} {Q : Exit → Act → World → Prop} {a : Act} {w : World} {K : Act → World → Prop}
theorem op_wrap {o : Oper} (k : IntKind) (n m : Int) (hv : pureVal P (execOp a.eval o) = some (.value (.int k (k.wrap n)))) (hm : k.wrap n = m) (h : K (a.put o.dst (.int k m)) w) : o.wp P a w K Q :=
  op_pure (.int k m) (by rw [hv, hm]) h
theorem run_eq {o : Oper} (v v' : Value) (hv : pureVal P (execOp a.eval o) = some (.value v')) (e : v' = v) (V : World) : (execOp a.eval o).run P V = .ok (.value v) V := by rw [← e]; exact pureVal_run hv V
theorem run_wrap {o : Oper} (k : IntKind) (n m : Int) (hv : pureVal P (execOp a.eval o) = some (.value (.int k (k.wrap n)))) (hm : k.wrap n = m) (V : World) : (execOp a.eval o).run P V = .ok (.value (.int k m)) V := run_eq _ _ hv (by rw [hm]) V
theorem op_eq {o : Oper} (v v' : Value) (hv : pureVal P (execOp a.eval o) = some (.value v')) (e : v' = v) (h : K (a.put o.dst v) w) : o.wp P a w K Q := op_pure v (by rw [hv, e]) h
theorem run_index {o : Oper} {t e : TypeId} {x y : Operand} {b off n k c size : Nat} {i : Int} {ki : IntKind} (ho : o.op = .indexAddr t x y) (hx : a.eval x = .slice (some ⟨b, off, none⟩) n c) (hy : a.eval y = .int ki i) (hi : i = (k : Int)) (hk : k < n)
    (ht : P.underlying t = some (.slice e)) (hs : (P.info? e).map (·.size) = some size) (w : World) : (execOp a.eval o).run P w = .ok (.value (.pointer (some ⟨b, off + k * size, none⟩))) w := by
  cases hq : P.info? e with
  | none => simp [hq] at hs
  | some j =>
    have hj : j.size = size := by simpa [hq] using hs
    subst hi
    have h1 : (0 : Int) ≤ (k : Int) := by omega
    have h2 : (k : Int) < (n : Int) := by omega
    simp [execOp, ho, hx, hy, Instr.indexAt, asIntOf, run_underlying ht, sizeOf, typeInfo, hq, hj, hk, Addr.add_mid]
theorem op_index {o : Oper} {t e : TypeId} {x y : Operand} {b off n k c size : Nat} {i : Int} {ki : IntKind} (ho : o.op = .indexAddr t x y) (hx : a.eval x = .slice (some ⟨b, off, none⟩) n c) (hy : a.eval y = .int ki i) (hi : i = (k : Int)) (hk : k < n)
    (ht : P.underlying t = some (.slice e)) (hs : (P.info? e).map (·.size) = some size) (h : K (a.put o.dst (.pointer (some ⟨b, off + k * size, none⟩))) w) : o.wp P a w K Q := op_val (run_index ho hx hy hi hk ht hs w) h
theorem run_indexP {o : Oper} {t e : TypeId} {x y : Operand} {b off len k : Nat} {i : Int} {ki : IntKind} (size off' : Nat) (ho : o.op = .indexAddr t x y) (hx : a.eval x = .pointer (some ⟨b, off, none⟩)) (hy : a.eval y = .int ki i) (hi : i = (k : Int)) (hk : k < len) (hoff : off + k * size = off')
    (ht : P.underlying t = some (.array len e)) (hs : (P.info? e).map (·.size) = some size) (w : World) : (execOp a.eval o).run P w = .ok (.value (.pointer (some ⟨b, off', none⟩))) w := by
  cases hq : P.info? e with
  | none => simp [hq] at hs
  | some j =>
    have hj : j.size = size := by simpa [hq] using hs
    subst hi hoff
    have h1 : (0 : Int) ≤ (k : Int) := by omega
    have h2 : (k : Int) < (len : Int) := by omega
    simp [execOp, ho, hx, hy, Instr.indexAt, Instr.sureAddr, asIntOf, run_underlying ht, sizeOf, typeInfo, hq, hj, hk, Addr.add_mid]
/-- 'make' of n elements -/
theorem op_make {o : Oper} {t e : TypeId} {x y : Operand} (n : Nat) (z : Value) (size bytes : Nat) (cs : List Value) (ho : o.op = .makeSlice t x y) (hx : a.eval x = .int .i64 (n : Int)) (hy : a.eval y = .int .i64 (n : Int)) (ht : P.underlying t = some (.slice e))
    (hi : (P.info? e).map (fun i => (i.zero, i.size, i.bytes)) = some (some z, size, bytes)) (hzs : z.cells.size = size) (hb : bytes * n ≤ 281474976710656) (hn : n ≤ 9223372036854775807) (hcs : zeros z.cells.toList n = cs)
    (h : ∀ b W, New w b cs e W → K (a.put o.dst (.slice (some ⟨b, 0, none⟩) n n)) W) : o.wp P a w K Q := by
  cases hq : P.info? e with
  | none => simp [hq] at hi
  | some i =>
    simp only [hq, Option.map_some, Option.some.injEq, Prod.mk.injEq] at hi
    have hr := make_zeros (P := P) (t := t) (e := e) z.cells.toList ht hq hi.1 (by simp) (by rw [hi.2.1, ← hzs]; simp) hi.2.2 n hb hn w
    subst hcs
    refine op_val (w' := w.alloc (.cells (zeros z.cells.toList n).toArray e)) ?_ (h _ _ (New.mk' w _ e))
    simp only [execOp, ho, hx, hy, Sem.run_bind, hr]
    rfl
/-- a cut of a slice at a lower bound -/
theorem run_sliceL {o : Oper} {t e : TypeId} {x y : Operand} {b off n k c : Nat} {i : Int} {ki : IntKind} (size : Nat) (ho : o.op = .slice t x (some y) none none) (hx : a.eval x = .slice (some ⟨b, off, none⟩) n c) (hy : a.eval y = .int ki i) (hi : i = (k : Int)) (hk : k ≤ n) (hc : k < c)
    (ht : P.underlying t = some (.slice e)) (hs : (P.info? e).map (·.size) = some size) (w : World) : (execOp a.eval o).run P w = .ok (.value (.slice (some ⟨b, off + k * size, none⟩) (n - k) (c - k))) w := by
  cases hq : P.info? e with
  | none => simp [hq] at hs
  | some j =>
    have hj : j.size = size := by simpa [hq] using hs
    subst hi
    have h1 : (0 : Int) ≤ (k : Int) := by omega
    have h2 : (k : Int) ≤ (n : Int) := by omega
    have h3 : ¬ c = k := by omega
    simp [execOp, ho, hx, hy, Instr.sliceAt, Instr.slice, Instr.sliceBounds, Instr.sliceBound, asIntOf, run_underlying ht, sizeOf, typeInfo, hq, hj, hk, Addr.add_mid, h3]
/-- a cut of a slice at an upper bound -/
theorem run_sliceH {o : Oper} {t e : TypeId} {x y : Operand} {b : Option Addr} {n k c : Nat} {i : Int} {ki : IntKind} (ho : o.op = .slice t x none (some y) none) (hx : a.eval x = .slice b n c) (hy : a.eval y = .int ki i) (hi : i = (k : Int)) (hk : k ≤ c)
    (ht : P.underlying t = some (.slice e)) (hs : (P.info? e).isSome = true) (w : World) : (execOp a.eval o).run P w = .ok (.value (.slice b k c)) w := by
  obtain ⟨j, hq⟩ := Option.isSome_iff_exists.1 hs
  subst hi
  have h1 : (0 : Int) ≤ (k : Int) := by omega
  have h2 : (k : Int) ≤ (c : Int) := by omega
  by_cases h3 : c = 0
  · obtain rfl : k = 0 := by omega
    subst h3
    simp [execOp, ho, hx, hy, Instr.sliceAt, Instr.slice, Instr.sliceBounds, Instr.sliceBound, asIntOf, run_underlying ht, sizeOf, typeInfo, hq]
  · simp [execOp, ho, hx, hy, Instr.sliceAt, Instr.slice, Instr.sliceBounds, Instr.sliceBound, asIntOf, run_underlying ht, sizeOf, typeInfo, hq, hk, h3]
    cases b <;> simp [Addr.add]
/-- 'copy' into a row of the call's own -/
theorem op_copy {o : Oper} {d x : Operand} {dT sT e : TypeId} {base g off n cap dLen dCap : Nat} {u : Value} {xs : List Value} (m : Nat) (news xs' : List Value) (ho : o.op = .call { callee := .builtin .copy, args := #[d, x], argTypes := #[dT, sT] }) (hu : P.underlying dT = some (.slice e)) (hsz : (P.info? e).map (·.size) = some 1)
    (hd : a.eval d = .slice (some ⟨g, off, none⟩) dLen dCap) (hs : a.eval x = u) (hx : Sl w u m news) (hown : w.ownsRow base e 1 (.slice (some ⟨g, 0, none⟩) n cap) n xs) (hml : news.length = m) (hm : m ≤ dLen) (hfit : off + m ≤ n) (h1 : ∀ u ∈ news, u.oneCell' = true)
    (hbase : base ≤ w.heap.size) (hxs : xs.take off ++ news ++ xs.drop (off + m) = xs')
    (h : ∀ W, W.ownsRow base e 1 (.slice (some ⟨g, 0, none⟩) n cap) n xs' → w.grownBy W (Value.slice (some ⟨g, 0, none⟩) n cap).ownBlock → Below base w W → K (a.put o.dst (.int .i64 (m : Int))) W) : o.wp P a w K Q := by
  obtain ⟨hl, hr⟩ := hown
  rcases hr with ⟨hv, _⟩ | ⟨g2, cap2, cur, hv, hge, hh, hnc, hcm, hcs, htk⟩
  · cases hv
  simp only [Value.slice.injEq, Option.some.injEq, Addr.mk.injEq] at hv
  obtain ⟨⟨rfl, _, _⟩, _, rfl⟩ := hv
  obtain ⟨sp, sc, rfl⟩ := hx.slice
  have hmin : news.length = Nat.min m dLen := by rw [hml]; exact (Nat.min_eq_left hm).symm
  have hlen : xs.length = n := by simpa using hl
  have hcur : cur.toList.length = cap := by simpa using hcs
  have key : ∀ W, W.heap[g]? = some (.cells (cur.toList.take off ++ news ++ cur.toList.drop (off + news.length)).toArray e (0, 0)) → w.grownBy W (some g) → K (a.put o.dst (.int .i64 (m : Int))) W := by
    intro W hW hg
    refine h W ⟨?_, .inr ⟨g, cap, _, rfl, hge, hW, hnc, hcm, ?_, ?_⟩⟩ hg (grown_below (v := .slice (some ⟨g, 0, none⟩) n cap) hg ⟨hl, .inr ⟨g, cap, cur, rfl, hge, hh, hnc, hcm, hcs, htk⟩⟩ (Nat.le_refl _) hbase)
    · rw [← hxs]; simp; omega
    · simp only [List.size_toArray, List.length_append, List.length_take, List.length_drop, hcur, Nat.mul_one]; omega
    · have hA : (cur.toList.take off ++ news).length = off + m := by simp only [List.length_append, List.length_take, hcur, hml]; omega
      rw [← hxs, ← htk, hml]
      simp only [Nat.mul_one]
      rw [List.take_append, List.take_of_length_le (by rw [hA]; omega), hA, List.take_take, Nat.min_eq_left (by omega : off ≤ n), List.drop_take]
  by_cases h0 : m = 0
  · subst h0
    obtain rfl : news = [] := List.eq_nil_of_length_eq_zero hml
    have hrun := run_copy_none (P := P) w dT sT o.type e (some ⟨g, off, none⟩) sp dLen dCap 0 sc hu hsz (by simp)
    have h2 : (execOp a.eval o).run P w = .ok (.value (.int .i64 0)) w := by
      simp [execOp, ho, resolve, invoke, builtin, hd, hs, hrun, Result.andThen, goInt]
    refine op_val h2 (key w ?_ (World.grownBy.refl w _))
    rw [hh]; simp
  · rcases Sl.at hx with hn | ⟨sb, so, rfl, hcell⟩
    · rw [hn] at hml; exact absurd hml.symm h0
    have hrun := run_copy_row (P := P) w dT sT o.type e g off dLen dCap ⟨sb, so, none⟩ m sc cur e news hu hsz hh hmin (fun j v hj => by rw [Addr.add_mid]; exact hcell j v hj) (by rw [hml, hcs]; omega) h1
    have h2 : (execOp a.eval o).run P w = .ok (.value (.int .i64 (m : Int))) (w.setRow g (cur.toList.take off ++ news ++ cur.toList.drop (off + news.length)).toArray) := by
      simp [execOp, ho, resolve, invoke, builtin, hd, hs, hrun, Result.andThen, goInt, hml]
    refine op_val h2 (key _ (setRow_heap w g _ _ e _ hh) ⟨rfl, rfl, rfl, by simp, fun k _ hk => setRow_other w g k _ (fun e => hk (by rw [e]))⟩)
/-- the place of an element of a slice whose array is a letter -/
def elemAddr (a : Option Addr) (j : Nat) : Addr := (a.getD ⟨0, 0, none⟩).add j
theorem run_indexA {o : Oper} {t e : TypeId} {x y : Operand} {b : Option Addr} {n k c size : Nat} {i : Int} {ki : IntKind} (ho : o.op = .indexAddr t x y) (hx : a.eval x = .slice b n c) (hy : a.eval y = .int ki i) (hi : i = (k : Int)) (hk : k < n) (hb : b.isSome = true)
    (ht : P.underlying t = some (.slice e)) (hs : (P.info? e).map (·.size) = some size) (w : World) : (execOp a.eval o).run P w = .ok (.value (.pointer (some (elemAddr b (k * size))))) w := by
  obtain ⟨b, rfl⟩ := Option.isSome_iff_exists.1 hb
  cases hq : P.info? e with
  | none => simp [hq] at hs
  | some j =>
    have hj : j.size = size := by simpa [hq] using hs
    subst hi
    have h1 : (0 : Int) ≤ (k : Int) := by omega
    have h2 : (k : Int) < (n : Int) := by omega
    simp [execOp, ho, hx, hy, Instr.indexAt, asIntOf, run_underlying ht, sizeOf, typeInfo, hq, hj, hk, elemAddr]
theorem op_indexA {o : Oper} {t e : TypeId} {x y : Operand} {b : Option Addr} {n k c size : Nat} {i : Int} {ki : IntKind} (ho : o.op = .indexAddr t x y) (hx : a.eval x = .slice b n c) (hy : a.eval y = .int ki i) (hi : i = (k : Int)) (hk : k < n) (hb : b.isSome = true)
    (ht : P.underlying t = some (.slice e)) (hs : (P.info? e).map (·.size) = some size) (h : K (a.put o.dst (.pointer (some (elemAddr b (k * size))))) w) : o.wp P a w K Q := op_val (run_indexA ho hx hy hi hk hb ht hs w) h
/-- 'append' onto a row of the call's own, of what lies in a block of its own -/
theorem op_app {o : Oper} {s x : Operand} {t e : TypeId} {base : Nat} {v : Value} {n : Nat} {xs : List Value} {u : Value} {m : Nat} {news : List Value} (z : Value) (size bytes n' : Nat) (xs' : List Value) (ho : o.op = .call { callee := .builtin .append, args := #[s, x], argTypes := #[t, t] })
    (ht : P.underlying t = some (.slice e)) (hi : (P.info? e).map (fun i => (i.zero, i.size, i.bytes)) = some (some z, size, bytes)) (hzs : z.cells.size = size) (hsz : 0 < size) (hs : a.eval s = v) (hown : w.ownsRow base e size v n xs) (hu : a.eval x = u) (hx : Sl w u m news)
    (hl : news.length = m * size) (h1 : ∀ u ∈ news, u.oneCell' = true) (h63 : n + m ≤ maxLen) (hbytes : (n + m) * bytes ≤ 140737488355328) (hbase : base ≤ w.heap.size) (hn : n + m = n') (hxs : xs ++ news = xs')
    (h : ∀ b c W, W.ownsRow base e size (.slice b n' c) n' xs' → w.grownBy W v.ownBlock → Below base w W → K (a.put o.dst (.slice b n' c)) W) : o.wp P a w K Q := by
  cases hq : P.info? e with
  | none => simp [hq] at hi
  | some i =>
    simp only [hq, Option.map_some, Option.some.injEq, Prod.mk.injEq] at hi
    refine wp_app_sl s x t ho base e i z size bytes ht hq hi.1 hi.2.1 hi.2.2 hzs hsz v n xs hs hown u m news hu hx hl h1 h63 hbytes hbase fun v' W h2 h3 h4 => ?_
    subst hn hxs
    obtain ⟨b, c, rfl⟩ := (own_sl h2).slice
    exact h b c W h2 h3 h4
end
theorem Blk.grown {w w' : World} {b : Nat} {cs : List Value} {t e : TypeId} {base size n : Nat} {v : Value} {xs : List Value} (k : Blk w b cs t) (hg : w.grownBy w' v.ownBlock) (hown : w.ownsRow base e size v n xs) (hne : e ≠ t) : Blk w' b cs t := by
  refine k.kept hg fun hb => ?_
  rcases hown.2 with ⟨rfl, _⟩ | ⟨g, cap, cur, rfl, _, hh, _⟩
  · cases hb
  · simp only [Value.ownBlock, Option.some.injEq] at hb
    subst hb
    have h1 : w.heap[b]? = some (.cells cs.toArray t (0, 0)) := k
    rw [hh] at h1
    simp only [Option.some.injEq, Obj.cells.injEq] at h1
    exact hne h1.2.1
theorem Upd.own2 {w W : World} {b base : Nat} {e t : TypeId} {size : Nat} {v : Value} {n : Nat} {xs cs : List Value} (h : Upd w b W) (k : w.ownsRow base e size v n xs) (hk : Blk w b cs t) (hne : e ≠ t) : W.ownsRow base e size v n xs := by
  obtain ⟨h1, h2⟩ := k
  refine ⟨h1, ?_⟩
  rcases h2 with h2 | ⟨g, cap, cur, hv, hg, hh, r⟩
  · exact Or.inl h2
  · refine Or.inr ⟨g, cap, cur, hv, hg, ?_, r⟩
    rw [h.block g]
    · exact hh
    · rintro rfl
      have h1 : w.heap[g]? = some (.cells cs.toArray t (0, 0)) := hk
      rw [hh] at h1
      simp only [Option.some.injEq, Obj.cells.injEq] at h1
      exact hne h1.2.1
/-- a block of the call's own as a slice of its cells -/
theorem Blk.sl {w : World} {b : Nat} {cs : List Value} {t : TypeId} (h : Blk w b cs t) (n c : Nat) (hn : n ≤ c) (hc : c ≤ maxLen) : Sl w (.slice (some ⟨b, 0, none⟩) n c) n cs :=
  .inr ⟨b, 0, c, rfl, hn, hc, fun j x hj => by rw [Nat.zero_add]; exact h.cell hj⟩
theorem res_c {P : Program} {fn : Func} {tmps : Array Value} {w : World} {k : Nat} {t : TypeId} {b off : Nat} {cs : List Value} {d : TypeDesc} (hfn : fn.results = #[.cell k t]) (e : tmps.getD k undef = .pointer (some ⟨b, off, none⟩)) (hc : w.rangeAt b off cs)
    (hu : P.underlying t = some d) (hd : d.isRow = true) (hi : (P.info? t).map (·.size) = some cs.length) : (results fn tmps).run P w = .ok (.agg cs.toArray) w := by
  have h := run_loadVar_mid w b off t cs d hc hu hd hi
  have e' : tmps[k]?.getD undef = .pointer (some ⟨b, off, none⟩) := by simpa using e
  simp [results, hfn, e', asAddr, h]
theorem res_ct {P : Program} {fn : Func} {tmps : Array Value} {w : World} {k j : Nat} {t : TypeId} {b off : Nat} {cs : List Value} {d : TypeDesc} {u : Value} (hfn : fn.results = #[.cell k t, .tmp j]) (e : tmps.getD k undef = .pointer (some ⟨b, off, none⟩)) (e2 : tmps.getD j undef = u) (hc : w.rangeAt b off cs)
    (hu : P.underlying t = some d) (hd : d.isRow = true) (hi : (P.info? t).map (·.size) = some cs.length) : (results fn tmps).run P w = .ok (.tuple #[.agg cs.toArray, u]) w := by
  have h := run_loadVar_mid w b off t cs d hc hu hd hi
  have e' : tmps[k]?.getD undef = .pointer (some ⟨b, off, none⟩) := by simpa using e
  have e2' : tmps[j]?.getD undef = u := by simpa using e2
  simp [results, hfn, e', e2', asAddr, h]
theorem res_ctt {P : Program} {fn : Func} {tmps : Array Value} {w : World} {k j m : Nat} {t : TypeId} {b off : Nat} {cs : List Value} {d : TypeDesc} {u u2 : Value} (hfn : fn.results = #[.cell k t, .tmp j, .tmp m]) (e : tmps.getD k undef = .pointer (some ⟨b, off, none⟩)) (e2 : tmps.getD j undef = u) (e3 : tmps.getD m undef = u2) (hc : w.rangeAt b off cs)
    (hu : P.underlying t = some d) (hd : d.isRow = true) (hi : (P.info? t).map (·.size) = some cs.length) : (results fn tmps).run P w = .ok (.tuple #[.agg cs.toArray, u, u2]) w := by
  have h := run_loadVar_mid w b off t cs d hc hu hd hi
  have e' : tmps[k]?.getD undef = .pointer (some ⟨b, off, none⟩) := by simpa using e
  have e2' : tmps[j]?.getD undef = u := by simpa using e2
  have e3' : tmps[m]?.getD undef = u2 := by simpa using e3
  simp [results, hfn, e', e2', e3', asAddr, h]
/-- an element of a slice -/
theorem _root_.Go.Proofs.Ytoiblgeheblddaa.Sl.elem {w : World} {b : Option Addr} {n c : Nat} {xs : List Value} (h : Sl w (.slice b n c) n xs) {j : Nat} {x : Value} (hj : xs[j]? = some x) : b.isSome = true ∧ w.cell? (elemAddr b j) = some x := by
  rcases Sl.at h with rfl | ⟨g, off, rfl, hc⟩
  · cases hj
  · exact ⟨rfl, by simpa [elemAddr, Addr.add_mid] using hc j x hj⟩
theorem _root_.Go.Proofs.Ytoiblgeheblddaa.Ints.elem {w : World} {b : Option Addr} {c : Nat} {l : List Int} (h : Ints w (.slice b l.length c) l) {k : Nat} (hk : k < l.length) : b.isSome = true ∧ w.cell? (elemAddr b (k * 1)) = some (.int .i64 (l.getD k 0)) := by
  refine Sl.elem h ?_
  rw [Nat.mul_one, List.getElem?_map, List.getElem?_eq_getElem hk]
  simp [List.getD, List.getElem?_eq_getElem hk]
/-- of what stood, only blocks of these element types were written -/
def Only (T : List TypeId) (w w' : World) : Prop := ∀ (k : Nat) (cs : Array Value) (t : TypeId) (fr : Nat × Nat), w.heap[k]? = some (Obj.cells cs t fr) → T.contains t = false → w'.heap[k]? = some (Obj.cells cs t fr)
theorem Only.refl (T : List TypeId) (w : World) : Only T w w := fun _ _ _ _ h _ => h
theorem Only.trans {T : List TypeId} {a b c : World} (h : Only T a b) (k : Only T b c) : Only T a c := fun i cs t fr hi ht => k i cs t fr (h i cs t fr hi ht) ht
theorem Only.of_below {T : List TypeId} {w W : World} (h : Below w.heap.size w W) : Only T w W := fun k cs t fr hk _ => by
  rw [h.block k (Array.getElem?_eq_some_iff.1 hk).1]; exact hk
theorem Only.of_upd {T : List TypeId} {w W : World} {b : Nat} {cs : List Value} {t : TypeId} (h : Upd w b W) (k : Blk w b cs t) (ht : T.contains t = true) : Only T w W := fun i cs' t' fr hi h2 => by
  rw [h.block i]
  · exact hi
  · rintro rfl
    have h1 : w.heap[i]? = some (.cells cs.toArray t (0, 0)) := k
    rw [hi] at h1
    simp only [Option.some.injEq, Obj.cells.injEq] at h1
    rw [h1.2.1, ht] at h2; cases h2
theorem Only.of_grown {T : List TypeId} {w W : World} {base size n : Nat} {e : TypeId} {v : Value} {xs : List Value} (hg : w.grownBy W v.ownBlock) (hown : w.ownsRow base e size v n xs) (ht : T.contains e = true) : Only T w W := fun i cs t fr hi h2 => by
  rw [hg.block i (Array.getElem?_eq_some_iff.1 hi).1]
  · exact hi
  · intro hb
    rcases hown.2 with ⟨rfl, _⟩ | ⟨g, cap, cur, rfl, _, hh, _⟩
    · cases hb
    · simp only [Value.ownBlock, Option.some.injEq] at hb
      subst hb
      rw [hi] at hh
      simp only [Option.some.injEq, Obj.cells.injEq] at hh
      rw [hh.2.1, ht] at h2; cases h2
theorem Blk.only {T : List TypeId} {w W : World} {b : Nat} {cs : List Value} {t : TypeId} (k : Blk w b cs t) (h : Only T w W) (ht : T.contains t = false) : Blk W b cs t := h b _ _ _ k ht
/-- a row of one element type while a row of another one grows -/
theorem own_grown {w w' : World} {base size n : Nat} {e : TypeId} {v : Value} {xs : List Value} {base2 size2 n2 : Nat} {e2 : TypeId} {v2 : Value} {xs2 : List Value} (k : w.ownsRow base e size v n xs) (hg : w.grownBy w' v2.ownBlock) (hown : w.ownsRow base2 e2 size2 v2 n2 xs2) (hne : e2 ≠ e) : w'.ownsRow base e size v n xs := by
  obtain ⟨h1, h2⟩ := k
  refine ⟨h1, ?_⟩
  rcases h2 with h2 | ⟨g, cap, cur, hv, hg2, hh, r⟩
  · exact Or.inl h2
  · refine Or.inr ⟨g, cap, cur, hv, hg2, ?_, r⟩
    rw [hg.block g (Array.getElem?_eq_some_iff.1 hh).1]
    · exact hh
    · intro hb
      rcases hown.2 with ⟨rfl, _⟩ | ⟨g2, cap2, cur2, rfl, _, hh2, _⟩
      · cases hb
      · simp only [Value.ownBlock, Option.some.injEq] at hb
        subst hb
        rw [hh] at hh2
        simp only [Option.some.injEq, Obj.cells.injEq] at hh2
        exact hne hh2.2.1.symm
theorem own_mono {w : World} {base base' size n : Nat} {e : TypeId} {v : Value} {xs : List Value} (k : w.ownsRow base' e size v n xs) (h : base ≤ base') : w.ownsRow base e size v n xs := by
  obtain ⟨h1, h2⟩ := k
  refine ⟨h1, ?_⟩
  rcases h2 with h2 | ⟨g, cap, cur, hv, hg, r⟩
  · exact Or.inl h2
  · exact Or.inr ⟨g, cap, cur, hv, Nat.le_trans h hg, r⟩
theorem own_only {T : List TypeId} {w W : World} {base size n : Nat} {e : TypeId} {v : Value} {xs : List Value} (k : w.ownsRow base e size v n xs) (h : Only T w W) (ht : T.contains e = false) : W.ownsRow base e size v n xs := by
  obtain ⟨h1, h2⟩ := k
  refine ⟨h1, ?_⟩
  rcases h2 with h2 | ⟨g, cap, cur, hv, hg, hh, r⟩
  · exact Or.inl h2
  · exact Or.inr ⟨g, cap, cur, hv, hg, h g _ _ _ hh ht, r⟩
theorem Bl.nextB {B : Nat} {a w w' : World} (h : Below B a w) (hs : B ≤ a.heap.size) (k : Below w.heap.size w w') : Below B a w' := h.trans (k.mono (Nat.le_trans hs h.size))
theorem New.geB {b B : Nat} {cs : List Value} {t : TypeId} {w W A : World} (h : New w b cs t W) (k : Below B A w) (hs : B ≤ A.heap.size) : B ≤ b := by have := k.size; have := h.at_; omega
/-! ### slices of structs -/
def Sts {α : Type} (f : α → List Value) (w : World) (v : Value) (l : List α) : Prop := Sl w v l.length (l.flatMap f)
theorem Sts.below {α : Type} {f : α → List Value} {w w' : World} {v : Value} {l : List α} (h : Sts f w v l) (hb : Below w.heap.size w w') : Sts f w' v l := Sl.below h hb
theorem flat_get {α : Type} {f : α → List Value} {m : Nat} (hm : ∀ x, (f x).length = m) : ∀ (l : List α) (k i : Nat) (d : α), k < l.length → i < m → (l.flatMap f)[k * m + i]? = (f (l.getD k d))[i]?
  | [], k, i, d, hk, _ => by simp at hk
  | x :: l, 0, i, d, _, hi => by
    rw [List.flatMap_cons, Nat.zero_mul, Nat.zero_add, List.getElem?_append_left (by rw [hm]; exact hi)]; rfl
  | x :: l, k + 1, i, d, hk, hi => by
    rw [List.flatMap_cons, List.getElem?_append_right (by rw [hm, Nat.succ_mul]; omega), hm, show (k + 1) * m + i - m = k * m + i by rw [Nat.succ_mul]; omega]
    simpa using flat_get hm l k i d (by simpa using hk) hi
theorem flat_length {α : Type} {f : α → List Value} {m : Nat} (hm : ∀ x, (f x).length = m) (l : List α) : (l.flatMap f).length = l.length * m := by
  induction l with
  | nil => simp
  | cons x l ih => rw [List.flatMap_cons, List.length_append, hm, ih, List.length_cons, Nat.succ_mul]; omega
theorem Sts.cell {α : Type} {f : α → List Value} {m : Nat} {w : World} {b : Option Addr} {c : Nat} {l : List α} (h : Sts f w (.slice b l.length c) l) (hm : ∀ x, (f x).length = m) (d : α) {k i : Nat} {v : Value} (hk : k < l.length) (hi : (f (l.getD k d))[i]? = some v) : b.isSome = true ∧ w.cell? ((elemAddr b (k * m)).add i) = some v := by
  have him : i < m := by have := (List.getElem?_eq_some_iff.1 hi).1; rwa [hm] at this
  have hc := flat_get hm l k i d hk him
  rw [hi] at hc
  rcases Sl.at h with hnil | ⟨g, og, rfl, hcell⟩
  · rw [hnil] at hc; cases hc
  · refine ⟨rfl, ?_⟩
    have := hcell _ _ hc
    simpa [elemAddr, Addr.add_mid, Nat.add_assoc] using this
theorem Sts.at {α : Type} {f : α → List Value} {m : Nat} {w : World} {b : Option Addr} {c : Nat} {l : List α} (h : Sts f w (.slice b l.length c) l) (hm : ∀ x, (f x).length = m) (hm0 : 0 < m) (hl : 0 < l.length) : ∃ g o, b = some ⟨g, o, none⟩ := by
  rcases Sl.at h with hnil | ⟨g, og, rfl, hcell⟩
  · have := flat_length hm l
    rw [hnil] at this
    have := Nat.mul_pos hl hm0
    simp at *; omega
  · exact ⟨g, og, rfl⟩
theorem run_loadSt {P : Program} {α : Type} {f : α → List Value} {m : Nat} {a : Act} {o : Oper} {w : World} {t : TypeId} {x : Operand} {b : Option Addr} {c k : Nat} {l : List α} (hm : ∀ x, (f x).length = m) (dflt : α) (d : TypeDesc) (ho : o.op = .load t x) (hx : a.eval x = .pointer (some (elemAddr b (k * m)))) (h : Sts f w (.slice b l.length c) l) (hk : k < l.length) (hm0 : 0 < m)
    (hu : P.underlying t = some d) (hd : d.isRow = true) (hi : (P.info? t).map (·.size) = some m) : (execOp a.eval o).run P w = .ok (.value (.agg (f (l.getD k dflt)).toArray)) w := by
  have hlen := hm (l.getD k dflt)
  obtain ⟨g, og, rfl⟩ := h.at hm hm0 (by omega)
  have hr := run_loadVar_mid (P := P) w g (og + k * m) t (f (l.getD k dflt)) d (fun j v hj => by
    have := (h.cell hm dflt hk hj).2
    simpa [elemAddr, Addr.add_mid] using this) hu hd (by rw [hlen]; exact hi)
  have hx' : a.eval x = .pointer (some ⟨g, og + k * m, none⟩) := by rw [hx]; simp [elemAddr, Addr.add_mid]
  simp only [execOp, ho, hx', Instr.loadAt, Instr.sureAddr, Sem.run_bind, Sem.run_pure, Result.andThen_ok, hr]
theorem ne_of_beq_false {a b : Int} (h : (a == b) = false) : a ≠ b := by simpa using h
theorem ne_of_bne {a b : Int} (h : (a != b) = true) : a ≠ b := by simpa using h
theorem eq_of_bne_false {a b : Int} (h : (a != b) = false) : a = b := by simpa using h

/-! ### a region that draws its order -/
def takeGo (P : Program) (md : Region.Mode) (ops : Array Oper) : List Nat → Array Bool → Act → Option (Array Bool × Act)
  | [], L, a => some (L, a)
  | i :: r, L, a => match ops[i]? with
    | none => none
    | some o => match Region.free md ops L i && (Region.ready md ops L).contains i with
      | true => match pureStep P ops a o with
        | some a' => takeGo P md ops r (L.setIfInBounds i true) a'
        | none => none
      | false => none
section
variable {P : Program} {ops : Array Oper} {Q : Exit → Act → World → Prop} {a a' : Act} {w : World} {S : World → Prop} {md : Region.Mode} {L L' : Array Bool} {fuel : Nat}
theorem panic_put (hQ : ∀ c a (d : Tmp) v w, Q (.panic c) (a.put (some d) v) w → Q (.panic c) a w) (d : Option Tmp) (v : Value) : ∀ c a w, Q (.panic c) (a.put d v) w → Q (.panic c) a w := fun c a w h => by
  cases d with
  | none => exact h
  | some d => exact hQ c a d v w h
theorem takeGo_sound (hs : Region.noSelect ops = true) (hQ : ∀ c a (d : Tmp) v w, Q (.panic c) (a.put (some d) v) w → Q (.panic c) a w) (hS : S w) : ∀ (is : List Nat) {fuel : Nat} {L L' : Array Bool} {a a' : Act}, takeGo P md ops is L a = some (L', a') → wpAnyH P md ops Q S fuel L' a' w → wpAnyH P md ops Q S (fuel + is.length) L a w
  | [], fuel, L, L', a, a', h, k => by simp only [takeGo, Option.some.injEq, Prod.mk.injEq] at h; obtain ⟨rfl, rfl⟩ := h; exact k
  | i :: r, fuel, L, L', a, a', h, k => by
    simp only [takeGo] at h
    split at h
    · cases h
    · rename_i o ho
      split at h
      · rename_i hfr
        simp only [Bool.and_eq_true] at hfr
        split at h
        · rename_i a1 h1
          obtain ⟨v, rfl, hy⟩ := pureStep_yields h1
          exact wpAnyH_take ho hs hfr.1 hfr.2 (panic_put hQ _ _) (hy S) hS (takeGo_sound hs hQ hS r h k)
        · cases h
      · cases h
theorem h_pure (is : List Nat) (fuel : Nat) {f0 : Nat} (hf : f0 = fuel + is.length) (L' : Array Bool) (a' : Act) (hs : Region.noSelect ops = true) (hQ : ∀ c a (d : Tmp) v w, Q (.panic c) (a.put (some d) v) w → Q (.panic c) a w) (h : takeGo P md ops is L a = some (L', a')) (hS : S w)
    (k : wpAnyH P md ops Q S fuel L' a' w) : wpAnyH P md ops Q S f0 L a w := hf ▸ takeGo_sound hs hQ hS is h k
theorem h_val {o : Oper} (i fuel : Nat) {f0 : Nat} (hf : f0 = fuel + 1) (v : Value) (ho : ops[i]? = some o) (hs : Region.noSelect ops = true) (hfr : Region.free md ops L i = true) (hr : (Region.ready md ops L).contains i = true) (hQ : ∀ c a (d : Tmp) v w, Q (.panic c) (a.put (some d) v) w → Q (.panic c) a w)
    (hw : Region.wanted o (yielded ops a.tmps) = true) (hv : ∀ V, S V → (execOp a.eval o).run P V = .ok (.value v) V) (hS : S w) (k : wpAnyH P md ops Q S fuel (L.setIfInBounds i true) (a.put o.dst v) w) : wpAnyH P md ops Q S f0 L a w :=
  hf ▸ wpAnyH_take ho hs hfr hr (panic_put hQ _ _) (.inl ⟨hw, hv⟩) hS k
theorem h_load {t : TypeId} {x : Operand} {o : Oper} (i fuel : Nat) {f0 : Nat} (hf : f0 = fuel + 1) (p : Addr) (v : Value) (ho : ops.toList[i]? = some o) (hs : Region.noSelect ops = true) (hfr : Region.free md ops L i = true) (hr : (Region.ready md ops L).contains i = true)
    (hQ : ∀ c a (d : Tmp) v w, Q (.panic c) (a.put (some d) v) w → Q (.panic c) a w) (hw : Region.wanted o (yielded ops a.tmps) = true) (hop : o.op = .load t x) (hx : a.eval x = .pointer (some p)) (hag : aggB P t = some false) (hv : ∀ V, S V → V.cell? p = some v) (hS : S w)
    (k : wpAnyH P md ops Q S fuel (L.setIfInBounds i true) (a.put o.dst v) w) : wpAnyH P md ops Q S f0 L a w :=
  h_val i fuel hf v (by rw [← ho]; simp) hs hfr hr hQ hw (fun V hV => by simp only [execOp, hop, hx, Sem.run_bind, run_load1 hag (hv V hV)]; rfl) hS k
theorem h_loadv {t : TypeId} {x : Operand} {o : Oper} {b off : Nat} (i fuel : Nat) {f0 : Nat} (hf : f0 = fuel + 1) (cs : List Value) (d : TypeDesc) (ho : ops.toList[i]? = some o) (hs : Region.noSelect ops = true) (hfr : Region.free md ops L i = true) (hr : (Region.ready md ops L).contains i = true)
    (hQ : ∀ c a (d : Tmp) v w, Q (.panic c) (a.put (some d) v) w → Q (.panic c) a w) (hw : Region.wanted o (yielded ops a.tmps) = true) (hop : o.op = .load t x) (hx : a.eval x = .pointer (some ⟨b, off, none⟩)) (hu : P.underlying t = some d) (hd : d.isRow = true)
    (hi : (P.info? t).map (·.size) = some cs.length) (hv : ∀ V, S V → V.rangeAt b off cs) (hS : S w)
    (k : wpAnyH P md ops Q S fuel (L.setIfInBounds i true) (a.put o.dst (.agg cs.toArray)) w) : wpAnyH P md ops Q S f0 L a w :=
  hf ▸ wpAnyH_take (by rw [← ho]; simp) hs hfr hr (panic_put hQ _ _) (yieldsIf_load_mid hw t x hop b off hx cs d hv hu hd hi) hS k
/-- the one operation that may come up -/
theorem h_one {o : Oper} (i fuel : Nat) {f0 : Nat} (hf : f0 = fuel + 1) (hr : Region.ready md ops L = [i]) (ho : ops.toList[i]? = some o) (hw : Region.wanted o (yielded ops a.tmps) = true)
    (h : o.wp P a w (fun a' w' => S w' ∧ wpAnyH P md ops Q S fuel (L.setIfInBounds i true) a' w') Q) : wpAnyH P md ops Q S f0 L a w := by
  subst hf
  refine wpAnyH_all hr (by simp) fun j hj => ?_
  obtain rfl : j = i := by simpa using hj
  have ho' : ops[j]? = some o := by rw [← ho]; simp
  unfold wpOp
  simp only [ho', hw, if_true]
  exact .inl h
theorem h_two {o o2 : Oper} (i j fuel : Nat) {f0 : Nat} (hf : f0 = fuel + 1) (hr : Region.ready md ops L = [i, j]) (ho : ops.toList[i]? = some o) (ho2 : ops.toList[j]? = some o2) (hw : Region.wanted o (yielded ops a.tmps) = true) (hw2 : Region.wanted o2 (yielded ops a.tmps) = true)
    (h : o.wp P a w (fun a' w' => S w' ∧ wpAnyH P md ops Q S fuel (L.setIfInBounds i true) a' w') Q) (h2 : o2.wp P a w (fun a' w' => S w' ∧ wpAnyH P md ops Q S fuel (L.setIfInBounds j true) a' w') Q) : wpAnyH P md ops Q S f0 L a w := by
  subst hf
  refine wpAnyH_all hr (by simp) fun k hk => ?_
  have ho' : ops[i]? = some o := by rw [← ho]; simp
  have ho2' : ops[j]? = some o2 := by rw [← ho2]; simp
  rcases List.mem_cons.1 hk with rfl | hk
  · unfold wpOp; simp only [ho', hw, if_true]; exact .inl h
  · obtain rfl : k = j := by simpa using hk
    unfold wpOp; simp only [ho2', hw2, if_true]; exact .inl h2
theorem h_reg {id : Nat} {l : List Oper} (S : World → Prop) (n : Nat) (hn : l.toArray.size = n) (L : Array Bool) (hL : Array.replicate n false = L) (hm : P.follows .mixedOrders = true) (hS : S w.drew) (h : S w.drew → wpAnyH P .any l.toArray Q S n L a w.drew) : (Code.region id l.toArray true).wp P Q a w :=
  wp_region_held_drew hm hS (by rw [hn, hL]; exact h)
theorem h_str {P : Program} {ops : Array Oper} {Q : Exit → Act → World → Prop} {S : World → Prop} {md : Region.Mode} (S' : World → Prop) (hi : ∀ V, S' V → S V) : ∀ {fuel : Nat} {L : Array Bool} {a : Act} {w : World}, wpAnyH P md ops Q S' fuel L a w → wpAnyH P md ops Q S fuel L a w
  | 0, _, _, _, h => h
  | fuel + 1, _, _, _, h => ⟨h.1, fun i hj => wpOp_mono (fun a' w' h' => ⟨hi w' h'.1, h_str S' hi h'.2⟩) (h.2 i hj)⟩
theorem h_done (fuel : Nat) (hr : Region.ready md ops L = []) (h : Q .normal a w) : wpAnyH P md ops Q S fuel L a w := wpAnyH_done hr h fuel
theorem h_fr (a' : Act) (h : a = a') (k : wpAnyH P md ops Q S fuel L a' w) : wpAnyH P md ops Q S fuel L a w := h ▸ k
end
/-- everything that stood is as it was, but for one block -/
structure BelowBut (w : World) (b : Nat) (W : World) : Prop where
  os : W.os = w.os
  tape : W.tape = w.tape
  output : W.output = w.output
  size : w.heap.size ≤ W.heap.size
  block : ∀ k, k < w.heap.size → k ≠ b → W.heap[k]? = w.heap[k]?
theorem _root_.Go.RowKit.Below.but {w W : World} (h : Below w.heap.size w W) (b : Nat) : BelowBut w b W := ⟨h.os, h.tape, h.output, h.size, fun k hk _ => h.block k hk⟩
theorem BelowBut.upd {w W W' : World} {b : Nat} (h : BelowBut w b W) (u : Upd W b W') : BelowBut w b W' := ⟨u.os.trans h.os, u.tape.trans h.tape, u.output.trans h.output, by rw [u.size]; exact h.size, fun k hk hne => (u.block k hne).trans (h.block k hk hne)⟩
theorem BelowBut.next {w W W' : World} {b : Nat} (h : BelowBut w b W) (u : Below W.heap.size W W') : BelowBut w b W' := ⟨u.os.trans h.os, u.tape.trans h.tape, u.output.trans h.output, Nat.le_trans h.size u.size, fun k hk hne => (u.block k (Nat.lt_of_lt_of_le hk h.size)).trans (h.block k hk hne)⟩
theorem BelowBut.blk {w W : World} {b b' : Nat} {cs : List Value} {t : TypeId} (h : BelowBut w b W) (k : Blk w b' cs t) (hne : b' ≠ b) : Blk W b' cs t := (h.block b' k.lt hne).trans k
theorem BelowBut.own2 {w W : World} {b base : Nat} {e t : TypeId} {size : Nat} {v : Value} {n : Nat} {xs cs : List Value} (h : BelowBut w b W) (k : w.ownsRow base e size v n xs) (hk : Blk w b cs t) (hne : e ≠ t) : W.ownsRow base e size v n xs := by
  obtain ⟨h1, h2⟩ := k
  refine ⟨h1, ?_⟩
  rcases h2 with h2 | ⟨g, cap, cur, hv, hg, hh, r⟩
  · exact Or.inl h2
  · refine Or.inr ⟨g, cap, cur, hv, hg, ?_, r⟩
    rw [h.block g (Array.getElem?_eq_some_iff.1 hh).1]
    · exact hh
    · rintro rfl
      rw [show w.heap[g]? = _ from hk] at hh
      simp only [Option.some.injEq, Obj.cells.injEq] at hh
      exact hne hh.2.1.symm
theorem BelowBut.below {A w W : World} {b B : Nat} (h : BelowBut w b W) (hB : Below B A w) (hb : B ≤ b) (hs : B ≤ w.heap.size) : Below B A W := hB.trans ⟨h.os, h.tape, h.output, h.size, fun k hk => h.block k (by omega) (by omega)⟩
theorem g_round {P : Program} {Q : Exit → Act → World → Prop} {a : Act} {w : World} {c : Code} {n : Nat} (h : c.wp P (Exit.then (Code.rounds P c Q n) Q) a w) : Code.rounds P c Q (n + 1) a w := h
/-- a block of the call's own as a row of its own -/
theorem own_of_blk {w : World} {b base : Nat} {cs : List Value} {t : TypeId} {size n : Nat} (k : Blk w b cs t) (hb : base ≤ b) (hl : cs.length = n * size) (hn : n ≤ maxLen) : w.ownsRow base t size (.slice (some ⟨b, 0, none⟩) n n) n cs :=
  ⟨hl, .inr ⟨b, n, cs.toArray, rfl, hb, k, Nat.le_refl _, hn, by simpa using hl, by rw [← hl]; simp⟩⟩
/-- the ways through a piece of code meet again -/
theorem wp_meet {P : Program} {Q : Exit → Act → World → Prop} {a : Act} {w : World} {c : Code} (J : Act → World → Prop) (h : c.wp P (Exit.then J Q) a w) (k : ∀ a w, J a w → Q .normal a w) : c.wp P Q a w :=
  wp_mono h fun e a w hq => by cases e <;> first | exact k a w hq | exact hq
theorem g_ret {P : Program} {fn : Func} {R : Ending → World → Prop} {a : Act} {w : World} (v : Value) (hd : a.defers = []) (hr : (results fn a.tmps).run P w = .ok v w) (h : R (.returned v) w) : bodyPost P fn R .ret a w := ⟨hd, v, hr, h⟩
theorem g_end {P : Program} {fn : Func} {R : Ending → World → Prop} {a : Act} {w : World} (v : Value) (hd : a.defers = []) (hr : (results fn a.tmps).run P w = .ok v w) (h : R (.returned v) w) : bodyPost P fn R .normal a w := ⟨hd, v, hr, h⟩
theorem New.ge0 {b : Nat} {cs : List Value} {t : TypeId} {w W A : World} {B : Nat} (h : New w b cs t W) (k : Below B A w) : A.heap.size ≤ b := by have := k.size; have := h.at_; omega
theorem own_ne {w W : World} {base size n : Nat} {e : TypeId} {v : Value} {xs cs : List Value} {b : Nat} {t : TypeId} (k : w.ownsRow base e size v n xs) (h : New w b cs t W) : ∀ j, v.ownBlock = some j → j ≠ b := fun j hj => by have := (k.lt j hj).2; have := h.at_; omega
theorem Upd.own3 {w W : World} {b base : Nat} {e : TypeId} {size : Nat} {v : Value} {n : Nat} {xs : List Value} (h : Upd w b W) (k : w.ownsRow base e size v n xs) (hs : ∀ j, v.ownBlock = some j → j ≠ b) : W.ownsRow base e size v n xs := by
  obtain ⟨h1, h2⟩ := k
  refine ⟨h1, ?_⟩
  rcases h2 with h2 | ⟨g, cap, cur, rfl, hg, hh, r⟩
  · exact Or.inl h2
  · exact Or.inr ⟨g, cap, cur, rfl, hg, by rw [h.block g (hs g rfl)]; exact hh, r⟩
theorem Blk.grown3 {w w' : World} {b : Nat} {cs : List Value} {t : TypeId} {v : Value} (k : Blk w b cs t) (hg : w.grownBy w' v.ownBlock) (hs : ∀ j, v.ownBlock = some j → j ≠ b) : Blk w' b cs t := (hg.block b k.lt fun e => hs b e.symm rfl).trans k
theorem Only.upd_new {T : List TypeId} {a w W : World} {b : Nat} (h : Only T a w) (u : Upd w b W) (hb : a.heap.size ≤ b) : Only T a W := fun k cs t fr hk ht => by
  have := (Array.getElem?_eq_some_iff.1 hk).1
  rw [u.block k (by omega)]; exact h k cs t fr hk ht
theorem Only.grown_new {T : List TypeId} {a w W : World} {size n : Nat} {e : TypeId} {v : Value} {xs : List Value} (h : Only T a w) (hg : w.grownBy W v.ownBlock) (hown : w.ownsRow a.heap.size e size v n xs) : Only T a W := fun k cs t fr hk ht => by
  have h1 := (Array.getElem?_eq_some_iff.1 hk).1
  have h2 := h k cs t fr hk ht
  rw [hg.block k (Array.getElem?_eq_some_iff.1 h2).1 (fun e => by have := (hown.lt k e.symm).1; omega)]; exact h2
/-- values put, one behind the other -/
def putD (a : Act) : List (Nat × Value) → Act
  | [] => a
  | (d, v) :: r => putD ⟨a.tmps.setIfInBounds d v, a.defers⟩ r
theorem putB_same (is : List Nat) (d b : Bool) (h : d = b) {a : Act} (he : is.map (fun i => a.tmps[i]?) = is.map (fun _ => some (Value.bool d))) : putD a (is.map fun i => (i, Value.bool b)) = a := by
  subst h
  induction is with
  | nil => rfl
  | cons i r ih =>
    simp only [List.map_cons, List.cons.injEq] at he
    have e : a.tmps.setIfInBounds i (Value.bool d) = a.tmps := by
      apply Array.ext_getElem?
      intro j
      by_cases hj : i = j
      · subst hj
        obtain ⟨hlt, hv⟩ := Array.getElem?_eq_some_iff.1 he.1
        rw [Array.getElem?_setIfInBounds_self_of_lt hlt, he.1]
      · rw [Array.getElem?_setIfInBounds_ne hj]
    show putD ⟨a.tmps.setIfInBounds i (Value.bool d), a.defers⟩ (r.map fun i => (i, Value.bool d)) = a
    rw [e]
    exact ih he.2
theorem g_b {P : Program} {ops : Array Oper} {Q : Exit → Act → World → Prop} {a : Act} {w : World} {l : List Oper} (is : List Nat) (d b : Bool) (h : d = b) (he : is.map (fun i => a.tmps[i]?) = is.map (fun _ => some (Value.bool d))) (k : wpList P ops Q l (putD a (is.map fun i => (i, Value.bool b))) w) : wpList P ops Q l a w := putB_same is d b h he ▸ k
theorem h_b {P : Program} {ops : Array Oper} {Q : Exit → Act → World → Prop} {a : Act} {w : World} {S : World → Prop} {md : Region.Mode} {L : Array Bool} {fuel : Nat} (is : List Nat) (d b : Bool) (h : d = b) (he : is.map (fun i => a.tmps[i]?) = is.map (fun _ => some (Value.bool d))) (k : wpAnyH P md ops Q S fuel L (putD a (is.map fun i => (i, Value.bool b))) w) : wpAnyH P md ops Q S fuel L a w := putB_same is d b h he ▸ k
theorem g_pv {P : Program} {ops : Array Oper} {Q : Exit → Act → World → Prop} {a : Act} {w : World} {l : List Oper} (n : Nat) (ds : List (Nat × Value)) (h : pureGo P ops (l.take n) a = some (putD a ds)) (k : wpList P ops Q (l.drop n) (putD a ds) w) : wpList P ops Q l a w := g_pure n _ h k
theorem h_pv {P : Program} {ops : Array Oper} {Q : Exit → Act → World → Prop} {a : Act} {w : World} {S : World → Prop} {md : Region.Mode} {L : Array Bool} (is : List Nat) (fuel : Nat) {f0 : Nat} (hf : f0 = fuel + is.length) (L' : Array Bool) (ds : List (Nat × Value)) (hs : Region.noSelect ops = true) (hQ : ∀ c a (d : Tmp) v w, Q (.panic c) (a.put (some d) v) w → Q (.panic c) a w) (h : takeGo P md ops is L a = some (L', putD a ds)) (hS : S w)
    (k : wpAnyH P md ops Q S fuel L' (putD a ds) w) : wpAnyH P md ops Q S f0 L a w := h_pure is fuel hf L' _ hs hQ h hS k
/-- what stands at a place of a list -/
def pk : List Value → Nat → Value
  | [], _ => undef
  | x :: _, 0 => x
  | _ :: r, k + 1 => pk r k
/-- of what stood, only these blocks were written -/
structure Fr (S : List Nat) (w W : World) : Prop where
  size : w.heap.size ≤ W.heap.size
  block : ∀ k, k < w.heap.size → k ∉ S → W.heap[k]? = w.heap[k]?
theorem Fr.refl (S : List Nat) (w : World) : Fr S w w := ⟨Nat.le_refl _, fun _ _ _ => rfl⟩
theorem Fr.trans {S : List Nat} {a b c : World} (h : Fr S a b) (k : Fr S b c) : Fr S a c := ⟨Nat.le_trans h.size k.size, fun i hi hs => (k.block i (Nat.lt_of_lt_of_le hi h.size) hs).trans (h.block i hi hs)⟩
theorem Fr.mono {S T : List Nat} {a b : World} (h : Fr S a b) (hs : ∀ k ∈ S, k ∈ T) : Fr T a b := ⟨h.size, fun i hi ht => h.block i hi fun hi => ht (hs i hi)⟩
theorem Fr.of_below {S : List Nat} {w W : World} (h : Below w.heap.size w W) : Fr S w W := ⟨h.size, fun k hk _ => h.block k hk⟩
theorem Fr.of_upd {S : List Nat} {w W : World} {b : Nat} (h : Upd w b W) (hb : b ∈ S) : Fr S w W := ⟨Nat.le_of_eq h.size.symm, fun k _ hs => h.block k fun e => hs (e ▸ hb)⟩
theorem Fr.upd_new {S : List Nat} {a w W : World} {b : Nat} (h : Fr S a w) (u : Upd w b W) (hb : a.heap.size ≤ b) : Fr S a W := ⟨Nat.le_trans h.size (Nat.le_of_eq u.size.symm), fun k hk hs => (u.block k (by omega)).trans (h.block k hk hs)⟩
theorem Fr.grown_new {S : List Nat} {a w W : World} {size n : Nat} {e : TypeId} {v : Value} {xs : List Value} (h : Fr S a w) (hg : w.grownBy W v.ownBlock) (hown : w.ownsRow a.heap.size e size v n xs) : Fr S a W := ⟨Nat.le_trans h.size hg.size, fun k hk hs => (hg.block k (Nat.lt_of_lt_of_le hk h.size) (fun e => by have := (hown.lt k e.symm).1; omega)).trans (h.block k hk hs)⟩
theorem Fr.of_grown {S : List Nat} {w W : World} {g n cap : Nat} (hg : w.grownBy W (Value.slice (some ⟨g, 0, none⟩) n cap).ownBlock) (hb : g ∈ S) : Fr S w W := ⟨hg.size, fun k hk hs => hg.block k hk fun e => hs (by simp only [Value.ownBlock, Option.some.injEq] at e; exact e ▸ hb)⟩
theorem Fr.trans_new {S : List Nat} {a w W : World} {z : Nat} (h : Fr S a w) (k : Fr (S ++ [z]) w W) (hz : a.heap.size ≤ z) : Fr S a W := ⟨Nat.le_trans h.size k.size, fun i hi hs => (k.block i (Nat.lt_of_lt_of_le hi h.size) (fun hm => by rcases List.mem_append.1 hm with hm | hm; exact hs hm; have := List.mem_singleton.1 hm; omega)).trans (h.block i hi hs)⟩
theorem Blk.fr {S : List Nat} {w W : World} {b : Nat} {cs : List Value} {t : TypeId} (k : Blk w b cs t) (h : Fr S w W) (hb : b ∉ S) : Blk W b cs t := (h.block b k.lt hb).trans k
theorem own_fr {S : List Nat} {w W : World} {base size n : Nat} {e : TypeId} {v : Value} {xs : List Value} (k : w.ownsRow base e size v n xs) (h : Fr S w W) (hs : ∀ b, v.ownBlock = some b → b ∉ S) : W.ownsRow base e size v n xs := by
  obtain ⟨h1, h2⟩ := k
  refine ⟨h1, ?_⟩
  rcases h2 with h2 | ⟨g, cap, cur, rfl, hg, hh, r⟩
  · exact Or.inl h2
  · exact Or.inr ⟨g, cap, cur, rfl, hg, by rw [h.block g (Array.getElem?_eq_some_iff.1 hh).1 (hs g rfl)]; exact hh, r⟩
theorem below_drew (w : World) : Below w.heap.size w w.drew := (Below.refl _ _).drew
theorem then_exit {id : Nat} {K : Act → World → Prop} {Q : Exit → Act → World → Prop} {a : Act} {w : World} (h : Q (.exit id) a w) : Exit.then K Q (.exit id) a w := h
theorem then_ret {K : Act → World → Prop} {Q : Exit → Act → World → Prop} {a : Act} {w : World} (h : Q .ret a w) : Exit.then K Q .ret a w := h
theorem inBlock_ret {id : Nat} {Q : Exit → Act → World → Prop} {a : Act} {w : World} (h : Q .ret a w) : Exit.inBlock id Q .ret a w := h
theorem inBlock_pass {id id' : Nat} {Q : Exit → Act → World → Prop} {a : Act} {w : World} (hne : (id' = id) = False) (h : Q (.exit id') a w) : Exit.inBlock id Q (.exit id') a w := by simpa [Exit.inBlock, hne] using h
theorem inBlock_hit {id : Nat} {Q : Exit → Act → World → Prop} {a : Act} {w : World} (h : Q .normal a w) : Exit.inBlock id Q (.exit id) a w := by simpa [Exit.inBlock] using h
end Go.Proofs.Ytoiblgeheblddaa

